/- Rules and walks, part 2 of 6. No conditions. -/
import Derived.Sort.AssemblyPlain
import Derived.Test.YthccgklboafliaaDoorBlA
set_option linter.unusedVariables false
set_option linter.unusedSimpArgs false
set_option linter.unnecessarySimpa false
set_option linter.unusedSectionVars false
namespace Go.Ns
open Go.Conc
section
variable {P:Program} {E:Env P} {σ:Nat→Value} {ds:List Deferred} {h:GH} {T:(Nat→Value)→List Deferred→GH→Prop}
variable {dst:Option Nat} {ty:TypeId} {pos:String} {af:Array Edge} {gd:Option (Nat×Bool)}
def UponV (W:Wk P) (R:Value→GH→Prop):Next→GH→Prop
 | .enter f args,h=>CallK W f args h R
 | .round l f tmps a c,h=>RoundK W l f tmps a c h R
 | _,_=>False
def ValK (W:Wk P) (fv:Value) (args:Array Value) (h:GH) (R:Value→GH→Prop):Prop:=
 (do let d←Deferred.ofValue fv args;invoke d.target d.args:Sem Next).gh P h (UponV W R)
theorem RoundK.mono {W:Wk P} {l f:Nat} {tmps:Array Value} {a c:Code} {h:GH} {R R':Value→GH→Prop} (x:RoundK W l f tmps a c h R) (hr:∀v h',R v h'→R' v h'):RoundK W l f tmps a c h R':=
 fun fr cs hc=>x fr cs fun v h' r=>hc v h' (hr v h' r)
theorem ValK.mono {W:Wk P} {fv:Value} {args:Array Value} {h:GH} {R R':Value→GH→Prop} (x:ValK W fv args h R) (hr:∀v h',R v h'→R' v h'):ValK W fv args h R':=by
 refine gh_mono _ (fun nx h' y=>?_) h x;cases nx <;> first | exact y | exact CallK.mono y hr | exact RoundK.mono y hr
theorem ok_callVal {f:Operand} {args:Array Operand} {tys:Array TypeId} {fv:Value} {vs:Array Value} (hv:evalS σ f=fv) (ha:args.map (evalS σ)=vs) (x:ValK E.wk fv vs h fun v h'=>T (putS σ dst v) ds h') :
  OpK E ⟨dst,.call ⟨.value f,args,tys⟩,ty,pos,af,gd⟩ σ ds h T:=by
 unfold OpK execOp;simp only [];unfold resolve;simp only [hv,ha];refine gh_mono _ (fun nx h' y=>?_) h x;cases nx <;> first | exact y | exact y.elim
theorem ok_callVal1 {f x:Operand} {tys:Array TypeId} {fv v1:Value} (hv:evalS σ f=fv) (h1:evalS σ x=v1) (y:ValK E.wk fv #[v1] h fun v h'=>T (putS σ dst v) ds h') :
  OpK E ⟨dst,.call ⟨.value f,#[x],tys⟩,ty,pos,af,gd⟩ σ ds h T:=ok_callVal hv (by simp [h1]) y
theorem valK_func {W:Wk P} {g:FuncId} {fn:Func} {first cap args vs:Array Value} {R:Value→GH→Prop} (hf:P.funcs[g]? =some fn) (hc:callable fn=true) (ha:first++args++cap=vs) (x:CallK W g vs h R):ValK W (.func (.func g) first cap) args h R:=by
 subst ha;unfold ValK;simp only [Deferred.ofValue];refine gh_bind _ _ (gh_pure ?_);exact gh_callFunc hf hc x
theorem gh_getLoop {l:Nat} {p:Bool} {lo:Loop} {Q:Loop→GH→Prop} (hl:h l=some (p,.loop lo)) (q:Q lo h):(Instr.getLoop l).gh P h Q:=by
 unfold Instr.getLoop;exact gh_bind _ _ ⟨p,_,hl,rfl,rfl,q⟩
theorem valK_yield {W:Wk P} {l:Nat} {p:Bool} {lo:Loop} {args:Array Value} {R:Value→GH→Prop} (hl:h l=some (p,.loop lo)) (hn:args.size=lo.params.size)
  (x:RoundK W l lo.fn ((lo.params.zip args).foldl (fun tmps x=>tmps.setIfInBounds x.1 x.2) lo.tmps) lo.assign lo.body h R):ValK W (.func (.yield l) #[] #[]) args h R:=by
 unfold ValK;simp only [Deferred.ofValue];refine gh_bind _ _ (gh_pure ?_);unfold invoke;simp only [];unfold Instr.yield;refine gh_bind _ _ (gh_getLoop hl ?_);have e:#[]++args=args:=by simp
 rw [e,if_neg (by rw [hn];simp)];exact x
def Behind (Q:Post) (σ:Nat→Value) (ds:List Deferred) (l:Nat) (h:GH):Prop:=
 ∃lo,h l=some (true,.loop lo)∧(lo.state==.busy)=false∧match lo.pending with
  | none=>Q .normal σ ds (h.set l true (.loop { lo with state:=.exhausted }))
  | some (.exit id)=>Q (.exit id) σ ds (h.set l true (.loop { lo with state:=.exhausted }))
  | some .ret=>Q .ret σ ds (h.set l true (.loop { lo with state:=.exhausted }))
  | some _=>False
theorem seen_sub {f:FuncId} {es:Array Event}:∀e ∈ seen P f es,e ∈ es:=fun e he=>mem_seen he
theorem tr_rangeFunc {f:Operand} {params:Array Tmp} {assign body:Code} {Q:Post} (hrd:E.rd=none)
  (x:∀(t:Array Value) d l,SlotsAre t E.N σ→h d=none→h l=none→l≠d→
   ValK E.wk (evalS σ f) #[.func (.yield l) #[] #[]] ((h.set d true (.deferred (some []))).set l true (.loop { state:=.ready,pending:=none,fn:=E.fn,tmps:=t,params,assign,body,defers:=d }))
    fun _ h'=>Behind Q σ ({ target:=.collected d,args:=#[] } ::ds) l h'):Tr E (.rangeFunc f params assign body) σ ds h Q:=by
 intro b k cs L t hb hr hl hs hq;refine E.wk.closed _ _ rfl fun w fw=>?_;have e1:(Instr.enterLoop b.fn t params assign body b.roundOf).gh P h fun r h'=>∃d l,h d=none∧h l=none∧l≠d∧r=(l,[{ target:=.collected d,args:=#[] }])∧
   h'=(h.set d true (.deferred (some []))).set l true (.loop { state:=.ready,pending:=none,fn:=b.fn,tmps:=t,params,assign,body,defers:=d }):=by
  rw [hr,hrd];unfold Instr.enterLoop;refine gh_bind _ _ (fun d hd=>?_);refine gh_bind _ _ (gh_pure ?_);refine gh_bind _ _ (fun l hl'=>?_);have hne:l≠d:=fun e=>by subst e;rw [GH.set_same] at hl';cases hl'
  rw [GH.set_ne _ _ _ hne] at hl';exact ⟨d,l,hd,hl',hne,rfl,rfl⟩
 obtain ⟨r,w1,h1,es1,r1,r2,d,l,hd,hl',hne,rfl,rfl⟩:=gh_run fw e1;have y:=x t d l hs hd hl' hne;rw [←hb] at y;let mark:List Deferred:=[{ target:=.collected d,args:=#[] }];have hev:(fat b t (mark++ds) (.inRangeFunc l ::k)).eval=evalS σ:=funext fun o=>by rw [eval_fat hs]
 have y':(do let d←resolve (fat b t (mark++ds) (.inRangeFunc l ::k)).eval { callee:=.value f,args:=#[.const (.func (.yield l) #[] #[])],argTypes:=#[] } 0;invoke d.target d.args:Sem Next).gh P
   ((h.set d true (.deferred (some []))).set l true (.loop { state:=.ready,pending:=none,fn:=b.fn,tmps:=t,params,assign,body,defers:=d })) (UponV E.wk fun _ h'=>Behind Q σ ({ target:=.collected d,args:=#[] } ::ds) l h'):=by
  rw [hev];unfold resolve;simpa [evalS,ValK] using y
 obtain ⟨nx,w2,h2,es2,q1,q2,q3⟩:=gh_run r2.fits y';have hstep:stepG P E.wk.main (G (fat b t ds (.code (.rangeFunc f params assign body) ::k)) cs) w=
   GStep.after (seen P b.fn es1) (stepG.apply P true (fat b t (mark++ds) (.inRangeFunc l ::k)) cs none
    (do let d←resolve (fat b t (mark++ds) (.inRangeFunc l ::k)).eval { callee:=.value f,args:=#[.const (.func (.yield l) #[] #[])],argTypes:=#[] } 0;invoke d.target d.args) w1):=by
  rw [stepG_fat];unfold stepG.exec;simp only [fat,r1];rfl
 have sub2:∀q:Bool,∀e ∈ seen P b.fn (if q then #[] else es2),e ∈ es2:=fun q e he=>by
  have:=mem_seen he
  cases q with
  | true=>simp at this
  | false=>simpa using this
 have hok:∀q:Bool,StepOK h w (seen P b.fn es1++(seen P b.fn (if q then #[] else es2)++ #[])) h2 w2:=fun q=>
  (r2.trans q2).sub fun e he=>by
   rw [Array.append_empty,Array.mem_append] at he;rw [Array.mem_append];rcases he with he | he
   ·exact .inl (mem_seen he)
   ·exact .inr (sub2 q e he)
 have back:∀(v:Value) h',Behind Q σ ({ target:=.collected d,args:=#[] } ::ds) l h'→E.wk.K (G ((fat b t (mark++ds) (.inRangeFunc l ::k)).finish v) cs) h':=by
  rintro v h' ⟨lo,hlo,hst,z⟩;show E.wk.K (G (fat b t (mark++ds) (.endRangeFunc l ::k)) cs) h';refine E.wk.closed _ _ rfl fun w fw=>?_;have e2:(Instr.endLoop l).gh P h' fun jump h''=>jump=lo.pending∧h''=h'.set l true (.loop { lo with state:=.exhausted }):=by
   unfold Instr.endLoop;refine gh_bind _ _ (gh_getLoop hlo ?_);rw [hst];refine gh_bind _ _ ⟨_,hlo,rfl,rfl,rfl,?_⟩;exact ⟨rfl,rfl⟩
  obtain ⟨jump,w3,h3,es3,p1,p2,rfl,rfl⟩:=gh_run fw e2;refine ⟨G (fat b t (mark++ds) ((lo.pending.map Item.code).toList++k)) cs,w3,_,_,?_,p2.sub (es':=seen P b.fn es3++ #[]) fun e he=>?_,?_⟩
  ·rw [stepG_fat];unfold stepG.exec;simp only [fat,p1];rfl
  ·rw [Array.append_empty] at he;exact mem_seen he
  ·cases hp:lo.pending with
   | none=>
    rw [hp] at z;exact hq _ _ _ _ z t hs
   | some c=>
    rw [hp] at z;cases c with
    | ret=>
     have:=hq _ _ _ _ z t hs
     exact hl.ret t _ _ k this
    | exit id=>
     have:=hq _ _ _ _ z t hs
     show E.wk.K (G (fat b t (mark++ds) (.code (.exit id) ::k)) cs) _;cases hx:exitTo id k with
     | none=>simp only [After,hx] at this;exact hl.exit id t _ _ k hx this
     | some k'=>
      simp only [After,hx] at this;exact Wk.go (fat b t (mark++ds) k') (fun w=>by rw [stepG_fat];simp [stepG.exec,fat,G,hx]) this
    | _=>exact z.elim
 cases nx with
 | enter f' args=>
  refine ⟨_,w2,_,h2,?_,hok (b.kind==.early),q3 (fat b t (mark++ds) (.inRangeFunc l ::k)) cs back⟩;rw [hstep];simp only [stepG.apply,q1,if_true];rfl
 | round l' f' tmps a c=>
  refine ⟨_,w2,_,h2,?_,hok (b.kind==.early),q3 (fat b t (mark++ds) (.inRangeFunc l ::k)) cs back⟩;rw [hstep];simp only [stepG.apply,q1,if_true];rfl
 | _=>exact q3.elim
theorem round_of_tr {W:Wk P} {l:Nat} {f:FuncId} {tmps:Array Value} {N:Nat} {assign body:Code} {R:Value→GH→Prop} (hN:tmps.size=N)
  (x:Tr ⟨W,f,some l,N⟩ assign (fun i=>tmps.getD i undef) [] h fun e σ ds h'=>e=.normal∧∃lo,h' l=some (true,.loop lo)∧lo.state=.ready∧
   Tr ⟨W,f,some l,N⟩ body σ ds (h'.set l true (.loop { lo with state:=.busy })) fun e _ _ h''=>∃lo',h'' l=some (true,.loop lo')∧match e with
    | .normal=>R (.bool true) (h''.set l true (.loop { lo' with state:=.ready,pending:=none }))
    | .exit id=>R (.bool false) (h''.set l true (.loop { lo' with state:=.done,pending:=some (.exit id) }))
    | .ret=>R (.bool false) (h''.set l true (.loop { lo' with state:=.done,pending:=some .ret }))
    | _=>False):RoundK W l f tmps assign body h R:=by
 intro c cs hc;let b:Frame:=Frame.round l f tmps assign body .normal;show W.K (G (fat b tmps [] [.code assign,.beginRound,.code body]) (c ::cs)) h;have leave:∀(jump:Option Code) (v:Value) (t:Array Value) (ds:List Deferred) (k:List Item) (h'':GH) (lo':Loop),h'' l=some (true,.loop lo')→
   (∀w,stepG P W.main (G (fat b t ds k) (c ::cs)) w=GStep.after (seen P f ((Instr.endRound l jump).runT P w #[]).2) (match ((Instr.endRound l jump).runT P w #[]).1 with
    | .ok v w=>doReturn P W.main (fat b t ds k) (c ::cs) none v w
    | .halt _ w=>.ended (.stuck "range over a function: no such loop" ((fat b t ds k).pos P)) w))→v=.bool jump.isNone→
   R v (h''.set l true (.loop { lo' with state:=if jump.isNone then .ready else .done,pending:=jump }))→W.K (G (fat b t ds k) (c ::cs)) h'':=by
  rintro jump v t ds k h'' lo' hlo hstep rfl hR;refine W.closed _ _ rfl fun w fw=>?_;have e2:(Instr.endRound l jump).gh P h'' fun v h3=>v=.bool jump.isNone∧h3=h''.set l true (.loop { lo' with state:=if jump.isNone then .ready else .done,pending:=jump }):=by
   unfold Instr.endRound;refine gh_bind _ _ (gh_getLoop hlo ?_);refine gh_bind _ _ ⟨_,hlo,rfl,rfl,rfl,?_⟩;exact ⟨rfl,rfl⟩
  obtain ⟨v,w3,h3,es3,p1,p2,rfl,rfl⟩:=gh_run fw e2;refine ⟨G (c.finish (.bool jump.isNone)) cs,w3,_,_,?_,p2.sub (es':=seen P f es3++ #[]) fun e he=>?_,hc _ _ hR⟩
  ·rw [hstep,p1];rfl
  ·rw [Array.append_empty] at he;exact mem_seen he
 let L:Lv:=fun j t ds h''=>∃lo',h'' l=some (true,.loop lo')∧match j with
  | none=>R (.bool true) (h''.set l true (.loop { lo' with state:=.ready,pending:=none }))
  | some (.exit id)=>R (.bool false) (h''.set l true (.loop { lo' with state:=.done,pending:=some (.exit id) }))
  | some .ret=>R (.bool false) (h''.set l true (.loop { lo' with state:=.done,pending:=some .ret }))
  | some _=>False
 have hL:LeaveOK W b (c ::cs) L:=by
  refine ⟨?_,?_,?_⟩
  ·rintro t ds h'' ⟨lo',h1,h2⟩;exact leave none _ t ds [] h'' lo' h1 (fun w=>by rw [stepG_fat];rfl) rfl (by simpa using h2)
  ·rintro t ds h'' k ⟨lo',h1,h2⟩;exact leave (some .ret) _ t ds (.code .ret ::k) h'' lo' h1 (fun w=>by rw [stepG_fat];rfl) rfl (by simpa using h2)
  ·rintro id t ds h'' k hk ⟨lo',h1,h2⟩;exact leave (some (.exit id)) _ t ds (.code (.exit id) ::k) h'' lo' h1 (fun w=>by rw [stepG_fat];simp only [stepG.exec,fat,hk,Option.elim];rfl) rfl (by simpa using h2)
 refine x b [.beginRound,.code body] (c ::cs) L tmps rfl rfl hL ⟨hN,fun i=>rfl⟩ ?_;rintro e σ ds h' ⟨rfl,lo,h1,h2,h3⟩ t' ht';show W.K (G (fat b t' ds [.beginRound,.code body]) (c ::cs)) h';refine W.closed _ _ rfl fun w fw=>?_;have e3:(do (some l).elim (stuck "beginRound: no round") Instr.beginRound;pure Next.skip:Sem Next).gh P h' fun nx h''=>nx=.skip∧h''=h'.set l true (.loop { lo with state:=.busy }):=by
  show Sem.gh P (do Instr.beginRound l;pure Next.skip:Sem Next) h' _;unfold Instr.beginRound;refine gh_bind _ _ (gh_bind _ _ (gh_getLoop h1 ?_));refine gh_bind _ _ ⟨_,h1,rfl,rfl,rfl,?_⟩;rw [h2];exact ⟨rfl,rfl⟩
 obtain ⟨nx,w3,h4,es3,p1,p2,rfl,rfl⟩:=gh_run fw e3;refine ⟨G (fat b t' ds [.code body]) (c ::cs),w3,_,_,?_,p2.sub (es':=seen P f es3++ #[]) fun e he=>?_,?_⟩
 ·rw [stepG_fat];unfold stepG.exec;simp only [fat];unfold stepG.apply;have hb:b.roundOf=some l:=rfl;simp only [hb,p1,if_true];rfl
 ·rw [Array.append_empty] at he;exact mem_seen he
 ·refine h3 b [] (c ::cs) L t' rfl rfl hL ht' ?_;rintro e σ' ds' h'' ⟨lo',g1,g2⟩ t2 ht2;cases e with
  | normal=>
   exact hL.stop t2 ds' h'' ⟨lo',g1,g2⟩
  | exit id=>exact ⟨lo',g1,g2⟩
  | ret=>exact ⟨lo',g1,g2⟩
  | _=>exact g2.elim
end
end Go.Ns
namespace Go.Ns
open Go.Conc
section
variable {P:Program} {E:Env P} {σ:Nat→Value} {ds:List Deferred} {h:GH} {T:(Nat→Value)→List Deferred→GH→Prop}
variable {dst:Option Nat} {ty:TypeId} {pos:String} {af:Array Edge} {gd:Option (Nat×Bool)}
variable {α:Type}
def LawsOK (R:GH→GH→Prop):List Law→Prop
 | []=>True
 | φ ::l=>(∀v h h',R h h'→φ v h→φ v h')∧LawsOK R l
theorem LawsOK.mono {R:GH→GH→Prop}:∀{Φ:List Law},LawsOK R Φ→∀k v h h',R h h'→lawAt Φ k v h→lawAt Φ k v h'
 | [],_,k,v,h,h',_,x=>by cases k <;> exact x
 | φ ::l,ok,0,v,h,h',r,x=>ok.1 v h h' r x
 | φ ::l,ok,k+1,v,h,h',r,x=>LawsOK.mono ok.2 k v h h' r x
theorem tr_drawn {R:GH→GH→Prop} (rr:∀h,R h h) (rt:∀a b c,R a b→R b c→R a c) {id:Nat} {l:List Oper} {Q:Post} (n:Nat) (cls:List (List Nat)) (Φ:List Law)
  (hm:P.follows .mixedOrders=true) (ok:drawOK E.N l n cls=true) (mono:LawsOK R Φ) (x:DrAll R E l n Φ σ ds h Q n 0 l cls):Tr E (.region id l.toArray true) σ ds h Q:=
 tr_draw R n cls Φ hm ok rr rt mono.mono x
theorem tr_drawnLe {id:Nat} {l:List Oper} {Q:Post} (n:Nat) (cls:List (List Nat)) (Φ:List Law)
  (hm:P.follows .mixedOrders=true) (ok:drawOK E.N l n cls=true) (mono:LawsOK GH.Le Φ) (x:DrAll GH.Le E l n Φ σ ds h Q n 0 l cls):Tr E (.region id l.toArray true) σ ds h Q:=
 tr_drawn GH.Le.refl (fun _ _ _=>GH.Le.trans) n cls Φ hm ok mono x
theorem trL_opg {ops:Array Oper} {o:Oper} {l:List Oper} {Q:Post} {j d:Nat} {want:Bool} {oj:Oper} (hg:o.guard=some (j,want)) (hj:ops[j]? =some oj) (hjd:oj.dst=some d) (hv:σ d=.bool want) (hdj:Nat.blt d E.N=true)
  (hdf:E.rd=none∨isDefer o.op=false) (hd:dstOK o.dst E.N=true) (x:OpK E o σ ds h fun σ' ds' h'=>TrL E ops l σ' ds' h' Q):TrL E ops (o ::l) σ ds h Q:=trL_op_guard hg hj hjd hv hdj hdf hd x
theorem trL_skip_undef {ops:Array Oper} {o:Oper} {l:List Oper} {Q:Post} {j d:Nat} {want:Bool} {oj:Oper} (hg:o.guard=some (j,want)) (hj:ops[j]? =some oj) (hjd:oj.dst=some d) (hv:σ d=undef) (hdj:Nat.blt d E.N=true)
  (hd:dstOK o.dst E.N=true) (x:TrL E ops l (putS σ o.dst undef) ds h Q):TrL E ops (o ::l) σ ds h Q:=by
 intro i b k cs L t hi hb hr hl hs hc;have ho:ops[i]? =some o:=by simpa using (hi 0).symm
 have hy:yielded ops t j=none:=by
  have hlt:d<t.size:=by rw [hs.1];exact Nat.blt_eq▸hdj
  have h2:=hs.2 d;rw [hv] at h2;have h3:t[d]? =some undef:=by
   simp only [Array.getD_eq_getD_getElem?,Array.getElem?_eq_getElem hlt,Option.getD_some] at h2;rw [Array.getElem?_eq_getElem hlt,h2]
  simp [yielded,hj,hjd,h3,undef]
 refine Wk.go (fat b (putT t o.dst undef) ds (.inRegion ops (List.range' (i+1) l.length) ::k)) (fun w=>?_) ?_
 ·have hw':((ops[i]?).map (Region.wanted · (yielded ops t))).getD false=false:=by
   simp only [ho,Option.map_some,Option.getD_some,Region.wanted,hg,hy];cases want <;> rfl
  rw [←finish_fat ho (rest:=List.range' (i+1) l.length),List.length_cons,List.range'_succ,stepG_fat];unfold stepG.exec;simp only [fat,hw',Bool.false_eq_true,↓reduceIte];rfl
 ·exact x (i+1) b k cs L _ (fun j=>by have:=hi (j+1);simpa [Nat.add_assoc,Nat.add_comm 1 j] using this) hb hr hl (hs.putS hd undef) hc
theorem trL_case {ops:Array Oper} {l:List Oper} {Q:Post} {p:Prop} [Decidable p] (a:p→TrL E ops l σ ds h Q) (a':¬p→TrL E ops l σ ds h Q):TrL E ops l σ ds h Q:=if h:p then a h else a' h
theorem trL_caseb {ops:Array Oper} {l:List Oper} {Q:Post} {b:Bool} (a:b=true→TrL E ops l σ ds h Q) (a':b=false→TrL E ops l σ ds h Q):TrL E ops l σ ds h Q:=by
 cases b with
 | true=>exact a rfl
 | false=>exact a' rfl
theorem opK_case {o:Oper} {p:Prop} [Decidable p] (a:p→OpK E o σ ds h T) (a':¬p→OpK E o σ ds h T):OpK E o σ ds h T:=if h:p then a h else a' h
theorem opK_caseb {o:Oper} {b:Bool} (a:b=true→OpK E o σ ds h T) (a':b=false→OpK E o σ ds h T):OpK E o σ ds h T:=by
 cases b with
 | true=>exact a rfl
 | false=>exact a' rfl
theorem ok_makeFunc1 {f:Fn} {x1:Operand} {v1:Value} (h1:evalS σ x1=v1) (k:T (putS σ dst (.func f #[] #[v1])) ds h):OpK E ⟨dst,.makeFunc f #[] #[x1],ty,pos,af,gd⟩ σ ds h T:=ok_makeFunc (by simp [h1]) k
theorem ok_makeFunc2 {f:Fn} {x1 x2:Operand} {v1 v2:Value} (h1:evalS σ x1=v1) (h2:evalS σ x2=v2) (k:T (putS σ dst (.func f #[] #[v1,v2])) ds h):OpK E ⟨dst,.makeFunc f #[] #[x1,x2],ty,pos,af,gd⟩ σ ds h T:=ok_makeFunc (by simp [h1,h2]) k
theorem ok_makeFunc3 {f:Fn} {x1 x2 x3:Operand} {v1 v2 v3:Value} (h1:evalS σ x1=v1) (h2:evalS σ x2=v2) (h3:evalS σ x3=v3) (k:T (putS σ dst (.func f #[] #[v1,v2,v3])) ds h):OpK E ⟨dst,.makeFunc f #[] #[x1,x2,x3],ty,pos,af,gd⟩ σ ds h T:=ok_makeFunc (by simp [h1,h2,h3]) k
theorem ok_makeFunc4 {f:Fn} {x1 x2 x3 x4:Operand} {v1 v2 v3 v4:Value} (h1:evalS σ x1=v1) (h2:evalS σ x2=v2) (h3:evalS σ x3=v3) (h4:evalS σ x4=v4) (k:T (putS σ dst (.func f #[] #[v1,v2,v3,v4])) ds h):OpK E ⟨dst,.makeFunc f #[] #[x1,x2,x3,x4],ty,pos,af,gd⟩ σ ds h T:=ok_makeFunc (by simp [h1,h2,h3,h4]) k
theorem ok_makeFunc5 {f:Fn} {x1 x2 x3 x4 x5:Operand} {v1 v2 v3 v4 v5:Value} (h1:evalS σ x1=v1) (h2:evalS σ x2=v2) (h3:evalS σ x3=v3) (h4:evalS σ x4=v4) (h5:evalS σ x5=v5) (k:T (putS σ dst (.func f #[] #[v1,v2,v3,v4,v5])) ds h):OpK E ⟨dst,.makeFunc f #[] #[x1,x2,x3,x4,x5],ty,pos,af,gd⟩ σ ds h T:=ok_makeFunc (by simp [h1,h2,h3,h4,h5]) k
theorem bool_p {v:Value} {p:Prop} [Decidable p] (e:v=.bool (decide p)) (g:v=.bool true):p:=by
 rw [e] at g;simpa using g
theorem bool_np {v:Value} {p:Prop} [Decidable p] (e:v=.bool (decide p)) (g:v=.bool false):¬p:=by
 rw [e] at g;simpa using g
theorem bool_b {v:Value} {b c:Bool} (e:v=.bool b) (g:v=.bool c):b=c:=by
 rw [e] at g;simpa using g
theorem OwnSl.fresh {h0 h:GH} {v:Value} {t:TypeId} {n:Nat} {enc:α→Array Value} {xs:List α} (x:OwnSl h0 h v t n enc xs):∀b,back v=some b→h0 b=none:=by
 intro b hb;rcases x with ⟨rfl,_⟩ | ⟨b',cap,c,rfl,h1,_⟩
 ·cases hb
 ·simp [back] at hb;subst hb;exact h1
theorem OwnSl.inDom {h0 h:GH} {v:Value} {t:TypeId} {n:Nat} {enc:α→Array Value} {xs:List α} (x:OwnSl h0 h v t n enc xs):∀b,back v=some b→∃o,h b=some o:=by
 intro b hb;rcases x with ⟨rfl,_⟩ | ⟨b',cap,c,rfl,h1,h2,_⟩
 ·cases hb
 ·simp [back] at hb;subst hb;exact ⟨_,h2⟩
def Off (v:Value) (b:Nat):Prop:=back v≠some b
def Apart (v w:Value):Prop:=∀b,back v=some b→back w≠some b
theorem Apart.symm {v w:Value} (a:Apart v w):Apart w v:=fun b h h'=>a b h' h
theorem Off.nil {b:Nat}:Off (.slice none 0 0) b:=by intro h;cases h
theorem Apart.nil {w:Value}:Apart (.slice none 0 0) w:=by intro b h;cases h
theorem Apart.nil' {w:Value}:Apart w (.slice none 0 0):=by intro b _ h;cases h
theorem Off.old {h0 h:GH} {v:Value} {t:TypeId} {n:Nat} {enc:α→Array Value} {xs:List α} (x:OwnSl h0 h v t n enc xs) {b:Nat} {o:Bool×Obj} (hb:h0 b=some o):Off v b:=fun e=>by
 rw [x.fresh b e] at hb;cases hb
theorem Off.new {h0 h:GH} {v:Value} {t:TypeId} {n:Nat} {enc:α→Array Value} {xs:List α} (x:OwnSl h0 h v t n enc xs) {b:Nat} (hb:h b=none):Off v b:=fun e=>by
 obtain ⟨o,ho⟩:=x.inDom b e;rw [hb] at ho;cases ho
def Grown (h h':GH) (v v':Value):Prop:=(∀b o,h b=some o→back v≠some b→h' b=some o)∧(back v'=back v∨((∃r,back v'=some r∧h r=none)∧∀b o,h b=some o→h' b=some o))
theorem Off.grown {h h':GH} {v v':Value} (g:Grown h h' v v') {b:Nat} {o:Bool×Obj} (hb:h b=some o) (x:Off v b):Off v' b:=fun e=>by
 rcases g.2 with q | ⟨⟨r,q1,q2⟩,_⟩
 ·exact x (q▸e)
 ·rw [q1] at e;cases e;rw [q2] at hb;cases hb
theorem Apart.grown {h h' h0:GH} {v v' w:Value} (g:Grown h h' v v') {t:TypeId} {n:Nat} {enc:α→Array Value} {xs:List α} (y:OwnSl h0 h w t n enc xs) (x:Apart v w):Apart v' w:=fun b e e'=>by
 obtain ⟨o,ho⟩:=y.inDom b e';rcases g.2 with q | ⟨⟨r,q1,q2⟩,_⟩
 ·exact x b (q▸e) e'
 ·rw [q1] at e;cases e;rw [q2] at ho;cases ho
theorem OwnSl.grown {h h' h0:GH} {v v' w:Value} (g:Grown h h' v v') {t:TypeId} {n:Nat} {enc:α→Array Value} {xs:List α} (y:OwnSl h0 h w t n enc xs) (x:Apart v w):OwnSl h0 h' w t n enc xs:=
 y.keep fun b o hb ho=>g.1 b o ho fun e=>x b e hb
theorem GH.Le.grown {h1 h h':GH} {v v':Value} (g:Grown h h' v v') (l:h1.Le h) (f:∀b,back v=some b→h1 b=none):h1.Le h':=fun b p o hb=>by
 obtain ⟨o',h2,h3⟩:=l b p o hb;exact ⟨o',g.1 b _ h2 fun e=>(by rw [f b e] at hb;cases hb),h3⟩
theorem box_grown {h h':GH} {v v':Value} (g:Grown h h' v v') {b:Nat} {o:Bool×Obj} (hb:h b=some o) (x:Off v b):h' b=some o:=g.1 b o hb x
theorem OwnSl.stored {h0 h h':GH} {v:Value} {t:TypeId} {n:Nat} {enc:α→Array Value} {xs:List α} (y:OwnSl h0 h v t n enc xs) {r:Nat} (x:Off v r) (ho:∀b,b≠r→h' b=h b):OwnSl h0 h' v t n enc xs:=
 y.keep fun b o hb hb'=>by rw [ho b fun e=>by subst e;exact x hb];exact hb'
theorem ok_appendG {s x:TypeId} {o1 o2:Operand} {h0:GH} {v w:Value} {e n bytes:Nat} {enc:α→Array Value} {xs ys:List α} (ht:appOf P s x=some (e,n,bytes)) (h1:evalS σ o1=v) (h2:evalS σ o2=w)
  (hv:OwnSl h0 h v e n enc xs) (hw:SlIs h w n enc ys) (l0:∀r,h r=none→h0 r=none) (hb:(2*(xs.length+ys.length)+512)*bytes≤2 ^ 48) (hfine:∀y ∈ ys,(enc y).toList.all (·.oneCell')=true)
  (k:∀v' h',OwnSl h0 h' v' e n enc (xs++ys)→Grown h h' v v'→T (putS σ dst v') ds h') :
  OpK E ⟨dst,.call ⟨.builtin .append,#[o1,o2],#[s,x]⟩,ty,pos,af,gd⟩ σ ds h T:=
 ok_append ht h1 h2 hv hw l0 hb hfine fun v' h' a b c=>k v' h' a ⟨b,c⟩
theorem ok_indexS0 {h0:GH} {t:TypeId} {x ix:Operand} {n:Nat} {enc:α→Array Value} {xs:List α} {v:Value} {kd:IntKind} {i:Int} (ht:eszOf P t=some n) (hs:SlIs h0 v n enc xs) (hx:evalS σ x=v) (hi:evalS σ ix=.int kd i) (h0':0≤i) (h1:i<xs.length)
  (k:∀b off,Elem h0 b off n (enc (xs[i.toNat]'(by omega)))→T (putS σ dst (.pointer (some ⟨b,off,none⟩))) ds h):OpK E ⟨dst,.indexAddr t x ix,ty,pos,af,gd⟩ σ ds h T:=by
 obtain ⟨a,cap,rfl,_,_,he⟩:=hs;obtain ⟨b,off,rfl,hb⟩:=he i.toNat (by omega);exact ok_indexAddr ht hx hi h0' h1 (k b _ hb)
theorem OwnSl.built {h h':GH} {r:Nat} {t:TypeId} {n:Nat} {enc:α→Array Value} {xs:List α} {c:Array Value} {m:Nat} (hr:h r=none) (hb:h' r=some (true,.cells c t (0,0))) (hm:xs.length=m) (hml:Nat.ble m 16777216=true) (hn:∀x ∈ xs,(enc x).size=n) (hc:c.toList=flat enc xs) :
  OwnSl h h' (.slice (some ⟨r,0,none⟩) m m) t n enc xs:=by
 subst hm
 have:=Nat.le_of_ble_eq_true hml
 refine .inr ⟨r,_,c,rfl,hr,hb,?_,Nat.le_refl _,by omega,?_,hn⟩
 ·rw [←flat_length hn,←hc,Array.length_toList]
 ·rw [hc,←flat_length hn,List.take_length]
theorem ok_buildSlice' {t:TypeId} {len n:Nat} {z cells:Array Value} {e:TypeId} {parts:Array (Nat×Operand)} (hs:selemOf P t=some (n,z,e)) (hl:len*n≤2 ^ 24) (hn:(len*n=0)=False)
  (hf:Instr.fill (fun i=>some (i*n,n)) ((Array.range (len*n)).map (z[·%z.size]!)) (parts.map fun (i,x)=>(i,evalS σ x)).toList=some cells)
  (k:∀r h',h r=none→h.Le h'→h' r=some (true,.cells cells e (0,0))→(∀b,b≠r→h' b=h b)→T (putS σ dst (.slice (some ⟨r,0,none⟩) len len)) ds h'):OpK E ⟨dst,.buildSlice t len parts,ty,pos,af,gd⟩ σ ds h T:=
 ok_buildSlice hs hl hn hf fun r hr=>k r _ hr (GH.Le.new hr _ _) (GH.set_same _ _ _ _) fun b hb=>GH.set_ne _ _ _ hb
theorem ok_copy' {s x:TypeId} {o1 o2:Operand} {b off dl cap n:Nat} {e:TypeId} {enc:α→Array Value} {ys:List α} {w:Value} {c c':Array Value} (ht:eszOf P s=some n) (h1:evalS σ o1=.slice (some ⟨b,off,none⟩) dl cap) (h2:evalS σ o2=w)
  (hb:h b=some (true,.cells c e (0,0))) (hn:off+dl*n≤c.size) (hw:SlIs h w n enc ys) (hl:ys.length≤dl) (hfine:∀y ∈ ys,(enc y).toList.all (·.oneCell')=true) (hsz:∀y ∈ ys,(enc y).size=n) (hc:putCells c off (flat enc ys)=c')
  (k:∀h',h' b=some (true,.cells c' e (0,0))→(∀x,x≠b→h' x=h x)→T (putS σ dst (.int .i64 ys.length)) ds h') :
  OpK E ⟨dst,.call ⟨.builtin .copy,#[o1,o2],#[s,x]⟩,ty,pos,af,gd⟩ σ ds h T:=
 ok_copy ht h1 h2 hb hn hw hl hfine hsz (k _ (by rw [hc];exact GH.set_same _ _ _ _) fun x hx=>GH.set_ne _ _ _ hx)
theorem ok_buildSlice0 {t:TypeId} {n:Nat} {z:Array Value} {e:TypeId} (hs:selemOf P t=some (n,z,e)) (k:∀r h',h r=none→h.Le h'→h' r=some (true,.cells #[] e (0,0))→(∀b,b≠r→h' b=h b)→T (putS σ dst (.slice (some ⟨r,0,none⟩) 0 0)) ds h') :
  OpK E ⟨dst,.buildSlice t 0 #[],ty,pos,af,gd⟩ σ ds h T:=by
 unfold OpK execOp;refine gh_v ?_;unfold selemOf at hs;unfold Instr.buildSlice;cases hu:P.underlying t with
 | none=>rw [hu] at hs;cases hs
 | some d=>
  rw [hu] at hs;cases d <;> first | (cases hs;done) | skip
  rename_i e'
  simp only at hs;cases ht:tyOf P e' with
  | none=>rw [ht] at hs;cases hs
  | some x=>
   cases hz:zeroOf P e' with
   | none=>rw [ht,hz] at hs;cases hs
   | some z'=>
    rw [ht,hz] at hs;simp only [Option.some.injEq,Prod.mk.injEq] at hs;obtain ⟨rfl,rfl,rfl⟩:=hs;refine gh_bind _ _ (gh_underlying hu ?_);refine gh_bind _ _ (gh_sizeOf2 (by rw [ht];rfl) ?_);rw [Nat.zero_mul,if_neg (by decide)];dsimp only;rw [if_pos rfl];refine gh_bind _ _ (gh_pure ?_);have e0:Instr.fill (fun i=>some (i*x.snd,x.snd)) (Array.map (fun y=>(#[]:Array Value)[y%(#[]:Array Value).size]!) (Array.range 0)) (Array.map (fun y:Nat×Operand=>(y.fst,evalS σ y.snd)) #[]).toList=some #[]:=by
     simp [Instr.fill]
    rw [e0];dsimp only;refine gh_bind _ _ ?_;unfold newRow;refine gh_bind _ _ (fun r hr=>?_);exact k r _ hr (GH.Le.new hr _ _) (GH.set_same _ _ _ _) fun b hb=>GH.set_ne _ _ _ hb
end
end Go.Ns
namespace Go.Ns
def eI (i:Int):Array Value:=#[.int .i64 i]
def eB (i:Int):Array Value:=#[.int .u8 i]
def eH (i:Int):Array Value:=#[.int .u16 i]
structure Good where
 name:ByteArray
 cost:Int
 pack:Int
 low:Int
 high:Int
structure Move where
 kind:Int
 good:Int
 day:Int
 low:Int
 high:Int
structure Count where
 good:Int
 day:Int
 low:Int
 high:Int
def eGood (x:Good):Array Value:=#[.string x.name,.int .i64 x.cost,.int .i64 x.pack,.int .i64 x.low,.int .i64 x.high]
def eMove (x:Move):Array Value:=#[.int .i64 x.kind,.int .i64 x.good,.int .i64 x.day,.int .i64 x.low,.int .i64 x.high]
def eCount (x:Count):Array Value:=#[.int .i64 x.good,.int .i64 x.day,.int .i64 x.low,.int .i64 x.high]
structure Book where
 days:Int
 most:Int
 goods:List Good
 moves:List Move
 counts:List Count
structure Past where
 first:Nat→Int
 many:Nat→Int
 lies:Nat→Bool
def Past.zero:Past:=⟨fun _=>0,fun _=>0,fun _=>false⟩
def ePast (p:Past):Array Value:=#[.int .i64 (p.first 0),.int .i64 (p.first 1),.int .i64 (p.first 2),.int .i64 (p.many 0),.int .i64 (p.many 1),.int .i64 (p.many 2),.int .i64 (p.many 3),.int .i64 (p.many 4),.int .i64 (p.many 5),
 .bool (p.lies 0),.bool (p.lies 1),.bool (p.lies 2),.bool (p.lies 3),.bool (p.lies 4),.bool (p.lies 5)]
def Past.setFirst (p:Past) (i:Nat) (n:Int):Past:={ p with first:=fun k=>if k=i then n else p.first k }
def Past.setMany (p:Past) (i:Nat) (n:Int):Past:={ p with many:=fun k=>if k=i then n else p.many k }
def Past.setLie (p:Past) (i:Nat) (b:Bool):Past:={ p with lies:=fun k=>if k=i then b else p.lies k }
theorem ePast_first {p:Past} {i:Nat} (h:i<3):(ePast p)[i*1]? =some (.int .i64 (p.first i)):=by
 match i,h with
 | 0,_=>rfl
 | 1,_=>rfl
 | 2,_=>rfl
theorem ePast_many {p:Past} {i:Nat} (h:i<6):(ePast p)[3+i*1]? =some (.int .i64 (p.many i)):=by
 match i,h with
 | 0,_=>rfl
 | 1,_=>rfl
 | 2,_=>rfl
 | 3,_=>rfl
 | 4,_=>rfl
 | 5,_=>rfl
theorem ePast_lies {p:Past} {i:Nat} (h:i<6):(ePast p)[9+i*1]? =some (.bool (p.lies i)):=by
 match i,h with
 | 0,_=>rfl
 | 1,_=>rfl
 | 2,_=>rfl
 | 3,_=>rfl
 | 4,_=>rfl
 | 5,_=>rfl
theorem ePast_lies6 {p:Past} {i:Nat} (h:i<6):(if false=true then some (Value.agg ((#[.bool (p.lies 0),.bool (p.lies 1),.bool (p.lies 2),.bool (p.lies 3),.bool (p.lies 4),.bool (p.lies 5)]:Array Value).extract (i*1) (i*1+1))) else (#[.bool (p.lies 0),.bool (p.lies 1),.bool (p.lies 2),.bool (p.lies 3),.bool (p.lies 4),.bool (p.lies 5)]:Array Value)[i*1]?)=some (.bool (p.lies i)):=by
 match i,h with
 | 0,_=>rfl
 | 1,_=>rfl
 | 2,_=>rfl
 | 3,_=>rfl
 | 4,_=>rfl
 | 5,_=>rfl
theorem ePast_setFirst {p:Past} {i:Nat} {n:Int} (h:i<3):putCells (ePast p) (i*1) [.int .i64 n]=ePast (p.setFirst i n):=by
 match i,h with
 | 0,_=>rfl
 | 1,_=>rfl
 | 2,_=>rfl
theorem ePast_setFirst0 {p:Past} {i:Nat} {n:Int} (h:i<3):putCells (ePast p) (0+i*1) [.int .i64 n]=ePast (p.setFirst i n):=by rw [Nat.zero_add];exact ePast_setFirst h
theorem ePast_setMany {p:Past} {i:Nat} {n:Int} (h:i<6):putCells (ePast p) (3+i*1) [.int .i64 n]=ePast (p.setMany i n):=by
 match i,h with
 | 0,_=>rfl
 | 1,_=>rfl
 | 2,_=>rfl
 | 3,_=>rfl
 | 4,_=>rfl
 | 5,_=>rfl
theorem ePast_setLie {p:Past} {i:Nat} {b:Bool} (h:i<6):putCells (ePast p) (9+i*1) [.bool b]=ePast (p.setLie i b):=by
 match i,h with
 | 0,_=>rfl
 | 1,_=>rfl
 | 2,_=>rfl
 | 3,_=>rfl
 | 4,_=>rfl
 | 5,_=>rfl
theorem rd_past {P:Program} {h:GH} {t:TypeId} {b off n m o i:Nat} {vs:Array Value} {v:Value} (ht:tyOf P t=some (false,m)) (x:Elem h b off n vs) (hv:vs[o+i]? =some v):Rd P h t b (off+o+i) v:=by
 rw [Nat.add_assoc];exact rd_one ht x hv
theorem ePast_first0 {p:Past} {i:Nat} (h:i<3):(ePast p)[0+i*1]? =some (.int .i64 (p.first i)):=by rw [Nat.zero_add];exact ePast_first h
def lyingTo (p:Past):Nat→Nat
 | 0=>0
 | k+1=>lyingTo p k+if p.lies k then 1 else 0
theorem lyingTo_le (p:Past):∀k,lyingTo p k≤k
 | 0=>Nat.le_refl _
 | k+1=>by have:=lyingTo_le p k;unfold lyingTo;split <;> omega
def realOf (p:Past) (i:Nat):Int:=if p.lies i then 0 else p.many i
def Good.z:Good:=⟨⟨#[]⟩,0,0,0,0⟩
def Move.z:Move:=⟨0,0,0,0,0⟩
def Count.z:Count:=⟨0,0,0,0⟩
theorem getD_at {α:Type} {xs:List α} {i:Nat} (d:α) (hi:i<xs.length):xs.getD i d=xs[i]'hi:=by
 simp [List.getD_eq_getElem?_getD,List.getElem?_eq_getElem hi]
theorem Elem.getD {α:Type} {h:GH} {b off n:Nat} {enc:α→Array Value} {xs:List α} {i:Nat} {hi:i<xs.length} (d:α) (x:Elem h b off n (enc (xs[i]'hi))):Elem h b off n (enc (xs.getD i d)):=by
 rw [getD_at d hi];exact x
theorem take_getD {α:Type} {a:List α} {k:Nat} (d:α) (ha:k<a.length):a.take (k+1)=a.take k++[a.getD k d]:=by
 rw [List.take_succ_eq_append_getElem ha,getD_at d ha]
theorem take_eq_of {α:Type} {a b:List α} {k:Nat} (d:α) (h:a.take k=b.take k) (ha:k<a.length) (hb:k<b.length) (e:a.getD k d=b.getD k d):a.take (k+1)=b.take (k+1):=by
 rw [take_getD d ha,take_getD d hb,h,e]
theorem sameList_end {a b:List Int} {k:Nat} (h:a.take k=b.take k) (hk:k≤a.length) (hk':¬(k:Int)<a.length) (hl:(a.length:Int)=b.length):a=b:=by
 have h1:k=a.length:=by omega
 have h2:b.length=a.length:=by omega
 rw [h1,List.take_length,←h2,List.take_length] at h;exact h
theorem ne_len {α:Type} {a b:List α} (h:¬(a.length:Int)=b.length):¬a=b:=fun e=>h (by rw [e])
theorem ne_getD {α:Type} {a b:List α} {k:Nat} {d:α} (e:¬a.getD k d=b.getD k d):¬a=b:=fun h=>e (by rw [h])
theorem has_hit {a:List Int} {k:Nat} {n:Int} (hk:(k:Int)<a.length) (e:a.getD k 0=n):n ∈ a:=by
 have hk':k<a.length:=by omega
 rw [getD_at 0 hk'] at e;exact e▸List.getElem_mem hk'
theorem has_next {a:List Int} {k:Nat} {n:Int} (hk:(k:Int)<a.length) (h:¬n ∈ a.take k) (e:¬a.getD k 0=n):¬n ∈ a.take (k+1):=by
 rw [take_getD 0 (by omega)];simp only [List.mem_append,List.mem_singleton,not_or];exact ⟨h,fun q=>e q.symm⟩
theorem has_end {a:List Int} {k:Nat} {n:Int} (hk:¬(k:Int)<a.length) (h:¬n ∈ a.take k):¬n ∈ a:=by
 rwa [List.take_of_length_le (by omega)] at h
def isLetter (c:Int):Prop:=97≤c∧c≤122
def isDigit (c:Int):Prop:=48≤c∧c≤57
instance (c:Int):Decidable (isLetter c):=inferInstanceAs (Decidable (_∧_))
instance (c:Int):Decidable (isDigit c):=inferInstanceAs (Decidable (_∧_))
def headBell (d m:Int):Int:=if¬(1≤d∧d≤99)∨¬(0≤m∧m≤2) then 1 else 0
def idxOf {α:Type} (p:α→Bool):List α→Int
 | []=> -1
 | x ::l=>if p x then 0 else if idxOf p l<0 then-1 else idxOf p l+1
theorem idxOf_ge {α:Type} (p:α→Bool):∀l:List α,-1≤idxOf p l
 | []=>by simp [idxOf]
 | x ::l=>by have:=idxOf_ge p l;unfold idxOf;split <;> (try split) <;> omega
theorem idxOf_any {α:Type} (p:α→Bool):∀l:List α,(0≤idxOf p l)↔l.any p=true
 | []=>by simp [idxOf]
 | x ::l=>by
  have:=idxOf_any p l
  have h2:=idxOf_ge p l;unfold idxOf;cases hp:p x with
  | true=>simp [hp]
  | false=>
   simp only [Bool.false_eq_true,if_false,List.any_cons,hp,Bool.false_or];rw [←this];split <;> omega
theorem idxOf_hit {α:Type} {p:α→Bool} {l:List α} {k:Nat} {d:α} (hk:(k:Int)<l.length) (h:(l.take k).any p=false) (e:p (l.getD k d)=true):idxOf p l=k:=by
 induction l generalizing k with
 | nil=>simp at hk;omega
 | cons x l ih=>
  unfold idxOf;cases k with
  | zero=>simp at e;simp [e]
  | succ k=>
   simp only [List.take_succ_cons,List.any_cons,Bool.or_eq_false_iff] at h;rw [h.1]
   have:=ih (k:=k) (by simp at hk;omega) h.2 (by simpa using e)
   rw [this];simp only [Bool.false_eq_true,if_false];rw [if_neg (by omega)];omega
theorem idxOf_miss {α:Type} {p:α→Bool} {l:List α} {k:Nat} (hk:¬(k:Int)<l.length) (h:(l.take k).any p=false):idxOf p l= -1:=by
 rw [List.take_of_length_le (by omega)] at h
 have:=idxOf_any p l
 have h2:=idxOf_ge p l;rw [h] at this;simp at this;omega
theorem any_next {α:Type} {p:α→Bool} {l:List α} {k:Nat} {d:α} (hk:(k:Int)<l.length) (h:(l.take k).any p=false) (e:p (l.getD k d)=false):(l.take (k+1)).any p=false:=by
 rw [take_getD d (by omega),List.any_append,h];simp only [Bool.false_or,List.any_cons,List.any_nil,Bool.or_false,e]
theorem getD_mem {α:Type} {l:List α} {k:Nat} {d:α} (hk:k<l.length):l.getD k d ∈ l:=by
 rw [getD_at d hk];exact List.getElem_mem hk
def numsBell (l:List Int) (m:Int):Int:=if¬(l.length:Int)=m then 2 else if l.any (fun x=>decide (¬(0≤x∧x≤99))) then 1 else 0
def firstB (f:Nat→Int):Nat→Nat→Int
 | _,0=>0
 | i,n+1=>if f i=0 then firstB f (i+1) n else f i
theorem firstB_hit {f:Nat→Int} {c:Int}:∀{n i k:Nat},(∀j,i≤j→j<i+k→f j=0)→k<n→f (i+k)=c→c≠0→firstB f i n=c
 | 0,i,k,_,hk,_,_=>by omega
 | n+1,i,0,_,_,e,hc=>by unfold firstB;rw [Nat.add_zero] at e;rw [e,if_neg hc]
 | n+1,i,k+1,h,hk,e,hc=>by
  unfold firstB;rw [if_pos (h i (Nat.le_refl _) (by omega))];exact firstB_hit (k:=k) (fun j h1 h2=>h j (by omega) (by omega)) (by omega) (by rw [←e];congr 1;omega) hc
theorem firstB_miss {f:Nat→Int}:∀{n i:Nat},(∀j,i≤j→j<i+n→f j=0)→firstB f i n=0
 | 0,_,_=>rfl
 | n+1,i,h=>by
  unfold firstB;rw [if_pos (h i (Nat.le_refl _) (by omega))];exact firstB_miss fun j h1 h2=>h j (by omega) (by omega)
theorem allB_next {f:Nat→Int} {k:Nat} (h:∀j,j<k→f j=0) (e:f k=0):∀j,j<k+1→f j=0:=fun j hj=>by
 rcases Nat.lt_or_ge j k with q | q
 ·exact h j q
 ·rw [show j=k by omega];exact e
theorem firstB_hit0 {f:Nat→Int} {c:Int} {n k:Nat} (h:∀j,j<k→f j=0) (hk:k<n) (e:f k=c) (hc:c≠0):firstB f 0 n=c:=
 firstB_hit (i:=0) (k:=k) (fun j _ hj=>h j (by omega)) hk (by rw [Nat.zero_add];exact e) hc
theorem firstB_miss0 {f:Nat→Int} {n k:Nat} (h:∀j,j<k→f j=0) (hk:n≤k):firstB f 0 n=0:=firstB_miss fun j _ hj=>h j (by omega)
def nameAt (s:ByteArray) (k:Nat):Int:=if¬isLetter ((bytesOf s).getD k 0)∧(k=0∨¬isDigit ((bytesOf s).getD k 0)) then 1 else 0
def nameOK (s:ByteArray):Bool:=decide (firstB (nameAt s) 0 s.size=0) && decide (1≤(s.size:Int)∧(s.size:Int)≤10)
def isFew (l h:Int):Prop:=((0≤l∧l≤h)∧h≤99)∧h-l<3
instance (l h:Int):Decidable (isFew l h):=inferInstanceAs (Decidable (_∧_))
def goodAt (gs:List Good) (k:Nat):Int:=
 if nameOK (gs.getD k Good.z).name=false then 4
 else if (gs.take k).any (fun x=>x.name.toList==(gs.getD k Good.z).name.toList) then 5
 else if (¬(0≤(gs.getD k Good.z).cost∧(gs.getD k Good.z).cost≤999)∨¬(1≤(gs.getD k Good.z).pack∧(gs.getD k Good.z).pack≤20))∨¬isFew (gs.getD k Good.z).low (gs.getD k Good.z).high then 1 else 0
def goodsBell (gs:List Good):Int:=if¬(1≤(gs.length:Int)∧(gs.length:Int)≤3) then 2 else firstB (goodAt gs) 0 gs.length
def lastDay (ms:List Move) (k:Nat):Int:=if k=0 then 0 else (ms.getD (k-1) Move.z).day
def moveAt (d:Int) (gs:List Good) (ms:List Move) (k:Nat):Int:=
 if¬(0≤(ms.getD k Move.z).kind∧(ms.getD k Move.z).kind≤4) then 1
 else if¬(0≤(ms.getD k Move.z).good∧(ms.getD k Move.z).good≤(gs.length:Int)-1) then 6
 else if¬(1≤(ms.getD k Move.z).day∧(ms.getD k Move.z).day≤d) then 1
 else if (ms.getD k Move.z).day<lastDay ms k then 7
 else if¬isFew (ms.getD k Move.z).low (ms.getD k Move.z).high then 1 else 0
def movesBell (d:Int) (gs:List Good) (ms:List Move):Int:=if (6:Int)<ms.length then 2 else firstB (moveAt d gs ms) 0 ms.length
def countAt (d:Int) (gs:List Good) (cs:List Count) (k:Nat):Int:=
 if¬(0≤(cs.getD k Count.z).good∧(cs.getD k Count.z).good≤(gs.length:Int)-1) then 6
 else if¬(0≤(cs.getD k Count.z).day∧(cs.getD k Count.z).day≤d)∨¬((0≤(cs.getD k Count.z).low∧(cs.getD k Count.z).low≤(cs.getD k Count.z).high)∧(cs.getD k Count.z).high≤999) then 1 else 0
def countsBell (d:Int) (gs:List Good) (cs:List Count):Int:=if (4:Int)<cs.length then 2 else firstB (countAt d gs cs) 0 cs.length
theorem bytesOf_range (s:ByteArray) (k:Nat):0≤(bytesOf s).getD k 0∧(bytesOf s).getD k 0≤255:=by
 by_cases h:k<(bytesOf s).length
 ·rw [getD_at 0 h];have h2:k<s.data.toList.length:=by rw [bytesOf_length] at h;rw [Array.length_toList];exact h
  have e:(bytesOf s)[k]'h=((s.data.toList[k]'h2).toNat:Int):=List.getElem_map _;rw [e]
  have:=(s.data.toList[k]'h2).toNat_lt
  omega
 ·simp only [List.getD_eq_getElem?_getD];rw [List.getElem?_eq_none (by omega)];decide
theorem nameOK_bad {s:ByteArray} {k:Nat} (h:∀j,j<k→nameAt s j=0) (hk:k<s.size) (e:nameAt s k=1):nameOK s=false:=by
 unfold nameOK;rw [firstB_hit0 h hk e (by decide)];simp
theorem nameOK_end {s:ByteArray} {k:Nat} (h:∀j,j<k→nameAt s j=0) (hk:s.size≤k):nameOK s=decide (1≤(s.size:Int)∧(s.size:Int)≤10):=by
 unfold nameOK;rw [firstB_miss0 h hk];simp
theorem rd_at0 {P:Program} {h:GH} {t:TypeId} {b n m o:Nat} {vs:Array Value} {v:Value} (ht:tyOf P t=some (false,m)) (x:Elem h b 0 n vs) (hv:vs[o]? =some v):Rd P h t b o v:=by
 have:=rd_one (o:=o) ht x hv
 rwa [Nat.zero_add] at this
def checkBell (d m:Int) (gs:List Good) (ms:List Move) (cs:List Count):Nat→Int
 | 0=>headBell d m
 | 1=>goodsBell gs
 | 2=>movesBell d gs ms
 | _=>countsBell d gs cs
def bookBell (d m:Int) (gs:List Good) (ms:List Move) (cs:List Count):Int:=firstB (checkBell d m gs ms cs) 0 4
def signed (k:Nat) (n:Int):Int:=if k=0∨k=4 then n else-n
theorem signed_range {k:Nat} {n:Int} (h:0≤n∧n≤99): -99≤signed k n∧signed k n≤99:=by unfold signed;split <;> omega
def PastOK (p:Past):Prop:=(∀i,0≤p.first i∧p.first i≤99)∧∀i,0≤p.many i∧p.many i≤99
theorem realOf_range {p:Past} (h:PastOK p) (i:Nat):0≤realOf p i∧realOf p i≤99:=by
 unfold realOf;have:=h.2 i;split <;> omega
def nNext (ms:List Move) (p:Past) (g:Int) (k:Nat) (n:Int):Int:=if (ms.getD k Move.z).good=g then n+signed (ms.getD k Move.z).kind.toNat (realOf p k) else n
def lowNext (ms:List Move) (k:Nat) (low n:Int):Int:=if (k:Int)+1=ms.length∨(ms.getD k Move.z).day<(ms.getD (k+1) Move.z).day then min low n else low
def stockRun (ms:List Move) (p:Past) (g dy:Int):Nat→Nat→Int→Int→Int×Int
 | 0,_,n,low=>(n,low)
 | f+1,k,n,low=>if dy<(ms.getD k Move.z).day then (n,low) else stockRun ms p g dy f (k+1) (nNext ms p g k n) (lowNext ms k low (nNext ms p g k n))
def stockOf (ms:List Move) (p:Past) (g dy:Int):Int×Int:=stockRun ms p g dy ms.length 0 (p.first g.toNat) (p.first g.toNat)
theorem stockRun_next {ms:List Move} {p:Past} {g dy:Int} {k:Nat} {n low:Int} (hk:k<ms.length) (hd:¬dy<(ms.getD k Move.z).day) :
  stockRun ms p g dy (ms.length-k) k n low=stockRun ms p g dy (ms.length-(k+1)) (k+1) (nNext ms p g k n) (lowNext ms k low (nNext ms p g k n)):=by
 rw [show ms.length-k=(ms.length-(k+1))+1 by omega]
 conv=>lhs;unfold stockRun
 rw [if_neg hd]
theorem stockRun_stop {ms:List Move} {p:Past} {g dy:Int} {k:Nat} {n low:Int} (hk:k<ms.length) (hd:dy<(ms.getD k Move.z).day):stockRun ms p g dy (ms.length-k) k n low=(n,low):=by
 rw [show ms.length-k=(ms.length-(k+1))+1 by omega]
 conv=>lhs;unfold stockRun
 rw [if_pos hd]
theorem stockRun_end {ms:List Move} {p:Past} {g dy:Int} {k:Nat} {n low:Int} (hk:¬(k:Int)<ms.length):stockRun ms p g dy (ms.length-k) k n low=(n,low):=by
 rw [show ms.length-k=0 by omega];rfl
def agreesB (d:Int) (ng:Nat) (ms:List Move) (cs:List Count) (p:Past):Bool:=
 decide (∀j,j<ng→¬(stockOf ms p (j:Int) d).2<0) && !(cs.any fun x=>decide (¬(x.low≤(stockOf ms p x.good x.day).1∧(stockOf ms p x.good x.day).1≤x.high)))
theorem agreesB_no {d:Int} {ng:Nat} {ms:List Move} {cs:List Count} {p:Past} {k:Nat} (hk:k<ng) (h:(stockOf ms p (k:Int) d).2<0):agreesB d ng ms cs p=false:=by
 unfold agreesB;rw [decide_eq_false (fun q=>q k hk h)];rfl
theorem agreesB_end {d:Int} {ng:Nat} {ms:List Move} {cs:List Count} {p:Past} {k:Nat} (hk:ng≤k) (h:∀j,j<k→¬(stockOf ms p (j:Int) d).2<0) :
  agreesB d ng ms cs p= !(cs.any fun x=>decide (¬(x.low≤(stockOf ms p x.good x.day).1∧(stockOf ms p x.good x.day).1≤x.high))):=by
 unfold agreesB;rw [decide_eq_true (fun j hj=>h j (by omega))];rfl
theorem allP_next {q:Nat→Prop} {k:Nat} (h:∀j,j<k→q j) (e:q k):∀j,j<k+1→q j:=fun j hj=>by
 rcases Nat.lt_or_ge j k with r | r
 ·exact h j r
 ·rw [show j=k by omega];exact e
def Past.setFirsts (p:Past) (l:List Int):Past:={ p with first:=fun k=>if k<l.length then l.getD k 0 else p.first k }
def Past.setManys (p:Past) (l:List Int):Past:={ p with many:=fun k=>if k<l.length then l.getD k 0 else p.many k }
theorem ePast_setFirsts {p:Past} {l:List Int} (h:l.length≤3):putCells (ePast p) 0 (flat eI l)=ePast (p.setFirsts l):=by
 match l,h with
 | [],_=>rfl
 | [_],_=>rfl
 | [_,_],_=>rfl
 | [_,_,_],_=>rfl
 | _ ::_ ::_ ::_ ::_,h=>simp at h
theorem ePast_setManys {p:Past} {l:List Int} (h:l.length≤6):putCells (ePast p) 3 (flat eI l)=ePast (p.setManys l):=by
 match l,h with
 | [],_=>rfl
 | [_],_=>rfl
 | [_,_],_=>rfl
 | [_,_,_],_=>rfl
 | [_,_,_,_],_=>rfl
 | [_,_,_,_,_],_=>rfl
 | [_,_,_,_,_,_],_=>rfl
 | _ ::_ ::_ ::_ ::_ ::_ ::_ ::_,h=>simp at h
end Go.Ns
namespace Go.Ns
open Go.Conc
def spanTo (lo:Int) (k:Nat):List Int:=(List.range k).map fun (j:Nat)=>lo+(j:Int)
def spanL (lo hi:Int):List Int:=spanTo lo (hi-lo+1).toNat
theorem spanTo_succ (lo:Int) (k:Nat):spanTo lo (k+1)=spanTo lo k++[lo+(k:Int)]:=by
 simp [spanTo,List.range_succ]
theorem mem_spanTo {lo n:Int} {k:Nat}:n ∈ spanTo lo k↔lo≤n∧n<lo+k:=by
 simp only [spanTo,List.mem_map,List.mem_range];constructor
 ·rintro ⟨j,hj,rfl⟩;omega
 ·rintro ⟨h1,h2⟩;exact ⟨(n-lo).toNat,by omega,by omega⟩
theorem mem_spanL {lo hi n:Int}:n ∈ spanL lo hi↔lo≤n∧n≤hi:=by
 unfold spanL;rw [mem_spanTo];omega
theorem spanL_flat {β:Type} {f:Int→List β} {lo hi:Int} {k:Nat} (h:¬lo+(k:Int)≤hi) (hk:(k:Int)≤hi-lo+1∨k=0):(spanTo lo k).flatMap f=(spanL lo hi).flatMap f:=by
 unfold spanL;congr 2;omega
theorem spanTo_flat {β:Type} {f:Int→List β} {lo:Int} {k:Nat}:(spanTo lo (k+1)).flatMap f=(spanTo lo k).flatMap f++f (lo+k):=by
 rw [spanTo_succ,List.flatMap_append];simp
def Past.setMove (p:Past) (i:Nat) (n:Int) (b:Bool):Past:=(p.setMany i n).setLie i b
theorem setMove_setMove (p:Past) (i:Nat) (n n':Int) (b b':Bool):(p.setMove i n b).setMove i n' b'=p.setMove i n' b':=by
 unfold Past.setMove Past.setMany Past.setLie;congr 1 <;> funext k <;> simp only [] <;> split <;> rfl
theorem setMove_setLie (p:Past) (i:Nat) (n:Int) (b b':Bool):(p.setMove i n b).setLie i b'=p.setMove i n b':=by
 unfold Past.setMove Past.setMany Past.setLie;congr 1;funext k;simp only [];split <;> rfl
theorem setFirst_setFirst (p:Past) (i:Nat) (n n':Int):(p.setFirst i n).setFirst i n'=p.setFirst i n':=by
 unfold Past.setFirst;congr 1;funext k;simp only [];split <;> rfl
theorem PastOK.zero:PastOK Past.zero:=⟨fun _=>⟨Int.le_refl 0,(by decide:(0:Int)≤99)⟩,fun _=>⟨Int.le_refl 0,(by decide:(0:Int)≤99)⟩⟩
theorem PastOK.setFirst {p:Past} (h:PastOK p) {i:Nat} {n:Int} (hn:0≤n∧n≤99):PastOK (p.setFirst i n):=
 ⟨fun k=>by unfold Past.setFirst;simp only [];split;exact hn;exact h.1 k,h.2⟩
theorem PastOK.setMany {p:Past} (h:PastOK p) {i:Nat} {n:Int} (hn:0≤n∧n≤99):PastOK (p.setMany i n):=
 ⟨h.1,fun k=>by unfold Past.setMany;simp only [];split;exact hn;exact h.2 k⟩
theorem PastOK.setLie {p:Past} (h:PastOK p) {i:Nat} {b:Bool}:PastOK (p.setLie i b):=h
theorem PastOK.setMove {p:Past} (h:PastOK p) {i:Nat} {n:Int} {b:Bool} (hn:0≤n∧n≤99):PastOK (p.setMove i n b):=h.setMany hn
def isNoteB (ms:List Move) (i:Int):Bool:=decide ((0≤i∧i≤(ms.length:Int)-1)∧(ms.getD i.toNat Move.z).kind=0)
def movesFrom (ag:Past→Bool) (ms:List Move) (most:Int):Nat→Nat→Past→List Past
 | 0,_,p=>if ag p then [p] else []
 | f+1,i,p=>(spanL (ms.getD i Move.z).low (ms.getD i Move.z).high).flatMap fun n=>
   movesFrom ag ms most f (i+1) (p.setMove i n false)++
    if isNoteB ms i && decide ((lyingTo (p.setMove i n false) 6:Int)<most) then movesFrom ag ms most f (i+1) (p.setMove i n true) else []
def goodsFrom (ag:Past→Bool) (gs:List Good) (ms:List Move) (most:Int):Nat→Nat→Past→List Past
 | 0,_,p=>movesFrom ag ms most ms.length 0 p
 | f+1,i,p=>(spanL (gs.getD i Good.z).low (gs.getD i Good.z).high).flatMap fun n=>goodsFrom ag gs ms most f (i+1) (p.setFirst i n)
def hists (d:Int) (gs:List Good) (ms:List Move) (cs:List Count) (most:Int):List Past:=goodsFrom (agreesB d gs.length ms cs) gs ms most gs.length 0 Past.zero
def moveRound (ag:Past→Bool) (ms:List Move) (most:Int) (f i:Nat) (p:Past) (n:Int):List Past:=
 movesFrom ag ms most f (i+1) (p.setMove i n false)++
  if isNoteB ms i && decide ((lyingTo (p.setMove i n false) 6:Int)<most) then movesFrom ag ms most f (i+1) (p.setMove i n true) else []
theorem movesFrom_succ (ag:Past→Bool) (ms:List Move) (most:Int) (f i:Nat) (p:Past) :
  movesFrom ag ms most (f+1) i p=(spanL (ms.getD i Move.z).low (ms.getD i Move.z).high).flatMap (moveRound ag ms most f i p):=rfl
theorem goodsFrom_succ (ag:Past→Bool) (gs:List Good) (ms:List Move) (most:Int) (f i:Nat) (p:Past) :
  goodsFrom ag gs ms most (f+1) i p=(spanL (gs.getD i Good.z).low (gs.getD i Good.z).high).flatMap (fun n=>goodsFrom ag gs ms most f (i+1) (p.setFirst i n)):=rfl
def KeepX (X:Nat→Prop) (h h':GH):Prop:=∀b p o,h b=some (p,o)→¬X b→∃o',h' b=some (p,o')∧(o'=o∨(isMapO o=true∧isMapO o'=true))
theorem KeepX.refl (X:Nat→Prop) (h:GH):KeepX X h h:=fun _ _ o x _=>⟨o,x,.inl rfl⟩
theorem GH.Le.keepX {h h':GH} (l:h.Le h') (X:Nat→Prop):KeepX X h h':=fun b p o x _=>l b p o x
theorem KeepX.trans {X X1:Nat→Prop} {a b c:GH} (x:KeepX X a b) (hX:∀r,X1 r→X r∨a r=none) (y:KeepX X1 b c):KeepX X a c:=fun r p o hr hn=>by
 obtain ⟨o1,h1,h2⟩:=x r p o hr hn;obtain ⟨o2,h3,h4⟩:=y r p o1 h1 fun q=>(hX r q).elim hn fun e=>by rw [e] at hr;cases hr
 refine ⟨o2,h3,?_⟩;rcases h2 with rfl | h2
 ·exact h4
 ·rcases h4 with rfl | h4
  ·exact .inr h2
  ·exact .inr ⟨h2.1,h4.2⟩
theorem KeepX.box {X:Nat→Prop} {h h':GH} (x:KeepX X h h') {b:Nat} {p:Bool} {o:Obj} (hb:h b=some (p,o)) (hX:¬X b) (ho:isMapO o=false):h' b=some (p,o):=by
 obtain ⟨o',h1,rfl | ⟨h2,_⟩⟩:=x b p o hb hX
 ·exact h1
 ·rw [ho] at h2;cases h2
theorem KeepX.store {X:Nat→Prop} {h h1 h2:GH} (x:KeepX X h h1) {r:Nat} (hr:h r=none) (ho:∀b,b≠r→h2 b=h1 b):KeepX X h h2:=fun b p o hb hn=>by
 rw [ho b fun e=>by subst e;rw [hr] at hb;cases hb];exact x b p o hb hn
structure Prom {α:Type} (hB:GH) (I:List α→(Nat→Prop)→GH→Prop):Prop where
 dom:∀pre X h b,I pre X h→X b→∃p o,h b=some (p,o)∧isMapO o=false
 stable:∀pre X h h',I pre X h→(∀b,X b→h' b=h b)→hB.Le h'→I pre X h'
theorem Prom.le {α:Type} {hB:GH} {I:List α→(Nat→Prop)→GH→Prop} (P:Prom hB I) {pre:List α} {X:Nat→Prop} {h h':GH} (x:I pre X h) (l:h.Le h') (lB:hB.Le h'):I pre X h':=
 P.stable pre X h h' x (fun b hb=>by
  obtain ⟨p,o,h1,h2⟩:=P.dom pre X h b x hb;rw [l.keep h1 h2,h1]) lB
theorem Prom.store {α:Type} {hB:GH} {I:List α→(Nat→Prop)→GH→Prop} (P:Prom hB I) {pre:List α} {X:Nat→Prop} {h h':GH} (x:I pre X h) {r:Nat} (hr:¬X r) (ho:∀b,b≠r→h' b=h b) (lB:hB.Le h'):I pre X h':=
 P.stable pre X h h' x (fun b hb=>ho b fun e=>hr (e▸hb)) lB
theorem Prom.off {α:Type} {hB:GH} {I:List α→(Nat→Prop)→GH→Prop} (P:Prom hB I) {pre:List α} {X:Nat→Prop} {h:GH} (x:I pre X h) {r:Nat} (hr:h r=none):¬X r:=fun q=>by
 obtain ⟨p,o,h1,_⟩:=P.dom pre X h r x q;rw [hr] at h1;cases h1
theorem offX {X X1:Nat→Prop} {h:GH} (hX:∀r,X1 r→X r∨h r=none) {r:Nat} {o:Bool×Obj} (hr:h r=some o) (n:¬X r):¬X1 r:=fun q=>(hX r q).elim n fun e=>by rw [e] at hr;cases hr
def YRes {α:Type} (hB:GH) (I:List α→(Nat→Prop)→GH→Prop) (S:GH→Prop) (pre:List α) (X:Nat→Prop) (h:GH) (l:List α) (v:Value) (h':GH):Prop:=
 ∃ok X',v=.bool ok∧(∀b,X' b→X b∨h b=none)∧KeepX X h h'∧hB.Le h'∧(ok=true→I (pre++l) X' h')∧(ok=false→S h')
structure YieldK {α:Type} {P:Program} (W:Wk P) (hB:GH) (yv:Value) (enc:α→Array Value) (I:List α→(Nat→Prop)→GH→Prop) (S:GH→Prop) (all:List α):Prop where
 prom:Prom hB I
 one:yv.cells=#[yv]
 call:∀pre p post X h,all=pre++p ::post→I pre X h→hB.Le h→ValK W yv #[.agg (enc p)] h (YRes hB I S pre X h [p])
structure YSt {α:Type} (hB:GH) (I:List α→(Nat→Prop)→GH→Prop) (X0:Nat→Prop) (h:GH) (pre:List α) (X:Nat→Prop) (hc:GH):Prop where
 inv:I pre X hc
 sub:∀b,X b→X0 b∨h b=none
 keep:KeepX X0 h hc
 base:hB.Le hc
section
variable {α:Type} {hB:GH} {I:List α→(Nat→Prop)→GH→Prop} {S:GH→Prop} {X0 X X1:Nat→Prop} {h hc h':GH} {pre l:List α}
theorem YSt.start (x:I pre X h) (lB:hB.Le h):YSt hB I X h pre X h:=⟨x,fun _ q=>.inl q,KeepX.refl _ _,lB⟩
theorem YSt.le (P:Prom hB I) (y:YSt hB I X0 h pre X hc) (l:hc.Le h'):YSt hB I X0 h pre X h':=
 ⟨P.le y.inv l (y.base.trans l),y.sub,y.keep.trans (fun _ q=>.inl q) (l.keepX X0),y.base.trans l⟩
theorem YSt.store (P:Prom hB I) (y:YSt hB I X0 h pre X hc) {r:Nat} (hr:h r=none) (rB:hB r=none) (hn:¬X r) (ho:∀b,b≠r→h' b=hc b):YSt hB I X0 h pre X h':=
 ⟨P.store y.inv hn ho (y.base.upd rB ho),y.sub,y.keep.store hr ho,y.base.upd rB ho⟩
theorem subX (s:∀b,X b→X0 b∨h b=none) (k:KeepX X0 h hc) (s':∀b,X1 b→X b∨hc b=none):∀b,X1 b→X0 b∨h b=none:=fun b q=>by
 rcases s' b q with q | q
 ·exact s b q
 ·by_cases q0:X0 b
  ·exact .inl q0
  ·refine .inr ?_;cases hb:h b with
   | none=>rfl
   | some x=>
    obtain ⟨o',h1,_⟩:=k b x.1 x.2 hb q0;rw [h1] at q;cases q
theorem YSt.call (y:YSt hB I X0 h pre X hc) {v:Value} (r:YRes hB I S pre X hc l v h') :
  ∃ok X',v=.bool ok∧(∀b,X' b→X b∨hc b=none)∧KeepX X hc h'∧(ok=true→YSt hB I X0 h (pre++l) X' h')∧(ok=false→∀l',YRes hB I S pre X0 h l' (.bool false) h'):=by
 obtain ⟨ok,X',hv,hs,hk,hl,h1,h2⟩:=r;have kk:KeepX X0 h h':=y.keep.trans y.sub hk;have ss:=subX y.sub y.keep hs;exact ⟨ok,X',hv,hs,hk,fun e=>⟨h1 e,ss,kk,hl⟩,fun e l'=>⟨false,X',rfl,ss,kk,hl,(fun x=>by cases x),fun _=>h2 e⟩⟩
theorem YSt.done (y:YSt hB I X0 h (pre++l) X hc):YRes hB I S pre X0 h l (.bool true) hc:=⟨true,X,rfl,y.sub,y.keep,y.base,fun _=>y.inv,fun x=>by cases x⟩
theorem YSt.pass {α:Type} {hB:GH} {I:List α→(Nat→Prop)→GH→Prop} {S:GH→Prop} {X0 X:Nat→Prop} {h hc h':GH} {pre:List α} {l:List α} {v:Value} (y:YSt hB I X0 h pre X hc) (r:YRes hB I S pre X hc l v h'):YRes hB I S pre X0 h l v h':=by
 obtain ⟨ok,X',hv,hs,hk,hl,h1,h2⟩:=r;exact ⟨ok,X',hv,subX y.sub y.keep hs,y.keep.trans y.sub hk,hl,h1,h2⟩
theorem YRes.stopped {pre':List α} {v:Value} (hv:v=.bool false) (r:∀l',YRes hB I S pre X0 h l' (.bool false) h'):YRes hB I S pre' X0 h l v h':=by
 obtain ⟨ok,X',e,hs,hk,hl,_,h2⟩:=r [];cases e;exact ⟨false,X',hv,hs,hk,hl,(fun x=>by cases x),h2⟩
end
def Within {α:Type} (all pre l:List α):Prop:=∃post,all=pre++l++post
section
variable {α:Type} {all pre a b:List α}
theorem Within.left (w:Within all pre (a++b)):Within all pre a:=by
 obtain ⟨post,h⟩:=w;exact ⟨b++post,by rw [h];simp⟩
theorem Within.right (w:Within all pre (a++b)):Within all (pre++a) b:=by
 obtain ⟨post,h⟩:=w;exact ⟨post,by rw [h];simp⟩
theorem Within.one {p:α} (w:Within all pre [p]):∃post,all=pre++p ::post:=by
 obtain ⟨post,h⟩:=w;exact ⟨post,by rw [h];simp⟩
theorem spanTo_add (lo:Int) (i j:Nat):spanTo lo (i+j)=spanTo lo i++spanTo (lo+i) j:=by
 unfold spanTo;rw [List.range_add,List.map_append,List.map_map];congr 1;apply List.map_congr_left;intro x _;simp only [Function.comp];omega
theorem Within.round {lo hi:Int} {k:Nat} {F:Int→List α} (w:Within all pre ((spanL lo hi).flatMap F)) (hk:lo+(k:Int)≤hi):Within all (pre++(spanTo lo k).flatMap F) (F (lo+k)):=by
 have e:spanL lo hi=spanTo lo k++([lo+(k:Int)]++spanTo (lo+((k+1:Nat):Int)) ((hi-lo+1).toNat-(k+1))):=by
  unfold spanL;rw [←List.append_assoc,←spanTo_succ,←spanTo_add];congr 1;omega
 rw [e,List.flatMap_append,List.flatMap_append] at w;have w2:=w.right.left;simpa using w2
theorem Within.roundEnd {lo hi:Int} {k:Nat} {F:Int→List α} (h:¬lo+(k:Int)≤hi) (hk:(k:Int)≤hi-lo+1∨k=0):(spanL lo hi).flatMap F=(spanTo lo k).flatMap F:=(spanL_flat h hk).symm
end
section
variable {ag:Past→Bool} {gs:List Good} {ms:List Move} {mo:Int} {f i k:Nat} {p pc:Past} {all pre:List Past} {lo hi x:Int}
theorem moves_pc {b1 b2:Bool} (hpc:∀n b,pc.setMove i n b=p.setMove i n b):∀n b,(((pc.setMany i x).setLie i b1).setLie i b2).setMove i n b=p.setMove i n b:=fun n b=>by
 rw [←hpc,show ((pc.setMany i x).setLie i b1)=pc.setMove i x b1 from rfl,setMove_setLie,setMove_setMove]
theorem goods_pc (hpc:∀n,pc.setFirst i n=p.setFirst i n):∀n,(pc.setFirst i x).setFirst i n=p.setFirst i n:=fun n=>by rw [←hpc,setFirst_setFirst]
def lieC (ms:List Move) (mo:Int) (i:Nat) (q:Past):Prop:=((0≤(i:Int)∧(i:Int)≤(ms.length:Int)-1)∧(ms.getD ((i:Int)).toNat Move.z).kind=0)∧((lyingTo q 6:Int)<mo)
instance (ms:List Move) (mo:Int) (i:Nat) (q:Past):Decidable (lieC ms mo i q):=inferInstanceAs (Decidable (_∧_))
theorem lieC_eq {q:Past}:(isNoteB ms i && decide ((lyingTo q 6:Int)<mo))=decide (lieC ms mo i q):=by
 unfold isNoteB lieC;rw [←Bool.decide_and];exact decide_eq_decide.2 Iff.rfl
theorem lie_self {q:Past} {b:Bool}:(q.setLie i b).lies i=b:=by simp [Past.setLie]
theorem moves_next1 (hpc:∀n b,pc.setMove i n b=p.setMove i n b) (hC:(((pc.setMany i x).setLie i false).setLie i (decide (lieC ms mo i ((pc.setMany i x).setLie i false)))).lies i=true) (hx:x=lo+(k:Int)) :
  pre++(spanTo lo (k+1)).flatMap (moveRound ag ms mo f i p)=((pre++(spanTo lo k).flatMap (moveRound ag ms mo f i p))++movesFrom ag ms mo f (i+1) ((pc.setMany i x).setLie i false))++
   movesFrom ag ms mo f (i+1) (((pc.setMany i x).setLie i false).setLie i (decide (lieC ms mo i ((pc.setMany i x).setLie i false)))):=by
 rw [lie_self] at hC;rw [hC,show ((pc.setMany i x).setLie i false)=pc.setMove i x false from rfl,setMove_setLie,hpc,hpc,spanTo_flat,←hx];rw [show ((pc.setMany i x).setLie i false)=pc.setMove i x false from rfl,hpc] at hC;unfold moveRound;rw [lieC_eq,hC];simp
theorem moves_next0 (hpc:∀n b,pc.setMove i n b=p.setMove i n b) (hC:(((pc.setMany i x).setLie i false).setLie i (decide (lieC ms mo i ((pc.setMany i x).setLie i false)))).lies i=false) (hx:x=lo+(k:Int)) :
  pre++(spanTo lo (k+1)).flatMap (moveRound ag ms mo f i p)=(pre++(spanTo lo k).flatMap (moveRound ag ms mo f i p))++movesFrom ag ms mo f (i+1) ((pc.setMany i x).setLie i false):=by
 rw [lie_self] at hC;rw [show ((pc.setMany i x).setLie i false)=pc.setMove i x false from rfl,hpc,spanTo_flat,←hx];rw [show ((pc.setMany i x).setLie i false)=pc.setMove i x false from rfl,hpc] at hC;unfold moveRound;rw [lieC_eq,hC];simp
theorem goods_next (hpc:∀n,pc.setFirst i n=p.setFirst i n) (hx:x=lo+(k:Int)) :
  pre++(spanTo lo (k+1)).flatMap (fun n=>goodsFrom ag gs ms mo f (i+1) (p.setFirst i n))=(pre++(spanTo lo k).flatMap (fun n=>goodsFrom ag gs ms mo f (i+1) (p.setFirst i n)))++goodsFrom ag gs ms mo f (i+1) (pc.setFirst i x):=by
 rw [hpc,spanTo_flat,←hx];simp
theorem moves_within1 (hpc:∀n b,pc.setMove i n b=p.setMove i n b) (hw:Within all pre (movesFrom ag ms mo (f+1) i p)) (hx:x=(ms.getD i Move.z).low+(k:Int)) (hk:x≤(ms.getD i Move.z).high) :
  Within all (pre++(spanTo (ms.getD i Move.z).low k).flatMap (moveRound ag ms mo f i p)) (movesFrom ag ms mo f (i+1) ((pc.setMany i x).setLie i false)):=by
 rw [movesFrom_succ] at hw;have w:=hw.round (k:=k) (by omega);rw [←hx] at w;unfold moveRound at w;rw [←hpc] at w;exact w.left
theorem moves_within2 (hpc:∀n b,pc.setMove i n b=p.setMove i n b) (hw:Within all pre (movesFrom ag ms mo (f+1) i p)) (hC:(((pc.setMany i x).setLie i false).setLie i (decide (lieC ms mo i ((pc.setMany i x).setLie i false)))).lies i=true) (hx:x=(ms.getD i Move.z).low+(k:Int)) (hk:x≤(ms.getD i Move.z).high) :
  Within all ((pre++(spanTo (ms.getD i Move.z).low k).flatMap (moveRound ag ms mo f i p))++movesFrom ag ms mo f (i+1) ((pc.setMany i x).setLie i false)) (movesFrom ag ms mo f (i+1) (((pc.setMany i x).setLie i false).setLie i (decide (lieC ms mo i ((pc.setMany i x).setLie i false))))):=by
 rw [lie_self] at hC;rw [hC,show ((pc.setMany i x).setLie i false)=pc.setMove i x false from rfl,setMove_setLie,hpc,hpc];rw [show ((pc.setMany i x).setLie i false)=pc.setMove i x false from rfl,hpc] at hC;rw [movesFrom_succ] at hw;have w:=hw.round (k:=k) (by omega);rw [←hx] at w;have w2:Within all (pre++(spanTo (ms.getD i Move.z).low k).flatMap (moveRound ag ms mo f i p)) (movesFrom ag ms mo f (i+1) (p.setMove i x false)++movesFrom ag ms mo f (i+1) (p.setMove i x true)):=by
  have e:moveRound ag ms mo f i p x=movesFrom ag ms mo f (i+1) (p.setMove i x false)++movesFrom ag ms mo f (i+1) (p.setMove i x true):=by
   unfold moveRound;rw [lieC_eq,hC,if_pos rfl]
  rw [←e];exact w
 exact w2.right
theorem goods_within (hpc:∀n,pc.setFirst i n=p.setFirst i n) (hw:Within all pre (goodsFrom ag gs ms mo (f+1) i p)) (hx:x=(gs.getD i Good.z).low+(k:Int)) (hk:x≤(gs.getD i Good.z).high) :
  Within all (pre++(spanTo (gs.getD i Good.z).low k).flatMap (fun n=>goodsFrom ag gs ms mo f (i+1) (p.setFirst i n))) (goodsFrom ag gs ms mo f (i+1) (pc.setFirst i x)):=by
 rw [goodsFrom_succ] at hw;have w:=hw.round (k:=k) (by omega);rw [←hx] at w;rw [hpc];exact w
end
def lastLie (l:List Int) (k:Nat):Int:=if k=0 then-1 else l.getD (k-1) 0
def lieAt (ms:List Move) (l:List Int) (k:Nat):Int:=if¬isNoteB ms (l.getD k 0)=true then 6 else if l.getD k 0≤lastLie l k then 7 else 0
def liesTo (p:Past) (l:List Int) (k:Nat):Past:=(l.take k).foldl (fun p i=>p.setLie i.toNat true) p
theorem liesTo_succ {p:Past} {l:List Int} {k:Nat} (hk:k<l.length):liesTo p l (k+1)=(liesTo p l k).setLie (l.getD k 0).toNat true:=by
 unfold liesTo;rw [take_getD 0 hk,List.foldl_append];rfl
def handedBell (d m:Int) (gs:List Good) (ms:List Move) (cs:List Count) (f y l:List Int):Int:=
 if¬bookBell d m gs ms cs=0 then bookBell d m gs ms cs
 else if¬numsBell f gs.length=0 then numsBell f gs.length
 else if¬numsBell y ms.length=0 then numsBell y ms.length
 else firstB (lieAt ms l) 0 l.length
def handedPast (f y l:List Int):Past:=liesTo ((Past.zero.setFirsts f).setManys y) l l.length
theorem firstB_zero {f:Nat→Int}:∀{n i:Nat},firstB f i n=0→∀j,i≤j→j<i+n→f j=0
 | 0,i,_,j,h1,h2=>by omega
 | n+1,i,h,j,h1,h2=>by
  unfold firstB at h;split at h
  ·rename_i e
   rcases Nat.eq_or_lt_of_le h1 with rfl | h3
   ·exact e
   ·exact firstB_zero h j h3 (by omega)
  ·rename_i e;exact absurd h e
structure BookOK (d m:Int) (gs:List Good) (ms:List Move) (cs:List Count):Prop where
 days:1≤d∧d≤99
 most:0≤m∧m≤2
 glen:1≤gs.length∧gs.length≤3
 good:∀k,k<gs.length→goodAt gs k=0
 mlen:ms.length≤6
 move:∀k,k<ms.length→moveAt d gs ms k=0
 clen:cs.length≤4
 count:∀k,k<cs.length→countAt d gs cs k=0
theorem bookOK {d m:Int} {gs:List Good} {ms:List Move} {cs:List Count} (h:bookBell d m gs ms cs=0):BookOK d m gs ms cs:=by
 have z:=fun j hj=>firstB_zero (f:=checkBell d m gs ms cs) h j (Nat.zero_le _) (by omega:j<0+4);have z0:headBell d m=0:=z 0 (by decide);have z1:goodsBell gs=0:=z 1 (by decide);have z2:movesBell d gs ms=0:=z 2 (by decide);have z3:countsBell d gs cs=0:=z 3 (by decide);unfold headBell at z0;unfold goodsBell at z1;unfold movesBell at z2;unfold countsBell at z3;split at z0 <;> first | (cases z0;done) | skip
 split at z1 <;> first | (cases z1;done) | skip
 split at z2 <;> first | (cases z2;done) | skip
 split at z3 <;> first | (cases z3;done) | skip
 exact ⟨by omega,by omega,by omega,fun k hk=>firstB_zero z1 k (Nat.zero_le _) (by omega),by omega,fun k hk=>firstB_zero z2 k (Nat.zero_le _) (by omega),by omega,fun k hk=>firstB_zero z3 k (Nat.zero_le _) (by omega)⟩
section
variable {d m:Int} {gs:List Good} {ms:List Move} {cs:List Count}
theorem BookOK.move' (b:BookOK d m gs ms cs) {k:Nat} (hk:k<ms.length):(0≤(ms.getD k Move.z).kind∧(ms.getD k Move.z).kind≤4)∧(0≤(ms.getD k Move.z).good∧(ms.getD k Move.z).good≤(gs.length:Int)-1)∧
  (1≤(ms.getD k Move.z).day∧(ms.getD k Move.z).day≤d)∧lastDay ms k≤(ms.getD k Move.z).day∧isFew (ms.getD k Move.z).low (ms.getD k Move.z).high:=by
 have z:=b.move k hk;unfold moveAt at z;split at z <;> first | (cases z;done) | skip
 split at z <;> first | (cases z;done) | skip
 split at z <;> first | (cases z;done) | skip
 split at z <;> first | (cases z;done) | skip
 split at z <;> first | (cases z;done) | skip
 rename_i a1 a2 a3 a4 a5
 exact ⟨Decidable.not_not.1 a1,Decidable.not_not.1 a2,Decidable.not_not.1 a3,by omega,Decidable.not_not.1 a5⟩
theorem getD_out {α:Type} {l:List α} {k:Nat} {z:α} (h:l.length≤k):l.getD k z=z:=by
 simp [List.getD_eq_getElem?_getD,List.getElem?_eq_none h]
theorem BookOK.kind (b:BookOK d m gs ms cs):∀k,0≤(ms.getD k Move.z).kind∧(ms.getD k Move.z).kind≤4:=fun k=>by
 by_cases h:k<ms.length
 ·exact (b.move' h).1
 ·rw [getD_out (by omega)];decide
theorem BookOK.few (b:BookOK d m gs ms cs):∀k,0≤(ms.getD k Move.z).low∧(ms.getD k Move.z).low≤(ms.getD k Move.z).high∧(ms.getD k Move.z).high≤99∧(ms.getD k Move.z).high-(ms.getD k Move.z).low<3:=fun k=>by
 by_cases h:k<ms.length
 ·have:=(b.move' h).2.2.2.2;unfold isFew at this;omega
 ·rw [getD_out (by omega)];decide
theorem BookOK.good' (b:BookOK d m gs ms cs) {k:Nat} (hk:k<gs.length):(0≤(gs.getD k Good.z).cost∧(gs.getD k Good.z).cost≤999)∧(1≤(gs.getD k Good.z).pack∧(gs.getD k Good.z).pack≤20)∧isFew (gs.getD k Good.z).low (gs.getD k Good.z).high:=by
 have z:=b.good k hk;unfold goodAt at z;split at z <;> first | (cases z;done) | skip
 split at z <;> first | (cases z;done) | skip
 split at z <;> first | (cases z;done) | skip
 rename_i a1 a2 a3
 exact ⟨by omega,by omega,Decidable.byContradiction fun q=>a3 (.inr q)⟩
theorem BookOK.gfew (b:BookOK d m gs ms cs):∀k,0≤(gs.getD k Good.z).low∧(gs.getD k Good.z).low≤(gs.getD k Good.z).high∧(gs.getD k Good.z).high≤99∧(gs.getD k Good.z).high-(gs.getD k Good.z).low<3:=fun k=>by
 by_cases h:k<gs.length
 ·have:=(b.good' h).2.2;unfold isFew at this;omega
 ·rw [getD_out (by omega)];decide
theorem BookOK.cgood (b:BookOK d m gs ms cs):∀x ∈ cs,0≤x.good∧x.good<3:=fun x hx=>by
 obtain ⟨k,hk,rfl⟩:=List.getElem_of_mem hx;have z:=b.count k hk;unfold countAt at z;rw [getD_at Count.z hk] at z
 have:=b.glen
 split at z <;> first | (cases z;done) | skip
 omega
theorem numsBell_ok {l:List Int} {n:Int} (h:numsBell l n=0):(l.length:Int)=n∧∀k,0≤l.getD k 0∧l.getD k 0≤99:=by
 unfold numsBell at h;split at h <;> first | (cases h;done) | skip
 split at h <;> first | (cases h;done) | skip
 rename_i a1 a2
 refine ⟨Decidable.not_not.1 a1,fun k=>?_⟩;by_cases hk:k<l.length
 ·refine Decidable.byContradiction fun q=>a2 ?_;rw [List.any_eq_true];exact ⟨l.getD k 0,getD_mem hk,decide_eq_true q⟩
 ·rw [getD_out (by omega)];decide
variable {f y l:List Int}
def handedP (d m:Int) (gs:List Good) (ms:List Move) (cs:List Count) (f y l:List Int):Past:=if handedBell d m gs ms cs f y l=0 then handedPast f y l else Past.zero
theorem handedBell_1 (h:¬bookBell d m gs ms cs=0):handedBell d m gs ms cs f y l=bookBell d m gs ms cs:=by unfold handedBell;rw [if_pos h]
theorem handedBell_2 (h:¬¬bookBell d m gs ms cs=0) (h2:¬numsBell f gs.length=0):handedBell d m gs ms cs f y l=numsBell f gs.length:=by unfold handedBell;rw [if_neg h,if_pos h2]
theorem handedBell_3 (h:¬¬bookBell d m gs ms cs=0) (h2:¬¬numsBell f gs.length=0) (h3:¬numsBell y ms.length=0):handedBell d m gs ms cs f y l=numsBell y ms.length:=by unfold handedBell;rw [if_neg h,if_neg h2,if_pos h3]
theorem handedBell_4 (h:¬¬bookBell d m gs ms cs=0) (h2:¬¬numsBell f gs.length=0) (h3:¬¬numsBell y ms.length=0) {c:Int} (h4:firstB (lieAt ms l) 0 l.length=c):handedBell d m gs ms cs f y l=c:=by unfold handedBell;rw [if_neg h,if_neg h2,if_neg h3,h4]
theorem handed_bad {c:Int} (e:handedBell d m gs ms cs f y l=c) (hc:¬c=0):(.tuple #[.agg (ePast Past.zero),.int .i64 c]:Value)=.tuple #[.agg (ePast (handedP d m gs ms cs f y l)),.int .i64 (handedBell d m gs ms cs f y l)]:=by
 unfold handedP;rw [e,if_neg hc]
theorem handed_good (e:handedBell d m gs ms cs f y l=0) {k:Nat} (hk:¬(k:Int)<l.length) (hk':k≤l.length):(.tuple #[.agg (ePast (liesTo ((Past.zero.setFirsts f).setManys y) l k)),.int .i64 0]:Value)=.tuple #[.agg (ePast (handedP d m gs ms cs f y l)),.int .i64 (handedBell d m gs ms cs f y l)]:=by
 unfold handedP handedPast;rw [e,if_pos rfl,show k=l.length by omega]
theorem lieAt_6 {k:Nat} (h:¬((0≤l.getD k 0∧l.getD k 0≤(ms.length:Int)-1)∧(ms.getD (l.getD k 0).toNat Move.z).kind=0)):lieAt ms l k=6:=by
 unfold lieAt isNoteB;rw [if_pos (by simpa using h)]
theorem lieAt_7 {k:Nat} (h:¬¬((0≤l.getD k 0∧l.getD k 0≤(ms.length:Int)-1)∧(ms.getD (l.getD k 0).toNat Move.z).kind=0)) (h2:l.getD k 0≤lastLie l k):lieAt ms l k=7:=by
 unfold lieAt isNoteB;rw [if_neg (by simpa using h),if_pos h2]
theorem lieAt_0 {k:Nat} (h:¬¬((0≤l.getD k 0∧l.getD k 0≤(ms.length:Int)-1)∧(ms.getD (l.getD k 0).toNat Move.z).kind=0)) (h2:¬l.getD k 0≤lastLie l k):lieAt ms l k=0:=by
 unfold lieAt isNoteB;rw [if_neg (by simpa using h),if_neg h2]
end
theorem ePast_size (p:Past):(Value.agg (ePast p)).cells.size=15:=rfl
theorem ePast_fine (p:Past):Value.fine (.agg (ePast p))=true:=rfl
theorem ePast_all (p:Past):0+15≤(ePast p).size:=Nat.le_refl 15
theorem ePast_put (p q:Past):putCells (ePast p) 0 (Value.agg (ePast q)).cells.toList=ePast q:=by
 show putCells (ePast p) 0 (ePast q).toList=ePast q;apply Array.toList_inj.1;rw [putCells_toList _ _ _ (Nat.le_refl 15)];show []++(ePast q).toList++[]=_;simp
theorem ePast_fines {l:List Past}:∀y ∈ l,(ePast y).toList.all (·.oneCell')=true:=fun _ _=>rfl
theorem range_map_succ {β:Type} (f:Nat→β) (k:Nat):(List.range (k+1)).map f=(List.range k).map f++[f k]:=by
 rw [List.range_succ,List.map_append];rfl
section
variable {d m:Int} {gs:List Good} {ms:List Move} {cs:List Count} {f y l:List Int}
theorem PastOK.lies {p:Past} (h:PastOK p) (l:List Int) (k:Nat):PastOK (liesTo p l k):=by
 unfold liesTo;generalize l.take k=t
 induction t generalizing p with
 | nil=>exact h
 | cons x t ih=>exact ih (p:=p.setLie x.toNat true) h
theorem handed_ok (h:handedBell d m gs ms cs f y l=0):BookOK d m gs ms cs∧PastOK (handedP d m gs ms cs f y l):=by
 have h0:=h;unfold handedBell at h;split at h <;> first | (rename_i q;exact absurd h q) | skip
 split at h <;> first | (rename_i q;exact absurd h q) | skip
 split at h <;> first | (rename_i q;exact absurd h q) | skip
 rename_i a1 a2 a3
 refine ⟨bookOK (Decidable.not_not.1 a1),?_⟩;unfold handedP;rw [if_pos h0];unfold handedPast;refine PastOK.lies ?_ _ _;have b2:=(numsBell_ok (Decidable.not_not.1 a2)).2;have b3:=(numsBell_ok (Decidable.not_not.1 a3)).2;refine ⟨fun i=>?_,fun i=>?_⟩
 ·show 0≤(if i<f.length then f.getD i 0 else 0)∧(if i<f.length then f.getD i 0 else 0)≤99;split
  ·exact b2 i
  ·decide
 ·show 0≤(if i<y.length then y.getD i 0 else 0)∧(if i<y.length then y.getD i 0 else 0)≤99;split
  ·exact b3 i
  ·decide
def playLeft (d m:Int) (gs:List Good) (ms:List Move) (cs:List Count) (f y l:List Int):List Int:=if handedBell d m gs ms cs f y l=0 then (List.range gs.length).map (fun (i:Nat)=>(stockOf ms (handedP d m gs ms cs f y l) (i:Int) d).1) else []
def playLow (d m:Int) (gs:List Good) (ms:List Move) (cs:List Count) (f y l:List Int):List Int:=if handedBell d m gs ms cs f y l=0 then (List.range gs.length).map (fun (i:Nat)=>(stockOf ms (handedP d m gs ms cs f y l) (i:Int) d).2) else []
theorem playLeft_bad (h:¬handedBell d m gs ms cs f y l=0):playLeft d m gs ms cs f y l=[]:=if_neg h
theorem playLow_bad (h:¬handedBell d m gs ms cs f y l=0):playLow d m gs ms cs f y l=[]:=if_neg h
theorem playLeft_good (h:¬¬handedBell d m gs ms cs f y l=0) {k:Nat} (hk:k≤gs.length) (hk':¬(k:Int)<gs.length):playLeft d m gs ms cs f y l=(List.range k).map (fun (i:Nat)=>(stockOf ms (handedP d m gs ms cs f y l) (i:Int) d).1):=by
 unfold playLeft;rw [if_pos (Decidable.not_not.1 h),show gs.length=k by omega]
theorem playLow_good (h:¬¬handedBell d m gs ms cs f y l=0) {k:Nat} (hk:k≤gs.length) (hk':¬(k:Int)<gs.length):playLow d m gs ms cs f y l=(List.range k).map (fun (i:Nat)=>(stockOf ms (handedP d m gs ms cs f y l) (i:Int) d).2):=by
 unfold playLow;rw [if_pos (Decidable.not_not.1 h),show gs.length=k by omega]
end
theorem flat_len {α β:Type} {f:α→List β} {c:Nat}:∀{l:List α},(∀x ∈ l,(f x).length≤c)→(l.flatMap f).length≤l.length*c
 | [],_=>by simp
 | x ::l,h=>by
  rw [List.flatMap_cons,List.length_append,List.length_cons,Nat.succ_mul];have h1:=h x (by simp);have h2:=flat_len (l:=l) fun y hy=>h y (by simp [hy]);omega
theorem spanL_len {lo hi:Int} (h:hi-lo<3):(spanL lo hi).length≤3:=by
 unfold spanL spanTo;rw [List.length_map,List.length_range];omega
theorem movesFrom_len {ag:Past→Bool} {ms:List Move} {mo:Int} (hf:∀k,(ms.getD k Move.z).high-(ms.getD k Move.z).low<3):∀f i p,(movesFrom ag ms mo f i p).length≤6 ^ f
 | 0,_,p=>by unfold movesFrom;split <;> simp
 | f+1,i,p=>by
  rw [movesFrom_succ];have h1:=flat_len (f:=moveRound ag ms mo f i p) (c:=2*6 ^ f) (l:=spanL (ms.getD i Move.z).low (ms.getD i Move.z).high) fun n _=>by
   unfold moveRound;rw [List.length_append];have a:=movesFrom_len (ag:=ag) (mo:=mo) hf f (i+1) (p.setMove i n false);have b:=movesFrom_len (ag:=ag) (mo:=mo) hf f (i+1) (p.setMove i n true);split
   ·omega
   ·simp only [List.length_nil];omega
  have h2:=Nat.mul_le_mul_right (2*6 ^ f) (spanL_len (hf i));rw [Nat.pow_succ];omega
theorem goodsFrom_len {ag:Past→Bool} {gs:List Good} {ms:List Move} {mo:Int} (hg:∀k,(gs.getD k Good.z).high-(gs.getD k Good.z).low<3) (hf:∀k,(ms.getD k Move.z).high-(ms.getD k Move.z).low<3) :
  ∀f i p,(goodsFrom ag gs ms mo f i p).length≤3 ^ f*6 ^ ms.length
 | 0,_,p=>by unfold goodsFrom;have:=movesFrom_len (ag:=ag) (mo:=mo) hf ms.length 0 p;omega
 | f+1,i,p=>by
  rw [goodsFrom_succ];have h1:=flat_len (f:=fun n=>goodsFrom ag gs ms mo f (i+1) (p.setFirst i n)) (c:=3 ^ f*6 ^ ms.length) (l:=spanL (gs.getD i Good.z).low (gs.getD i Good.z).high) fun n _=>goodsFrom_len hg hf f (i+1) _;have h2:=Nat.mul_le_mul_right (3 ^ f*6 ^ ms.length) (spanL_len (hg i));rw [Nat.pow_succ,Nat.mul_comm (3 ^ f) 3,Nat.mul_assoc];omega
theorem hists_len {d m:Int} {gs:List Good} {ms:List Move} {cs:List Count} (b:BookOK d m gs ms cs) (mo:Int):(hists d gs ms cs mo).length≤2000000:=by
 unfold hists;have h:=goodsFrom_len (ag:=agreesB d gs.length ms cs) (mo:=mo) (fun k=>(b.gfew k).2.2.2) (fun k=>(b.few k).2.2.2) gs.length 0 Past.zero;have h1:3 ^ gs.length≤3 ^ 3:=Nat.pow_le_pow_right (by decide) b.glen.2;have h2:6 ^ ms.length≤6 ^ 6:=Nat.pow_le_pow_right (by decide) b.mlen;have h3:=Nat.mul_le_mul h1 h2
 have:3 ^ 3*6 ^ 6≤2000000:=by decide
 omega
theorem pre_len {α:Type} {all pre post:List α} {p:α} (h:all=pre++p ::post) {n:Nat} (hn:all.length≤n):pre.length+1≤n:=by
 rw [h,List.length_append,List.length_cons] at hn;omega
theorem SlIs.one {α:Type} {h:GH} {v:Value} {n:Nat} {enc:α→Array Value} {xs:List α} (x:SlIs h v n enc xs):v.cells=#[v]∧v.oneCell'=true:=by
 obtain ⟨a,cap,rfl,_⟩:=x;exact ⟨rfl,rfl⟩
theorem fine_of {v:Value} (h:v.cells=#[v]∧v.oneCell'=true):Value.fine v=true:=by unfold Value.fine;rw [h.1];simp [h.2]
theorem size_of {v:Value} (h:v.cells=#[v]∧v.oneCell'=true):v.cells.size=1:=by rw [h.1];rfl
theorem put_of {v:Value} (h:v.cells=#[v]∧v.oneCell'=true) {c c':Array Value} {o:Nat} (e:putCells c o [v]=c'):putCells c o v.cells.toList=c':=by rw [h.1];exact e
end Go.Ns
namespace Go.Ns
open Go.Conc
section
variable {P:Program} {E:Env P} {σ:Nat→Value} {ds:List Deferred} {α:Type}
def RoundEnd (hB:GH) (J:List α→(Nat→Prop)→GH→Prop) (Stop:Code→GH→Prop) (pre:List α) (Y:Nat→Prop) (h:GH) (l:Nat) (lo:Loop):Post:=fun e _ _ h3=>
 h3 l=some (true,.loop { lo with state:=.busy })∧∃Y',(∀b,Y' b→Y b∨h b=none)∧KeepX (fun b=>Y b∨b=l) h h3∧hB.Le h3∧match e with
  | .normal=>J pre Y' h3
  | .exit id=>Stop (.exit id) h3
  | .ret=>Stop .ret h3
  | _=>False
def LoopI (J:List α→(Nat→Prop)→GH→Prop) (l d:Nat) (lo:Loop) (pre:List α) (X:Nat→Prop) (h:GH):Prop:=
 ∃Y,J pre Y h∧(∀b,X b↔Y b∨b=l∨b=d)∧¬Y l∧¬Y d∧h l=some (true,.loop lo)∧h d=some (true,.deferred (some []))
def LoopS (Stop:Code→GH→Prop) (l d:Nat) (lo:Loop) (h:GH):Prop:=
 ∃c,Stop c h∧h l=some (true,.loop { lo with state:=.done,pending:=some c })∧h d=some (true,.deferred (some []))
def YEnd (hB:GH) (I:List α→(Nat→Prop)→GH→Prop) (Sp:GH→Prop) (all:List α) (X:Nat→Prop) (h h':GH):Prop:=
 ∃X',(∀b,X' b→X b∨h b=none)∧KeepX X h h'∧hB.Le h'∧(I all X' h'∨Sp h')
theorem YRes.final {hB:GH} {I:List α→(Nat→Prop)→GH→Prop} {Sp:GH→Prop} {all:List α} {X:Nat→Prop} {h h':GH} {v:Value} (r:YRes hB I Sp [] X h all v h'):YEnd hB I Sp all X h h':=by
 obtain ⟨ok,X',hv,hs,hk,hl,h1,h2⟩:=r;cases ok with
 | true=>exact ⟨X',hs,hk,hl,.inl (h1 rfl)⟩
 | false=>exact ⟨X',hs,hk,hl,.inr (h2 rfl)⟩
theorem loop_busy {lo lo':Loop} {h:GH} {l:Nat} (x:h l=some (true,.loop lo)) (y:h l=some (true,.loop lo')):lo=lo':=by
 rw [x] at y;cases y;rfl
theorem tr_range {enc:α→Array Value} {all:List α} {hB hc:GH} {J:List α→(Nat→Prop)→GH→Prop} {Stop:Code→GH→Prop} {Y0:Nat→Prop} {par:Tmp} {f:Operand} {assign body:Code} {Q:Post}
  (hrd:E.rd=none) (hpar:Nat.blt par E.N=true) (hJ:Prom hB J) (hB0:hB.Le hc) (j0:J [] Y0 hc)
  (hS:∀c (h h':GH) l lo,Stop c h→h l=some (true,.loop lo)→(∀b,b≠l→h' b=h b)→Stop c h')
  (src:∀(yv:Value) (I:List α→(Nat→Prop)→GH→Prop) (Sp:GH→Prop) (X:Nat→Prop) (h:GH),YieldK E.wk hB yv enc I Sp all→hB.Le h→I [] X h→ValK E.wk (evalS σ f) #[yv] h fun _ h'=>YEnd hB I Sp all X h h')
  (round:∀(l d:Nat) (lo:Loop) (pre:List α) (p:α) (post:List α) (Y:Nat→Prop) (h:GH),all=pre++p ::post→J pre Y h→hB.Le h→hB l=none→¬Y l→h l=some (true,.loop lo)→
   Tr ⟨E.wk,E.fn,some l,E.N⟩ assign (upd σ par (.agg (enc p))) [] h fun e σ' ds' h1=>e=.normal∧h1 l=some (true,.loop lo)∧∀h2,h2 l=some (true,.loop { lo with state:=.busy })→(∀b,b≠l→h2 b=h1 b)→
    Tr ⟨E.wk,E.fn,some l,E.N⟩ body σ' ds' h2 (RoundEnd hB J Stop (pre++[p]) Y h l lo))
  (fin:∀(d l:Nat) (h':GH),hB.Le h'→hB d=none→hB l=none→hc d=none→h' d=some (true,.deferred (some []))→
   (∀Y,J all Y h'→(∀b,Y b→b≠d)→Q .normal σ ({ target:=.collected d,args:=#[] } ::ds) h')∧
   (∀c,Stop c h'→match c with
    | .exit id=>Q (.exit id) σ ({ target:=.collected d,args:=#[] } ::ds) h'
    | .ret=>Q .ret σ ({ target:=.collected d,args:=#[] } ::ds) h'
    | _=>False)):Tr E (.rangeFunc f #[par] assign body) σ ds hc Q:=by
 refine tr_rangeFunc hrd fun t d l hs hd hl hne=>?_;have hl':hB l=none:=hB0.nothing hl;have hd':hB d=none:=hB0.nothing hd;let lo:Loop:={ state:=.ready,pending:=none,fn:=E.fn,tmps:=t,params:=#[par],assign,body,defers:=d };have nYl:¬Y0 l:=hJ.off j0 hl;have nYd:¬Y0 d:=hJ.off j0 hd;have hL1:((hc.set d true (.deferred (some []))).set l true (.loop lo)) l=some (true,.loop lo):=GH.set_same _ _ _ _;have hL2:((hc.set d true (.deferred (some []))).set l true (.loop lo)) d=some (true,.deferred (some [])):=by rw [GH.set_ne _ _ _ (Ne.symm hne)];exact GH.set_same _ _ _ _
 have hL3:∀b,b≠l→b≠d→((hc.set d true (.deferred (some []))).set l true (.loop lo)) b=hc b:=fun b h1 h2=>by rw [GH.set_ne _ _ _ h1,GH.set_ne _ _ _ h2]
 have hLB:hB.Le ((hc.set d true (.deferred (some []))).set l true (.loop lo)):=(hB0.trans (GH.Le.new hd _ _)).trans (GH.Le.new (by rw [GH.set_ne _ _ _ hne];exact hl) _ _);have hI0:LoopI J l d lo [] (fun b=>Y0 b∨b=l∨b=d) ((hc.set d true (.deferred (some []))).set l true (.loop lo)):=by
  refine ⟨Y0,hJ.stable _ _ hc _ j0 (fun b hb=>hL3 b (fun e=>nYl (e▸hb)) (fun e=>nYd (e▸hb))) hLB,fun b=>Iff.rfl,nYl,nYd,hL1,hL2⟩
 have prom:Prom hB (LoopI J l d lo):=by
  refine ⟨?_,?_⟩
  ·rintro pre X h b ⟨Y,j,hX,_,_,h1,h2⟩ hb;rcases (hX b).1 hb with h3 | rfl | rfl
   ·exact hJ.dom _ _ _ _ j h3
   ·exact ⟨_,_,h1,rfl⟩
   ·exact ⟨_,_,h2,rfl⟩
  ·rintro pre X h h' ⟨Y,j,hX,n1,n2,h1,h2⟩ same lB;refine ⟨Y,hJ.stable _ _ h h' j (fun b hb=>same b ((hX b).2 (.inl hb))) lB,hX,n1,n2,?_,?_⟩
   ·rw [same l ((hX l).2 (.inr (.inl rfl)))];exact h1
   ·rw [same d ((hX d).2 (.inr (.inr rfl)))];exact h2
 have yk:YieldK E.wk hB (.func (.yield l) #[] #[]) enc (LoopI J l d lo) (LoopS Stop l d lo) all:=by
  refine ⟨prom,rfl,?_⟩;rintro pre p post X h hall ⟨Y,j,hX,n1,n2,h1,h2⟩ lB;refine valK_yield h1 rfl ?_;have ef:(lo.params.zip #[Value.agg (enc p)]).foldl (fun tmps x=>tmps.setIfInBounds x.1 x.2) lo.tmps=t.setIfInBounds par (.agg (enc p)):=by simp [lo]
  rw [ef];show RoundK E.wk l E.fn (t.setIfInBounds par (.agg (enc p))) assign body h _;have hs':=hs.put hpar (.agg (enc p));refine round_of_tr (N:=E.N) hs'.1 ?_;have e0:(fun i=>(t.setIfInBounds par (.agg (enc p))).getD i undef)=upd σ par (.agg (enc p)):=funext hs'.2;rw [e0];refine tr_mono ?_ (round l d lo pre p post Y h hall j lB hl' n1 h1);rintro e σ' ds' ha ⟨rfl,ha1,hb⟩;refine ⟨rfl,lo,ha1,rfl,?_⟩;refine tr_mono ?_ (hb _ (GH.set_same _ _ _ _) fun b hb=>GH.set_ne _ _ _ hb);rintro e σ2 ds2 h3 ⟨g1,Y',g2,g3,g4,g5⟩;have hd3:h3 d=some (true,.deferred (some [])):=g3.box h2 (fun q=>q.elim n2 (fun e=>hne e.symm)) rfl;have nl:¬Y' l:=fun q=>(g2 l q).elim n1 fun e=>by rw [h1] at e;cases e
  have nd:¬Y' d:=fun q=>(g2 d q).elim n2 fun e=>by rw [h2] at e;cases e
  have key:∀(lo2:Loop) (ok:Bool),(if ok then J (pre++[p]) Y' (h3.set l true (.loop lo2))∧lo2=lo else LoopS Stop l d lo (h3.set l true (.loop lo2)))→YRes hB (LoopI J l d lo) (LoopS Stop l d lo) pre X h [p] (.bool ok) (h3.set l true (.loop lo2)):=by
   intro lo2 ok hok;refine ⟨ok,fun b=>Y' b∨b=l∨b=d,rfl,?_,?_,?_,?_,?_⟩
   ·rintro b (hb | rfl | rfl)
    ·exact (g2 b hb).imp (fun q=>(hX b).2 (.inl q)) id
    ·exact .inl ((hX _).2 (.inr (.inl rfl)))
    ·exact .inl ((hX _).2 (.inr (.inr rfl)))
   ·intro b q o hb hn;have nb:b≠l:=fun e=>hn ((hX b).2 (.inr (.inl e)));rw [GH.set_ne _ _ _ nb];exact g3 b q o hb fun q=>q.elim (fun z=>hn ((hX b).2 (.inl z))) nb
   ·exact g4.upd hl' fun b hb=>GH.set_ne _ _ _ hb
   ·rintro rfl;simp only [if_true] at hok;obtain ⟨hj,rfl⟩:=hok;exact ⟨Y',hj,fun b=>Iff.rfl,nl,nd,GH.set_same _ _ _ _,by rw [GH.set_ne _ _ _ (Ne.symm hne)];exact hd3⟩
   ·rintro rfl;simpa using hok
  have js:∀(lo2:Loop),J (pre++[p]) Y' h3→J (pre++[p]) Y' (h3.set l true (.loop lo2)):=fun lo2 hj=>hJ.store hj nl (fun b hb=>GH.set_ne _ _ _ hb) (g4.upd hl' fun b hb=>GH.set_ne _ _ _ hb);have ss:∀c (lo2:Loop),Stop c h3→Stop c (h3.set l true (.loop lo2)):=fun c lo2 hc=>hS c h3 _ l _ hc g1 fun b hb=>GH.set_ne _ _ _ hb;refine ⟨_,g1,?_⟩;cases e with
  | normal=>exact key _ true (by simp only [if_true];exact ⟨js _ g5,rfl⟩)
  | exit id=>exact key _ false (by simp only [Bool.false_eq_true,if_false];exact ⟨_,ss _ _ g5,GH.set_same _ _ _ _,by rw [GH.set_ne _ _ _ (Ne.symm hne)];exact hd3⟩)
  | ret=>exact key _ false (by simp only [Bool.false_eq_true,if_false];exact ⟨_,ss _ _ g5,GH.set_same _ _ _ _,by rw [GH.set_ne _ _ _ (Ne.symm hne)];exact hd3⟩)
  | goto _=>exact g5.elim
  | panic _=>exact g5.elim
  | outgrown=>exact g5.elim
 refine (src _ _ _ _ _ yk hLB hI0).mono ?_;rintro v h' ⟨X',hs',hk,hl2,hor⟩;rcases hor with ⟨Y,j,hX,n1,n2,h1,h2⟩ | ⟨c,hst,h1,h2⟩
 ·refine ⟨lo,h1,rfl,?_⟩;show Q .normal σ _ _;have hB':=hl2.upd hl' (fun b hb=>GH.set_ne h' true (.loop { lo with state:=.exhausted }) hb);refine (fin d l _ hB' hd' hl' hd (by rw [GH.set_ne _ _ _ (Ne.symm hne)];exact h2)).1 Y (hJ.store j n1 (fun b hb=>GH.set_ne _ _ _ hb) hB') fun b hb e=>n2 (e▸hb)
 ·refine ⟨_,h1,rfl,?_⟩;have hB':=hl2.upd hl' (fun b hb=>GH.set_ne h' true (.loop { { lo with state:=.done,pending:=some c } with state:=.exhausted }) hb)
  have:=(fin d l _ hB' hd' hl' hd (by rw [GH.set_ne _ _ _ (Ne.symm hne)];exact h2)).2 c (hS c h' _ l _ hst h1 fun b hb=>GH.set_ne _ _ _ hb)
  cases c with
  | exit id=>exact this
  | ret=>exact this
  | _=>exact this.elim
structure RSt (hB:GH) (X:Nat→Prop) (h hc:GH):Prop where
 keep:KeepX X h hc
 base:hB.Le hc
 dom:∀b,X b→∃o,hc b=some o
section
variable {hB h hc h':GH} {X:Nat→Prop}
theorem GH.Le.someOf {h h':GH} (l:h.Le h') {b:Nat} (x:∃o,h b=some o):∃o,h' b=some o:=by
 obtain ⟨o,hb⟩:=x;obtain ⟨o',h1,_⟩:=l b o.1 o.2 hb;exact ⟨_,h1⟩
theorem RSt.start (lB:hB.Le h) (d:∀b,X b→∃o,h b=some o):RSt hB X h h:=⟨KeepX.refl _ _,lB,d⟩
theorem RSt.le (r:RSt hB X h hc) (l:hc.Le h'):RSt hB X h h':=⟨r.keep.trans (fun _ q=>.inl q) (l.keepX X),r.base.trans l,fun b hb=>l.someOf (r.dom b hb)⟩
theorem RSt.nothing (r:RSt hB X h hc) {q:Nat} (hq:hc q=none):h q=none:=by
 cases hx:h q with
 | none=>rfl
 | some x=>
  by_cases hX:X q
  ·obtain ⟨o,ho⟩:=r.dom q hX;rw [hq] at ho;cases ho
  ·obtain ⟨o',h1,_⟩:=r.keep q x.1 x.2 hx hX;rw [hq] at h1;cases h1
theorem RSt.store (r:RSt hB X h hc) {q:Nat} (hq:X q∨h q=none) (rB:hB q=none) (ho:∀b,b≠q→h' b=hc b) (hn:∃o,h' q=some o):RSt hB X h h':=
 ⟨fun b p o hb hX=>by
   have nb:b≠q:=fun e=>by
    subst e;rcases hq with hq | hq
    ·exact hX hq
    ·rw [hq] at hb;cases hb
   rw [ho b nb];exact r.keep b p o hb hX,
  r.base.upd rB ho,fun b hb=>by
   by_cases e:b=q
   ·subst e;exact hn
   ·rw [ho b e];exact r.dom b hb⟩
theorem KeepX.app {v v':Value} (k:KeepX X h hc) (g:Grown hc h' v v') (hv:∀b,back v=some b→X b):KeepX X h h':=fun b p o hb hX=>by
 obtain ⟨o',h1,h2⟩:=k b p o hb hX;exact ⟨o',g.1 b _ h1 fun e=>hX (hv b e),h2⟩
theorem KeepX.store' {q:Nat} (k:KeepX X h hc) (hq:X q∨h q=none) (ho:∀b,b≠q→h' b=hc b):KeepX X h h':=fun b p o hb hX=>by
 have nb:b≠q:=fun e=>by
  subst e;rcases hq with hq | hq
  ·exact hX hq
  ·rw [hq] at hb;cases hb
 rw [ho b nb];exact k b p o hb hX
theorem KeepX.le' (k:KeepX X h hc) (l:hc.Le h'):KeepX X h h':=k.trans (fun _ q=>.inl q) (l.keepX X)
end
def GH.del (h:GH) (r:Nat):GH:=fun b=>if b=r then none else h b
theorem GH.del_le (h:GH) (r:Nat):(h.del r).Le h:=fun b p o hb=>by
 unfold GH.del at hb;split at hb
 ·cases hb
 ·exact ⟨o,hb,.inl rfl⟩
theorem GH.del_none (h:GH) (r:Nat):h.del r r=none:=if_pos rfl
theorem GH.del_ne {h:GH} {r b:Nat} (e:b≠r):h.del r b=h b:=if_neg e
theorem GH.Le.del {h0 h:GH} (l:h0.Le h) {r:Nat} (hr:h0 r=none):h0.Le (h.del r):=fun b p o hb=>by
 rw [GH.del_ne (GH.ne_of hb hr)];exact l b p o hb
theorem Elem.del {h:GH} {r b off n:Nat} {vs:Array Value} (x:Elem h b off n vs) (e:b≠r):Elem (h.del r) b off n vs:=x.same (GH.del_ne e)
theorem valK_at {W:Wk P} {x v:Value} {args:Array Value} {h:GH} {R:Value→GH→Prop} (e:x=v) (k:ValK W v args h R):ValK W x args h R:=e▸k
def JCol {α:Type} (hB:GH) (r:Nat) (T t:TypeId) (n:Nat) (enc:α→Array Value) (pre:List α) (Y:Nat→Prop) (h:GH):Prop:=
 ∃w,h r=some (true,.cells #[w] T (0,0))∧OwnSl hB h w t n enc pre∧Off w r∧hB r=none∧∀b,Y b↔b=r∨back w=some b
theorem OwnSl.cellsAt {α:Type} {h0 h:GH} {v:Value} {t:TypeId} {n:Nat} {enc:α→Array Value} {xs:List α} (x:OwnSl h0 h v t n enc xs):∀b,back v=some b→∃c,h b=some (true,.cells c t (0,0)):=by
 intro b hb;rcases x with ⟨rfl,_⟩ | ⟨b',cap,c,rfl,h1,h2,_⟩
 ·cases hb
 ·simp [back] at hb;subst hb;exact ⟨_,h2⟩
theorem jcol_prom {α:Type} (hB:GH) (r:Nat) (T t:TypeId) (n:Nat) (enc:α→Array Value):Prom hB (JCol hB r T t n enc):=by
 refine ⟨?_,?_⟩
 ·rintro pre Y h b ⟨w,h1,h2,h3,h0,h4⟩ hb;rcases (h4 b).1 hb with rfl | h5
  ·exact ⟨_,_,h1,rfl⟩
  ·obtain ⟨c,hc⟩:=h2.cellsAt b h5;exact ⟨_,_,hc,rfl⟩
 ·rintro pre Y h h' ⟨w,h1,h2,h3,h0,h4⟩ same lB;refine ⟨w,by rw [same r ((h4 r).2 (.inl rfl))];exact h1,h2.keep fun b o hb ho=>by rw [same b ((h4 b).2 (.inr hb))];exact ho,h3,h0,h4⟩
theorem jcol_start {α:Type} {hB h:GH} {r:Nat} {T t:TypeId} {n:Nat} {enc:α→Array Value} (x:h r=some (true,.cells #[.slice none 0 0] T (0,0))) (h0:hB r=none):JCol hB r T t n enc [] (fun b=>b=r) h:=
 ⟨_,x,OwnSl.nil _ _ _ _ _,Off.nil,h0,fun _=>⟨.inl,fun q=>q.elim id fun e=>by cases e⟩⟩
theorem jcol_end {α:Type} {hB h h' ha hb:GH} {r:Nat} {T t:TypeId} {n:Nat} {enc:α→Array Value} {pre:List α} {w w':Value} {Y:Nat→Prop} (hY:∀b,Y b↔b=r∨back w=some b) (g:Grown ha hb w w') (hn:∀q,ha q=none→h q=none)
  (x:h' r=some (true,.cells #[w'] T (0,0))) (o:OwnSl hB h' w' t n enc pre) (f:Off w' r) (h0:hB r=none) :
  ∃Y',(∀b,Y' b→Y b∨h b=none)∧JCol hB r T t n enc pre Y' h':=by
 refine ⟨fun b=>b=r∨back w'=some b,?_,w',x,o,f,h0,fun _=>Iff.rfl⟩;rintro b (rfl | hb)
 ·exact .inl ((hY _).2 (.inl rfl))
 ·rcases g.2 with e | ⟨⟨q,e1,e2⟩,_⟩
  ·exact .inl ((hY _).2 (.inr (by rw [←e];exact hb)))
  ·rw [e1] at hb;cases hb;exact .inr (hn _ e2)
theorem outs_mark {fn:Func} {σ:Nat→Value} {R:Value→GH→Prop} {d:Nat} {ds:List Deferred} {h:GH} (hd:h d=some (true,.deferred (some []))) (x:∀h',(∀b,b≠d→h' b=h b)→Outs P fn σ R ds h') :
  Outs P fn σ R ({ target:=.collected d,args:=#[] } ::ds) h:=⟨d,rfl,_,hd,rfl,x _ fun b hb=>GH.set_ne _ _ _ hb⟩
end
end Go.Ns
namespace Go.Ns
open Go.Conc
section
variable {P:Program} {E:Env P}
abbrev Law2:=(Nat→Value)→Value→GH→Prop
def lawAt2 (Φ:List Law2) (k:Nat):Law2:=Φ.getD k fun _ _ _=>True
def Known2 (ops:List Oper) (Φ:List Law2) (σ:Nat→Value) (h:GH) (j:Nat):Prop:=match ops[j]? with
 | some o=>GuardIs ops o σ→lawAt2 Φ j σ (slotV o σ) h
 | none=>True
def Knowns2 (ops:List Oper) (Φ:List Law2) (σ:Nat→Value) (h:GH):List Nat→Prop
 | []=>True
 | j ::l=>Known2 ops Φ σ h j∧Knowns2 ops Φ σ h l
theorem Knowns2.get {ops:List Oper} {Φ:List Law2} {σ:Nat→Value} {h:GH}:∀{l:List Nat},(∀j ∈ l,Known2 ops Φ σ h j)→Knowns2 ops Φ σ h l
 | [],_=>trivial
 | j ::l,x=>⟨x j (by simp),Knowns2.get fun i hi=>x i (by simp [hi])⟩
def IndepOK (l:List Oper) (n:Nat) (cls:List (List Nat)) (Φ:List Law2):Prop:=
 ∀k i oi d,k<n→i<n→i≠k→i ∉ cls.getD k []→l[i]? =some oi→oi.dst=some d→∀σ u v h,lawAt2 Φ k σ v h→lawAt2 Φ k (upd σ d u) v h
def drawOK2 (N:Nat) (ops:List Oper) (n:Nat) (cls:List (List Nat)):Bool:=
 Nat.ble n ops.length && cls.length==n && decide (dsts ops n).Nodup &&
 (List.range ops.length).all fun i=>match ops[i]? with
  | none=>false
  | some o=>(o.after.all fun e=> !Region.binds .any e || Nat.blt e.on i) &&
   if Nat.blt i n then
    dstOK o.dst N && !isDefer o.op && (match o.guard with | none=>true | some (j,_)=>anyOn o j) &&
    ((cls.getD i []).all fun j=>Nat.blt j i && (anyOn o j || (List.range i).any fun e=>anyOn o e && (cls.getD e []).contains j))
   else (List.range i).all fun j=>anyOn o j || (Nat.blt j n && (List.range n).any fun e=>anyOn o e && (cls.getD e []).contains j) || (List.range i).any fun e=>Nat.ble n e && Nat.blt j e && anyOn o e
theorem go_suffix2 {ops:Array Oper} {N n:Nat} {l:List Oper} {cls:List (List Nat)} (hl:ops=l.toArray) (ok:drawOK2 N l n cls=true) :
  ∀(fuel t i:Nat) (listed:Array Bool),n≤i→i≤l.length→l.length-i≤fuel→listed.size=l.length→(∀j,j<l.length→listed.getD j false=decide (j<i))→
   Region.linearise.go .any ops fuel t listed []=List.range' i (l.length-i):=by
 subst hl;unfold drawOK2 at ok;simp only [Bool.and_eq_true] at ok;obtain ⟨⟨⟨ok1,ok2⟩,ok3⟩,ok4⟩:=ok;intro fuel
 induction fuel with
 | zero=>intro t i listed _ _ h0 _ _;rw [show l.length-i=0 by omega];rfl
 | succ fuel ih=>
  intro t i listed hn hi hf hsz hL;by_cases hil0:i=l.length
  ·have hnone:Region.ready .any l.toArray listed=[]:=by
    unfold Region.ready;rw [List.filter_eq_nil_iff];intro j hj;have hj':j<l.length:=by simpa using hj
    have hg:listed.getD j true=decide (j<i):=by
     rw [←hL j hj'];simp [Array.getD_eq_getD_getElem?,hsz,hj']
    rw [hg];simp [show j<i by omega]
   simp only [Region.linearise.go];change (match (Region.ready .any l.toArray listed)[t%(Region.ready .any l.toArray listed).length]? with
    | some i=>Region.linearise.go .any l.toArray fuel (t / (Region.ready .any l.toArray listed).length) (listed.setIfInBounds i true) [i]
    | none=>[].reverse)=_
   rw [hnone,show l.length-i=0 by omega];rfl
  have hready:Region.ready .any l.toArray listed=[i]:=by
   unfold Region.ready;have key:∀j,j<l.length→((!listed.getD j true && ((l.toArray[j]?).map (·.after.all fun e=> !Region.binds .any e || listed.getD e.on false)).getD false)=decide (j=i)):=by
    intro j hj;have hg:listed.getD j true=decide (j<i):=by
     rw [←hL j hj];simp [Array.getD_eq_getD_getElem?,hsz,hj]
    have hoj:l[j]? =some l[j]:=List.getElem?_eq_getElem hj;have o4:=all_range ok4 hj;simp only [hoj,Bool.and_eq_true] at o4;rcases Nat.lt_trichotomy j i with hlt | heq | hgt
    ·rw [hg];simp [hlt];omega
    ·subst heq;rw [hg];simp only [Nat.lt_irrefl,decide_false,Bool.not_false,Bool.true_and,decide_true]
     have:l.toArray[j]? =some l[j]:=by simpa using hoj
     rw [this];simp only [Option.map_some,Option.getD_some];have o5:=o4.1;rw [Array.all_eq_true] at o5 ⊢;intro k hk
     have:=o5 k hk
     simp only [Bool.or_eq_true,Bool.not_eq_true'] at this ⊢;rcases this with e | e
     ·exact .inl e
     ·right;have e':(l[j].after[k]).on<j:=Nat.blt_eq▸e;rw [hL _ (by omega)];simpa using e'
    ·rw [hg];have h1:¬j<i:=by omega
     have h2:Nat.blt j n=false:=by
      cases h:Nat.blt j n with
      | false=>rfl
      | true=>have:j<n:=Nat.blt_eq▸h;omega
     have o5:=o4.2;rw [h2] at o5;simp only [Bool.false_eq_true,if_false] at o5;have o6':=all_range o5 hgt;have hin':Nat.blt i n=false:=by
      cases h:Nat.blt i n with
      | false=>rfl
      | true=>have:i<n:=Nat.blt_eq▸h;omega
     rw [hin'] at o6';simp only [Bool.false_and,Bool.or_false,Bool.or_eq_true] at o6';obtain ⟨i',hi',hij',o6⟩:∃i',i≤i'∧i'<j∧anyOn l[j] i'=true:=by
      rcases o6' with q | q
      ·exact ⟨i,Nat.le_refl _,hgt,q⟩
      ·rw [List.any_eq_true] at q;obtain ⟨e,he,q2⟩:=q;simp only [Bool.and_eq_true] at q2;have q3:i<e:=Nat.blt_eq▸q2.1.2;exact ⟨e,by omega,List.mem_range.1 he,q2.2⟩
     have:l.toArray[j]? =some l[j]:=by simpa using hoj
     rw [this];simp only [Option.map_some,Option.getD_some];have hne:¬j=i:=by omega
     simp only [hne,decide_false,Bool.and_eq_false_iff];right;unfold anyOn at o6;rw [Array.any_eq_true] at o6;obtain ⟨k,hk,e⟩:=o6;simp only [Bool.and_eq_true,beq_iff_eq] at e;rw [Array.all_eq_false];refine ⟨k,hk,?_⟩
     have:=hL i' (by omega)
     rw [decide_eq_false (by omega)] at this;simp [e.1,e.2,this]
   have:(List.range l.toArray.size).filter (fun j=> !listed.getD j true && ((l.toArray[j]?).map (·.after.all fun e=> !Region.binds .any e || listed.getD e.on false)).getD false)=(List.range l.length).filter (fun j=>decide (j=i)):=by
    rw [List.size_toArray];exact List.filter_congr fun j hj=>key j (List.mem_range.1 hj)
   rw [this];have hil:i<l.length:=by omega
   clear this key ih hL ok4
   have:∀m,(List.range m).filter (fun j=>decide (j=i))=if i<m then [i] else []:=by
    intro m
    induction m with
    | zero=>simp
    | succ m ih=>
     rw [List.range_succ,List.filter_append,ih];by_cases h1:i<m
     ·have h2:i<m+1:=by omega
      have h3:¬m=i:=by omega
      simp [h1,h2,h3]
     ·by_cases h2:m=i
      ·subst h2;simp
      ·have h3:¬i<m+1:=by omega
       simp [h1,h2,h3]
   rw [this,if_pos hil]
  simp only [Region.linearise.go];change (match (Region.ready .any l.toArray listed)[t%(Region.ready .any l.toArray listed).length]? with
   | some i=>Region.linearise.go .any l.toArray fuel (t / (Region.ready .any l.toArray listed).length) (listed.setIfInBounds i true) [i]
   | none=>[].reverse)=_
  rw [hready];simp only [List.length_singleton,Nat.mod_one,List.getElem?_cons_zero,Nat.div_one];rw [linearise_go_acc,List.reverse_singleton,List.singleton_append,show l.length-i=(l.length-(i+1))+1 by omega,List.range'_succ];rw [ih t (i+1) _ (by omega) (by omega) (by omega) (by simpa using hsz)];intro j hj;rw [Array.getD_eq_getD_getElem?,Array.getElem?_setIfInBounds];by_cases hij:i=j
  ·subst hij;simp [hsz,hj]
  ·rw [if_neg hij,←Array.getD_eq_getD_getElem?,hL j hj];by_cases h1:j<i
   ·have:j<i+1:=by omega
    simp [h1,this]
   ·have:¬j<i+1:=by omega
    simp [h1,this]
def St (R:GH→GH→Prop) (Pre:Nat→GH→Prop) (Φ:List Law2) (cl:List Nat) (k:Nat) (h h':GH):Prop:=R h h'∧(∀j,j≠k→∀σ v,lawAt2 Φ j σ v h→lawAt2 Φ j σ v h')∧∀j,j≠k→j ∉ cl→Pre j h→Pre j h'
def StepAt2 (R:GH→GH→Prop) (Pre:Nat→GH→Prop) (E:Env P) (ops:List Oper) (n:Nat) (Φ:List Law2) (σ:Nat→Value) (ds:List Deferred) (h:GH) (k:Nat) (o:Oper) (cl:List Nat):Prop:=
 ∀σ' h',R h h'→(∀t,(dsts ops n).contains t=false→σ' t=σ t)→Knowns2 ops Φ σ' h' cl→GuardIs ops o σ'→Pre k h'→
  OpK E o σ' ds h' fun σ'' ds'' h''=>ds''=ds∧St R Pre Φ cl k h' h''∧∃v,σ''=putS σ' o.dst v∧lawAt2 Φ k σ'' v h''∧(o.dst=none→v=undef)
def DrAll2 (R:GH→GH→Prop) (Pre:Nat→GH→Prop) (E:Env P) (ops:List Oper) (n:Nat) (Φ:List Law2) (σ:Nat→Value) (ds:List Deferred) (h:GH) (Q:Post):Nat→Nat→List Oper→List (List Nat)→Prop
 | 0,k,rest,_=>∀σ' h',R h h'→(∀t,(dsts ops n).contains t=false→σ' t=σ t)→Knowns2 ops Φ σ' h' (List.range k)→TrL E ops.toArray rest σ' ds h' Q
 | m+1,k,o ::rest,cl ::cls=>StepAt2 R Pre E ops n Φ σ ds h k o cl∧DrAll2 R Pre E ops n Φ σ ds h Q m (k+1) rest cls
 | _,_,_,_=>False
theorem DrAll2.at {R:GH→GH→Prop} {Pre:Nat→GH→Prop} {ops:List Oper} {n:Nat} {Φ:List Law2} {σ:Nat→Value} {ds:List Deferred} {h:GH} {Q:Post}:∀(m k:Nat) (rest:List Oper) (cls:List (List Nat)),
  DrAll2 R Pre E ops n Φ σ ds h Q m k rest cls→(∀i o,i<m→rest[i]? =some o→StepAt2 R Pre E ops n Φ σ ds h (k+i) o (cls.getD i []))∧
   (∀σ' h',R h h'→(∀t,(dsts ops n).contains t=false→σ' t=σ t)→Knowns2 ops Φ σ' h' (List.range (k+m))→TrL E ops.toArray (rest.drop m) σ' ds h' Q)
 | 0,k,rest,cls,x=>⟨fun i o hi=>by omega,x⟩
 | m+1,k,[],cls,x=>by cases cls <;> exact x.elim
 | m+1,k,o ::rest,[],x=>x.elim
 | m+1,k,o ::rest,cl ::cls,x=>by
  obtain ⟨h1,h2⟩:=x;obtain ⟨a,b⟩:=DrAll2.at m (k+1) rest cls h2;refine ⟨fun i o' hi ho=>?_,fun σ' h' hl hb hk=>?_⟩
  ·cases i with
   | zero=>simp at ho;subst ho;exact h1
   | succ i=>have:=a i o' (by omega) (by simpa using ho);rw [show k+(i+1)=k+1+i by omega];simpa using this
  ·rw [List.drop_succ_cons];exact b σ' h' hl hb (by rw [show k+1+m=k+(m+1) by omega];exact hk)
structure DrawInv2 (R:GH→GH→Prop) (Pre:Nat→GH→Prop) (E:Env P) (l:List Oper) (n:Nat) (cls:List (List Nat)) (Φ:List Law2) (σ:Nat→Value) (h:GH) (listed:Array Bool) (σ':Nat→Value) (h':GH):Prop where
 le:R h h'
 base:∀t,(dsts l n).contains t=false→σ' t=σ t
 size:listed.size=l.length
 done:∀j,j<n→listed.getD j false=true→Known2 l Φ σ' h' j
 clos:∀j,j<n→listed.getD j false=true→∀i ∈ cls.getD j [],i<n∧listed.getD i false=true
 grd:∀j o,j<n→listed.getD j false=true→l[j]? =some o→∀g w,o.guard=some (g,w)→listed.getD g false=true
 suf:∀j,n≤j→j<l.length→listed.getD j false=false
 pend:∀j,j<n→listed.getD j false=false→Pre j h'
theorem tr_draw2 (R:GH→GH→Prop) {id:Nat} {l:List Oper} {σ:Nat→Value} {ds:List Deferred} {h:GH} {Q:Post} (n:Nat) (cls:List (List Nat)) (Φ:List Law2) (Pre:Nat→GH→Prop)
  (hm:P.follows .mixedOrders=true) (ok:drawOK2 E.N l n cls=true) (rr:∀h,R h h) (rt:∀a b c,R a b→R b c→R a c) (p0:∀k,k<n→Pre k h) (ind:IndepOK l n cls Φ)
  (x:DrAll2 R Pre E l n Φ σ ds h Q n 0 l cls):Tr E (.region id l.toArray true) σ ds h Q:=by
 obtain ⟨steps,fin⟩:=DrAll2.at n 0 l cls x;simp only [Nat.zero_add] at steps fin;have ok':=ok;unfold drawOK2 at ok;simp only [Bool.and_eq_true] at ok;obtain ⟨⟨⟨ok1,ok2⟩,ok3⟩,ok4⟩:=ok;have nd:(dsts l n).Nodup:=of_decide_eq_true ok3;have hnl:n≤l.length:=Nat.ble_eq▸ok1;intro b k cs L t hb hr hl hs hq;have suffix:∀(fuel tp:Nat) (listed:Array Bool) (σ':Nat→Value) (h':GH) (t:Array Value),DrawInv2 R Pre E l n cls Φ σ h listed σ' h'→(∀j,j<n→listed.getD j false=true)→listed.toList.count false≤fuel→SlotsAre t E.N σ'→
   E.wk.K (G (fat b t ds (.inRegion l.toArray (Region.linearise.go .any l.toArray fuel tp listed []) ::k)) cs) h':=by
  intro fuel tp listed σ' h' t I hall hcnt hst;have hsz:=I.size;have hL:∀j,j<l.length→listed.getD j false=decide (j<n):=fun j hj=>by
   by_cases h1:j<n
   ·rw [hall j h1];simp [h1]
   ·rw [I.suf j (by omega) hj];simp [h1]
  have e:Region.linearise.go .any l.toArray fuel tp listed []=List.range' n (l.drop n).length:=by
   have hcl:listed.toList=List.replicate n true++List.replicate (l.length-n) false:=by
    refine List.ext_getElem (by simp [hsz];omega) fun j h1 h2=>?_;have h1':j<l.length:=by simpa [hsz] using h1
    have hb:=hL j h1';have h1'':j<listed.size:=by omega
    rw [Array.getD_eq_getD_getElem?,Array.getElem?_eq_getElem h1'',Option.getD_some] at hb;rw [Array.getElem_toList,hb,List.getElem_append];split
    ·rename_i h3;have h4:j<n:=by simpa using h3
     simp [h4]
    ·rename_i h3;have h4:¬j<n:=by simpa using h3
     simp [h4]
   have hc:l.length-n≤fuel:=by rw [hcl] at hcnt;simpa [List.count_append,List.count_replicate] using hcnt
   rw [List.length_drop];exact go_suffix2 (ops:=l.toArray) rfl ok' fuel tp n listed (Nat.le_refl _) hnl hc hsz hL
  rw [e];exact fin σ' h' I.le I.base (Knowns2.get fun j hj=>I.done j (List.mem_range.1 hj) (hall j (List.mem_range.1 hj))) n b k cs L t (fun j=>by simp) hb hr hl hst hq
 have key:∀(fuel tp:Nat) (listed:Array Bool) (σ':Nat→Value) (h':GH) (t:Array Value),DrawInv2 R Pre E l n cls Φ σ h listed σ' h'→listed.toList.count false≤fuel→SlotsAre t E.N σ'→
   E.wk.K (G (fat b t ds (.inRegion l.toArray (Region.linearise.go .any l.toArray fuel tp listed []) ::k)) cs) h':=by
  intro fuel
  induction fuel with
  | zero=>
   intro tp listed σ' h' t I hcnt hst;exact suffix 0 tp listed σ' h' t I (by
    intro j hj;cases hb:listed.getD j false with
    | true=>rfl
    | false=>
     have hsz:=I.size;have hlt:j<listed.size:=by omega
     have:false ∈ listed.toList:=by
      rw [Array.getD_eq_getD_getElem?,Array.getElem?_eq_getElem hlt,Option.getD_some] at hb;rw [←hb];simp
     have:=List.count_pos_iff.2 this
     omega) hcnt hst
  | succ fuel ih=>
   intro tp listed σ' h' t I hcnt hst;by_cases hall:∀j,j<n→listed.getD j false=true
   ·exact suffix (fuel+1) tp listed σ' h' t I hall hcnt hst
   have hsz:=I.size;have hready:∃i0,i0<n∧listed.getD i0 false=false∧∀j,j<i0→listed.getD j false=true:=by
    have hex:∃j,j<n∧listed.getD j false=false:=by
     refine Classical.byContradiction fun hc=>hall fun j hj=>?_;cases hb:listed.getD j false with
     | true=>rfl
     | false=>exact absurd ⟨j,hj,hb⟩ hc
    obtain ⟨j,hj⟩:=hex
    induction j using Nat.strongRecOn with
    | ind j ihj=>
     by_cases hz:∃i,i<j∧listed.getD i false=false
     ·obtain ⟨i,hi,hi'⟩:=hz;exact ihj i hi ⟨by omega,hi'⟩
     ·refine ⟨j,hj.1,hj.2,fun i hi=>?_⟩;cases hb:listed.getD i false with
      | true=>rfl
      | false=>exact absurd ⟨i,hi,hb⟩ hz
   obtain ⟨i0,hi0,hl0,hb0⟩:=hready;have hget:∀j,j<l.length→listed.getD j true=listed.getD j false:=fun j hj=>by
    have hlt:j<listed.size:=by omega
    simp [Array.getD_eq_getD_getElem?,Array.getElem?_eq_getElem hlt]
   have hmem:∀i,i ∈ Region.ready .any l.toArray listed↔i<l.length∧listed.getD i false=false∧∀o,l[i]? =some o→∀e ∈ o.after,Region.binds .any e=true→listed.getD e.on false=true:=by
    intro i;unfold Region.ready;rw [List.mem_filter,List.mem_range,List.size_toArray];constructor
    ·rintro ⟨hi,x⟩;rw [hget i hi] at x;have hoi:l.toArray[i]? =some l[i]:=by simp [hi]
     rw [hoi] at x;simp only [Option.map_some,Option.getD_some,Bool.and_eq_true,Bool.not_eq_true'] at x;refine ⟨hi,x.1,fun o ho e he hbd=>?_⟩;rw [List.getElem?_eq_getElem hi] at ho;cases ho
     have:=(Array.all_eq_true_iff_forall_mem.1 x.2) e he
     simpa [hbd] using this
    ·rintro ⟨hi,x1,x2⟩;refine ⟨hi,?_⟩;rw [hget i hi];have hoi:l.toArray[i]? =some l[i]:=by simp [hi]
     rw [hoi];simp only [Option.map_some,Option.getD_some,Bool.and_eq_true,Bool.not_eq_true'];refine ⟨x1,Array.all_eq_true_iff_forall_mem.2 fun e he=>?_⟩;cases hbd:Region.binds .any e with
     | false=>rfl
     | true=>simpa using x2 _ (List.getElem?_eq_getElem hi) e he hbd
   have hi0r:i0 ∈ Region.ready .any l.toArray listed:=by
    rw [hmem];refine ⟨by omega,hl0,fun o ho e he hbd=>?_⟩;have o4:=all_range ok4 (show i0<l.length by omega);simp only [ho,Bool.and_eq_true] at o4
    have:=(Array.all_eq_true_iff_forall_mem.1 o4.1) e he
    simp only [hbd,Bool.not_true,Bool.false_or] at this;exact hb0 _ (Nat.blt_eq▸this)
   simp only [Region.linearise.go];change E.wk.K (G (fat b t ds (.inRegion l.toArray (match (Region.ready .any l.toArray listed)[tp%(Region.ready .any l.toArray listed).length]? with
    | some i=>Region.linearise.go .any l.toArray fuel (tp / (Region.ready .any l.toArray listed).length) (listed.setIfInBounds i true) [i]
    | none=>[].reverse) ::k)) cs) h'
   cases hi:(Region.ready .any l.toArray listed)[tp%(Region.ready .any l.toArray listed).length]? with
   | none=>
    exfalso;have hpos:0<(Region.ready .any l.toArray listed).length:=List.length_pos_of_mem hi0r
    have:=Nat.mod_lt tp hpos
    rw [List.getElem?_eq_none_iff] at hi;omega
   | some i=>
    simp only [];have him:=(hmem i).1 (List.mem_of_getElem? hi);obtain ⟨hil,hiu,hie⟩:=him;obtain ⟨o,ho⟩:∃o,l[i]? =some o:=⟨_,List.getElem?_eq_getElem hil⟩;have o4:=all_range ok4 hil;simp only [ho,Bool.and_eq_true] at o4;have hin:i<n:=by
     refine Classical.byContradiction fun hc=>?_;have h2:Nat.blt i n=false:=by
      cases h:Nat.blt i n with
      | false=>rfl
      | true=>exact absurd (Nat.blt_eq▸h) hc
     have o5:=o4.2;rw [h2] at o5;simp only [Bool.false_eq_true,if_false] at o5;have o6:=all_range o5 (show i0<i by omega);have onL:∀j,anyOn o j=true→listed.getD j false=true:=fun j hj=>by
      unfold anyOn at hj;rw [Array.any_eq_true] at hj;obtain ⟨q,hq',e⟩:=hj;simp only [Bool.and_eq_true,beq_iff_eq] at e
      have:=hie o ho _ (Array.getElem_mem hq') e.1
      rw [e.2] at this;exact this
     simp only [Bool.or_eq_true,Bool.and_eq_true] at o6;rcases o6 with (o6 | ⟨_,o6⟩) | o6
     rotate_left 2
     ·rw [List.any_eq_true] at o6;obtain ⟨e,he,h2⟩:=o6;simp only [Bool.and_eq_true] at h2;have h3:=onL e h2.2;have h4:n≤e:=Nat.ble_eq▸h2.1.1;have h5:e<i:=List.mem_range.1 he;rw [I.suf e h4 (by omega)] at h3;cases h3
     ·have:=onL _ o6
      rw [hl0] at this;cases this
     ·rw [List.any_eq_true] at o6;obtain ⟨e,he,h2⟩:=o6;simp only [Bool.and_eq_true] at h2
      have:=(I.clos e (List.mem_range.1 he) (onL e h2.1) i0 (by simpa using h2.2)).2
      rw [hl0] at this;cases this
    have hbl:Nat.blt i n=true:=by rw [Nat.blt_eq];exact hin
    have o5:=o4.2;rw [hbl] at o5;simp only [if_true,Bool.and_eq_true,Bool.not_eq_true'] at o5;obtain ⟨⟨⟨d2,d3⟩,d4⟩,d5⟩:=o5;have anyL:∀j,anyOn o j=true→listed.getD j false=true:=fun j hj=>by
     unfold anyOn at hj;rw [Array.any_eq_true] at hj;obtain ⟨q,hq',e⟩:=hj;simp only [Bool.and_eq_true,beq_iff_eq] at e
     have:=hie o ho _ (Array.getElem_mem hq') e.1
     rw [e.2] at this;exact this
    have hgl:∀g w,o.guard=some (g,w)→listed.getD g false=true:=fun g w hg=>by
     rw [hg] at d4;exact anyL g d4
    have hlt:∀j,listed.getD j false=true→j<n:=fun j hj=>by
     by_cases h1:j<l.length
     ·by_cases h2:j<n
      ·exact h2
      ·rw [I.suf j (by omega) h1] at hj;cases hj
     ·have:listed.getD j false=false:=by
       rw [Array.getD_eq_getD_getElem?,Array.getElem?_eq_none (by omega)];rfl
      rw [this] at hj;cases hj
    have hcl:∀j ∈ cls.getD i [],j<n∧listed.getD j false=true:=fun j hj=>by
     have:=(List.all_eq_true.1 d5) j hj
     simp only [Bool.and_eq_true,Bool.or_eq_true] at this;rcases this.2 with h1 | h1
     ·exact ⟨hlt j (anyL j h1),anyL j h1⟩
     ·rw [List.any_eq_true] at h1;obtain ⟨e,_,h2⟩:=h1;simp only [Bool.and_eq_true] at h2;have hle:=anyL e h2.1;exact I.clos e (hlt e hle) hle j (by simpa using h2.2)
    rw [linearise_go_acc,List.reverse_singleton,List.singleton_append];have next:∀(σ2:Nat→Value) (h2:GH) (v:Value),σ2=putS σ' o.dst v→St R Pre Φ (cls.getD i []) i h' h2→(GuardIs l o σ2→lawAt2 Φ i σ2 v h2)→(o.dst=none→v=undef)→DrawInv2 R Pre E l n cls Φ σ h (listed.setIfInBounds i true) σ2 h2:=by
     rintro σ2 h2 v rfl hle hlaw hun;have hset:∀j,(listed.setIfInBounds i true).getD j false=if i=j then true else listed.getD j false:=fun j=>by
      rw [Array.getD_eq_getD_getElem?,Array.getElem?_setIfInBounds];by_cases hij:i=j
      ·subst hij;simp [hsz,hil]
      ·rw [if_neg hij,if_neg hij,Array.getD_eq_getD_getElem?]
     have hkeep:∀j oj e,j<n→j≠i→l[j]? =some oj→oj.dst=some e→putS σ' o.dst v e=σ' e:=fun j oj e hj hji hoj he=>by
      cases hd:o.dst with
      | none=>rfl
      | some d=>
      have hne:e≠d:=dst_ne nd hin hj (fun x=>hji x.symm) ho hoj hd he;exact upd_ne σ' v (beq_ne hne)
     refine ⟨rt _ _ _ I.le hle.1,fun u hu=>?_,by simpa using hsz,fun j hj hjl=>?_,fun j hj hjl q hq'=>?_,fun j oj hj hjl hoj g w hg=>?_,fun j hj hjl=>?_,fun j hj hjl=>?_⟩
     ·rw [←I.base u hu];cases hd:o.dst with
      | none=>rfl
      | some d=>
      refine upd_ne σ' v ?_;have hm:d ∈ dsts l n:=by
       simp only [dsts,List.mem_filterMap];refine ⟨o,?_,hd⟩
       have:(l.take n)[i]? =some o:=by rw [List.getElem?_take];simp [hin,ho]
       exact List.mem_of_getElem? this
      have:u≠d:=fun e=>by
       subst e
       have:=List.contains_iff_mem.2 hm
       rw [hu] at this;cases this
      exact beq_ne this
     ·rw [hset] at hjl;by_cases hij:i=j
      ·subst hij;unfold Known2;rw [ho];intro hg
       have:slotV o (putS σ' o.dst v)=v:=by
        cases hd:o.dst with
        | none=>rw [hun hd];simp [slotV,hd]
        | some d=>simp [slotV,hd,putS,upd]
       rw [this];exact hlaw hg
      ·rw [if_neg hij] at hjl;have K:=I.done j hj hjl;unfold Known2 at K ⊢;cases hoj:l[j]? with
       | none=>trivial
       | some oj=>
        rw [hoj] at K;simp only at K ⊢;intro hg;have hg':GuardIs l oj σ':=hg.congr fun g w og dg hgw hog hdg=>by
         have hgl':=I.grd j oj hj hjl hoj g w hgw;have hgi:g≠i:=fun e=>by rw [e,hiu] at hgl';cases hgl'
         exact (hkeep g og dg (hlt g hgl') hgi hog hdg)
        have hji:i ∉ cls.getD j []:=fun q=>by rw [(I.clos j hj hjl i q).2] at hiu;cases hiu
        have:=hle.2.1 j (fun e=>hij e.symm) _ _ (K hg')
        have hput:∀w,lawAt2 Φ j σ' w h2→lawAt2 Φ j (putS σ' o.dst v) w h2:=fun w q=>by
         cases hd:o.dst with
         | none=>exact q
         | some d=>exact ind j i o d hj hin hij hji ho hd σ' v w h2 q
        have:=hput _ this
        have hsv:slotV oj (putS σ' o.dst v)=slotV oj σ':=by
         unfold slotV;cases hdj:oj.dst with
         | none=>rfl
         | some e=>exact hkeep j oj e hj (fun x=>hij x.symm) hoj hdj
        rw [hsv];exact this
     ·rw [hset] at hjl
      have:q<n∧listed.getD q false=true:=by
       by_cases hij:i=j
       ·subst hij;exact hcl q hq'
       ·rw [if_neg hij] at hjl;exact I.clos j hj hjl q hq'
      refine ⟨this.1,?_⟩;rw [hset];split
      ·rfl
      ·exact this.2
     ·rw [hset] at hjl
      have:listed.getD g false=true:=by
       by_cases hij:i=j
       ·subst hij;rw [ho] at hoj;cases hoj;exact hgl g w hg
       ·rw [if_neg hij] at hjl;exact I.grd j oj hj hjl hoj g w hg
      rw [hset];split
      ·rfl
      ·exact this
     ·rw [hset,if_neg (by omega)];exact I.suf j hj hjl
     ·rw [hset] at hjl;by_cases hij:i=j
      ·rw [if_pos hij] at hjl;cases hjl
      ·rw [if_neg hij] at hjl;exact hle.2.2 j (fun e=>hij e.symm) (fun q=>by rw [(hcl j q).2] at hjl;cases hjl) (I.pend j hj hjl)
    have hcnt':(listed.setIfInBounds i true).toList.count false≤fuel:=by
     rw [Array.toList_setIfInBounds];have hlt':i<listed.toList.length:=by simpa [hsz] using hil
     rw [List.count_set hlt'];have hlt2:i<listed.size:=by simpa using hlt'
     have h3:listed.toList[i]=false:=by
      rw [Array.getD_eq_getD_getElem?,Array.getElem?_eq_getElem hlt2,Option.getD_some] at hiu;simpa using hiu
     rw [h3];simp;have h4:=List.count_pos_iff.2 (List.getElem_mem hlt');rw [h3] at h4;have h5:Array.count false listed=listed.toList.count false:=by simp
     omega
    have hgN:∀g w og dg,o.guard=some (g,w)→l[g]? =some og→og.dst=some dg→dg<E.N:=fun g w og dg hgw hog hdg=>by
     have hgn:=hlt g (hgl g w hgw);have o6:=all_range ok4 (show g<l.length by omega);simp only [hog,Bool.and_eq_true] at o6;have hbg:Nat.blt g n=true:=by rw [Nat.blt_eq];exact hgn
     have o7:=o6.2;rw [hbg] at o7;simp only [if_true,Bool.and_eq_true] at o7
     have:=o7.1.1.1
     rw [hdg] at this;exact Nat.blt_eq▸this
    have hwant:Region.wanted o (yielded l.toArray t)=true↔GuardIs l o σ':=by
     unfold Region.wanted GuardIs;cases hg:o.guard with
     | none=>simp
     | some x=>
      obtain ⟨g,w⟩:=x;simp only [yielded];have e0:l.toArray[g]? =l[g]? :=by simp
      rw [e0];cases hog:l[g]? with
      | none=>simp
      | some og=>
       simp only [Option.bind_some];cases hdg:og.dst with
       | none=>simp
       | some dg=>
        simp only [Option.bind_some];have hN:=hgN g w og dg hg hog hdg;have hts:dg<t.size:=by rw [hst.1];exact hN
        have hv:=hst.2 dg;rw [Array.getD_eq_getD_getElem?,Array.getElem?_eq_getElem hts,Option.getD_some] at hv;rw [Array.getElem?_eq_getElem hts,hv];cases σ' dg <;> simp
    cases hw:Region.wanted o (yielded l.toArray t) with
    | true=>
     have hG:=hwant.1 hw;have st:=steps i o hin ho σ' h' I.le I.base (Knowns2.get fun j hj=>I.done j (hcl j hj).1 (hcl j hj).2) hG (I.pend i hin hiu);refine step_op (E:=E) (by simpa using ho) hw (.inr d3) d2 hst st fun σ2 ds2 h2 y t2 ht2=>?_;obtain ⟨rfl,hle,v,hσ,hlaw,hun⟩:=y;exact ih _ _ σ2 h2 t2 (next σ2 h2 v hσ hle (fun _=>hlaw) hun) hcnt' ht2
    | false=>
     have hnG:¬GuardIs l o σ':=fun x=>by rw [hwant.2 x] at hw;cases hw
     refine Wk.go (fat b (putT t o.dst undef) ds (.inRegion l.toArray (Region.linearise.go .any l.toArray fuel (tp / (Region.ready .any l.toArray listed).length) (listed.setIfInBounds i true) []) ::k)) (fun w=>?_) ?_
     ·rw [←finish_fat (show l.toArray[i]? =some o by simpa using ho),stepG_fat];unfold stepG.exec;have hw':((l.toArray[i]?).map (Region.wanted · (yielded l.toArray t))).getD false=false:=by
       rw [show l.toArray[i]? =some o by simpa using ho];simp [hw]
      simp only [fat,hw',Bool.false_eq_true,↓reduceIte];rfl
     ·refine ih _ _ (putS σ' o.dst undef) h' _ (next _ _ undef rfl ⟨rr _,fun _ _ _ _ z=>z,fun _ _ _ z=>z⟩ (fun hg=>?_) fun _=>rfl) hcnt' (hst.putS d2 undef);refine absurd (hg.congr fun g w og dg hgw hog hdg=>?_) hnG;cases hd:o.dst with
      | none=>rfl
      | some d=>
      have hgi:g≠i:=fun e=>by have:=hgl g w hgw;rw [e,hiu] at this;cases this
      have hne:dg≠d:=dst_ne nd hin (hlt g (hgl g w hgw)) (fun x=>hgi x.symm) ho hog hd hdg;exact upd_ne σ' undef (beq_ne hne)
 refine E.wk.closed _ _ rfl fun w f=>?_;obtain ⟨tp,w',h',es,r1,r2,r3⟩:=gh_run (P:=P) f (e:=choose (.order b.fn id)) (Q:=fun _ h'=>h'=h) (by exact ⟨fun _=>rfl,fun _ _=>rfl⟩);subst r3;refine ⟨G (fat b t ds (.inRegion l.toArray (Region.linearise.go .any l.toArray l.length tp (Array.replicate l.length false) []) ::k)) cs,w',#[],h',?_,r2.sub fun e he=>by simp at he,?_⟩
 ·rw [stepG_fat];unfold stepG.exec;have r1':(choose (.order b.fn id)).run P w=.ok tp w':=by
   have:=congrArg Prod.fst r1
   simpa [Sem.runT_eq] using this
  simp only [fat,Bool.not_true,Bool.false_eq_true,↓reduceIte,r1',Region.schedule,hm,Bool.true_or,Region.linearise,List.size_toArray];rfl
 ·refine key l.length tp _ σ h' t ⟨rr _,fun _ _=>rfl,by simp,fun j _ hj=>?_,fun j _ hj=>?_,fun j _ _ hj=>?_,fun j _ _=>?_,fun j hj _=>p0 j hj⟩ ?_ hs
  ·rw [Array.getD_eq_getD_getElem?,Array.getElem?_replicate] at hj;split at hj <;> cases hj
  ·rw [Array.getD_eq_getD_getElem?,Array.getElem?_replicate] at hj;split at hj <;> cases hj
  ·rw [Array.getD_eq_getD_getElem?,Array.getElem?_replicate] at hj;split at hj <;> cases hj
  ·rw [Array.getD_eq_getD_getElem?,Array.getElem?_replicate];split <;> rfl
  ·simp
def KeepD (S:Nat→Prop) (h h':GH):Prop:=KeepX S h h'∧∀b,(∃o,h b=some o)→∃o,h' b=some o
theorem KeepD.refl (S:Nat→Prop) (h:GH):KeepD S h h:=⟨KeepX.refl _ _,fun _ x=>x⟩
theorem KeepD.trans {S:Nat→Prop} {a b c:GH} (x:KeepD S a b) (y:KeepD S b c):KeepD S a c:=⟨x.1.trans (fun _ q=>.inl q) y.1,fun r q=>y.2 r (x.2 r q)⟩
theorem GH.Le.keepD {h h':GH} (l:h.Le h') (S:Nat→Prop):KeepD S h h':=⟨l.keepX S,fun _ ⟨o,ho⟩=>let ⟨o',h1,_⟩:=l _ o.1 o.2 ho;⟨_,h1⟩⟩
theorem KeepD.nothing {S:Nat→Prop} {h h':GH} (k:KeepD S h h') {r:Nat} (hr:h' r=none):h r=none:=by
 cases hx:h r with
 | none=>rfl
 | some x=>obtain ⟨o,ho⟩:=k.2 r ⟨x,hx⟩;rw [ho] at hr;cases hr
theorem KeepD.grown {α:Type} {S:Nat→Prop} {h0 h h':GH} {v v':Value} {t:TypeId} {n:Nat} {enc:α→Array Value} {xs:List α} (g:Grown h h' v v') (hv:∀b,back v=some b→S b) (o:OwnSl h0 h' v' t n enc xs):KeepD S h h':=
 ⟨fun b p o hb hX=>⟨o,g.1 b _ hb fun e=>hX (hv b e),.inl rfl⟩,fun b ⟨x,hx⟩=>by
  rcases g.2 with q | ⟨_,q⟩
  ·by_cases e:back v=some b
   ·exact o.inDom b (q.trans e)
   ·exact ⟨_,g.1 b x hx e⟩
  ·exact ⟨_,q b x hx⟩⟩
theorem OwnSl.baseD {α:Type} {S:Nat→Prop} {h0 h00 h:GH} {v:Value} {t:TypeId} {n:Nat} {enc:α→Array Value} {xs:List α} (x:OwnSl h0 h v t n enc xs) (k:KeepD S h00 h0):OwnSl h00 h v t n enc xs:=by
 rcases x with x | ⟨b,cap,c,h1,h2,h3,h4⟩
 ·exact .inl x
 ·exact .inr ⟨b,cap,c,h1,k.nothing h2,h3,h4⟩
def LawsOK2 (R:GH→GH→Prop):List Law2→Prop
 | []=>True
 | φ ::l=>(∀σ v h h',R h h'→φ σ v h→φ σ v h')∧LawsOK2 R l
theorem LawsOK2.mono {R:GH→GH→Prop}:∀{Φ:List Law2},LawsOK2 R Φ→∀k σ v h h',R h h'→lawAt2 Φ k σ v h→lawAt2 Φ k σ v h'
 | [],_,k,σ,v,h,h',_,x=>by cases k <;> exact x
 | φ ::l,ok,0,σ,v,h,h',r,x=>ok.1 σ v h h' r x
 | φ ::l,ok,k+1,σ,v,h,h',r,x=>LawsOK2.mono ok.2 k σ v h h' r x
theorem tr_drawnK {S:Nat→Prop} {id:Nat} {l:List Oper} {σ:Nat→Value} {ds:List Deferred} {h:GH} {Q:Post} (n:Nat) (cls:List (List Nat)) (Φ:List Law2) (Pre:Nat→GH→Prop)
  (hm:P.follows .mixedOrders=true) (ok:drawOK2 E.N l n cls=true) (p0:∀k,k<n→Pre k h) (ind:IndepOK l n cls Φ) (x:DrAll2 (KeepD S) Pre E l n Φ σ ds h Q n 0 l cls):Tr E (.region id l.toArray true) σ ds h Q:=
 tr_draw2 (KeepD S) n cls Φ Pre hm ok (fun h=>KeepD.refl S h) (fun _ _ _ x y=>x.trans y) p0 ind x
section
variable {Pre:Nat→GH→Prop} {Φ:List Law2} {S:Nat→Prop} {k:Nat} {cl:List Nat} {h h':GH}
theorem St.same:St (KeepD S) Pre Φ cl k h h:=⟨KeepD.refl _ _,fun _ _ _ _ z=>z,fun _ _ _ z=>z⟩
theorem St.ofLe (l:h.Le h') (m:LawsOK2 GH.Le Φ) (pm:∀k h h',GH.Le h h'→Pre k h→Pre k h'):St (KeepD S) Pre Φ cl k h h':=⟨l.keepD S,fun j _ σ v z=>m.mono j σ v h h' l z,fun j _ _ z=>pm j h h' l z⟩
end
def FromB (h0:GH) (w v:Value):Prop:=back v=back w∨∃r,back v=some r∧h0 r=none
theorem Off.fromB {h0:GH} {w v:Value} (f:FromB h0 w v) {r:Nat} {o:Bool×Obj} (hr:h0 r=some o) (x:Off w r):Off v r:=fun e=>by
 rcases f with q | ⟨b,q1,q2⟩
 ·exact x (q▸e)
 ·rw [q1] at e;cases e;rw [q2] at hr;cases hr
theorem FromB.grown {h0 hk h':GH} {S:Nat→Prop} {w v:Value} (g:Grown hk h' w v) (k:KeepD S h0 hk):FromB h0 w v:=by
 rcases g.2 with q | ⟨⟨r,q1,q2⟩,_⟩
 ·exact .inl q
 ·exact .inr ⟨r,q1,k.nothing q2⟩
theorem OwnSl.apartTy {α β:Type} {h0 h1 h:GH} {v w:Value} {t t':TypeId} {n n':Nat} {enc:α→Array Value} {enc':β→Array Value} {xs:List α} {ys:List β} (x:OwnSl h0 h v t n enc xs) (y:OwnSl h1 h w t' n' enc' ys) (ne:t≠t'):Apart v w:=fun b e e'=>by
 rcases x with ⟨rfl,_⟩ | ⟨b1,_,c1,rfl,_,h2,_⟩
 ·cases e
 ·rcases y with ⟨rfl,_⟩ | ⟨b2,_,c2,rfl,_,h3,_⟩
  ·cases e'
  ·simp only [back,Option.some.injEq] at e e';subst e;subst e';rw [h2] at h3;simp only [Option.some.injEq,Prod.mk.injEq,Obj.cells.injEq] at h3;exact ne h3.2.2.1
theorem OwnSl.apartNew {α β:Type} {h1 h h2:GH} {v w:Value} {t t':TypeId} {n n':Nat} {enc:α→Array Value} {enc':β→Array Value} {xs:List α} {ys:List β} (x:OwnSl h1 h2 w t n enc xs) (y:OwnSl h2 h v t' n' enc' ys):Apart w v:=fun b e e'=>by
 obtain ⟨o,ho⟩:=x.inDom b e;rw [y.fresh b e'] at ho;cases ho
theorem KeepX.leBase {S:Nat→Prop} {hb h h':GH} (k:KeepX S h h') (l:hb.Le h) (hS:∀b,S b→hb b=none):hb.Le h':=fun b p o hx=>by
 obtain ⟨o1,h1,h2⟩:=l b p o hx;obtain ⟨o2,h3,h4⟩:=k b p o1 h1 fun q=>by rw [hS b q] at hx;cases hx
 refine ⟨o2,h3,?_⟩;rcases h2 with rfl | h2
 ·exact h4
 ·rcases h4 with rfl | h4
  ·exact .inr h2
  ·exact .inr ⟨h2.1,h4.2⟩
theorem OwnSl.keepD {α:Type} {S:Nat→Prop} {h0 h h':GH} {v:Value} {t:TypeId} {n:Nat} {enc:α→Array Value} {xs:List α} (x:OwnSl h0 h v t n enc xs) (k:KeepD S h h') (hS:∀b,back v=some b→¬S b):OwnSl h0 h' v t n enc xs:=by
 rcases x with x | ⟨b,cap,c,rfl,h2,h3,h4⟩
 ·exact .inl x
 ·exact .inr ⟨b,cap,c,rfl,h2,k.1.box h3 (hS b rfl) rfl,h4⟩
end
end Go.Ns
namespace Go.Ns
open Go.Conc
section
variable {P:Program} {E:Env P} {σ:Nat→Value} {ds:List Deferred} {h:GH} {T:(Nat→Value)→List Deferred→GH→Prop}
variable {dst:Option Nat} {ty:TypeId} {pos:String} {af:Array Edge} {gd:Option (Nat×Bool)}
def isNilV:Value→Bool
 | .slice none _ _=>true
 | _=>false
theorem ok_eqlNil {xt yt:TypeId} {x y:Operand} {a:Option Addr} {l c:Nat} (ht:slOf P xt=true) (hx:evalS σ x=.slice a l c) (hy:evalS σ y=.slice none 0 0) (k:T (putS σ dst (.bool (isNilV (.slice a l c)))) ds h) :
  OpK E ⟨dst,.binOp .eql xt x y yt,ty,pos,af,gd⟩ σ ds h T:=by
 unfold OpK execOp;simp only [hx,hy];refine gh_v (gh_bind _ _ ?_);show Sem.gh P (do pure (Value.bool (←Op.equal xt (.slice a l c) (.slice none 0 0))):Sem Value) h _;refine gh_bind _ _ ?_;unfold Op.equal Op.maxDepth;show (Op.equalIn (9999+1) xt (.slice a l c) (.slice none 0 0)).gh P h _;unfold Op.equalIn;unfold slOf at ht;cases hu:P.underlying xt with
 | none=>rw [hu] at ht;cases ht
 | some d=>
  rw [hu] at ht;refine gh_bind _ _ (gh_underlying hu ?_);cases d <;> first | (cases ht;done) | skip
  cases a with
  | none=>exact k
  | some a=>exact k
theorem ok_eqlNilS {α:Type} {xt yt:TypeId} {x y:Operand} {v:Value} {n:Nat} {enc:α→Array Value} {xs:List α} (ht:slOf P xt=true) (s:SlIs h v n enc xs) (hx:evalS σ x=v) (hy:evalS σ y=.slice none 0 0) (k:T (putS σ dst (.bool (isNilV v))) ds h) :
  OpK E ⟨dst,.binOp .eql xt x y yt,ty,pos,af,gd⟩ σ ds h T:=by
 obtain ⟨a,cap,rfl,_⟩:=s;exact ok_eqlNil ht hx hy k
theorem isNilV_nil {α:Type} {v:Value} {n:Nat} {enc:α→Array Value} {xs:List α} (s:SlIs h v n enc xs) (e:isNilV v=true):xs=[]:=by
 obtain ⟨a,cap,rfl,_,_,q⟩:=s;cases a with
 | some a=>cases e
 | none=>
  cases xs with
  | nil=>rfl
  | cons x xs=>obtain ⟨b,off,h1,_⟩:=q 0 (by simp);cases h1
theorem shr_eq {a:Int} {k:Nat} (h:k≤63):a.fdiv (2 ^ (min ((k:Int)).toNat IntKind.i64.bits))=a.fdiv (2 ^ k):=by
 have:min ((k:Int)).toNat IntKind.i64.bits=k:=by
  show min ((k:Int)).toNat 64=k;omega
 rw [this]
theorem shl_eq {k:Nat} (h:k≤60):IntKind.i64.wrap (1*2 ^ (min ((k:Int)).toNat IntKind.i64.bits))=2 ^ k:=by
 have:min ((k:Int)).toNat IntKind.i64.bits=k:=by
  show min ((k:Int)).toNat 64=k;omega
 rw [this,Int.one_mul];have h1:(2:Int) ^ k≤2 ^ 60:=by
  have:=Nat.pow_le_pow_right (show 0<2 by decide) h
  exact_mod_cast this
 have h2:(0:Int)≤2 ^ k:=by
  have:=Nat.zero_le (2 ^ k)
  exact_mod_cast this
 exact IntWalk.i64_in _ (by omega)
end
theorem fdiv_range {a:Int} (h:0≤a∧a≤65535) (k:Nat):0≤a.fdiv (2 ^ k)∧a.fdiv (2 ^ k)≤65535:=by
 have hp:(0:Int)<2 ^ k:=by
  have:=Nat.pow_pos (n:=k) (show 0<2 by decide)
  exact_mod_cast this
 rw [Int.fdiv_eq_ediv_of_nonneg _ (Int.le_of_lt hp)];refine ⟨Int.ediv_nonneg h.1 (Int.le_of_lt hp),Int.le_trans (Int.ediv_le_self _ h.1) h.2⟩
def bitOn (mask:Int) (k:Nat):Bool:=decide (mask.fdiv (2 ^ k)%2=1)
def pickC (cs:List Count) (mask:Int) (k:Nat):List Count:=((List.range k).filter (bitOn mask)).map fun (i:Nat)=>cs.getD i Count.z
def pickI (mask:Int) (k:Nat):List Int:=((List.range k).filter (bitOn mask)).map fun (i:Nat)=>(i:Int)
theorem filter_range_t {p:Nat→Bool} {k:Nat} (h:p k=true):(List.range (k+1)).filter p=(List.range k).filter p++[k]:=by
 rw [List.range_succ,List.filter_append];simp [h]
theorem filter_range_f {p:Nat→Bool} {k:Nat} (h:p k=false):(List.range (k+1)).filter p=(List.range k).filter p:=by
 rw [List.range_succ,List.filter_append];simp [h]
theorem pickC_t {cs:List Count} {mask:Int} {k:Nat} (h:mask.fdiv (2 ^ k)%2=1):pickC cs mask (k+1)=pickC cs mask k++[cs.getD k Count.z]:=by
 unfold pickC;rw [filter_range_t (by unfold bitOn;rw [decide_eq_true h]),List.map_append];rfl
theorem pickC_f {cs:List Count} {mask:Int} {k:Nat} (h:¬mask.fdiv (2 ^ k)%2=1):pickC cs mask (k+1)=pickC cs mask k:=by
 unfold pickC;rw [filter_range_f (by unfold bitOn;rw [decide_eq_false h])]
theorem pickI_t {mask:Int} {k:Nat} (h:mask.fdiv (2 ^ k)%2=1):pickI mask (k+1)=pickI mask k++[(k:Int)]:=by
 unfold pickI;rw [filter_range_t (by unfold bitOn;rw [decide_eq_true h]),List.map_append];rfl
theorem pickI_f {mask:Int} {k:Nat} (h:¬mask.fdiv (2 ^ k)%2=1):pickI mask (k+1)=pickI mask k:=by
 unfold pickI;rw [filter_range_f (by unfold bitOn;rw [decide_eq_false h])]
theorem pickC_len (cs:List Count) (mask:Int) (k:Nat):(pickC cs mask k).length≤k:=by
 unfold pickC;rw [List.length_map]
 have:=List.length_filter_le (bitOn mask) (List.range k)
 rwa [List.length_range] at this
theorem pickI_len (mask:Int) (k:Nat):(pickI mask k).length≤k:=by
 unfold pickI;rw [List.length_map]
 have:=List.length_filter_le (bitOn mask) (List.range k)
 rwa [List.length_range] at this
def cmpI (a b:Int):Int:=if a<b then-1 else if b<a then 1 else 0
def cmpFrom (a b:List Int):Nat→Nat→Int
 | 0,_=>if (a.length:Int)<b.length then-1 else 0
 | f+1,k=>if (b.length:Int)≤k then 1 else if¬cmpI (a.getD k 0) (b.getD k 0)=0 then cmpI (a.getD k 0) (b.getD k 0) else cmpFrom a b f (k+1)
def cmpL (a b:List Int):Int:=cmpFrom a b a.length 0
theorem cmpFrom_end {a b:List Int} {k:Nat} (hk:¬(k:Int)<a.length):cmpFrom a b (a.length-k) k=if (a.length:Int)<b.length then-1 else 0:=by
 rw [show a.length-k=0 by omega];rfl
theorem cmpFrom_at {a b:List Int} {k:Nat} (hk:k<a.length):cmpFrom a b (a.length-k) k=if (b.length:Int)≤k then 1 else if¬cmpI (a.getD k 0) (b.getD k 0)=0 then cmpI (a.getD k 0) (b.getD k 0) else cmpFrom a b (a.length-(k+1)) (k+1):=by
 rw [show a.length-k=(a.length-(k+1))+1 by omega];rfl
def fewerB (a b:List Int):Bool:=decide ((a.length:Int)<b.length) || (decide ((a.length:Int)=b.length) && decide (cmpL a b<0))
abbrev Sl:=Value×List Int
def Sl.z:Sl:=(.slice none 0 0,[])
def eSl (x:Sl):Array Value:=#[x.1]
def SlAll (h:GH) (l:List Sl):Prop:=∀k,SlIs h (l.getD k Sl.z).1 1 eI (l.getD k Sl.z).2
theorem SlAll.le {h h':GH} {l:List Sl} (x:SlAll h l) (e:h.Le h'):SlAll h' l:=fun k=>(x k).le e
theorem SlAll.nil (h:GH):SlAll h []:=fun k=>by
 rw [getD_out (by simp)];exact SlIs.nil _ _ _
theorem SlAll.snoc {h:GH} {l:List Sl} {x:Sl} (a:SlAll h l) (b:SlIs h x.1 1 eI x.2):SlAll h (l++[x]):=fun k=>by
 rcases Nat.lt_trichotomy k l.length with q | q | q
 ·have e:(l++[x]).getD k Sl.z=l.getD k Sl.z:=by simp [List.getD_eq_getElem?_getD,List.getElem?_append_left q]
  rw [e];exact a k
 ·have e:(l++[x]).getD k Sl.z=x:=by subst q;simp [List.getD_eq_getElem?_getD]
  rw [e];exact b
 ·rw [getD_out (by simp;omega)];exact SlIs.nil _ _ _
def bestStep (x c:List Int):List Int:=if fewerB x c then x else c
def bestL (c:List Int) (l:List (List Int)):List Int:=l.foldl (fun c x=>bestStep x c) c
def lists (l:List Sl):List (List Int):=l.map (·.2)
theorem lists_getD {l:List Sl} {k:Nat} (hk:k<l.length):(lists l).getD k []=(l.getD k Sl.z).2:=by
 unfold lists;rw [getD_at [] (by simpa using hk),getD_at Sl.z hk];simp
theorem bestL_take {c:List Int} {l:List Sl} {k:Nat} (hk:k<l.length):bestL c ((lists l).take (k+1))=bestStep (l.getD k Sl.z).2 (bestL c ((lists l).take k)):=by
 rw [take_getD [] (by simpa [lists] using hk),lists_getD hk];unfold bestL;rw [List.foldl_append];rfl
def someB (d:Int) (gs:List Good) (ms:List Move) (cs:List Count) (mo:Int):Bool:= !(hists d gs ms cs mo).isEmpty
theorem someB_t {d:Int} {gs:List Good} {ms:List Move} {cs:List Count} {mo:Int} (h:hists d gs ms cs mo≠[]):someB d gs ms cs mo=true:=by
 unfold someB;cases hx:hists d gs ms cs mo with
 | nil=>exact absurd hx h
 | cons _ _=>rfl
theorem someB_f {d:Int} {gs:List Good} {ms:List Move} {cs:List Count} {mo:Int} (h:hists d gs ms cs mo=[]):someB d gs ms cs mo=false:=by
 unfold someB;rw [h];rfl
def JFlag {α:Type} (hB:GH) (r:Nat) (T:TypeId) (pre:List α) (Y:Nat→Prop) (h:GH):Prop:=pre=[]∧h r=some (true,.cells #[.bool false] T (0,0))∧hB r=none∧∀b,Y b↔b=r
def SFlag {α:Type} (r:Nat) (T:TypeId) (all:List α) (c:Code) (h:GH):Prop:=c=.ret∧h r=some (true,.cells #[.bool true] T (0,0))∧all≠[]
theorem jflag_prom {α:Type} (hB:GH) (r:Nat) (T:TypeId):Prom hB (JFlag (α:=α) hB r T):=by
 refine ⟨?_,?_⟩
 ·rintro pre Y h b ⟨_,h1,_,h2⟩ hb;rw [h2] at hb;subst hb;exact ⟨_,_,h1,rfl⟩
 ·rintro pre Y h h' ⟨h0,h1,h3,h2⟩ same _;exact ⟨h0,(same r ((h2 r).2 rfl)).trans h1,h3,h2⟩
theorem jflag_start {α:Type} {hB h:GH} {r:Nat} {T:TypeId} (nr:hB r=none) (x:h r=some (true,.cells #[.bool false] T (0,0))):JFlag (α:=α) hB r T [] (fun b=>b=r) h:=⟨rfl,x,nr,fun _=>Iff.rfl⟩
theorem sflag_stable {α:Type} {r:Nat} {T:TypeId} {all:List α}:∀c (h h':GH) l lo,SFlag r T all c h→h l=some (true,.loop lo)→(∀b,b≠l→h' b=h b)→SFlag r T all c h':=by
 rintro c h h' l lo ⟨q1,q2,q3⟩ hl ho;exact ⟨q1,(ho _ fun e=>by subst e;rw [q2] at hl;cases hl).trans q2,q3⟩
end Go.Ns
namespace Go.Ns
open Go.Conc
abbrev Key:=Int×Int×Int
def eKey (a:Key):Value:=.agg #[.int .i64 a.1,.int .i64 a.2.1,.int .i64 a.2.2]
def eNum (n:Int):Value:=.int .i64 n
def KnownOK (ms:List Move) (pasts:List Past) (r:Nat) (h:GH):Prop:=
 ∃M:Key→Option Int,MapIs h r eKey eNum M∧∀a v,M a=some v→v=(stockOf ms (pasts.getD a.1.toNat Past.zero) a.2.1 a.2.2).1
theorem KnownOK.same {ms:List Move} {pasts:List Past} {r:Nat} {h h':GH} (x:KnownOK ms pasts r h) (e:h' r=h r):KnownOK ms pasts r h':=by
 obtain ⟨M,h1,h2⟩:=x;exact ⟨M,h1.le_other e,h2⟩
theorem KnownOK.known {ms:List Move} {pasts:List Past} {r:Nat} {h:GH} (x:KnownOK ms pasts r h):∃o,h r=some (true,o):=by
 obtain ⟨M,⟨es,clk,h1,_⟩,_⟩:=x;exact ⟨_,h1⟩
structure MSt (hB:GH) (ms:List Move) (pasts:List Past) (r:Nat) (h hc:GH):Prop where
 ok:KnownOK ms pasts r hc
 keep:KeepX (fun b=>b=r) h hc
 base:hB.Le hc
def MRes (hB:GH) (ms:List Move) (pasts:List Past) (r:Nat) (h h':GH):Prop:=KnownOK ms pasts r h'∧KeepX (fun b=>b=r) h h'∧hB.Le h'
section
variable {hB h hc h':GH} {ms:List Move} {pasts:List Past} {r:Nat}
theorem MSt.start (x:KnownOK ms pasts r h) (l:hB.Le h):MSt hB ms pasts r h h:=⟨x,KeepX.refl _ _,l⟩
theorem MSt.le (y:MSt hB ms pasts r h hc) (l:hc.Le h'):MSt hB ms pasts r h h':=by
 obtain ⟨o,ho⟩:=y.ok.known;exact ⟨y.ok.same ((l.keep ho rfl).trans ho.symm),y.keep.trans (fun _ q=>.inl q) (l.keepX _),y.base.trans l⟩
theorem MSt.store (y:MSt hB ms pasts r h hc) {q:Nat} (hq:h q=none) (qB:hB q=none) (hn:q≠r) (ho:∀b,b≠q→h' b=hc b):MSt hB ms pasts r h h':=
 ⟨y.ok.same (ho r (Ne.symm hn)),y.keep.store hq ho,y.base.upd qB ho⟩
theorem MSt.app {v v':Value} (y:MSt hB ms pasts r h hc) (g:Grown hc h' v v') (f:Off v r) (hv:∀b,back v=some b→h b=none) (hvB:∀b,back v=some b→hB b=none):MSt hB ms pasts r h h':=by
 obtain ⟨o,ho⟩:=y.ok.known;refine ⟨y.ok.same ((g.1 r _ ho f).trans ho.symm),fun b p o hb hX=>?_,GH.Le.grown g y.base hvB⟩;obtain ⟨o',h1,h2⟩:=y.keep b p o hb hX;exact ⟨o',g.1 b _ h1 (fun e=>by rw [hv b e] at hb;cases hb),h2⟩
theorem MSt.call (y:MSt hB ms pasts r h hc) (m:MRes hB ms pasts r hc h'):MSt hB ms pasts r h h':=⟨m.1,y.keep.trans (fun _ q=>.inl q) m.2.1,m.2.2⟩
theorem MSt.ne (y:MSt hB ms pasts r h hc) {q:Nat} (hq:hc q=none):q≠r:=fun e=>by
 obtain ⟨o,ho⟩:=y.ok.known;rw [e,ho] at hq;cases hq
theorem MSt.res (y:MSt hB ms pasts r h hc):MRes hB ms pasts r h hc:=⟨y.ok,y.keep,y.base⟩
end
theorem Key.eq_iff (a b:Key):(a.1==b.1 && (a.2.1==b.2.1 && (a.2.2==b.2.2 && true)))=decide (a=b):=by
 obtain ⟨a1,a2,a3⟩:=a;obtain ⟨b1,b2,b3⟩:=b;simp only [Bool.and_true,Prod.mk.injEq];by_cases h1:a1=b1 <;> by_cases h2:a2=b2 <;> by_cases h3:a3=b3 <;> simp [h1,h2,h3]
section
variable {P:Program} {E:Env P} {σ:Nat→Value} {ds:List Deferred} {h:GH} {T:(Nat→Value)→List Deferred→GH→Prop}
variable {dst:Option Nat} {ty:TypeId} {pos:String} {af:Array Edge} {gd:Option (Nat×Bool)}
theorem ok_lookKnown {t kt vt:TypeId} {x ix:Operand} {r d:Nat} {ms:List Move} {pasts:List Past} {i g dy:Int} (ht:mapOf P t=some (kt,vt)) (hx:evalS σ x=.map (some r)) (hk:evalS σ ix=.agg #[.int .i64 i,.int .i64 g,.int .i64 dy]) (hm:KnownOK ms pasts r h) (hd:Nat.ble (d+1) 10000=true)
  (hc:∀a,ckP P (d+1) kt (eKey a)=true) (he:∀a b,eqP P (d+1) kt (eKey a) (eKey b)=some (a.1==b.1 && (a.2.1==b.2.1 && (a.2.2==b.2.2 && true)))) (hz:(P.info? vt).bind (·.zero)=some (.int .i64 0))
  (k:∀(n:Int) (is:Bool),(is=true→n=(stockOf ms (pasts.getD i.toNat Past.zero) g dy).1)→T (putS σ dst (.tuple #[.int .i64 n,.bool is])) ds h):OpK E ⟨dst,.lookup t x ix true,ty,pos,af,gd⟩ σ ds h T:=by
 obtain ⟨M,h1,h2⟩:=hm;refine ok_lookup (a:=(i,g,dy)) (z:=.int .i64 0) ht hx hk h1 hd (hc _) (fun b=>by rw [he,Key.eq_iff]) hz ?_;cases hM:M (i,g,dy) with
 | none=>exact k 0 false (by intro e;cases e)
 | some v=>exact k v true fun _=>h2 _ _ hM
theorem ok_putKnown {t kt vt:TypeId} {om ok ox:Operand} {r d:Nat} {ms:List Move} {pasts:List Past} {i g dy n:Int} (ht:mapOf P t=some (kt,vt)) (hm':evalS σ om=.map (some r)) (hk:evalS σ ok=.agg #[.int .i64 i,.int .i64 g,.int .i64 dy]) (hv:evalS σ ox=.int .i64 n) (hm:KnownOK ms pasts r h) (hd:Nat.ble (d+1) 10000=true)
  (hc:∀a,ckP P (d+1) kt (eKey a)=true) (he:∀a b,eqP P (d+1) kt (eKey a) (eKey b)=some (a.1==b.1 && (a.2.1==b.2.1 && (a.2.2==b.2.2 && true)))) (hs:∀a,Instr.sameBits 10000 (eKey a) (eKey a)=true) (hn:n=(stockOf ms (pasts.getD i.toNat Past.zero) g dy).1)
  (k:∀h',KnownOK ms pasts r h'→(∀b,b≠r→h' b=h b)→T (putS σ dst undef) ds h'):OpK E ⟨dst,.mapUpdate t om ok ox,ty,pos,af,gd⟩ σ ds h T:=by
 obtain ⟨M,h1,h2⟩:=hm;refine ok_mapUpdate (a:=(i,g,dy)) (v:=n) (ek:=eKey) (ev:=eNum) ht hm' hk hv h1 hd (hc _) (fun b=>by rw [he,Key.eq_iff]) (hs _) fun h' g1 g2=>k h' ⟨_,g1,fun a v hav=>?_⟩ g2;by_cases e:a=(i,g,dy)
 ·subst e;rw [if_pos rfl] at hav;cases hav;exact hn
 ·rw [if_neg e] at hav;exact h2 a v hav
end
section
variable {hB h hc h':GH} {ms:List Move} {pasts:List Past} {r:Nat}
theorem MSt.nothing (y:MSt hB ms pasts r h hc) {q:Nat} (hq:hc q=none):h q=none:=by
 cases hx:h q with
 | none=>rfl
 | some x=>
  obtain ⟨o',h1,_⟩:=y.keep q x.1 x.2 hx (y.ne hq);rw [h1] at hq;cases hq
theorem KnownOK.le (x:KnownOK ms pasts r h) (l:h.Le h'):KnownOK ms pasts r h':=by
 obtain ⟨o,ho⟩:=x.known;exact x.same ((l.keep ho rfl).trans ho.symm)
theorem KnownOK.app {v v':Value} (x:KnownOK ms pasts r h) (g:Grown h h' v v') (f:Off v r):KnownOK ms pasts r h':=by
 obtain ⟨o,ho⟩:=x.known;exact x.same ((g.1 r _ ho f).trans ho.symm)
theorem KnownOK.empty (x:h r=some (true,.map #[] 0)):KnownOK ms pasts r h:=⟨fun _=>none,MapIs.empty x,fun a v e=>by cases e⟩
theorem KnownOK.neCells {b:Nat} {p:Bool} {c:Array Value} {t:TypeId} {z:Nat×Nat} (x:KnownOK ms pasts r h) (hb:h b=some (p,.cells c t z)):b≠r:=fun e=>by
 obtain ⟨M,⟨es,clk,h1,_⟩,_⟩:=x;rw [e,h1] at hb;cases hb
theorem OwnSl.keepX {α:Type} {X:Nat→Prop} {h0:GH} {v:Value} {t:TypeId} {n:Nat} {enc:α→Array Value} {xs:List α} (x:OwnSl h0 h v t n enc xs) (k:KeepX X h h') (hS:∀b,back v=some b→¬X b):OwnSl h0 h' v t n enc xs:=by
 rcases x with x | ⟨b,cap,c,rfl,h2,h3,h4⟩
 ·exact .inl x
 ·exact .inr ⟨b,cap,c,rfl,h2,k.box h3 (hS b rfl) rfl,h4⟩
theorem OwnSl.sup {α:Type} {h0:GH} {v:Value} {t:TypeId} {n:Nat} {enc:α→Array Value} {xs:List α} {q:Nat} (x:OwnSl h0 h v t n enc xs) (ho:∀b o,b≠q→h b=some o→h' b=some o) (f:Off v q):OwnSl h0 h' v t n enc xs:=
 x.keep fun b o hb hb'=>ho b o (fun e=>f (by rw [←e];exact hb)) hb'
theorem OwnSl.slDel {α:Type} {h0:GH} {v:Value} {t:TypeId} {n:Nat} {enc:α→Array Value} {xs:List α} (x:OwnSl h0 h v t n enc xs) (f:Off v r):SlIs (h.del r) v n enc xs:=
 (x.keep (h':=h.del r) fun b o hb hb'=>(GH.del_ne fun e=>f (by rw [←e];exact hb)).trans hb').sl
theorem SlIs.slDel {α:Type} {v:Value} {n:Nat} {enc:α→Array Value} {xs:List α} (x:SlIs h v n enc xs) {p:Bool} {es:Array MapEntry} {clk:Nat} (hr:h r=some (p,.map es clk)):SlIs (h.del r) v n enc xs:=by
 obtain ⟨a,cap,hv,hc,hm,he⟩:=x;refine ⟨a,cap,hv,hc,hm,fun i hi=>?_⟩;obtain ⟨b,off,h1,h2⟩:=he i hi;refine ⟨b,off,h1,h2.del fun e=>?_⟩;obtain ⟨p',c,t,f,hb,_⟩:=h2;rw [e,hr] at hb;cases hb
theorem KnownOK.slDel {α:Type} (k:KnownOK ms pasts r h) {v:Value} {n:Nat} {enc:α→Array Value} {xs:List α} (x:SlIs h v n enc xs):SlIs (h.del r) v n enc xs:=by
 obtain ⟨M,⟨es,clk,h1,_⟩,_⟩:=k;exact x.slDel h1
end
section
variable {P:Program} {E:Env P} {σ:Nat→Value} {ds:List Deferred} {h:GH}
theorem tr_case {c:Code} {Q:Post} {p:Prop} [Decidable p] (a:p→Tr E c σ ds h Q) (a':¬p→Tr E c σ ds h Q):Tr E c σ ds h Q:=if h:p then a h else a' h
end
theorem sameBits_key (a:Key):Instr.sameBits 10000 (eKey a) (eKey a)=true:=by
 have hi:∀(n:Nat) (x:Int),Instr.sameBits n (.int .i64 x) (.int .i64 x)=true:=fun n x=>by
  cases n <;> (unfold Instr.sameBits;simp)
 unfold eKey;show Instr.sameBits (9999+1) _ _=true;unfold Instr.sameBits;simp only [List.zip_cons_cons,List.zip_nil_left,List.all_cons,List.all_nil,hi];simp
def lookBell (d m:Int) (gs:List Good) (ms:List Move) (cs:List Count) (o:List Int):Int:=
 if¬bookBell d m gs ms cs=0 then bookBell d m gs ms cs else if¬firstB (fun k=>o.getD k 0) 0 o.length=0 then firstB (fun k=>o.getD k 0) 0 o.length else if (hists d gs ms cs m).length=0 then 9 else 0
section
variable {d m:Int} {gs:List Good} {ms:List Move} {cs:List Count} {o:List Int}
theorem lookBell_1 (h:¬bookBell d m gs ms cs=0):lookBell d m gs ms cs o=bookBell d m gs ms cs:=by unfold lookBell;rw [if_pos h]
theorem lookBell_2 (h:¬¬bookBell d m gs ms cs=0) {k:Nat} (hs:∀j,j<k→o.getD j 0=0) (hk:k<o.length) (h2:¬o.getD k 0=0):lookBell d m gs ms cs o=o.getD k 0:=by
 unfold lookBell;rw [if_neg h,firstB_hit0 (f:=fun k=>o.getD k 0) hs hk rfl h2,if_pos h2]
theorem lookBell_3 (h:¬¬bookBell d m gs ms cs=0) {k:Nat} (hs:∀j,j<k→o.getD j 0=0) (hk:o.length≤k) (h2:(hists d gs ms cs m).length=0):lookBell d m gs ms cs o=9:=by
 unfold lookBell;rw [if_neg h,firstB_miss0 (f:=fun k=>o.getD k 0) hs hk,if_neg (by simp),if_pos h2]
theorem lookBell_4 (h:¬¬bookBell d m gs ms cs=0) {k:Nat} (hs:∀j,j<k→o.getD j 0=0) (hk:o.length≤k) (h2:¬(hists d gs ms cs m).length=0):lookBell d m gs ms cs o=0:=by
 unfold lookBell;rw [if_neg h,firstB_miss0 (f:=fun k=>o.getD k 0) hs hk,if_neg (by simp),if_neg h2]
theorem lookBell_ok (h:lookBell d m gs ms cs o=0):BookOK d m gs ms cs∧(∀k,k<o.length→o.getD k 0=0)∧0<(hists d gs ms cs m).length:=by
 unfold lookBell at h;split at h <;> first | (rename_i q;exact absurd h q) | skip
 split at h <;> first | (rename_i q;exact absurd h q) | skip
 split at h <;> first | (cases h;done) | skip
 rename_i a b c
 exact ⟨bookOK (Decidable.not_not.1 a),fun k hk=>firstB_zero (Decidable.not_not.1 b) k (Nat.zero_le _) (by omega),by omega⟩
end
end Go.Ns
namespace Go.Ns
open Go.Conc Go.Sort
def rowC (rest:List Value) (d:Array Int):Array Value:=(d.toList.map (fun x=>Value.int .i64 x)++rest).toArray
theorem rowC_size (rest:List Value) (d:Array Int):(rowC rest d).size=d.size+rest.length:=by simp [rowC]
theorem rowC_get {rest:List Value} {d:Array Int} {i:Nat} (h:i<d.size):(rowC rest d)[0+i*1]? =some (.int .i64 d[i]!):=by
 have h1:i<(d.toList.map (fun x=>Value.int .i64 x)).length:=by simpa using h
 rw [Nat.zero_add,Nat.mul_one];unfold rowC;rw [List.getElem?_toArray,List.getElem?_append_left h1,List.getElem?_map];simp [h,getElem!_pos]
theorem rowC_set {rest:List Value} {d:Array Int} {i:Nat} {v:Int} (h:i<d.size):putCells (rowC rest d) (0+i*1) [.int .i64 v]=rowC rest (d.setIfInBounds i v):=by
 rw [Nat.zero_add,Nat.mul_one];show (rowC rest d).setIfInBounds i (.int .i64 v)=_;unfold rowC;apply Array.toList_inj.1;have h1:i<(d.toList.map (fun x=>Value.int .i64 x)).length:=by simpa using h
 rw [Array.toList_setIfInBounds];simp only [];rw [List.set_append_left _ _ h1,Array.toList_setIfInBounds,List.map_set]
structure RowSt (b:Nat) (h hc:GH):Prop where
 keep:KeepX (fun x=>x=b) h hc
 dom:∃o,hc b=some o
section
variable {b:Nat} {h hc h':GH}
theorem RowSt.start (x:∃o,h b=some o):RowSt b h h:=⟨KeepX.refl _ _,x⟩
theorem RowSt.le (y:RowSt b h hc) (l:hc.Le h'):RowSt b h h':=⟨y.keep.trans (fun _ q=>.inl q) (l.keepX _),l.someOf y.dom⟩
theorem RowSt.put (y:RowSt b h hc) (ho:∀x,x≠b→h' x=hc x) (x:∃o,h' b=some o):RowSt b h h':=⟨y.keep.store' (.inl rfl) ho,x⟩
theorem RowSt.ne (y:RowSt b h hc) {q:Nat} (hq:hc q=none):q≠b:=fun e=>by
 obtain ⟨o,ho⟩:=y.dom;rw [e,ho] at hq;cases hq
theorem RowSt.nothing (y:RowSt b h hc) {q:Nat} (hq:hc q=none):h q=none:=by
 cases hx:h q with
 | none=>rfl
 | some x=>
  obtain ⟨o',h1,_⟩:=y.keep q x.1 x.2 hx (y.ne hq);rw [h1] at hq;cases hq
theorem RowSt.store (y:RowSt b h hc) {q:Nat} (hq:h q=none) (hn:q≠b) (ho:∀x,x≠q→h' x=hc x):RowSt b h h':=⟨y.keep.store hq ho,by rw [ho b (Ne.symm hn)];exact y.dom⟩
theorem RowSt.call (y:RowSt b h hc) (k:KeepX (fun x=>x=b) hc h') (x:∃o,h' b=some o):RowSt b h h':=⟨y.keep.trans (fun _ q=>.inl q) k,x⟩
end
theorem RowSt.keepD {b:Nat} {h hc h':GH} (y:RowSt b h hc) (k:KeepD (fun x=>x=b) hc h'):RowSt b h h':=⟨y.keep.trans (fun _ q=>.inl q) k.1,k.2 b y.dom⟩
theorem KeepD.put {b:Nat} {h h':GH} (ho:∀x,x≠b→h' x=h x) (x:∃o,h' b=some o):KeepD (fun x=>x=b) h h':=
 ⟨fun r p o hr hX=>⟨o,(ho r hX).trans hr,.inl rfl⟩,fun r hr=>by
  by_cases e:r=b
  ·subst e;exact x
  ·rw [ho r e];exact hr⟩
def zeroFrom (d:Array Int) (off:Nat):Array Int:=(d.toList.take off++List.replicate (d.size-off) 0).toArray
theorem zeroFrom_size (d:Array Int) (off:Nat):(zeroFrom d off).size=d.size:=by simp [zeroFrom];omega
theorem ins_round {a j:Nat} {dd:Array Int} (h:(a:Int)<(j:Int)∧dd[j]! <dd[((j:Int)-1).toNat]!) :
  insInner ltInt a j dd=insInner ltInt a (j-1) ((dd.setIfInBounds j dd[((j:Int)-1).toNat]!).setIfInBounds ((j:Int)-1).toNat dd[j]!):=by
 obtain ⟨h1,h2⟩:=h;cases j with
 | zero=>omega
 | succ j=>
  have e:(((j+1:Nat):Int)-1).toNat=j:=by omega
  rw [e] at h2 ⊢
  conv=>lhs;unfold insInner
  rw [if_pos (by unfold ltInt;simp;exact ⟨by omega,h2⟩)];rfl
theorem ins_stop {a j:Nat} {dd:Array Int} (h:¬((a:Int)<(j:Int)∧dd[j]! <dd[((j:Int)-1).toNat]!)):insInner ltInt a j dd=dd:=by
 cases j with
 | zero=>rfl
 | succ j=>
  have e:(((j+1:Nat):Int)-1).toNat=j:=by omega
  rw [e] at h;unfold insInner;rw [if_neg (by unfold ltInt;simp;intro q;exact Int.not_lt.1 fun r=>h ⟨by omega,r⟩)]
theorem insOuter_next {a b i:Nat} {dd:Array Int} (h:i<b):insOuter ltInt a b i dd=insOuter ltInt a b (i+1) (insInner ltInt a i dd):=by
 conv=>lhs;unfold insOuter
 rw [if_pos h]
theorem insOuter_end {a b i:Nat} {dd:Array Int} (h:¬(i:Int)<b):insOuter ltInt a b i dd=dd:=by
 unfold insOuter;rw [if_neg (by omega)]
def sortI (l:List Int):List Int:=(Go.Sort.sort ltInt l.toArray).toList
theorem pdq_small {d:Array Int} {a b limit:Nat} {x y:Bool} (h:b-a≤12):pdq ltInt d a b limit x y=insertionSort ltInt d a b:=by
 unfold pdq;rw [if_pos h]
theorem shr_u64 {a r:Int} {k:Nat} (h:k≤63) (e:a / 2 ^ k=r):a.fdiv (2 ^ (min ((k:Int)).toNat IntKind.u64.bits))=r:=by
 have:min ((k:Int)).toNat IntKind.u64.bits=k:=by
  show min ((k:Int)).toNat 64=k;omega
 have hp:(0:Int)≤2 ^ k:=by
  have:=Nat.zero_le (2 ^ k)
  exact_mod_cast this
 rw [this,Int.fdiv_eq_ediv_of_nonneg _ hp,e]
section
variable {P:Program} {E:Env P} {σ:Nat→Value} {ds:List Deferred} {h:GH} {T:(Nat→Value)→List Deferred→GH→Prop}
variable {dst:Option Nat} {ty:TypeId} {pos:String} {af:Array Edge} {gd:Option (Nat×Bool)}
theorem ok_indexB {t:TypeId} {x ix:Operand} {s:ByteArray} {kd:IntKind} {i:Int} (ht:strOf P t=true) (hx:evalS σ x=.string s) (hi:evalS σ ix=.int kd i) (h0:0≤i) (h1:i<((256:Nat):Int)) (hs:s.size=256)
  (k:∀n:Int,0≤n→n≤255→T (putS σ dst (.int .u8 n)) ds h):OpK E ⟨dst,.index t x ix,ty,pos,af,gd⟩ σ ds h T:=
 ok_indexS ht hx hi h0 (by omega) (k _ (by omega) (by have:=(s[i.toNat]'(by omega)).toNat_lt;omega))
end
theorem insInner_size (lt:Int→Int→Bool) (a:Nat):∀(j:Nat) (d:Array Int),(insInner lt a j d).size=d.size
 | 0,d=>rfl
 | j+1,d=>by
  unfold insInner;split
  ·rw [insInner_size lt a j];simp [swp]
  ·rfl
theorem insOuter_size (lt:Int→Int→Bool) (a b:Nat):∀(n i:Nat) (d:Array Int),b-i≤n→(insOuter lt a b i d).size=d.size
 | 0,i,d,h=>by unfold insOuter;rw [if_neg (by omega)]
 | n+1,i,d,h=>by
  unfold insOuter;split
  ·rw [insOuter_size lt a b n (i+1) _ (by omega),insInner_size]
  ·rfl
theorem insertionSort_size (d:Array Int) (a b:Nat):(insertionSort ltInt d a b).size=d.size:=insOuter_size _ _ _ _ _ _ (Nat.le_refl _)
theorem sortI_small {l:List Int} (h:l.length≤12):sortI l=(insertionSort ltInt l.toArray 0 l.toArray.size).toList:=by
 unfold sortI Go.Sort.sort;rw [pdq_small (by simpa using h)]
theorem flat_eI (l:List Int):flat eI l=l.map (fun x=>Value.int .i64 x):=by
 induction l with
 | nil=>rfl
 | cons x l ih=>show (eI x).toList++flat eI l=_;rw [ih];rfl
theorem OwnSl.row {h0 h:GH} {v:Value} {xs:List Int} (x:OwnSl h0 h v 3 1 eI xs) (hne:xs≠[]) :
  ∃b cap rest,v=.slice (some ⟨b,0,none⟩) xs.toArray.size cap∧h b=some (true,.cells (rowC rest xs.toArray) 3 (0,0)):=by
 rcases x with ⟨_,e⟩ | ⟨b,cap,c,rfl,h1,h2,h3,h4,h5,h6,h7⟩
 ·exact absurd e hne
 ·refine ⟨b,cap,c.toList.drop xs.length,by simp,?_⟩;have e:c=rowC (c.toList.drop xs.length) xs.toArray:=by
   apply Array.toList_inj.1;unfold rowC;simp only [];rw [←flat_eI,←h6,Nat.mul_one,List.take_append_drop]
  rw [←e];exact h2
theorem OwnSl.ofRow {h0 h h':GH} {b cap:Nat} {rest:List Value} {xs:List Int} {D:Array Int} (x:OwnSl h0 h (.slice (some ⟨b,0,none⟩) xs.toArray.size cap) 3 1 eI xs) (hne:xs≠[]) (hD:D.size=xs.length) (hb:h b=some (true,.cells (rowC rest xs.toArray) 3 (0,0))) (hb':h' b=some (true,.cells (rowC rest D) 3 (0,0))) :
  OwnSl h0 h' (.slice (some ⟨b,0,none⟩) xs.toArray.size cap) 3 1 eI D.toList:=by
 rcases x with ⟨e,_⟩ | ⟨b1,cap1,c,e,h1,h2,h3,h4,h5,h6,h7⟩
 ·cases e
 ·simp only [Value.slice.injEq,Option.some.injEq,Addr.mk.injEq] at e;obtain ⟨⟨rfl,_⟩,_,rfl⟩:=e;rw [hb] at h2;simp only [Option.some.injEq,Prod.mk.injEq,Obj.cells.injEq,true_and,and_true] at h2;subst h2;have hDl:D.toList.length=xs.length:=by rw [Array.length_toList];exact hD
  refine .inr ⟨b,cap,_,by rw [hDl];simp,h1,hb',?_,by omega,by omega,?_,fun y _=>rfl⟩
  ·rw [rowC_size] at h3 ⊢;rw [hD];simpa using h3
  ·unfold rowC;simp only [Nat.mul_one];rw [flat_eI,←List.length_map (f:=fun x=>Value.int .i64 x),List.take_append_of_le_length (Nat.le_refl _),List.take_length]
theorem KeepX.grownSame {h h':GH} {b cap n:Nat} (k:KeepX (fun x=>x=b) h h'):Grown h h' (.slice (some ⟨b,0,none⟩) n cap) (.slice (some ⟨b,0,none⟩) n cap):=
 ⟨fun r o hr hn=>(by
  obtain ⟨o',h1,rfl | ⟨h2,_⟩⟩:=k r o.1 o.2 hr (fun e=>hn (by rw [e];rfl))
  ·exact h1
  ·cases h2),.inl rfl⟩
section
variable {P:Program} {E:Env P} {σ:Nat→Value} {ds:List Deferred} {h:GH} {T:(Nat→Value)→List Deferred→GH→Prop}
variable {dst:Option Nat} {ty:TypeId} {pos:String} {af:Array Edge} {gd:Option (Nat×Bool)}
theorem ok_sliceTo {t:TypeId} {x o:Operand} {b len cap hi:Nat} (ht:eszOf P t=some 1) (hc:len≤cap) (hx:evalS σ x=.slice (some ⟨b,0,none⟩) len cap) (ho:∃kd,evalS σ o=.int kd hi) (h2:hi≤len) (k:T (putS σ dst (.slice (some ⟨b,0,none⟩) hi cap)) ds h) :
  OpK E ⟨dst,.slice t x none (some o) none,ty,pos,af,gd⟩ σ ds h T:=by
 refine ok_sliceE (olo:=none) (ohi:=some o) 0 hi ht hc hx rfl ho (Nat.zero_le _) h2 ?_;have e:(if cap=0 then (some ⟨b,0,none⟩:Option Addr) else (some ⟨b,0,none⟩:Option Addr).map (·.add (0*1)))=some ⟨b,0,none⟩:=by
  split
  ·rfl
  ·simp [add_mk]
 rw [e];exact k
theorem ok_sliceFrom {t:TypeId} {x o:Operand} {b len cap lo:Nat} (ht:eszOf P t=some 1) (hc:len≤cap) (hx:evalS σ x=.slice (some ⟨b,0,none⟩) len cap) (ho:∃kd,evalS σ o=.int kd lo) (h2:lo<len) (k:T (putS σ dst (.slice (some ⟨b,lo,none⟩) (len-lo) (cap-lo))) ds h) :
  OpK E ⟨dst,.slice t x (some o) none none,ty,pos,af,gd⟩ σ ds h T:=by
 refine ok_sliceE (olo:=some o) (ohi:=none) lo len ht hc hx ho rfl (Nat.le_of_lt h2) (Nat.le_refl _) ?_;have e:(if cap=lo then (some ⟨b,0,none⟩:Option Addr) else (some ⟨b,0,none⟩:Option Addr).map (·.add (lo*1)))=some ⟨b,lo,none⟩:=by
  rw [if_neg (by omega)];simp [add_mk]
 rw [e];exact k
theorem ok_clearRow {t e:TypeId} {x:Operand} {b off len cap:Nat} {rest:List Value} {d:Array Int} {z:Nat} (ht:selemOf P t=some (1,#[.int .i64 0],e)) (hx:evalS σ x=.slice (some ⟨b,off,none⟩) len cap) (hb:h b=some (true,.cells (rowC rest d) z (0,0))) (hn:off+len=d.size) (hl:0<len)
  (k:∀h',h' b=some (true,.cells (rowC rest (zeroFrom d off)) z (0,0))→(∀x,x≠b→h' x=h x)→T (putS σ dst (.tuple #[])) ds h') :
  OpK E ⟨dst,.call ⟨.builtin .clear,#[x],#[t]⟩,ty,pos,af,gd⟩ σ ds h T:=by
 refine ok_builtin (vs:=#[.slice (some ⟨b,off,none⟩) len cap]) (s:=Builtin.clear_ #[t] ty #[.slice (some ⟨b,off,none⟩) len cap]) (by simp [hx]) (fun _=>rfl) ?_;unfold selemOf at ht;cases hu:P.underlying t with
 | none=>rw [hu] at ht;cases ht
 | some dd=>
 rw [hu] at ht;cases dd <;> first | (cases ht;done) | skip
 rename_i el
 simp only at ht;cases hty:tyOf P el with
 | none=>rw [hty] at ht;cases ht
 | some g=>
 cases hz:zeroOf P el with
 | none=>rw [hty,hz] at ht;cases ht
 | some z'=>
 rw [hty,hz] at ht;simp only [Option.some.injEq,Prod.mk.injEq] at ht;obtain ⟨_,rfl,rfl⟩:=ht;unfold Builtin.clear_;simp only [List.getElem?_toArray,List.getElem?_cons_zero];refine gh_bind _ _ (gh_underlying hu ?_);obtain ⟨len,rfl⟩:∃m,len=m+1:=⟨len-1,by omega⟩;have hzero:∀{Q:Value→GH→Prop} {h:GH},(∀v,v.cells=#[.int .i64 0]→Q v h)→(zeroValue el).gh P h Q:=fun {Q h} q=>by
  unfold zeroOf at hz;unfold zeroValue;cases hi:P.info? el with
  | none=>rw [hi] at hz;cases hz
  | some i=>
   rw [hi] at hz;simp only [Option.map_eq_some_iff] at hz;obtain ⟨v,hv,e⟩:=hz;refine gh_bind _ _ (gh_typeInfo hi ?_);rw [hv];exact q v e
 refine gh_bind _ _ (hzero fun vz hvz=>?_);rw [hvz];have hcells:(Builtin.zeroCells #[.int .i64 0] (len+1)).toList=List.replicate (len+1) (.int .i64 0):=by
  unfold Builtin.zeroCells;apply List.ext_getElem
  ·simp
  ·intro i h1 h2;simp [Nat.mod_one]
 rw [hcells];have hsz:d.size=d.toList.length:=by simp
 refine gh_bind _ _ (gh_storeCells (a:=⟨b,off,none⟩) rfl _ 0 (rowC rest d) h ?_ hb ?_ ?_)
 ·intro y hy;rw [List.eq_of_mem_replicate hy];rfl
 ·rw [rowC_size,List.length_replicate];show off+0+(len+1)≤_;omega
 ·refine gh_pure (k _ ?_ fun x hx=>GH.set_ne _ _ _ hx);have e:putCells (rowC rest d) (off+0) (List.replicate (len+1) (.int .i64 0))=rowC rest (zeroFrom d off):=by
   apply Array.toList_inj.1;rw [putCells_toList _ _ _ (by rw [rowC_size,List.length_replicate];omega)];unfold rowC zeroFrom;simp only [List.length_replicate,Nat.add_zero,List.map_append,List.map_take,List.map_replicate];have h1:off≤(d.toList.map (fun x=>Value.int .i64 x)).length:=by simp;omega
   rw [List.take_append_of_le_length h1,show d.size-off=len+1 by omega];congr 1;rw [show off+(len+1)=(d.toList.map (fun x=>Value.int .i64 x)).length by simp;omega,List.drop_left]
  rw [←e];exact GH.set_same _ _ _ _
end
def dstep (acc:List Int) (x:Int):List Int:=if acc.getLast? =some x then acc else acc++[x]
def dedupI (l:List Int):List Int:=l.foldl dstep []
theorem dstep_last (acc:List Int) (x:Int):(dstep acc x).getLast? =some x:=by
 unfold dstep;split
 ·assumption
 ·simp
theorem dedup_succ {d:Array Int} {j:Nat} (hj:j<d.size):dedupI (d.toList.take (j+1))=dstep (dedupI (d.toList.take j)) d[j]! :=by
 have e:d.toList.take (j+1)=d.toList.take j++[d[j]!]:=by
  rw [List.take_succ_eq_append_getElem (by simpa using hj)];simp [getElem!_pos,hj]
 rw [e];unfold dedupI;rw [List.foldl_append];rfl
theorem dedup_last {d:Array Int} {j:Nat} (hj:j<d.size):(dedupI (d.toList.take (j+1))).getLast? =some d[j]! :=by
 rw [dedup_succ hj];exact dstep_last _ _
theorem rowC_getO {rest:List Value} {d:Array Int} {o i:Nat} (h:o+i<d.size):(rowC rest d)[o+i*1]? =some (.int .i64 d[o+i]!):=by
 have:=rowC_get (rest:=rest) h
 rw [Nat.zero_add,Nat.mul_one] at this;rw [Nat.mul_one];exact this
theorem take_succ_arr {d:Array Int} {j:Nat} (hj:j<d.size):d.toList.take (j+1)=d.toList.take j++[d[j]!]:=by
 rw [List.take_succ_eq_append_getElem (by simpa using hj)];simp [getElem!_pos,hj]
theorem dedup_prev {d:Array Int} {j:Nat} (h1:1≤j) (hj:j≤d.size):(dedupI (d.toList.take j)).getLast? =some d[j-1]! :=by
 obtain ⟨i,rfl⟩:∃i,j=i+1:=⟨j-1,by omega⟩;exact dedup_last (by omega)
theorem compact_next {d:Array Int} {k:Nat} (h1:1≤k) (hk:k<d.size) (h:¬d[k]! =d[((k:Int)-1).toNat]!) (hs:dedupI (d.toList.take k)=d.toList.take k):dedupI (d.toList.take (k+1))=d.toList.take (k+1):=by
 rw [dedup_succ hk,take_succ_arr hk];unfold dstep;rw [dedup_prev h1 (by omega),if_neg (by rw [show ((k:Int)-1).toNat=k-1 by omega] at h;simpa using fun e=>h e.symm),hs]
theorem compact_dup0 {d:Array Int} {k:Nat} (h1:1≤k) (hk:k<d.size) (h:d[k]! =d[((k:Int)-1).toNat]!) (hs:dedupI (d.toList.take k)=d.toList.take k):d.toList.take k=dedupI (d.toList.take (k+1)):=by
 rw [dedup_succ hk];unfold dstep;rw [dedup_prev h1 (by omega),if_pos (by rw [show ((k:Int)-1).toNat=k-1 by omega] at h;rw [h]),hs]
theorem compact_ne {d dd:Array Int} {k q kk:Nat} (hq:1≤q∧k+q<d.size) (hkk:k≤kk∧kk+1≤k+q) (hsz:dd.size=d.size) (hd:∀j,kk≤j→dd[j]! =d[j]!) (hdd:dd.toList.take kk=dedupI (d.toList.take (k+q))) (h:¬dd[k+q]! =dd[k+((q:Int)-1).toNat]!) :
  (dd.setIfInBounds kk dd[k+q]!).toList.take (kk+1)=dedupI (d.toList.take (k+(q+1))):=by
 have e1:((q:Int)-1).toNat=q-1:=by omega
 rw [e1,hd _ (by omega),hd _ (by omega)] at h;rw [show k+(q+1)=(k+q)+1 by omega,dedup_succ hq.2];unfold dstep;rw [dedup_prev (by omega) (by omega),if_neg (by rw [show k+q-1=k+(q-1) by omega];simpa using fun e=>h e.symm),←hdd,hd _ (by omega),Array.toList_setIfInBounds];rw [List.take_succ_eq_append_getElem (by simp;omega),List.take_set_of_le (by omega)];simp
theorem compact_eq {d dd:Array Int} {k q kk:Nat} (hq:1≤q∧k+q<d.size) (hkk:k≤kk∧kk+1≤k+q) (hd:∀j,kk≤j→dd[j]! =d[j]!) (hdd:dd.toList.take kk=dedupI (d.toList.take (k+q))) (h:dd[k+q]! =dd[k+((q:Int)-1).toNat]!) :
  dd.toList.take kk=dedupI (d.toList.take (k+(q+1))):=by
 have e1:((q:Int)-1).toNat=q-1:=by omega
 rw [e1,hd _ (by omega),hd _ (by omega)] at h;rw [show k+(q+1)=(k+q)+1 by omega,dedup_succ hq.2];unfold dstep;rw [dedup_prev (by omega) (by omega),if_pos (by rw [show k+q-1=k+(q-1) by omega,h]),hdd]
theorem set_other {d dd:Array Int} {kk:Nat} {x:Int} (hd:∀j,kk≤j→dd[j]! =d[j]!):∀j,kk+1≤j→(dd.setIfInBounds kk x)[j]! =d[j]! :=fun j hj=>by
 rw [←hd j (by omega)];simp only [getElem!_def,Array.getElem?_setIfInBounds_ne (show kk≠j by omega)]
theorem zeroFrom_take {d:Array Int} {k:Nat} (h:k≤d.size):(zeroFrom d k).toList.take k=d.toList.take k:=by
 unfold zeroFrom;simp only [];rw [List.take_append_of_le_length (by simp;omega),List.take_take];simp
theorem compact_one {d:Array Int} (h:2≤d.size):dedupI (d.toList.take 1)=d.toList.take 1:=by
 have e:=take_succ_arr (d:=d) (j:=0) (by omega);rw [Nat.zero_add] at e;rw [e];rfl
theorem compact_all {d:Array Int} {k:Nat} (hs:dedupI (d.toList.take k)=d.toList.take k) (h1:k≤d.size) (h2:d.size≤k):d.toList.take d.size=dedupI d.toList:=by
 rw [show k=d.toList.length by simp;omega,List.take_length] at hs;rw [hs,←Array.length_toList,List.take_length]
theorem compact_few {d:Array Int} (h:d.size<2):d.toList.take d.size=dedupI d.toList:=by
 rw [←Array.length_toList,List.take_length]
 have:d.toList.length<2:=by simpa using h
 match hd:d.toList,this with
 | [],_=>rfl
 | [x],_=>rfl
 | _ ::_ ::_,h=>simp at h;omega
theorem sortI_eq (l:List Int):sortI l=l.mergeSort (fun x y=>decide (x≤y)):=sortInt l
theorem sortI_length (l:List Int):(sortI l).length=l.length:=by rw [sortI_eq,List.length_mergeSort]
theorem sortI_ne {l:List Int} (h:l≠[]):sortI l≠[]:=fun e=>by
 have:=congrArg List.length e
 rw [sortI_length] at this;exact h (List.length_eq_zero_iff.1 this)
end Go.Ns
namespace Go.Ns
open Go.Conc
theorem movesFrom_ok {ag:Past→Bool} {ms:List Move} {mo:Int} (hf:∀k,0≤(ms.getD k Move.z).low∧(ms.getD k Move.z).high≤99):∀f i p,PastOK p→∀q ∈ movesFrom ag ms mo f i p,PastOK q
 | 0,_,p,hp,q,hq=>by
  unfold movesFrom at hq;split at hq
  ·rw [List.mem_singleton] at hq;subst hq;exact hp
  ·cases hq
 | f+1,i,p,hp,q,hq=>by
  rw [movesFrom_succ,List.mem_flatMap] at hq;obtain ⟨n,hn,hq⟩:=hq;rw [mem_spanL] at hn
  have:=hf i
  unfold moveRound at hq;rw [List.mem_append] at hq;rcases hq with hq | hq
  ·exact movesFrom_ok hf f (i+1) _ (hp.setMove (by omega)) q hq
  ·split at hq
   ·exact movesFrom_ok hf f (i+1) _ (hp.setMove (by omega)) q hq
   ·cases hq
theorem goodsFrom_ok {ag:Past→Bool} {gs:List Good} {ms:List Move} {mo:Int} (hg:∀k,0≤(gs.getD k Good.z).low∧(gs.getD k Good.z).high≤99) (hf:∀k,0≤(ms.getD k Move.z).low∧(ms.getD k Move.z).high≤99) :
  ∀f i p,PastOK p→∀q ∈ goodsFrom ag gs ms mo f i p,PastOK q
 | 0,_,p,hp,q,hq=>movesFrom_ok hf _ _ p hp q hq
 | f+1,i,p,hp,q,hq=>by
  rw [goodsFrom_succ,List.mem_flatMap] at hq;obtain ⟨n,hn,hq⟩:=hq;rw [mem_spanL] at hn
  have:=hg i
  exact goodsFrom_ok hg hf f (i+1) _ (hp.setFirst (by omega)) q hq
theorem hists_ok {d m:Int} {gs:List Good} {ms:List Move} {cs:List Count} (b:BookOK d m gs ms cs) (mo:Int):∀k,PastOK ((hists d gs ms cs mo).getD k Past.zero):=fun k=>by
 by_cases h:k<(hists d gs ms cs mo).length
 ·exact goodsFrom_ok (fun j=>⟨(b.gfew j).1,(b.gfew j).2.2.1⟩) (fun j=>⟨(b.few j).1,(b.few j).2.2.1⟩) _ _ _ PastOK.zero _ (getD_mem h)
 ·rw [getD_out (by omega)];exact PastOK.zero
def missI (b:Bool):Int:=if b then 0 else 6
def eachL (n:Nat) (f:Nat→Int):List Int:=dedupI (sortI ((List.range n).map f))
theorem map_range_ne {n:Nat} {f:Nat→Int} (h:0<n):(List.range n).map f≠[]:=by
 intro e
 have:=congrArg List.length e
 simp at this;omega
section
variable (d m:Int) (gs:List Good) (ms:List Move) (cs:List Count)
def leftBell (g dy:Int):Int:=lookBell d m gs ms cs [if (decide (0≤g∧g≤(gs.length:Int)-1)) then (0:Int) else 6,if (decide (0≤dy∧dy≤d)) then (0:Int) else 1]
def leftL (g dy:Int):List Int:=if leftBell d m gs ms cs g dy=0 then eachL (hists d gs ms cs m).length (fun (i:Nat)=>(stockOf ms ((hists d gs ms cs m).getD ((i:Int)).toNat Past.zero) g dy).1) else []
def numbersBell (mv:Int):Int:=lookBell d m gs ms cs [if (decide (0≤mv∧mv≤(ms.length:Int)-1)) then (0:Int) else 6]
def numbersL (mv:Int):List Int:=if numbersBell d m gs ms cs mv=0 then eachL (hists d gs ms cs m).length (fun (i:Nat)=>realOf ((hists d gs ms cs m).getD ((i:Int)).toNat Past.zero) (mv).toNat) else []
def falseBell (mv:Int):Int:=lookBell d m gs ms cs [if (decide ((0≤mv∧mv≤(ms.length:Int)-1)∧(ms.getD (mv).toNat Move.z).kind=0)) then (0:Int) else 6]
def liesIn (ps:List Past) (i:Nat):Nat:=(ps.filter fun p=>p.lies i).length
def sureOf (n l:Nat):Int:=if n=0 then 2 else if n=l then 1 else 0
def falseSure (mv:Int):Int:=if falseBell d m gs ms cs mv=0 then sureOf (liesIn (hists d gs ms cs m) (mv).toNat) (hists d gs ms cs m).length else 0
end
theorem own_1 {p:Prop} [Decidable p] {c:Int} (hc:c≠0) {o:List Int} (h:∀k,k<(((if decide p then (0:Int) else c) ::o)).length→(((if decide p then (0:Int) else c) ::o)).getD k 0=0):p:=by
 have:=h 0 (by simp)
 by_cases hp:p
 ·exact hp
 ·simp [hp] at this;exact absurd this hc
theorem own_tail {x:Int} {o:List Int} (h:∀k,k<(x ::o).length→(x ::o).getD k 0=0):∀k,k<o.length→o.getD k 0=0:=fun k hk=>by
 have:=h (k+1) (by simp;omega)
 simpa using this
theorem own_2 {p q:Prop} [Decidable p] [Decidable q] {c e:Int} (hc:c≠0) (he:e≠0) {o:List Int} (h:∀k,k<(((if decide p then (0:Int) else c) ::(if decide q then (0:Int) else e) ::o)).length→(((if decide p then (0:Int) else c) ::(if decide q then (0:Int) else e) ::o)).getD k 0=0):p∧q:=
 ⟨own_1 hc h,own_1 he (own_tail h)⟩
theorem own_3 {p q r:Prop} [Decidable p] [Decidable q] [Decidable r] {c e f:Int} (hc:c≠0) (he:e≠0) (hf:f≠0) {o:List Int} (h:∀k,k<(((if decide p then (0:Int) else c) ::(if decide q then (0:Int) else e) ::(if decide r then (0:Int) else f) ::o)).length→(((if decide p then (0:Int) else c) ::(if decide q then (0:Int) else e) ::(if decide r then (0:Int) else f) ::o)).getD k 0=0):p∧q∧r:=
 ⟨own_1 hc h,own_2 he hf (own_tail h)⟩
theorem take_succ_getD {α:Type} {l:List α} {k:Nat} (z:α) (h:k<l.length):l.take (k+1)=l.take k++[l.getD k z]:=by
 rw [List.take_add_one,List.getElem?_eq_getElem h,List.getD_eq_getElem?_getD,List.getElem?_eq_getElem h];rfl
theorem lies_t {ps:List Past} {k q i:Nat} (hk:k<ps.length) (h:q=liesIn (ps.take k) i) (e:(ps.getD k Past.zero).lies i=true):q+1=liesIn (ps.take (k+1)) i:=by
 unfold liesIn at *;rw [take_succ_getD Past.zero hk,List.filter_append,List.length_append,←h,List.filter_cons,if_pos e];rfl
theorem lies_f {ps:List Past} {k q i:Nat} (hk:k<ps.length) (h:q=liesIn (ps.take k) i) (e:(ps.getD k Past.zero).lies i=false):q=liesIn (ps.take (k+1)) i:=by
 unfold liesIn at *;rw [take_succ_getD Past.zero hk,List.filter_append,List.length_append,←h,List.filter_cons,if_neg (by rw [e];decide)];rfl
theorem falseSure_bad {d m:Int} {gs:List Good} {ms:List Move} {cs:List Count} {mv:Int} (h:¬falseBell d m gs ms cs mv=0):falseSure d m gs ms cs mv=0:=by unfold falseSure;rw [if_neg h]
theorem falseSure_ok {d m:Int} {gs:List Good} {ms:List Move} {cs:List Count} {mv:Int} {k q:Nat} (h:falseBell d m gs ms cs mv=0) (hq:q=liesIn ((hists d gs ms cs m).take k) (mv).toNat) (hk:(hists d gs ms cs m).length≤k):falseSure d m gs ms cs mv=sureOf q (hists d gs ms cs m).length:=by
 unfold falseSure;rw [if_pos h,hq,List.take_of_length_le hk]
theorem stockRun_range {ms:List Move} {p:Past} {g dy:Int} (hp:PastOK p):∀(f k:Nat) (n low B:Int),-B≤n∧n≤B→-(B+99*(f:Int))≤(stockRun ms p g dy f k n low).1∧(stockRun ms p g dy f k n low).1≤B+99*(f:Int)
 | 0,k,n,low,B,h=>by unfold stockRun;simpa using h
 | f+1,k,n,low,B,h=>by
  unfold stockRun;split
  ·show-(B+99*((f+1:Nat):Int))≤n∧n≤B+99*((f+1:Nat):Int);omega
  ·have:=stockRun_range (ms:=ms) (g:=g) (dy:=dy) hp f (k+1) (nNext ms p g k n) (lowNext ms k low (nNext ms p g k n)) (B+99) (by
    unfold nNext
    have:=signed_range (k:=(ms.getD k Move.z).kind.toNat) (realOf_range hp k)
    split <;> omega)
   omega
theorem stockOf_range {ms:List Move} {p:Past} {g dy:Int} (hp:PastOK p) (hm:ms.length≤6): -693≤(stockOf ms p g dy).1∧(stockOf ms p g dy).1≤693:=by
 have h0:=hp.1 g.toNat
 have:=stockRun_range (ms:=ms) (g:=g) (dy:=dy) hp ms.length 0 (p.first g.toNat) (p.first g.toNat) 99 (by omega)
 unfold stockOf;omega
theorem foldl_dstep_mem {x:Int}:∀(l acc:List Int),x ∈ l.foldl dstep acc→x ∈ acc∨x ∈ l
 | [],acc,h=>.inl h
 | y ::l,acc,h=>by
  rcases foldl_dstep_mem l _ h with h | h
  ·unfold dstep at h;split at h
   ·exact .inl h
   ·rcases List.mem_append.1 h with h | h
    ·exact .inl h
    ·rw [List.mem_singleton] at h;exact .inr (by rw [h];exact List.mem_cons_self ..)
  ·exact .inr (List.mem_cons_of_mem _ h)
theorem foldl_dstep_ne:∀(l acc:List Int),acc≠[]∨l≠[]→l.foldl dstep acc≠[]
 | [],acc,h=>by
  rcases h with h | h
  ·exact h
  ·exact absurd rfl h
 | y ::l,acc,h=>foldl_dstep_ne l _ (.inl fun e=>by
   have:=dstep_last acc y
   rw [e] at this;cases this)
theorem eachL_pos {n:Nat} (f:Nat→Int) (h:0<n):0<(eachL n f).length:=by
 have:eachL n f≠[]:=foldl_dstep_ne _ _ (.inr (sortI_ne (map_range_ne h)))
 exact List.length_pos_iff.2 this
theorem eachL_mem {n:Nat} {f:Nat→Int} {x:Int} (h:x ∈ eachL n f):∃i,i<n∧f i=x:=by
 rcases foldl_dstep_mem _ _ h with h | h
 ·cases h
 ·rw [sortI_eq] at h
  have:=List.mem_mergeSort.1 h
  obtain ⟨i,hi,e⟩:=List.mem_map.1 this;exact ⟨i,List.mem_range.1 hi,e⟩
def spanLo (l:List Int):Int:=l.getD 0 0
def spanHi (l:List Int):Int:=l.getD ((l.length:Int)-1).toNat 0
theorem eachL_span {n:Nat} {f:Nat→Int} {A B:Int} (h:∀i,A≤f i∧f i≤B) (hn:0<n):(A≤spanLo (eachL n f)∧spanLo (eachL n f)≤B)∧A≤spanHi (eachL n f)∧spanHi (eachL n f)≤B:=by
 have hp:=eachL_pos f hn;have q:∀k,k<(eachL n f).length→A≤(eachL n f).getD k 0∧(eachL n f).getD k 0≤B:=fun k hk=>by
  obtain ⟨i,_,e⟩:=eachL_mem (getD_mem (d:=0) hk);rw [←e];exact h i
 exact ⟨q 0 hp,q _ (by omega)⟩
def lostTo (ms:List Move) (p:Past) (g a b:Int):Nat→Int
 | 0=>0
 | k+1=>lostTo ms p g a b k+(if ((ms.getD k Move.z).kind=2∧(ms.getD k Move.z).good=g)∧a≤(ms.getD k Move.z).day∧(ms.getD k Move.z).day≤b then realOf p k else 0)
theorem lostTo_range {ms:List Move} {p:Past} {g a b:Int} (hp:PastOK p):∀k:Nat,0≤lostTo ms p g a b k∧lostTo ms p g a b k≤99*(k:Int)
 | 0=>by unfold lostTo;omega
 | k+1=>by
  have:=lostTo_range (ms:=ms) (g:=g) (a:=a) (b:=b) hp k
  have:=realOf_range hp k
  unfold lostTo;split <;> omega
def worthTo (gs:List Good) (ms:List Move) (p:Past) (dy:Int):Nat→Int
 | 0=>0
 | k+1=>worthTo gs ms p dy k+(gs.getD k Good.z).cost*(stockOf ms p (k:Int) dy).1
theorem mul_range {a b A B:Int} (ha:0≤a∧a≤A) (hb: -B≤b∧b≤B): -(A*B)≤a*b∧a*b≤A*B:=by
 have hB:0≤B:=by omega
 have e1:a*B≤A*B:=Int.mul_le_mul_of_nonneg_right ha.2 hB;have e2:a*b≤a*B:=Int.mul_le_mul_of_nonneg_left hb.2 ha.1;have e3:a*(-B)≤a*b:=Int.mul_le_mul_of_nonneg_left hb.1 ha.1;rw [Int.mul_neg] at e3;omega
theorem worthTo_range {gs:List Good} {ms:List Move} {p:Past} {dy:Int} (hp:PastOK p) (hm:ms.length≤6) (hc:∀k,0≤(gs.getD k Good.z).cost∧(gs.getD k Good.z).cost≤999):∀k:Nat,-(692307*(k:Int))≤worthTo gs ms p dy k∧worthTo gs ms p dy k≤692307*(k:Int)
 | 0=>by unfold worthTo;omega
 | k+1=>by
  have:=worthTo_range (dy:=dy) hp hm hc k
  have:=mul_range (hc k) (stockOf_range (g:=(k:Int)) (dy:=dy) hp hm)
  unfold worthTo;omega
theorem BookOK.costs {d m:Int} {gs:List Good} {ms:List Move} {cs:List Count} (b:BookOK d m gs ms cs):∀k,0≤(gs.getD k Good.z).cost∧(gs.getD k Good.z).cost≤999:=fun k=>by
 by_cases h:k<gs.length
 ·exact (b.good' h).1
 ·rw [getD_out (by omega)];decide
section
variable (d m:Int) (gs:List Good) (ms:List Move) (cs:List Count)
def lostBell (g a b:Int):Int:=lookBell d m gs ms cs [if (decide (0≤g∧g≤(gs.length:Int)-1)) then (0:Int) else 6,if (decide (1≤a∧a≤d)) then (0:Int) else 1,if (decide (a≤b∧b≤d)) then (0:Int) else 1]
def lostAll (g a b:Int):List Int:=eachL (hists d gs ms cs m).length (fun (i:Nat)=>lostTo ms ((hists d gs ms cs m).getD ((i:Int)).toNat Past.zero) g a b ms.length)
def lostLo (g a b:Int):Int:=if lostBell d m gs ms cs g a b=0 then spanLo (lostAll d m gs ms cs g a b) else 0
def lostHi (g a b:Int):Int:=if lostBell d m gs ms cs g a b=0 then spanHi (lostAll d m gs ms cs g a b) else 0
def worthBell (dy:Int):Int:=lookBell d m gs ms cs [if (decide (0≤dy∧dy≤d)) then (0:Int) else 1]
def worthAll (dy:Int):List Int:=eachL (hists d gs ms cs m).length (fun (i:Nat)=>worthTo gs ms ((hists d gs ms cs m).getD ((i:Int)).toNat Past.zero) dy gs.length)
def worthLo (dy:Int):Int:=if worthBell d m gs ms cs dy=0 then spanLo (worthAll d m gs ms cs dy) else 0
def worthHi (dy:Int):Int:=if worthBell d m gs ms cs dy=0 then spanHi (worthAll d m gs ms cs dy) else 0
end
def inL (d:Int) (ms:List Move) (ps:List Past) (g:Int):List Int:=eachL ps.length (fun (i:Nat)=>(stockOf ms (ps.getD ((i:Int)).toNat Past.zero) g d).1)
theorem inL_span {d:Int} {ms:List Move} {ps:List Past} {g:Int} (hp:∀k,PastOK (ps.getD k Past.zero)) (hm:ms.length≤6) (hn:0<ps.length):(-693≤spanLo (inL d ms ps g)∧spanLo (inL d ms ps g)≤693)∧-693≤spanHi (inL d ms ps g)∧spanHi (inL d ms ps g)≤693:=
 eachL_span (fun _=>stockOf_range (hp _) hm) hn
section
variable (d m:Int) (gs:List Good) (ms:List Move) (cs:List Count)
def lastsBell (g r:Int):Int:=lookBell d m gs ms cs [if (decide (0≤g∧g≤(gs.length:Int)-1)) then (0:Int) else 6,if (decide (1≤r∧r≤99)) then (0:Int) else 1]
def lastsLo (g r:Int):Int:=if lastsBell d m gs ms cs g r=0 then (spanLo (inL d ms (hists d gs ms cs m) g)).tdiv r else 0
def lastsHi (g r:Int):Int:=if lastsBell d m gs ms cs g r=0 then (spanHi (inL d ms (hists d gs ms cs m) g)).tdiv r else 0
end
theorem OwnSl.offKnown {α:Type} {h0 h:GH} {v:Value} {t:TypeId} {n:Nat} {enc:α→Array Value} {xs:List α} {ms:List Move} {ps:List Past} {r:Nat} (x:OwnSl h0 h v t n enc xs) (m:KnownOK ms ps r h):Off v r:=fun e=>by
 obtain ⟨c',h1⟩:=x.cellsAt r e;exact m.neCells h1 rfl
section
variable (d m:Int) (gs:List Good) (ms:List Move) (cs:List Count)
def buyBell (ls:List Int) (r:Int):Int:=lookBell d m gs ms cs [numsBell ls (gs.length:Int),if (decide (0≤r∧r≤99)) then (0:Int) else 1]
def packOf (ls:List Int) (r:Int) (k:Nat):Int:=(max 0 ((ls.getD k 0)*r-(spanLo (inL d ms (hists d gs ms cs m) (k:Int))))+(gs.getD k Good.z).pack-1) / ((gs.getD k Good.z).pack)
def costTo (ls:List Int) (r:Int):Nat→Int
 | 0=>0
 | k+1=>costTo ls r k+(packOf d m gs ms cs ls r k)*((gs.getD k Good.z).pack)*((gs.getD k Good.z).cost)
def buyL (ls:List Int) (r:Int):List Int:=if buyBell d m gs ms cs ls r=0 then (List.range gs.length).map (packOf d m gs ms cs ls r) else []
def buyCost (ls:List Int) (r:Int):Int:=if buyBell d m gs ms cs ls r=0 then costTo d m gs ms cs ls r gs.length else 0
end
theorem packOf_range {d m:Int} {gs:List Good} {ms:List Move} {cs:List Count} {ls:List Int} {r:Int} {k:Nat} (hl:0≤ls.getD k 0∧ls.getD k 0≤99) (hr:0≤r∧r≤99) (hp:1≤(gs.getD k Good.z).pack∧(gs.getD k Good.z).pack≤20)
  (hs: -693≤spanLo (inL d ms (hists d gs ms cs m) (k:Int))∧spanLo (inL d ms (hists d gs ms cs m) (k:Int))≤693):(0≤packOf d m gs ms cs ls r k∧packOf d m gs ms cs ls r k≤10600):=by
 have h1:=mul_range (a:=ls.getD k 0) (b:=r) (A:=99) (B:=99) hl (by omega);unfold packOf;have h0:0≤max 0 ((ls.getD k 0)*r-(spanLo (inL d ms (hists d gs ms cs m) (k:Int))))+(gs.getD k Good.z).pack-1:=by omega
 refine ⟨Int.ediv_nonneg h0 (by omega),Int.le_trans (Int.ediv_le_self _ h0) (by omega)⟩
theorem packCost_range {p a c:Int} (hp:0≤p∧p≤10600) (ha:1≤a∧a≤20) (hc:0≤c∧c≤999):(0≤p*a∧p*a≤212000)∧0≤p*a*c∧p*a*c≤211788000:=by
 have h1:=mul_range (a:=p) (b:=a) (A:=10600) (B:=20) hp (by omega);have h2:0≤p*a:=Int.mul_nonneg hp.1 (by omega);have h3:=mul_range (a:=p*a) (b:=c) (A:=212000) (B:=999) (by omega) (by omega);have h4:0≤p*a*c:=Int.mul_nonneg h2 hc.1;omega
theorem costTo_next {d m:Int} {gs:List Good} {ms:List Move} {cs:List Count} {ls:List Int} {r:Int} {k:Nat} (hp:0≤packOf d m gs ms cs ls r k∧packOf d m gs ms cs ls r k≤10600) (ha:1≤(gs.getD k Good.z).pack∧(gs.getD k Good.z).pack≤20) (hc:0≤(gs.getD k Good.z).cost∧(gs.getD k Good.z).cost≤999)
  (h:0≤costTo d m gs ms cs ls r k∧costTo d m gs ms cs ls r k≤211788000*(k:Int)):0≤costTo d m gs ms cs ls r (k+1)∧costTo d m gs ms cs ls r (k+1)≤211788000*((k+1:Nat):Int):=by
 have:=packCost_range hp ha hc
 unfold costTo;omega
theorem nums_few {l:List Int} {n:Int} (h:¬(l.length:Int)=n):(Value.int .i64 2)=.int .i64 (numsBell l n):=by unfold numsBell;rw [if_pos h]
theorem nums_any {l:List Int} {n:Int} (h:(l.length:Int)=n):(Value.int .i64 (if (!(l.any (fun x=>decide (¬(0≤x∧x≤99))))) then (0:Int) else 1))=.int .i64 (numsBell l n):=by
 have e:numsBell l n=if l.any (fun x=>decide (¬(0≤x∧x≤99))) then 1 else 0:=by unfold numsBell;rw [if_neg (fun q=>q h)]
 rw [e];cases l.any (fun x=>decide (¬(0≤x∧x≤99))) <;> rfl
section
variable {P:Program} {E:Env P} {σ:Nat→Value} {ds:List Deferred} {h:GH} {T:(Nat→Value)→List Deferred→GH→Prop}
variable {dst:Option Nat} {ty:TypeId} {pos:String} {af:Array Edge} {gd:Option (Nat×Bool)}
def fieldP (P:Program) (s:TypeId) (f:Nat) (cs:Array Value):Option Value:=match P.underlying s with
 | some (.struct fields)=>match fields[f]? with
  | some fl=>partP P fl.type cs fl.offset
  | none=>none
 | _=>none
theorem ok_fieldP {t:TypeId} {x:Operand} {f:Nat} {cs:Array Value} {v:Value} (hx:evalS σ x=.agg cs) (hp:fieldP P t f cs=some v) (k:T (putS σ dst v) ds h):OpK E ⟨dst,.field t x f,ty,pos,af,gd⟩ σ ds h T:=by
 refine ok_field (v:=v) ?_ k;rw [hx];unfold fieldP at hp;unfold Instr.field;cases hu:P.underlying t with
 | none=>rw [hu] at hp;cases hp
 | some d=>
  rw [hu] at hp;cases d <;> first | (cases hp;done) | skip
  rename_i fields
  refine gh_bind _ _ (gh_underlying hu ?_);simp only at hp ⊢;cases hf:fields[f]? with
  | none=>rw [hf] at hp;cases hp
  | some fl=>
   rw [hf] at hp;simp only at hp ⊢;exact gh_partP hp ⟨rfl,rfl⟩
theorem ok_quoT {xt yt:TypeId} {x y:Operand} {a b:Int} (hx:evalS σ x=.int .i64 a) (hy:evalS σ y=.int .i64 b) (ha: -9223372036854775807≤a) (ha':a≤9223372036854775807) (hb:0<b) (k:T (putS σ dst (.int .i64 (a.tdiv b))) ds h) :
  OpK E ⟨dst,.binOp .quo xt x y yt,ty,pos,af,gd⟩ σ ds h T:=ok_bin hx hy (by
 show (if b=0 then _ else (pure (Value.int .i64 (IntKind.i64.wrap (a.tdiv b))):Sem Value))=_;rw [if_neg (by omega)];have h1:(a.tdiv b).natAbs≤a.natAbs:=by rw [Int.natAbs_tdiv];exact Nat.div_le_self _ _
 rw [IntWalk.i64_in _ (by omega)]) k
end
def MRel (hB:GH) (ms:List Move) (pasts:List Past) (r:Nat) (h h':GH):Prop:=KeepX (fun b=>b=r) h h'∧(KnownOK ms pasts r h→KnownOK ms pasts r h')∧(hB.Le h→hB.Le h')
section
variable {hB h hc h':GH} {ms:List Move} {pasts:List Past} {r:Nat}
theorem MRel.refl (h:GH):MRel hB ms pasts r h h:=⟨KeepX.refl _ _,id,id⟩
theorem MRel.trans (a b c:GH) (x:MRel hB ms pasts r a b) (y:MRel hB ms pasts r b c):MRel hB ms pasts r a c:=⟨x.1.trans (fun _ q=>.inl q) y.1,fun z=>y.2.1 (x.2.1 z),fun z=>y.2.2 (x.2.2 z)⟩
theorem MRel.ofLe (l:h.Le h'):MRel hB ms pasts r h h':=⟨l.keepX _,fun x=>x.le l,fun x=>x.trans l⟩
theorem MRel.ofRes (m:MRes hB ms pasts r h h'):MRel hB ms pasts r h h':=⟨m.2.1,fun _=>m.1,fun _=>m.2.2⟩
theorem MSt.rel (y:MSt hB ms pasts r h hc) (m:MRel hB ms pasts r hc h'):MSt hB ms pasts r h h':=⟨m.2.1 y.ok,y.keep.trans (fun _ q=>.inl q) m.1,m.2.2 y.base⟩
theorem MSt.callDel (y:MSt hB ms pasts r h hc) (l:hB.Le (hc.del r)) (m:MRes (hc.del r) ms pasts r hc h'):MSt hB ms pasts r h h':=⟨m.1,y.keep.trans (fun _ q=>.inl q) m.2.1,l.trans m.2.2⟩
theorem MRes.rel (l:hB.Le (hc.del r)) (m:MRes (hc.del r) ms pasts r hc h'):MRel hB ms pasts r hc h':=⟨m.2.1,fun _=>m.1,fun _=>l.trans m.2.2⟩
end
section
variable {P:Program} {E:Env P} {σ:Nat→Value} {ds:List Deferred} {h hB:GH} {ms:List Move} {pasts:List Past} {r:Nat}
theorem tr_drawnM {id:Nat} {l:List Oper} {Q:Post} (n:Nat) (cls:List (List Nat)) (Φ:List Law) (hm:P.follows .mixedOrders=true) (ok:drawOK E.N l n cls=true) (mono:LawsOK (MRel hB ms pasts r) Φ) (x:DrAll (MRel hB ms pasts r) E l n Φ σ ds h Q n 0 l cls) :
  Tr E (.region id l.toArray true) σ ds h Q:=tr_drawn MRel.refl MRel.trans n cls Φ hm ok mono x
end
def AllocL (h0:GH) (T:TypeId) (N:Nat) (v:Value) (h:GH):Prop:=∃r,v=.pointer (some ⟨r,0,none⟩)∧h0 r=none∧∃c:Array Value,c.size=N∧h r=some (true,.cells c T (0,0))
def FillL (h0:GH) (T:TypeId) (p x:Value) (h:GH):Prop:=∃r cs,p=.pointer (some ⟨r,0,none⟩)∧x=.agg cs∧h0 r=none∧h r=some (true,.cells cs T (0,0))
theorem AllocL.le {h0 h h':GH} {T:TypeId} {N:Nat} {v:Value} (x:AllocL h0 T N v h) (l:h.Le h'):AllocL h0 T N v h':=by
 obtain ⟨r,e,h1,c,h2,h3⟩:=x;exact ⟨r,e,h1,c,h2,l.keep h3 rfl⟩
theorem FillL.le {h0 h h':GH} {T:TypeId} {p x:Value} (y:FillL h0 T p x h) (l:h.Le h'):FillL h0 T p x h':=by
 obtain ⟨r,cs,e,e2,h1,h3⟩:=y;exact ⟨r,cs,e,e2,h1,l.keep h3 rfl⟩
theorem AllocL.store {h0 h h':GH} {T:TypeId} {N r:Nat} {v:Value} {cs:Array Value} (x:AllocL h0 T N v h) (ho:∀b,b≠r→h' b=h b) (hN:cs.size=N) (nb:h' r=some (true,.cells cs T (0,0))):AllocL h0 T N v h':=by
 obtain ⟨q,e,h1,c,h2,h3⟩:=x;by_cases hq:q=r
 ·subst hq;exact ⟨q,e,h1,cs,hN,nb⟩
 ·exact ⟨q,e,h1,c,h2,(ho q hq).trans h3⟩
theorem KeepD.leOf {h0 h:GH} (k:KeepD (fun b=>h0 b=none) h0 h):h0.Le h:=fun b p o hb=>k.1 b p o hb fun (e:h0 b=none)=>by rw [hb] at e;cases e
theorem KeepD.fill {h0 h h':GH} {r:Nat} (hr:h0 r=none) (ho:∀b,b≠r→h' b=h b) (x:∃o,h' r=some o):KeepD (fun b=>h0 b=none) h h':=
 ⟨fun b p o hb hX=>⟨o,(ho b fun e=>hX (by rw [e];exact hr)).trans hb,.inl rfl⟩,fun b hb=>by
  by_cases e:b=r
  ·subst e;exact x
  ·rw [ho b e];exact hb⟩
theorem OwnSl.offTy {α:Type} {h0 h:GH} {v:Value} {t T:TypeId} {n:Nat} {enc:α→Array Value} {xs:List α} (x:OwnSl h0 h v t n enc xs) {r:Nat} {p:Bool} {c:Array Value} {f:Nat×Nat} (hr:h r=some (p,.cells c T f)) (ne:t≠T):Off v r:=fun e=>by
 obtain ⟨c',h1⟩:=x.cellsAt r e;rw [h1] at hr;simp only [Option.some.injEq,Prod.mk.injEq,Obj.cells.injEq] at hr;exact ne hr.2.2.1
section
variable {P:Program} {E:Env P} {σ:Nat→Value} {ds:List Deferred} {h:GH} {T:(Nat→Value)→List Deferred→GH→Prop}
variable {dst:Option Nat} {ty:TypeId} {pos:String} {af:Array Edge} {gd:Option (Nat×Bool)}
theorem ok_storeAll {t:TypeId} {a x:Operand} {b N:Nat} {g:Bool} {c cs:Array Value} {et:TypeId} (ht:tyOf P t=some (g,N)) (ha:evalS σ a=.pointer (some ⟨b,0,none⟩)) (hv:evalS σ x=.agg cs) (hb:h b=some (true,.cells c et (0,0)))
  (hc:c.size=N) (hcs:cs.size=N) (hf:Value.fine (.agg cs)=true) (k:∀h',h' b=some (true,.cells cs et (0,0))→(∀x,x≠b→h' x=h x)→T (putS σ dst undef) ds h'):OpK E ⟨dst,.store t a x,ty,pos,af,gd⟩ σ ds h T:=by
 refine ok_store' (c':=cs) ht ha hv hb hcs hf (by omega) ?_ k;show putCells c 0 cs.toList=cs;apply Array.toList_inj.1;rw [putCells_toList _ _ _ (by rw [Array.length_toList];omega)]
 have:c.toList.drop (0+cs.toList.length)=[]:=by rw [List.drop_eq_nil_iff];simp;omega
 rw [this];simp
end
section
variable {h h':GH} {q r:Nat} {M:Int→Option Int}
theorem MapIs.neCells {b:Nat} {p:Bool} {c:Array Value} {t:TypeId} {z:Nat×Nat} (x:MapIs h r eNum eNum M) (hb:h b=some (p,.cells c t z)):b≠r:=fun e=>by
 obtain ⟨es,clk,h1,_⟩:=x;rw [e,h1] at hb;cases hb
theorem MapIs.leNum (x:MapIs h q eNum eNum M) (l:h.Le h'):MapIs h' q eNum eNum M:=by
 obtain ⟨es,clk,h1,y⟩:=x;exact ⟨es,clk,l.keep h1 rfl,y⟩
theorem MapIs.keepNum (x:MapIs h q eNum eNum M) (k:KeepX (fun b=>b=r) h h') (hq:q≠r):MapIs h' q eNum eNum M:=by
 obtain ⟨es,clk,h1,y⟩:=x;obtain ⟨o,h2,h3⟩:=k q _ _ h1 hq;rcases h3 with rfl | ⟨h3,_⟩
 ·exact ⟨es,clk,h2,y⟩
 ·cases h3
end
section
variable {P:Program} {E:Env P} {σ:Nat→Value} {ds:List Deferred} {h:GH} {T:(Nat→Value)→List Deferred→GH→Prop}
variable {dst:Option Nat} {ty:TypeId} {pos:String} {af:Array Edge} {gd:Option (Nat×Bool)}
theorem ok_lookNum {t kt vt:TypeId} {x ix:Operand} {r d:Nat} {M:Int→Option Int} {a:Int} (ht:mapOf P t=some (kt,vt)) (hx:evalS σ x=.map (some r)) (hk:evalS σ ix=.int .i64 a) (hm:MapIs h r eNum eNum M) (hd:Nat.ble (d+1) 10000=true)
  (hc:∀a,ckP P (d+1) kt (eNum a)=true) (he:∀a b,eqP P (d+1) kt (eNum a) (eNum b)=some (a==b)) (hz:(P.info? vt).bind (·.zero)=some (.int .i64 0))
  (k:T (putS σ dst (.int .i64 ((M a).getD 0))) ds h):OpK E ⟨dst,.lookup t x ix false,ty,pos,af,gd⟩ σ ds h T:=by
 refine ok_lookup (ek:=eNum) (ev:=eNum) (a:=a) (z:=.int .i64 0) ht hx hk hm hd (hc _) (fun b=>he a b) hz ?_;cases hM:M a <;> (rw [hM] at k;exact k)
theorem ok_putNum {t kt vt:TypeId} {om ok ox:Operand} {r d:Nat} {M:Int→Option Int} {a n:Int} (ht:mapOf P t=some (kt,vt)) (hm':evalS σ om=.map (some r)) (hk:evalS σ ok=.int .i64 a) (hv:evalS σ ox=.int .i64 n) (hm:MapIs h r eNum eNum M) (hd:Nat.ble (d+1) 10000=true)
  (hc:∀a,ckP P (d+1) kt (eNum a)=true) (he:∀a b,eqP P (d+1) kt (eNum a) (eNum b)=some (a==b)) (hs:∀a,Instr.sameBits 10000 (eNum a) (eNum a)=true)
  (k:∀h',MapIs h' r eNum eNum (fun b=>if b=a then some n else M b)→(∀b,b≠r→h' b=h b)→T (putS σ dst undef) ds h'):OpK E ⟨dst,.mapUpdate t om ok ox,ty,pos,af,gd⟩ σ ds h T:=
 ok_mapUpdate (a:=a) (v:=n) (ek:=eNum) (ev:=eNum) ht hm' hk hv hm hd (hc _) (fun b=>he a b) (hs _) k
end
theorem sameBits_num (a:Int):Instr.sameBits 10000 (eNum a) (eNum a)=true:=by
 show Instr.sameBits (9999+1) (Value.int .i64 a) (Value.int .i64 a)=true;unfold Instr.sameBits;simp
def cntTo (f:Nat→Int):Nat→Int→Option Int
 | 0=>fun _=>none
 | k+1=>fun b=>if b=f k then some ((cntTo f k (f k)).getD 0+1) else cntTo f k b
theorem cntTo_range (f:Nat→Int):∀(k:Nat) (b:Int),0≤(cntTo f k b).getD 0∧(cntTo f k b).getD 0≤(k:Int)
 | 0,b=>by simp [cntTo]
 | k+1,b=>by
  have h1:=cntTo_range f k b;have h2:=cntTo_range f k (f k);unfold cntTo;split
  ·show 0≤(cntTo f k (f k)).getD 0+1∧(cntTo f k (f k)).getD 0+1≤((k+1:Nat):Int);omega
  ·omega
def topTo (f:Nat→Int):Nat→Int
 | 0=>0
 | k+1=>max (topTo f k) ((cntTo f (k+1) (f k)).getD 0)
def askTo (w:Nat→Int) (n:Int):Nat→Int×Int
 | 0=>(-1,n)
 | k+1=>if w k<(askTo w n k).2 then ((k:Int),w k) else askTo w n k
section
variable (d m:Int) (gs:List Good) (ms:List Move) (cs:List Count)
def askBell:Int:=lookBell d m gs ms cs []
def askW (g:Nat):Int:=topTo (fun i=>(stockOf ms ((hists d gs ms cs m).getD ((i:Int)).toNat Past.zero) (g:Int) d).1) (hists d gs ms cs m).length
def askGood:Int:=if askBell d m gs ms cs=0 then (askTo (askW d m gs ms cs) ((hists d gs ms cs m).length:Int) gs.length).1 else 0
def askWorst:Int:=if askBell d m gs ms cs=0 then (askTo (askW d m gs ms cs) ((hists d gs ms cs m).length:Int) gs.length).2 else 0
end
end Go.Ns
namespace Go.Ns
open Go.Conc
open Classical in
noncomputable def GH.delS (h:GH) (X:Nat→Prop):GH:=fun b=>if X b then none else h b
section
variable {h h0 h':GH} {X:Nat→Prop}
theorem GH.delS_in {b:Nat} (x:X b):h.delS X b=none:=if_pos x
theorem GH.delS_ne {b:Nat} (x:¬X b):h.delS X b=h b:=if_neg x
theorem GH.delS_le (h:GH) (X:Nat→Prop):(h.delS X).Le h:=fun b p o hb=>by
 by_cases e:X b
 ·rw [GH.delS_in e] at hb;cases hb
 ·rw [GH.delS_ne e] at hb;exact ⟨o,hb,.inl rfl⟩
theorem GH.Le.delS (l:h0.Le h) (hX:∀b,X b→h0 b=none):h0.Le (h.delS X):=fun b p o hb=>by
 have e:¬X b:=fun x=>by rw [hX b x] at hb;cases hb
 rw [GH.delS_ne e];exact l b p o hb
theorem Elem.delS {b off n:Nat} {vs:Array Value} (x:Elem h b off n vs) (e:¬X b):Elem (h.delS X) b off n vs:=x.same (GH.delS_ne e)
theorem OwnSl.slDelS {α:Type} {v:Value} {t:TypeId} {n:Nat} {enc:α→Array Value} {xs:List α} (x:OwnSl h0 h v t n enc xs) (f:∀b,back v=some b→¬X b):SlIs (h.delS X) v n enc xs:=
 OwnSl.sl (h0:=h0) (x.keep fun b o hb ho=>by rw [GH.delS_ne (f b hb)];exact ho)
theorem OwnSl.rebase {α:Type} {h1:GH} {v:Value} {t:TypeId} {n:Nat} {enc:α→Array Value} {xs:List α} (x:OwnSl h0 h v t n enc xs) (f:∀b,back v=some b→h1 b=none):OwnSl h1 h v t n enc xs:=by
 rcases x with x | ⟨b,cap,c,rfl,h2,h3⟩
 ·exact .inl x
 ·exact .inr ⟨b,cap,c,rfl,f b rfl,h3⟩
end
def mkD (d:Nat):Deferred:={ target:=.collected d,args:=#[] }
def Marks (h0 h:GH) (ds:List Deferred):Prop:=∃l:List Nat,ds=l.map mkD∧l.Nodup∧∀d ∈ l,h0 d=none∧h d=some (true,.deferred (some []))
theorem Marks.nil (h0 h:GH):Marks h0 h []:=⟨[],rfl,List.nodup_nil,fun _ hd=>by cases hd⟩
theorem Marks.le {h0 h h':GH} {ds:List Deferred} (m:Marks h0 h ds) (l:h.Le h'):Marks h0 h' ds:=by
 obtain ⟨L,e,n,x⟩:=m;exact ⟨L,e,n,fun d hd=>⟨(x d hd).1,l.keep (x d hd).2 rfl⟩⟩
theorem Marks.cons {h0 h h':GH} {ds:List Deferred} {d:Nat} (m:Marks h0 h ds) (l:h.Le h') (hn:h d=none) (h0n:h0 d=none) (hd:h' d=some (true,.deferred (some []))):Marks h0 h' ({ target:=.collected d,args:=#[] } ::ds):=by
 obtain ⟨L,rfl,n,x⟩:=m;refine ⟨d ::L,rfl,List.nodup_cons.2 ⟨fun hm=>?_,n⟩,fun b hb=>?_⟩
 ·rw [(x d hm).2] at hn;cases hn
 ·rcases List.mem_cons.1 hb with rfl | hb
  ·exact ⟨h0n,hd⟩
  ·exact ⟨(x b hb).1,l.keep (x b hb).2 rfl⟩
def SameM (h h':GH):Prop:=∀b,h b≠some (true,.deferred (some []))→h' b=h b
theorem SlIs.sameM {α:Type} {h h':GH} {v:Value} {n:Nat} {enc:α→Array Value} {xs:List α} (x:SlIs h v n enc xs) (s:SameM h h'):SlIs h' v n enc xs:=by
 obtain ⟨a,cap,hv,hc,hm,he⟩:=x;refine ⟨a,cap,hv,hc,hm,fun i hi=>?_⟩;obtain ⟨b,off,h1,h2⟩:=he i hi;refine ⟨b,off,h1,h2.same (s b fun e=>?_)⟩;obtain ⟨p,c,t,z,q,_⟩:=h2;rw [e] at q;cases q
theorem outs_marks {P:Program} {fn:Func} {σ:Nat→Value} {R:Value→GH→Prop} {h0:GH}:∀{ds:List Deferred} {h:GH},Marks h0 h ds→h0.Le h→(∀h',SameM h h'→h0.Le h'→Outs P fn σ R [] h')→Outs P fn σ R ds h:=by
 intro ds h ⟨l,e,n,x⟩ lB k;subst e
 induction l generalizing h with
 | nil=>exact k h (fun _ _=>rfl) lB
 | cons d l ih=>
  have hd:=x d (List.mem_cons_self ..);refine ⟨d,rfl,_,hd.2,rfl,?_⟩;have nd:=List.nodup_cons.1 n;have ho:∀b,b≠d→(h.set d true (.deferred none)) b=h b:=fun b hb=>GH.set_ne _ _ _ hb;refine ih nd.2 (fun b hb=>?_) (lB.upd hd.1 ho) fun h' s l'=>k h' (fun b hb=>?_) l'
  ·have:=x b (List.mem_cons_of_mem _ hb)
   exact ⟨this.1,(ho b fun e=>nd.1 (e▸hb)).trans this.2⟩
  ·have e:b≠d:=fun e=>hb (e▸hd.2);rw [s b (by rw [ho b e];exact hb),ho b e]
theorem flat_get {α:Type} {enc:α→Array Value} {n:Nat}:∀{xs:List α},(∀x ∈ xs,(enc x).size=n)→∀(i:Nat) (z:α),i<xs.length→flat enc xs=flat enc (xs.take i)++(enc (xs.getD i z)).toList++flat enc (xs.drop (i+1))
 | [],_,i,z,h=>by simp at h
 | y ::xs,hn,0,z,h=>by simp [flat]
 | y ::xs,hn,i+1,z,h=>by
  have:=flat_get (fun x hx=>hn x (List.mem_cons_of_mem _ hx)) i z (by simpa using h)
  show (enc y).toList++flat enc xs=((enc y).toList++flat enc (xs.take i))++(enc (xs.getD i z)).toList++flat enc (xs.drop (i+1));rw [this];simp only [List.append_assoc]
theorem flat_set {α:Type} {enc:α→Array Value}:∀{xs:List α} (i:Nat) (x:α),i<xs.length→flat enc (xs.set i x)=flat enc (xs.take i)++(enc x).toList++flat enc (xs.drop (i+1))
 | [],i,x,h=>by simp at h
 | y ::xs,0,x,h=>by simp [flat]
 | y ::xs,i+1,x,h=>by
  have:=flat_set (enc:=enc) (xs:=xs) i x (by simpa using h)
  show (enc y).toList++flat enc (xs.set i x)=((enc y).toList++flat enc (xs.take i))++(enc x).toList++flat enc (xs.drop (i+1));rw [this];simp only [List.append_assoc]
theorem OwnSl.put {α:Type} {h0 h h':GH} {t:TypeId} {n cap b i dl:Nat} {enc:α→Array Value} {xs:List α} {c:Array Value} {vs:List Value} {x':α} (z:α) (x:OwnSl h0 h (.slice (some ⟨b,0,none⟩) xs.length cap) t n enc xs) (hb:h b=some (true,.cells c t (0,0)))
  (hi:i<xs.length) (hz:dl+vs.length≤n) (heq:putCells (enc (xs.getD i z)) dl vs=enc x') (hb':h' b=some (true,.cells (putCells c (i*n+dl) vs) t (0,0))):OwnSl h0 h' (.slice (some ⟨b,0,none⟩) xs.length cap) t n enc (xs.set i x'):=by
 rcases x with ⟨e,_⟩ | ⟨b1,cap1,c1,e,f0,f1,f2,f3,f4,f5,f6⟩
 ·cases e
 simp only [Value.slice.injEq,Option.some.injEq,Addr.mk.injEq] at e;obtain ⟨⟨rfl,_⟩,_,rfl⟩:=e;rw [hb] at f1;simp only [Option.some.injEq,Prod.mk.injEq,Obj.cells.injEq,true_and] at f1;obtain ⟨rfl,_⟩:=f1;have hx:(enc (xs.getD i z)).size=n:=f6 _ (getD_mem hi);have hx':(enc x').size=n:=by rw [←heq,putCells_size];exact hx
 refine .inr ⟨_,_,_,by rw [List.length_set],f0,hb',by rw [putCells_size];exact f2,by rw [List.length_set];exact f3,by rw [List.length_set];exact f4,?_,fun y hy=>?_⟩
 ·rw [List.length_set];have hA:(flat enc (xs.take i)).length=i*n:=by
   rw [flat_length (n:=n) (fun y hy=>f6 y (List.mem_of_mem_take hy)),List.length_take];congr 1;omega
  have hlen:(flat enc xs).length=xs.length*n:=flat_length f6;have hmul:i*n+n≤xs.length*n:=by rw [←Nat.succ_mul];exact Nat.mul_le_mul_right n hi
  have hcap:xs.length*n≤c.size:=by rw [f2];exact Nat.mul_le_mul_right n f3
  have hc:c.toList=flat enc xs++c.toList.drop (xs.length*n):=by rw [←f5,List.take_append_drop]
  have hB:(enc x').toList=(enc (xs.getD i z)).toList.take dl++vs++(enc (xs.getD i z)).toList.drop (dl+vs.length):=by rw [←heq,putCells_toList _ _ _ (by omega)]
  have hBl:(enc (xs.getD i z)).toList.length=n:=by rw [Array.length_toList];exact hx
  have hC:(flat enc (xs.take i)).length+n+(flat enc (xs.drop (i+1))).length=xs.length*n:=by
   rw [←hlen];conv=>rhs;rw [flat_get f6 i z hi]
   rw [List.length_append,List.length_append,hBl]
  rw [putCells_toList _ _ _ (by omega),flat_set i x' hi,hB,hc,flat_get f6 i z hi];generalize enc (xs.getD i z)=B at *;generalize flat enc (xs.take i)=A at *;generalize flat enc (xs.drop (i+1))=C at *;generalize c.toList.drop (xs.length*n)=R at *;have e1:(A++B.toList++C++R).take (i*n+dl)=A++B.toList.take dl:=by
   rw [List.append_assoc,List.append_assoc,←hA,List.take_length_add_append,List.take_append_of_le_length (by omega)]
  have e2:(A++B.toList++C++R).drop (i*n+dl+vs.length)=B.toList.drop (dl+vs.length)++C++R:=by
   rw [List.append_assoc,List.append_assoc,show i*n+dl+vs.length=A.length+(dl+vs.length) by omega,List.drop_length_add_append,List.drop_append_of_le_length (by omega),List.append_assoc]
  rw [e1,e2];have e3:A++B.toList.take dl++vs++(B.toList.drop (dl+vs.length)++C++R)=(A++(B.toList.take dl++vs++B.toList.drop (dl+vs.length))++C)++R:=by simp only [List.append_assoc]
  rw [e3,List.take_left' ?_];simp only [List.length_append,List.length_take,List.length_drop,hBl];omega
 ·rcases List.mem_or_eq_of_mem_set hy with h | rfl
  ·exact f6 y h
  ·exact hx'
theorem OwnSl.opened {α:Type} {h0 h:GH} {v:Value} {t:TypeId} {n k:Nat} {enc:α→Array Value} {xs:List α} (x:OwnSl h0 h v t n enc xs) (hk:k<xs.length):∃b cap c,v=.slice (some ⟨b,0,none⟩) xs.length cap∧h b=some (true,.cells c t (0,0)):=by
 rcases x with ⟨_,rfl⟩ | ⟨b,cap,c,h1,_,h2,_⟩
 ·simp at hk
 ·exact ⟨b,cap,c,h1,h2⟩
theorem OwnSl.room {α:Type} {h0 h:GH} {t:TypeId} {n cap b k:Nat} {enc:α→Array Value} {xs:List α} {c:Array Value} (x:OwnSl h0 h (.slice (some ⟨b,0,none⟩) xs.length cap) t n enc xs) (hb:h b=some (true,.cells c t (0,0))) (hk:k<xs.length):k*n+n≤c.size:=by
 rcases x with ⟨e,_⟩ | ⟨b1,cap1,c1,e,f0,f1,f2,f3,_⟩
 ·cases e
 simp only [Value.slice.injEq,Option.some.injEq,Addr.mk.injEq] at e;obtain ⟨⟨rfl,_⟩,_,rfl⟩:=e;rw [hb] at f1;simp only [Option.some.injEq,Prod.mk.injEq,Obj.cells.injEq,true_and] at f1;obtain ⟨rfl,_⟩:=f1;rw [f2,←Nat.succ_mul];exact Nat.mul_le_mul_right n (by omega)
def clearAt (ms:List Move) (i:Nat):List Move:=ms.set i { ms.getD i Move.z with low:=0,high:=0 }
def clearM (ms:List Move) (l:List Int):List Move:=l.foldl (fun ms i=>clearAt ms i.toNat) ms
theorem clearM_succ {ms:List Move} {l:List Int} {k:Nat} (hk:k<l.length):clearM ms (l.take (k+1))=clearAt (clearM ms (l.take k)) (l.getD k 0).toNat:=by
 unfold clearM;rw [take_succ_getD 0 hk,List.foldl_append];rfl
theorem clearAt_length (ms:List Move) (i:Nat):(clearAt ms i).length=ms.length:=by unfold clearAt;rw [List.length_set]
theorem clearM_length (ms:List Move):∀(l:List Int),(clearM ms l).length=ms.length:=by
 intro l;unfold clearM
 induction l generalizing ms with
 | nil=>rfl
 | cons i l ih=>show (l.foldl _ (clearAt ms i.toNat)).length=_;rw [ih,clearAt_length]
theorem clearAt_getD (ms:List Move) (i k:Nat):(clearAt ms i).getD k Move.z=ms.getD k Move.z∨(clearAt ms i).getD k Move.z={ ms.getD k Move.z with low:=0,high:=0 }:=by
 unfold clearAt;rw [List.getD_eq_getElem?_getD,List.getElem?_set];split
 ·rename_i e
  subst e;split
  ·exact .inr rfl
  ·rename_i h
   refine .inl ?_;rw [List.getD_eq_getElem?_getD,List.getElem?_eq_none (by omega)]
 ·refine .inl ?_;rw [←List.getD_eq_getElem?_getD]
theorem moveAt_ok {d:Int} {gs:List Good} {ms:List Move} {k:Nat} (h1:0≤(ms.getD k Move.z).kind∧(ms.getD k Move.z).kind≤4) (h2:0≤(ms.getD k Move.z).good∧(ms.getD k Move.z).good≤(gs.length:Int)-1)
  (h3:1≤(ms.getD k Move.z).day∧(ms.getD k Move.z).day≤d) (h4:lastDay ms k≤(ms.getD k Move.z).day) (h5:isFew (ms.getD k Move.z).low (ms.getD k Move.z).high):moveAt d gs ms k=0:=by
 unfold moveAt;rw [if_neg (not_not_intro h1),if_neg (not_not_intro h2),if_neg (not_not_intro h3),if_neg (by omega),if_neg (not_not_intro h5)]
theorem BookOK.clearAt {d m:Int} {gs:List Good} {ms:List Move} {cs:List Count} (b:BookOK d m gs ms cs) (i:Nat):BookOK d m gs (clearAt ms i) cs:=by
 refine ⟨b.days,b.most,b.glen,b.good,by rw [clearAt_length];exact b.mlen,fun k hk=>?_,b.clen,b.count⟩;rw [clearAt_length] at hk;have hd:∀k,((Go.Ns.clearAt ms i).getD k Move.z).day=(ms.getD k Move.z).day:=fun k=>by rcases clearAt_getD ms i k with e | e <;> rw [e]
 have hl:lastDay (Go.Ns.clearAt ms i) k=lastDay ms k:=by unfold lastDay;rw [hd]
 obtain ⟨g1,g2,g3,g4,g5⟩:=b.move' hk;refine moveAt_ok ?_ ?_ ?_ ?_ ?_
 ·rcases clearAt_getD ms i k with e | e <;> rw [e] <;> exact g1
 ·rcases clearAt_getD ms i k with e | e <;> rw [e] <;> exact g2
 ·rw [hd];exact g3
 ·rw [hl,hd];exact g4
 ·rcases clearAt_getD ms i k with e | e <;> rw [e]
  ·exact g5
  ·show isFew 0 0;decide
theorem BookOK.clear {d m:Int} {gs:List Good} {cs:List Count}:∀{l:List Int} {ms:List Move},BookOK d m gs ms cs→BookOK d m gs (clearM ms l) cs
 | [],_,b=>b
 | i ::l,_,b=>BookOK.clear (l:=l) (b.clearAt i.toNat)
def allNotes (ms:List Move) (mask:Int) (k:Nat):Bool:=(List.range k).all fun i=> !bitOn mask i || isNoteB ms i
def blameOne (d:Int) (gs:List Good) (ms:List Move) (cs:List Count) (mask:Nat):Option (List Int):=
 if allNotes ms (mask:Int) ms.length=true then
  if hists d gs (clearM ms (pickI (mask:Int) ms.length)) cs 0=[] then none else some (pickI (mask:Int) ms.length)
 else none
def blameTo (d:Int) (gs:List Good) (ms:List Move) (cs:List Count) (k:Nat):List (List Int):=(List.range k).filterMap (blameOne d gs ms cs)
theorem blameTo_none {d:Int} {gs:List Good} {ms:List Move} {cs:List Count} {k:Nat} (h:blameOne d gs ms cs k=none):blameTo d gs ms cs (k+1)=blameTo d gs ms cs k:=by
 unfold blameTo;rw [List.range_succ,List.filterMap_append];simp [h]
theorem blameTo_some {d:Int} {gs:List Good} {ms:List Move} {cs:List Count} {k:Nat} {l:List Int} (h:blameOne d gs ms cs k=some l):blameTo d gs ms cs (k+1)=blameTo d gs ms cs k++[l]:=by
 unfold blameTo;rw [List.range_succ,List.filterMap_append];simp [h]
theorem pow_64 {n:Nat} (h:n≤6):1≤(2:Int) ^ n∧(2:Int) ^ n≤64:=by
 have:n=0∨n=1∨n=2∨n=3∨n=4∨n=5∨n=6:=by omega
 rcases this with rfl | rfl | rfl | rfl | rfl | rfl | rfl <;> decide
theorem pickI_rng (mask:Int) (n q:Nat):q<(pickI mask n).length→0≤(pickI mask n).getD q 0∧(pickI mask n).getD q 0<(n:Int):=fun hq=>by
 have:=getD_mem (d:=(0:Int)) hq
 unfold pickI at this ⊢;obtain ⟨i,hi,e⟩:=List.mem_map.1 this
 have:=List.mem_range.1 (List.mem_filter.1 hi).1
 rw [←e];omega
theorem allNotes_zero (ms:List Move) (mask:Int):allNotes ms mask 0=true:=rfl
theorem allNotes_next {ms:List Move} {mask:Int} {j:Nat} (h:allNotes ms mask j=true) (e:mask.fdiv (2 ^ j)%2=0∨isNoteB ms (j:Int)=true):allNotes ms mask (j+1)=true:=by
 unfold allNotes at *;rw [List.range_succ,List.all_append,h];rcases e with e | e
 ·have:bitOn mask j=false:=by unfold bitOn;rw [decide_eq_false (by omega)]
  simp [this]
 ·simp [e]
theorem blame_skip {d:Int} {gs:List Good} {ms:List Move} {cs:List Count} {k j:Nat} (hj:j<ms.length) (hb:¬(k:Int).fdiv (2 ^ j)%2=0) (hn:¬((0≤(j:Int)∧(j:Int)≤(ms.length:Int)-1)∧(ms.getD ((j:Int)).toNat Move.z).kind=0)):blameOne d gs ms cs k=none:=by
 unfold blameOne;rw [if_neg];unfold allNotes;rw [List.all_eq_true];intro h
 have:=h j (List.mem_range.2 hj)
 have e1:bitOn (k:Int) j=true:=by unfold bitOn;rw [decide_eq_true];omega
 have e2:isNoteB ms (j:Int)=false:=by unfold isNoteB;exact decide_eq_false hn
 rw [e1,e2] at this;cases this
theorem blame_no {d:Int} {gs:List Good} {ms:List Move} {cs:List Count} {k j q:Nat} (hj:j≤ms.length) (hj':¬(j:Int)<(ms.length:Int)) (ha:allNotes ms (k:Int) j=true) (hq:¬(q:Int)<((pickI (k:Int) j).length:Int)) (h:hists d gs (clearM ms ((pickI (k:Int) j).take q)) cs 0=[]):blameOne d gs ms cs k=none:=by
 obtain rfl:j=ms.length:=by omega
 rw [List.take_of_length_le (by omega)] at h;unfold blameOne;rw [if_pos ha,if_pos h]
theorem blame_yes {d:Int} {gs:List Good} {ms:List Move} {cs:List Count} {k j q:Nat} (hj:j≤ms.length) (hj':¬(j:Int)<(ms.length:Int)) (ha:allNotes ms (k:Int) j=true) (hq:¬(q:Int)<((pickI (k:Int) j).length:Int)) (h:hists d gs (clearM ms ((pickI (k:Int) j).take q)) cs 0≠[]):blameOne d gs ms cs k=some (pickI (k:Int) j):=by
 obtain rfl:j=ms.length:=by omega
 rw [List.take_of_length_le (by omega)] at h;unfold blameOne;rw [if_pos ha,if_neg h]
theorem lists_snoc {fl:List Sl} {v:Value} {xs:List Int} {l:List (List Int)} (h:lists fl=l):lists (fl++[(v,xs)])=l++[xs]:=by unfold lists at *;rw [List.map_append,h];rfl
theorem SlAll.drop {h:GH} {l:List Sl} (a:SlAll h l) (n:Nat):SlAll h (l.drop n):=fun k=>by
 have:=a (n+k)
 rw [List.getD_eq_getElem?_getD] at this ⊢;rw [List.getElem?_drop];exact this
section
variable (d m:Int) (gs:List Good) (ms:List Move) (cs:List Count)
def blameBell:Int:=if bookBell d m gs ms cs=0 then (if (blameTo d gs ms cs (2 ^ ms.length)).length=0 then 9 else 0) else bookBell d m gs ms cs
def blameL:List Int:=if blameBell d m gs ms cs=0 then bestL ((blameTo d gs ms cs (2 ^ ms.length)).getD 0 []) ((blameTo d gs ms cs (2 ^ ms.length)).drop 1) else []
end
section
variable {d m:Int} {gs:List Good} {ms:List Move} {cs:List Count} {fl:List Sl} {k:Nat}
theorem blameBell_bad (h:¬bookBell d m gs ms cs=0):blameBell d m gs ms cs=bookBell d m gs ms cs:=by unfold blameBell;rw [if_neg h]
theorem blameBell_ok (h:bookBell d m gs ms cs=0):blameBell d m gs ms cs=if (blameTo d gs ms cs (2 ^ ms.length)).length=0 then 9 else 0:=by unfold blameBell;rw [if_pos h]
theorem pow_nat (n:Nat):((2 ^ n:Nat):Int)=(2:Int) ^ n:=by induction n with
 | zero=>rfl
 | succ n ih=>rw [Nat.pow_succ,Int.pow_succ,←ih];rfl
theorem masks_end (hk:(k:Int)≤(2:Int) ^ ((ms.length:Int)).toNat) (hk':¬(k:Int)<(2:Int) ^ ((ms.length:Int)).toNat):k=2 ^ ms.length:=by
 have:=pow_nat ms.length
 rw [Int.toNat_natCast] at hk hk';omega
theorem lists_length (l:List Sl):(lists l).length=l.length:=by unfold lists;simp
theorem blameT_bad (h:¬bookBell d m gs ms cs=0):(.tuple #[.slice none 0 0,.int .i64 (bookBell d m gs ms cs)]:Value)=.tuple #[.slice none 0 0,.int .i64 (blameBell d m gs ms cs)]:=by rw [blameBell_bad h]
theorem blameBell_none (hfl:lists fl=blameTo d gs ms cs k) (hk:(k:Int)≤(2:Int) ^ ((ms.length:Int)).toNat) (hk':¬(k:Int)<(2:Int) ^ ((ms.length:Int)).toNat) (hb:¬¬bookBell d m gs ms cs=0) (h0:(fl.length:Int)=0):blameBell d m gs ms cs=9:=by
 obtain rfl:=masks_end hk hk';rw [blameBell_ok (Decidable.not_not.1 hb),←hfl,lists_length,if_pos (by omega)]
theorem blameBell_some (hfl:lists fl=blameTo d gs ms cs k) (hk:(k:Int)≤(2:Int) ^ ((ms.length:Int)).toNat) (hk':¬(k:Int)<(2:Int) ^ ((ms.length:Int)).toNat) (hb:¬¬bookBell d m gs ms cs=0) (h0:¬(fl.length:Int)=0):blameBell d m gs ms cs=0:=by
 obtain rfl:=masks_end hk hk';rw [blameBell_ok (Decidable.not_not.1 hb),←hfl,lists_length,if_neg (by omega)]
theorem blameL_bad (h:¬bookBell d m gs ms cs=0):blameL d m gs ms cs=[]:=by unfold blameL;rw [blameBell_bad h,if_neg h]
theorem blameL_none (hfl:lists fl=blameTo d gs ms cs k) (hk:(k:Int)≤(2:Int) ^ ((ms.length:Int)).toNat) (hk':¬(k:Int)<(2:Int) ^ ((ms.length:Int)).toNat) (hb:¬¬bookBell d m gs ms cs=0) (h0:(fl.length:Int)=0):blameL d m gs ms cs=[]:=by
 unfold blameL;rw [blameBell_none hfl hk hk' hb h0,if_neg (by decide)]
theorem blameL_ok (hfl:lists fl=blameTo d gs ms cs k) (hk:(k:Int)≤(2:Int) ^ ((ms.length:Int)).toNat) (hk':¬(k:Int)<(2:Int) ^ ((ms.length:Int)).toNat) (hb:¬¬bookBell d m gs ms cs=0) (h0:¬(fl.length:Int)=0):blameL d m gs ms cs=bestL (fl.getD 0 Sl.z).2 (lists (fl.drop 1)):=by
 have e:=masks_end hk hk';unfold blameL;rw [blameBell_some hfl hk hk' hb h0,if_pos rfl];subst e;rw [←hfl,lists_getD (by omega)];congr 1;unfold lists;rw [List.map_drop]
end
theorem fl_len {d:Int} {gs:List Good} {ms:List Move} {cs:List Count} {fl:List Sl} {k:Nat} (h:lists fl=blameTo d gs ms cs k):fl.length≤k:=by
 rw [←lists_length,h];unfold blameTo
 have:=List.length_filterMap_le (blameOne d gs ms cs) (List.range k)
 rw [List.length_range] at this;exact this
theorem fill_sl1 {v:Value} (h:v.cells=#[v]):Instr.fill (fun i=>some (i*1,1)) ((Array.range (1*1)).map (#[Value.slice none 0 0][·% #[Value.slice none 0 0].size]!)) [(0,v)]=some #[v]:=by
 have e:((Array.range (1*1)).map (#[Value.slice none 0 0][·% #[Value.slice none 0 0].size]!))=#[Value.slice none 0 0]:=by kernel_rfl
 rw [e];simp [Instr.fill,h]
def JFnd {α:Type} (hB:GH) (r:Nat) (T t:TypeId) (wf:Value) (fl:List Sl) (pre:List α) (Y:Nat→Prop) (h:GH):Prop:=
 pre=[]∧h r=some (true,.cells #[wf] T (0,0))∧OwnSl hB h wf t 1 eSl fl∧Off wf r∧hB r=none∧∀b,Y b↔b=r∨back wf=some b
def SFnd {α:Type} (hB:GH) (r:Nat) (T t:TypeId) (fl:List Sl) (cd:Code) (all:List α) (c:Code) (h:GH):Prop:=
 c=cd∧(∃w,h r=some (true,.cells #[w] T (0,0))∧OwnSl hB h w t 1 eSl fl∧Off w r)∧all≠[]
theorem jfnd_prom {α:Type} (hB:GH) (r:Nat) (T t:TypeId) (wf:Value) (fl:List Sl):Prom hB (JFnd (α:=α) hB r T t wf fl):=by
 refine ⟨?_,?_⟩
 ·rintro pre Y h b ⟨_,h1,h2,h3,h0,h4⟩ hb;rcases (h4 b).1 hb with rfl | h5
  ·exact ⟨_,_,h1,rfl⟩
  ·obtain ⟨c,hc⟩:=h2.cellsAt b h5;exact ⟨_,_,hc,rfl⟩
 ·rintro pre Y h h' ⟨e,h1,h2,h3,h0,h4⟩ same lB;exact ⟨e,by rw [same r ((h4 r).2 (.inl rfl))];exact h1,h2.keep fun b o hb ho=>by rw [same b ((h4 b).2 (.inr hb))];exact ho,h3,h0,h4⟩
theorem jfnd_start {α:Type} {hK h:GH} {r:Nat} {T t:TypeId} {wf:Value} {fl:List Sl} (x:h r=some (true,.cells #[wf] T (0,0))) (o:OwnSl hK h wf t 1 eSl fl) (f:Off wf r) :
  JFnd (α:=α) (h.delS fun b=>b=r∨back wf=some b) r T t wf fl [] (fun b=>b=r∨back wf=some b) h:=
 ⟨rfl,x,o.rebase fun _ q=>GH.delS_in (.inr q),f,GH.delS_in (.inl rfl),fun _=>Iff.rfl⟩
theorem sfnd_stable {α:Type} {hB:GH} {r:Nat} {T t:TypeId} {fl:List Sl} {cd:Code} {all:List α}:∀c (h h':GH) l lo,SFnd hB r T t fl cd all c h→h l=some (true,.loop lo)→(∀b,b≠l→h' b=h b)→SFnd hB r T t fl cd all c h':=by
 rintro c h h' l lo ⟨q1,⟨w,q2,q3,q4⟩,q5⟩ hl ho;refine ⟨q1,⟨w,(ho _ fun e=>by subst e;rw [q2] at hl;cases hl).trans q2,q3.keep fun b o hb hbo=>?_,q4⟩,q5⟩;obtain ⟨c,hc⟩:=q3.cellsAt b hb;exact (ho b fun e=>by subst e;rw [hc] at hl;cases hl).trans hbo
end Go.Ns
namespace Go.Ns
open Go.Conc
section
variable {P:Program} {M:Type}
structure FEnv (P:Program) (M:Type) where
 W:Wk P
 Rep:Nat→M→Value→GH→Prop
 main:Bool
 fn:FuncId
 rd:Option Nat
 N:Nat
def FEnv.wk (F:FEnv P M):Option (Scr M)→Wk P
 | none=>F.W
 | some s=>⟨F.main,RunTo P F.main (StopOf P F.Rep F.W.K s F.main),runTo_closed _ _⟩
abbrev FEnv.env (F:FEnv P M) (i:Option (Scr M)):Env P:=⟨F.wk i,F.fn,F.rd,F.N⟩
abbrev PostI (M:Type):=Option (Scr M)→Exit→(Nat→Value)→List Deferred→GH→Prop
def TrI (F:FEnv P M) (c:Code) (i:Option (Scr M)) (σ:Nat→Value) (ds:List Deferred) (h:GH) (Q:PostI M):Prop:=
 ∀(b:Frame) (k:List Item) (cs:List Frame) (L:Option (Scr M)→Lv) (t:Array Value),b.fn=F.fn→b.roundOf=F.rd→(∀i,LeaveOK (F.wk i) b cs (L i))→SlotsAre t F.N σ→
  (∀i e σ' ds' h',Q i e σ' ds' h'→∀t',SlotsAre t' F.N σ'→After (F.wk i) (L i) b k cs e t' ds' h')→(F.wk i).K (G (fat b t ds (.code c ::k)) cs) h
def TrLI (F:FEnv P M) (ops:Array Oper) (l:List Oper) (i:Option (Scr M)) (σ:Nat→Value) (ds:List Deferred) (h:GH) (Q:PostI M):Prop:=
 ∀(n:Nat) (b:Frame) (k:List Item) (cs:List Frame) (L:Option (Scr M)→Lv) (t:Array Value),(∀j,l[j]? =ops[n+j]?)→b.fn=F.fn→b.roundOf=F.rd→(∀i,LeaveOK (F.wk i) b cs (L i))→SlotsAre t F.N σ→
  (∀i e σ' ds' h',Q i e σ' ds' h'→∀t',SlotsAre t' F.N σ'→After (F.wk i) (L i) b k cs e t' ds' h')→(F.wk i).K (G (fat b t ds (.inRegion ops (List.range' n l.length) ::k)) cs) h
variable {F:FEnv P M} {i:Option (Scr M)} {σ:Nat→Value} {ds:List Deferred} {h:GH} {Q:PostI M}
theorem trI_lift {c:Code} (x:Tr (F.env i) c σ ds h (Q i)):TrI F c i σ ds h Q:=fun b k cs L t hb hr hl hs hc=>x b k cs (L i) t hb hr (hl i) hs (hc i)
theorem trLI_lift {ops:Array Oper} {l:List Oper} (x:TrL (F.env i) ops l σ ds h (Q i)):TrLI F ops l i σ ds h Q:=fun n b k cs L t hi hb hr hl hs hc=>x n b k cs (L i) t hi hb hr (hl i) hs (hc i)
theorem trI_mono {c:Code} {Q':PostI M} (hq:∀i e σ ds h,Q i e σ ds h→Q' i e σ ds h) (x:TrI F c i σ ds h Q):TrI F c i σ ds h Q':=
 fun b k cs L t hb hr hl hs hc=>x b k cs L t hb hr hl hs fun i e σ' ds' h' q=>hc i e σ' ds' h' (hq _ _ _ _ _ q)
theorem trI_seq {x y:Code} (a:TrI F x i σ ds h (fun i e σ' ds' h'=>match e with | .normal=>TrI F y i σ' ds' h' Q | e=>Q i e σ' ds' h')):TrI F (.seq x y) i σ ds h Q:=by
 intro b k cs L t hb hr hl hs hc;refine Wk.go (fat b t ds (.code x ::.code y ::k)) (fun w=>by rw [stepG_fat];simp [stepG.exec,fat,G]) ?_;refine a b (.code y ::k) cs L t hb hr hl hs fun i e σ' ds' h' q t' ht'=>?_;cases e with
 | normal=>exact q b k cs L t' hb hr hl ht' hc
 | exit id=>exact After.push rfl (by simp) (hc _ _ _ _ _ q t' ht')
 | ret=>exact After.push rfl (by simp) (hc _ _ _ _ _ q t' ht')
 | goto l=>exact After.push rfl (by simp) (hc _ _ _ _ _ q t' ht')
 | panic l=>exact After.push rfl (by simp) (hc _ _ _ _ _ q t' ht')
 | outgrown=>exact After.push rfl (by simp) (hc _ _ _ _ _ q t' ht')
theorem trI_seq_lift {x y:Code} (a:Tr (F.env i) x σ ds h (fun e σ' ds' h'=>match e with | .normal=>TrI F y i σ' ds' h' Q | e=>Q i e σ' ds' h')):TrI F (.seq x y) i σ ds h Q:=
 trI_seq (trI_lift (Q:=fun i e σ' ds' h'=>match e with | .normal=>TrI F y i σ' ds' h' Q | e=>Q i e σ' ds' h') a)
theorem trI_cond {c:Operand} {x y:Code} {t:Bool} (hc:evalS σ c=.bool t) (a:TrI F (if t then x else y) i σ ds h Q):TrI F (.cond c x y) i σ ds h Q:=by
 intro b k cs L tm hb hr hl hs hq;refine Wk.go (fat b tm ds (.code (if t then x else y) ::k)) (fun w=>?_) (a b k cs L tm hb hr hl hs hq);have he:(fat b tm ds (.code (.cond c x y) ::k)).eval c=.bool t:=by rw [eval_fat hs];exact hc
 simp only [fat] at he;rw [stepG_fat];simp [stepG.exec,fat,G,he]
theorem trI_true {c:Operand} {x y:Code} (hc:evalS σ c=.bool true) (a:TrI F x i σ ds h Q):TrI F (.cond c x y) i σ ds h Q:=trI_cond hc a
theorem trI_false {c:Operand} {x y:Code} (hc:evalS σ c=.bool false) (a:TrI F y i σ ds h Q):TrI F (.cond c x y) i σ ds h Q:=trI_cond hc a
theorem trI_if {c:Operand} {x y:Code} {p:Prop} [Decidable p] (hc:evalS σ c=.bool (decide p)) (a:p→TrI F x i σ ds h Q) (a':¬p→TrI F y i σ ds h Q):TrI F (.cond c x y) i σ ds h Q:=by
 by_cases hp:p
 ·exact trI_true (by rw [hc];simp [hp]) (a hp)
 ·exact trI_false (by rw [hc];simp [hp]) (a' hp)
theorem trI_ifb {c:Operand} {x y:Code} {t:Bool} (hc:evalS σ c=.bool t) (a:t=true→TrI F x i σ ds h Q) (a':t=false→TrI F y i σ ds h Q):TrI F (.cond c x y) i σ ds h Q:=by
 cases t with
 | true=>exact trI_true hc (a rfl)
 | false=>exact trI_false hc (a' rfl)
theorem trI_block {id:Nat} {c:Code} (a:TrI F c i σ ds h (fun i e σ' ds' h'=>match e with | .normal=>Q i .normal σ' ds' h' | .exit id'=>if id'=id then Q i .normal σ' ds' h' else Q i (.exit id') σ' ds' h' | e=>Q i e σ' ds' h')) :
  TrI F (.block id c) i σ ds h Q:=by
 intro b k cs L t hb hr hl hs hc;refine Wk.go (fat b t ds (.code c ::.inBlock id ::k)) (fun w=>by rw [stepG_fat];simp [stepG.exec,fat,G]) ?_;refine a b (.inBlock id ::k) cs L t hb hr hl hs fun i e σ' ds' h' q t' ht'=>?_;cases e with
 | normal=>exact Wk.go (fat b t' ds' k) (fun w=>by rw [stepG_fat];simp [stepG.exec,fat,G]) (hc _ _ _ _ _ q t' ht')
 | exit id'=>
  by_cases hid:id'=id
  ·simp only [hid,if_true] at q
   have:=hc _ _ _ _ _ q t' ht'
   simp only [After,exitTo,hid,beq_self_eq_true,if_true];exact this
  ·simp only [hid,if_false] at q
   have:=hc _ _ _ _ _ q t' ht'
   have hne:(id==id')=false:=by simp;exact fun h=>hid h.symm
   simp only [After,exitTo,hne] at this ⊢;exact this
 | ret=>exact hc _ _ _ _ _ q t' ht'
 | goto l=>exact hc _ _ _ _ _ q t' ht'
 | panic l=>exact hc _ _ _ _ _ q t' ht'
 | outgrown=>exact hc _ _ _ _ _ q t' ht'
theorem trI_scope {c:Code} (a:TrI F c i σ ds h Q):TrI F (.scope c) i σ ds h Q:=by
 intro b k cs L t hb hr hl hs hc;refine Wk.go (fat b t ds (.code c ::.inScope c ::k)) (fun w=>by rw [stepG_fat];simp [stepG.exec,fat,G]) ?_;refine a b (.inScope c ::k) cs L t hb hr hl hs fun i e σ' ds' h' q t' ht'=>?_
 have:=hc _ _ _ _ _ q t' ht'
 cases e with
 | normal=>exact Wk.go (fat b t' ds' k) (fun w=>by rw [stepG_fat];simp [stepG.exec,fat,G]) this
 | exit id=>simp only [After,exitTo] at this ⊢;exact this
 | ret=>exact this
 | goto l=>exact this.elim
 | panic l=>exact this.elim
 | outgrown=>exact this.elim
theorem trI_loop {c:Code} (I:Nat→Option (Scr M)→(Nat→Value)→List Deferred→GH→Prop) {n:Nat} (i0:I n i σ ds h)
  (round:∀n i σ ds h,I n i σ ds h→TrI F c i σ ds h (fun i e σ' ds' h'=>match e with | .normal=>∃m,m<n∧I m i σ' ds' h' | e=>Q i e σ' ds' h')):TrI F (.loop c) i σ ds h Q:=by
 intro b k cs L t hb hr hl hs hc;refine Wk.go (fat b t ds (.code c ::.inLoop c ::k)) (fun w=>by rw [stepG_fat];simp [stepG.exec,fat,G]) ?_;have key:∀n i σ ds h t,I n i σ ds h→SlotsAre t F.N σ→(F.wk i).K (G (fat b t ds (.code c ::.inLoop c ::k)) cs) h:=by
  intro n
  induction n using Nat.strongRecOn with
  | ind n ih=>
   intro i σ ds h t hi hs;refine round n i σ ds h hi b (.inLoop c ::k) cs L t hb hr hl hs fun i e σ' ds' h' q t' ht'=>?_;cases e with
   | normal=>
    obtain ⟨m,hm,hi'⟩:=q;exact Wk.go (fat b t' ds' (.code c ::.inLoop c ::k)) (fun w=>by rw [stepG_fat];simp [stepG.exec,fat,G]) (ih m hm _ _ _ _ _ hi' ht')
   | exit id=>exact After.push rfl (by simp) (hc _ _ _ _ _ q t' ht')
   | ret=>exact After.push rfl (by simp) (hc _ _ _ _ _ q t' ht')
   | goto l=>exact After.push rfl (by simp) (hc _ _ _ _ _ q t' ht')
   | panic l=>exact After.push rfl (by simp) (hc _ _ _ _ _ q t' ht')
   | outgrown=>exact After.push rfl (by simp) (hc _ _ _ _ _ q t' ht')
 exact key n i σ ds h t i0 hs
theorem trI_region {id:Nat} {l:List Oper} (a:TrLI F l.toArray l i σ ds h Q):TrI F (.region id l.toArray false) i σ ds h Q:=by
 intro b k cs L t hb hr hl hs hc;refine Wk.go (fat b t ds (.inRegion l.toArray (List.range' 0 l.length) ::k)) (fun w=>?_) (a 0 b k cs L t (by simp) hb hr hl hs hc);rw [stepG_fat];simp [stepG.exec,fat,G,List.range_eq_range']
theorem trLI_nil {ops:Array Oper} (q:Q i .normal σ ds h):TrLI F ops [] i σ ds h Q:=by
 intro n b k cs L t hi hb hr hl hs hc;exact Wk.go (fat b t ds k) (fun w=>by rw [stepG_fat];simp [stepG.exec,fat,G]) (hc _ _ _ _ _ q t hs)
theorem trLI_plain {ops:Array Oper} {o:Oper} {l:List Oper} (hg:o.guard=none) (hdf:F.rd=none∨isDefer o.op=false) (hd:dstOK o.dst F.N=true)
  (x:OpK (F.env i) o σ ds h fun σ' ds' h'=>TrLI F ops l i σ' ds' h' Q):TrLI F ops (o ::l) i σ ds h Q:=by
 intro n b k cs L t hi hb hr hl hs hc;have ho:ops[n]? =some o:=by simpa using (hi 0).symm
 refine step_op (E:=F.env i) (rest:=List.range' (n+1) l.length) ho (by simp [Region.wanted,hg]) (hr▸hdf) hd hs x fun σ' ds' h' y t' ht'=>?_;exact y (n+1) b k cs L t' (fun j=>by have:=hi (j+1);simpa [Nat.add_assoc,Nat.add_comm 1 j] using this) hb hr hl ht' hc
theorem stepG_at {main:Bool} {b:Frame} {t:Array Value} {ops:Array Oper} {n:Nat} {rest:List Nat} {k:List Item} {cs:List Frame} {o:Oper} {N:Nat} (hs:SlotsAre t N σ) (ho:ops[n]? =some o) (hw:Region.wanted o (yielded ops t)=true)
  (hdf:b.roundOf=none∨isDefer o.op=false) (w:World):stepG P main (G (fat b t ds (.inRegion ops (n ::rest) ::k)) cs) w=stepG.apply P true (fat b t ds (.inRegion ops (n ::rest) ::k)) cs none (execOp (evalS σ) o) w:=by
 have hev:=eval_fat (b:=b) (ds:=ds) (k:=.inRegion ops (n ::rest) ::k) hs;rw [←hev];have hw':((ops[n]?).map (Region.wanted · (yielded ops t))).getD false=true:=by simp [ho,hw]
 rw [stepG_fat];unfold stepG.exec;simp only [fat,hw',↓reduceIte];unfold stepG.oper;simp only [Frame.oper?,ho];rcases hdf with e | e
 ·simp only [e]
 ·cases hq:o.op <;> first | rfl | (rw [hq] at e;cases e;done) | (cases b.roundOf <;> rfl)
theorem comm_at {main:Bool} {b:Frame} {t:Array Value} {ops:Array Oper} {n:Nat} {rest:List Nat} {k:List Item} {cs:List Frame} {o:Oper} {N:Nat} {w:World} {cc:Array CommCase} {bl:Bool} {sh:CommShape} (hs:SlotsAre t N σ) (ho:ops[n]? =some o) (hw:Region.wanted o (yielded ops t)=true)
  (hdf:b.roundOf=none∨isDefer o.op=false) (hr:(execOp (evalS σ) o).runT P w #[]=(.ok (.comm cc bl sh) w,#[])) :
  stepG P main (G (fat b t ds (.inRegion ops (n ::rest) ::k)) cs) w=.comm (G (fat b t ds (.inRegion ops (n ::rest) ::k)) cs) cc bl sh w #[]:=by
 rw [stepG_at hs ho hw hdf];simp only [stepG.apply,hr,if_true,ite_self,seen_none];rfl
theorem spawn_at {main:Bool} {b:Frame} {t:Array Value} {ops:Array Oper} {n:Nat} {rest:List Nat} {k:List Item} {cs:List Frame} {o:Oper} {N:Nat} {w:World} {f:Fn} {cap args:Array Value} (hs:SlotsAre t N σ) (ho:ops[n]? =some o) (hw:Region.wanted o (yielded ops t)=true)
  (hdf:b.roundOf=none∨isDefer o.op=false) (hr:(execOp (evalS σ) o).runT P w #[]=(.ok (.spawn { target:=.fn f cap,args:=args }) w,#[])) :
  stepG P main (G (fat b t ds (.inRegion ops (n ::rest) ::k)) cs) w=.spawn (G ((fat b t ds (.inRegion ops (n ::rest) ::k)).finish undef) cs) (born P { target:=.fn f cap,args:=args }) w #[]:=by
 rw [stepG_at hs ho hw hdf];simp only [stepG.apply,hr,if_true,ite_self,seen_none];simp [GStep.after,G,born]
variable {ops:Array Oper} {o:Oper} {l:List Oper}
theorem trLI_never (hl:l≠[]):TrLI F ops l (some .never) σ ds h Q:=fun n b k cs L t hi hb hr _ hs hc=>RunTo.stop rfl
theorem trI_never {c:Code}:TrI F c (some .never) σ ds h Q:=fun b k cs L t hb hr _ hs hc=>RunTo.stop rfl
theorem trLI_send {c:Nat} {m:M} {nx:Scr M} {v z:Value} {hm h1:GH} (hg:o.guard=none) (hdf:isDefer o.op=false) (hd:dstOK o.dst F.N=true)
  (hr:∀w,(execOp (evalS σ) o).runT P w #[]=(.ok (.comm #[scase c v z] true .send) w,#[])) (hsp:GH.Split h h1 hm) (hrep:F.Rep c m v hm) (hnx:¬nx.isDone)
  (x:TrLI F ops l (some nx) (putS σ o.dst undef) ds h1 Q):TrLI F ops (o ::l) (some (.send c m nx)) σ ds h Q:=by
 intro n b k cs L t hi hb hrd hl hs hc;have ho:ops[n]? =some o:=by simpa using (hi 0).symm
 refine RunTo.stop ⟨_,cs,v,z,hm,h1,rfl,⟨fun w f=>?_,hsp,hrep,?_⟩⟩
 ·rw [List.length_cons,List.range'_succ];exact comm_at hs ho (by simp [Region.wanted,hg]) (.inr hdf) (hr w)
 ·rw [does_run hnx,List.length_cons,List.range'_succ,finish_fat ho];exact x (n+1) b k cs L _ (fun j=>by have:=hi (j+1);simpa [Nat.add_assoc,Nat.add_comm 1 j] using this) hb hrd hl (hs.putS hd undef) hc
theorem trLI_recv {c:Nat} {f:Option M→Scr M} {z:Value} {ok:Bool} (hg:o.guard=none) (hdf:isDefer o.op=false) (hd:dstOK o.dst F.N=true)
  (hr:∀w,(execOp (evalS σ) o).runT P w #[]=(.ok (.comm #[rcase c z] true (.recv ok)) w,#[])) (hnx:∀o,¬(f o).isDone)
  (x:∀m v hm,F.Rep c m v hm→h.Compat hm→TrLI F ops l (some (f (some m))) (putS σ o.dst (recvd ok v true)) ds (h.join hm) Q)
  (y:TrLI F ops l (some (f none)) (putS σ o.dst (recvd ok z false)) ds h Q):TrLI F ops (o ::l) (some (.recv c f)) σ ds h Q:=by
 intro n b k cs L t hi hb hrd hl hs hc;have ho:ops[n]? =some o:=by simpa using (hi 0).symm
 refine RunTo.stop ⟨_,cs,z,ok,rfl,⟨fun w fw=>?_,fun m v hm hrep hcp=>?_,?_⟩⟩
 ·rw [List.length_cons,List.range'_succ];exact comm_at hs ho (by simp [Region.wanted,hg]) (.inr hdf) (hr w)
 ·show Does P F.Rep F.W.K (f (some m)) F.main _ _;rw [does_run (hnx _),List.length_cons,List.range'_succ,finish_fat ho];exact x m v hm hrep hcp (n+1) b k cs L _ (fun j=>by have:=hi (j+1);simpa [Nat.add_assoc,Nat.add_comm 1 j] using this) hb hrd hl (hs.putS hd _) hc
 ·show Does P F.Rep F.W.K (f none) F.main _ _;rw [does_run (hnx _),List.length_cons,List.range'_succ,finish_fat ho];exact y (n+1) b k cs L _ (fun j=>by have:=hi (j+1);simpa [Nat.add_assoc,Nat.add_comm 1 j] using this) hb hrd hl (hs.putS hd _) hc
theorem trLI_go {ch nx:Scr M} {f:Fn} {cap args:Array Value} {hc h1:GH} (hg:o.guard=none) (hdf:isDefer o.op=false) (hd:dstOK o.dst F.N=true)
  (hr:∀w,(execOp (evalS σ) o).runT P w #[]=(.ok (.spawn { target:=.fn f cap,args:=args }) w,#[])) (hsp:GH.Split h h1 hc) (hnx:¬nx.isDone)
  (child:Does P F.Rep F.W.K ch false (born P { target:=.fn f cap,args:=args }) hc) (x:TrLI F ops l (some nx) (putS σ o.dst undef) ds h1 Q):TrLI F ops (o ::l) (some (.spawn ch nx)) σ ds h Q:=by
 intro n b k cs L t hi hb hrd hl hs hq;have ho:ops[n]? =some o:=by simpa using (hi 0).symm
 refine RunTo.stop ⟨_,cs,(fat b t ds (.inRegion ops (List.range' n (o ::l).length) ::k)).finish undef,_,hc,h1,rfl,⟨fun w fw=>?_,hsp,?_,child⟩⟩
 ·rw [List.length_cons,List.range'_succ];exact spawn_at hs ho (by simp [Region.wanted,hg]) (.inr hdf) (hr w)
 ·rw [does_run hnx,List.length_cons,List.range'_succ,finish_fat ho];exact x (n+1) b k cs L _ (fun j=>by have:=hi (j+1);simpa [Nat.add_assoc,Nat.add_comm 1 j] using this) hb hrd hl (hs.putS hd undef) hq
def closeD (tys:Array TypeId) (ty:TypeId) (cs:Array Bool) (c:Nat):Deferred:={ target:=.builtin .close tys ty cs,args:=#[.chan (some c)] }
theorem run_callFunc {f:FuncId} {fn:Func} {args:Array Value} (hf:P.funcs[f]? =some fn) (hc:callable fn=true) (w:World):(callFunc f args).runT P w #[]=(.ok (.enter f args) w,#[]):=by
 unfold callable at hc;simp only [Bool.and_eq_true,Bool.not_eq_true'] at hc;unfold callFunc;show (match P.funcs[f]? with | none=>_ | some fn=>_:Sem Next).runT P w #[]=_;rw [hf];simp only [];rw [if_neg (by rw [hc.1];simp),if_neg (by cases hb:fn.body with | none=>rw [hb] at hc;simp at hc | some c=>simp)];rfl
theorem run_closeD {tys:Array TypeId} {ty:TypeId} {cs:Array Bool} {ch s r:Nat} {w:World} (hw:w.heap[ch]? =some (.chan 0 #[] false s r false)) :
  (invoke (.builtin .close tys ty cs) #[.chan (some ch)]).runT P w #[]=(.ok (.value (.tuple #[])) { w with heap:=w.heap.setIfInBounds ch (.chan 0 #[] true s r false) },#[⟨.obj ch,false,true⟩,⟨.obj ch,true,true⟩]):=by
 show ((do pure (.value (←Builtin.close_ tys ty #[.chan (some ch)])):Sem Next)).runT P w #[]=_;show Sem.runT P (.getObj ch fun o=>_) w #[]=_;unfold Sem.runT;rw [hw];show Sem.runT P (.setObj ch (.chan 0 #[] true s r false) _) w _=_;unfold Sem.runT;rw [hw];rfl
theorem seen_close {fn:FuncId} {ch:Nat}:seen P fn #[⟨.obj ch,false,true⟩,⟨.obj ch,true,true⟩]=#[⟨.obj ch,false,true⟩,⟨.obj ch,true,true⟩]:=by
 rw [seen_def];simp [seenStep]
theorem does_born {fn:Func} {c:Code} {s:Scr M} {as cap args:Array Value} (hm:F.main=false) (hrd:F.rd=none) (ha:as++cap=args) (hf:P.funcs[F.fn]? =some fn) (hc:callable fn=true) (hb:fn.body=some c) (hN:F.N=fn.ntmps) (hres:fn.results=#[]) (hsz:args.size≤fn.ntmps) (hs:¬s.isDone)
  (x:TrI F c (some s) (fun i=>args.getD i undef) [] h fun i e σ ds h=>(e=.normal∨e=.ret)∧∃ch tys ty cs,i=some (.close ch .done)∧ds=[closeD tys ty cs ch]):Does P F.Rep F.W.K s false (born P { target:=.fn (.func F.fn) cap,args:=as }) h:=by
 let bot:Frame:={ (default:Frame) with fn:=P.funcs.size,defers:=[],mode:=.panicking [goexitEntry] };have hwk:∀s,(F.wk (some s)).K=RunTo P false (StopOf P F.Rep F.W.K s false):=fun s=>by show RunTo P F.main (StopOf P F.Rep F.W.K s F.main)=_;rw [hm]
 rw [does_run hs];refine runTo_closed _ _ _ _ rfl fun w f=>⟨G (Frame.enter P F.fn args .deferred) [bot],w,#[],h,?_,StepOK.refl f,?_⟩
 ·subst ha;have hi:(invoke (.fn (.func F.fn) cap) as).runT P w #[]=(.ok (.enter F.fn (as++cap)) w,#[]):=run_callFunc hf hc w;show callDeferred P bot [] none { target:=.fn (.func F.fn) cap,args:=as } w=_;unfold callDeferred;rw [if_neg (by simp)];simp only [hi,seen_none];rfl
 have e0:Frame.enter P F.fn args .deferred=fat (Frame.enter P F.fn args .deferred) (args++Array.replicate (fn.ntmps-args.size) undef) [] [.code c]:=by simp [Frame.enter,fat,hf,hb]
 rw [e0,←hwk s];let L:Option (Scr M)→Lv:=fun i j t ds h'=>(j=none∨j=some .ret)∧∃ch tys ty cs,i=some (.close ch .done)∧ds=[closeD tys ty cs ch];have fin:∀ch tys ty cs h' t k,(F.wk (some (.close ch .done))).K (G (fret (Frame.enter P F.fn args .deferred) t [closeD tys ty cs ch] k) [bot]) h':=by
  intro ch tys ty cs h' t k;rw [hwk];refine RunTo.stop ⟨_,_,fret (Frame.enter P F.fn args .deferred) t [] k,[bot],rfl,⟨fun w s r _ hw=>?_,rfl,?_⟩⟩
  ·have hi:=run_closeD (P:=P) (tys:=tys) (ty:=ty) (cs:=cs) hw;show callDeferred P (fret (Frame.enter P F.fn args .deferred) t [] k) [bot] none (closeD tys ty cs ch) w=_;unfold callDeferred closeD;rw [if_neg (by simp)];simp only [hi,seen_close];rfl
  ·refine ⟨2,.inr ⟨rfl,G bot [],fun w=>?_,.inr ⟨rfl,{ G bot [] with status:=.finished },fun w=>?_,rfl⟩⟩⟩
   ·show unwind P false (fret (Frame.enter P F.fn args .deferred) t [] k) [bot] none w=_;have hfn:(fret (Frame.enter P F.fn args .deferred) t [] k).fn=F.fn:=rfl;have hk:(fret (Frame.enter P F.fn args .deferred) t [] k).kind=.deferred:=rfl;have hmd:(fret (Frame.enter P F.fn args .deferred) t [] k).mode=.returning:=rfl;have hd:(fret (Frame.enter P F.fn args .deferred) t [] k).defers=[]:=rfl;have r1:∀t,(results fn t).runT P w #[]=(.ok (.tuple #[]) w,#[]):=fun t=>by
     unfold results;rw [hres];simp only [Array.mapM_empty];rfl
    unfold unwind;simp only [hd,hmd,hfn,hf,r1,GStep.after,doReturn,hk,seen_none];rfl
   ·show unwind P false bot [] none w=_;have hcat:bot.catches P=false:=by
     unfold Frame.catches
     have:P.funcs[bot.fn]? =none:=Array.getElem?_eq_none (Nat.le_refl _)
     rw [this];rfl
    have hd:bot.defers=[]:=rfl;have hmd:bot.mode=.panicking [goexitEntry]:=rfl;unfold unwind;simp only [hd,hmd,hcat];rfl
 refine x (Frame.enter P F.fn args .deferred) [] [bot] L _ rfl hrd.symm (fun i=>⟨?_,?_,?_⟩) ⟨by rw [hN];simp;omega,fun i=>?_⟩ ?_
 ·rintro t ds h' ⟨_,ch,tys,ty,cs,rfl,rfl⟩;exact Wk.go (fret (Frame.enter P F.fn args .deferred) t _ []) (fun w=>by rw [stepG_fat];simp [stepG.exec,fat,fret,G,Frame.enter]) (fin ch tys ty cs h' t [])
 ·rintro t ds h' k ⟨_,ch,tys,ty,cs,rfl,rfl⟩;exact Wk.go (fret (Frame.enter P F.fn args .deferred) t _ (.code .ret ::k)) (fun w=>by rw [stepG_fat];simp [stepG.exec,fat,fret,G,Frame.enter]) (fin ch tys ty cs h' t _)
 ·rintro id t ds h' k _ ⟨h1 | h1,_⟩ <;> cases h1
 ·by_cases hi:i<args.size
  ·simp [Array.getD_eq_getD_getElem?,Array.getElem?_append_left hi]
  ·simp only [Array.getD_eq_getD_getElem?];rw [Array.getElem?_append_right (by omega),Array.getElem?_eq_none (show args.size≤i by omega),Array.getElem?_replicate];split <;> rfl
 ·rintro i e σ ds h' ⟨he,ch,tys,ty,cs,rfl,rfl⟩ t' ht';rcases he with rfl | rfl
  ·exact Wk.go (fret (Frame.enter P F.fn args .deferred) t' _ []) (fun w=>by rw [stepG_fat];simp [stepG.exec,fat,fret,G,Frame.enter]) (fin ch tys ty cs h' t' [])
  ·exact ⟨.inr rfl,ch,tys,ty,cs,rfl,rfl⟩
end
section
variable {P:Program} {M:Type} {Post:Value→World→Prop}
def GH.Same (h h':GH):Prop:=∀b p o,h b=some (p,o)→∃p',h' b=some (p',o)
theorem Base.flags {g:Goroutine} {h h':GH} {gs:Array Goroutine} {w:World} {q:Nat→Nat} {t:Trace} (B:Base P g h gs w q t) (s:h'.Same h):Base P g h' gs w q t:=
 { B with
  fits:=fun b p o hb=>by obtain ⟨p',x⟩:=s b p o hb;exact B.fits b p' o x
  chn:=fun b p o k a hb=>by obtain ⟨p',x⟩:=s b p o hb;exact B.chn b p' o k a x }
theorem MainOK.flags {g:Goroutine} {h h':GH} (s:h'.Same h) (x:MainOK P Post g h'):MainOK P Post g h:=fun gs w sl q t B=>x gs w sl q t (B.flags s)
def StartN (c:Nat) (s0:Scr M) (N:Net M):Prop:=0<N.n∧N.s 0=s0∧(∀j,0<j→j<N.n→N.s j=.done∧N.kn 0 j)∧N.cl c=false
theorem mainOK_of_net {Rep:Nat→M→Value→GH→Prop} {g:Goroutine} {h:GH} {c:Nat} {s0:Scr M} (hc:h c=some (true,.chan 0 #[] false 0 0 false)) (good:∀N:Net M,StartN c s0 N→GoodN (fun x=>x=c) N)
  (d:Does P Rep (MainOK P Post) s0 true g (h.delS fun x=>x=c)):MainOK P Post g h:=by
 intro gs w sl q t B;have hsub:(h.delS fun x=>x=c).Same h:=fun b p o hb=>by
  by_cases e:b=c
  ·rw [GH.delS_in (X:=fun x=>x=c) e] at hb;cases hb
  ·rw [GH.delS_ne (X:=fun x=>x=c) e] at hb;exact ⟨p,hb⟩
 have B':=B.flags hsub;let N:Net M:={ n:=gs.size,s:=fun j=>if j=0 then s0 else .done,kn:=fun i j=>i=0∧0<j,cl:=fun _=>false,ck:=fun _ _=>False };have hpos:0<gs.size:=B.lt;obtain ⟨r0,hsit⟩:=does_sit (cl:=N.cl) d;have hsits:∀i g',gs[i]? =some g'→Sit P Rep (MainOK P Post) (N.s i) N.cl (i==0) g' (only (h.delS fun x=>x=c) i) (if i=0 then r0 else .leave (q i)):=by
  intro i g' hi;rcases Nat.eq_zero_or_pos i with rfl | hp
  ·have:=B.here;rw [hi] at this;cases this
   simpa [N,only] using hsit
  ·have h0:¬i=0:=by omega
   have hq:=B.old i g' hp hi;simp only [N,h0,if_false];exact .leave (q i) rfl hq
 have hparked:∀i (gi:Goroutine) cs sh,gs[i]? =some (parked gi cs sh)→i=0:=fun i gi cs sh hi=>by
  rcases Nat.eq_zero_or_pos i with e | hp
  ·exact e
  ·rcases (B.old i _ hp hi).status with e | e <;> cases e
 refine net_runs (used:=fun x=>x=c) (N:=N) (good N ⟨hpos,rfl,fun j hj hjn=>⟨if_neg (by omega),rfl,hj⟩,rfl⟩) (fun i=>if i=0 then r0 else .leave (q i)) gs w sl t (only (h.delS fun x=>x=c))
  ⟨rfl,B'.HS,B'.TI,hsits,?_,?_,?_,?_,?_,?_⟩
 ·rintro c' rfl;exact ⟨0,B.fits _ _ _ hc⟩
 ·rintro c' i rfl hi;unfold only;split
  ·exact GH.delS_in rfl
  ·rfl
 ·rintro c' k a rfl hk hl;exact B.chn _ _ _ k a hc rfl hk hl
 ·intro i j gi gj c' v z sh z' sh' h1 h2;obtain rfl:=hparked i _ _ _ h1;obtain rfl:=hparked j _ _ _ h2;rw [h1] at h2;exact parked_rs (Option.some.inj h2).symm
 ·rintro i j hi hj ⟨rfl,hjp⟩;refine ⟨if_neg (by omega),fun k a hk _=>B.known k a hk⟩
 ·rintro c' rfl h1;cases h1
def IsMain (W:Wk P):Prop:=∃Post:Value→World→Prop,W.K=MainOK P Post
variable {F:FEnv P M} {i:Option (Scr M)} {σ:Nat→Value} {ds:List Deferred} {h:GH} {Q:PostI M}
theorem trI_net {c:Code} {s0:Scr M} {ch:Nat} (hm:F.main=true) (hW:IsMain F.W) (hc:h ch=some (true,.chan 0 #[] false 0 0 false)) (hs:¬s0.isDone) (good:∀N:Net M,StartN ch s0 N→GoodN (fun x=>x=ch) N)
  (x:TrI F c (some s0) σ ds (h.delS fun x=>x=ch) Q):TrI F c none σ ds h Q:=by
 intro b k cs L t hb hr hl ht hq
 have:=x b k cs L t hb hr hl ht hq
 obtain ⟨Post,hP⟩:=hW;show F.W.K _ _;rw [hP];refine mainOK_of_net (Rep:=F.Rep) hc good ?_;rw [does_run hs];unfold FEnv.wk at this;simp only [hm,hP] at this;exact this
theorem trI_out {c:Code} {h0:GH} (hW:IsMain F.W) (hs:h0.Same h) (x:TrI F c none σ ds (h0.join h) Q):TrI F c (some .stop) σ ds h Q:=by
 intro b k cs L t hb hr hl ht hq
 have:=x b k cs L t hb hr hl ht hq
 obtain ⟨Post,hP⟩:=hW;refine RunTo.stop ?_;show F.W.K _ _;have h2:F.W.K _ _:=this;rw [hP] at h2 ⊢;refine h2.flags fun b p o hb=>?_;rcases hj:h0 b with _ | ⟨p0,o0⟩
 ·unfold GH.join at hb;rw [hj] at hb;exact ⟨p,hb⟩
 ·unfold GH.join at hb;rw [hj] at hb;cases hb;exact hs b p o hj
def GH.ro (h:GH):GH:=fun b=>(h b).map fun x=>(false,x.2)
theorem GH.ro_some {h:GH} {b:Nat} {p:Bool} {o:Obj} (hb:h b=some (p,o)):h.ro b=some (false,o):=by unfold GH.ro;rw [hb];rfl
theorem GH.ro_inv {h:GH} {b:Nat} {p:Bool} {o:Obj} (hb:h.ro b=some (p,o)):p=false∧∃p',h b=some (p',o):=by
 unfold GH.ro at hb;cases e:h b with
 | none=>rw [e] at hb;cases hb
 | some x=>rw [e] at hb;obtain ⟨p',o'⟩:=x;cases hb;exact ⟨rfl,p',rfl⟩
theorem GH.ro_none {h:GH} {b:Nat} (hb:h b=none):h.ro b=none:=by unfold GH.ro;rw [hb];rfl
theorem GH.split_ro (h:GH):GH.Split h h.ro h.ro where
 left:=fun b p o hb=>by obtain ⟨rfl,p',x⟩:=GH.ro_inv hb;exact ⟨p',x,fun e=>by cases e⟩
 right:=fun b p o hb=>by obtain ⟨rfl,p',x⟩:=GH.ro_inv hb;exact ⟨p',x,fun e=>by cases e⟩
 one:=fun r o x hb=>by cases (GH.ro_inv hb).1
 two:=fun r o x hb=>by cases (GH.ro_inv hb).1
theorem GH.same_ro (h:GH):h.Same h.ro:=fun _ _ _ hb=>⟨false,GH.ro_some hb⟩
theorem GH.Same.trans {a b c:GH} (x:a.Same b) (y:b.Same c):a.Same c:=fun r p o hr=>by obtain ⟨p',z⟩:=x r p o hr;exact y r p' o z
theorem GH.Le.same {a b:GH} (x:a.Le b):a.Same b:=fun r p o hr=>⟨p,x.keep hr rfl⟩
theorem GH.le_join (a b:GH):a.Le (a.join b):=fun r p o hr=>⟨o,by unfold GH.join;rw [hr],.inl rfl⟩
theorem GH.Same.join {a b:GH} (s:a.Same b):b.Same (a.join b):=fun r p o hr=>by
 unfold GH.join;cases e:a r with
 | none=>exact ⟨p,hr⟩
 | some x=>obtain ⟨p0,o0⟩:=x;obtain ⟨p',y⟩:=s r p0 o0 e;rw [hr] at y;cases y;exact ⟨p0,rfl⟩
theorem Elem.flags {h h':GH} (s:h.Same h') {b off n:Nat} {vs:Array Value} (x:Elem h b off n vs):Elem h' b off n vs:=by
 obtain ⟨p,c,t,f,y,z⟩:=x;obtain ⟨p',y'⟩:=s _ _ _ y;exact ⟨p',c,t,f,y',z⟩
theorem SlIs.flags {α:Type} {h h':GH} (s:h.Same h') {v:Value} {n:Nat} {enc:α→Array Value} {xs:List α} (x:SlIs h v n enc xs):SlIs h' v n enc xs:=by
 obtain ⟨a,cap,hv,hc,hm,he⟩:=x;refine ⟨a,cap,hv,hc,hm,fun i hi=>?_⟩;obtain ⟨b,off,h1,h2⟩:=he i hi;exact ⟨b,off,h1,h2.flags s⟩
end
section
variable {M:Type} [DecidableEq M]
def sendS (c:Nat):List M→Scr M
 | []=>.close c .done
 | m ::ms=>.send c m (sendS c ms)
def recvEnd:Option M→Scr M
 | none=>.stop
 | some _=>.never
def recvNext (m:M) (nx:Scr M):Option M→Scr M
 | some m'=>if m'=m then nx else .never
 | none=>.never
def recvS (c:Nat):List M→Scr M
 | []=>.recv c recvEnd
 | m ::ms=>.recv c (recvNext m (recvS c ms))
structure TwoN (c k:Nat) (ms:List M) (N:Net M):Prop where
 n:N.n=k+1
 pos:0<k
 main:N.s 0=recvS c ms
 child:N.s k=sendS c ms
 rest:∀j,0<j→j<k→N.s j=.done∧N.kn 0 j
 cl:N.cl c=false
theorem recvS_recv (c:Nat) (ms:List M):∃f,recvS c ms=.recv c f:=by cases ms <;> exact ⟨_,rfl⟩
theorem twoN_good {c k:Nat}:∀{ms:List M} {N:Net M},TwoN c k ms N→GoodN (fun x=>x=c) N:=by
 intro ms
 induction ms with
 | nil=>
  intro N T;have hk:=T.pos;refine .step N (by rw [T.n];omega) ⟨_,.shut (i:=k) (c:=c) (nx:=.done) (by rw [T.n];omega) T.child⟩ (fun i hi=>?_) (fun N' st=>?_)
  ·rcases Nat.eq_zero_or_pos i with rfl | hp
   ·rw [T.main];rfl
   ·rcases Nat.lt_or_ge i k with hl | hl
    ·rw [(T.rest i hp hl).1];show i≠0;omega
    ·obtain rfl:i=k:=by have:=T.n;omega
     rw [T.child];exact ⟨rfl,T.cl⟩
  ·have key:∀i,i<N.n→i=0∨i=k∨N.s i=.done:=fun i hi=>by
    rcases Nat.eq_zero_or_pos i with e | hp
    ·exact .inl e
    ·rcases Nat.lt_or_ge i k with hl | hl
     ·exact .inr (.inr (T.rest i hp hl).1)
     ·exact .inr (.inl (by have:=T.n;omega))
   have hm:N.s 0=.recv c recvEnd:=T.main;have hch:N.s k=.close c .done:=T.child;cases st with
   | hire hi hs=>rcases key _ hi with rfl | rfl | e <;> simp_all
   | meet hi hj hij hs hs'=>rcases key _ hi with rfl | rfl | e <;> simp_all
   | hear hj hs hcl=>
    rcases key _ hj with rfl | rfl | e
    ·rw [hm] at hs;cases hs;rw [T.cl] at hcl;cases hcl
    ·rw [hch] at hs;cases hs
    ·rw [e] at hs;cases hs
   | @shut i c' nx hi hs=>
    rcases key _ hi with rfl | rfl | e
    ·rw [hm] at hs;cases hs
    ·rw [hch] at hs;cases hs;refine .step _ (by show 0<N.n;rw [T.n];omega) ⟨_,.hear (j:=0) (c:=c) (f:=_) (by show 0<N.n;rw [T.n];omega) (by show (if 0=i then _ else N.s 0)=_;rw [if_neg (by omega)];exact hm) (by show (if c=c then true else _)=true;rw [if_pos rfl])⟩ (fun j hj=>?_) (fun N'' st=>?_)
     ·have hj:j<N.n:=hj;show Fine1 _ _ j (if j=i then _ else N.s j);by_cases e:j=i
      ·rw [if_pos e];show j≠0;omega
      ·rw [if_neg e];rcases key j hj with rfl | rfl | e'
       ·rw [hm];rfl
       ·exact absurd rfl e
       ·rw [e'];show j≠0;rintro rfl;rw [hm] at e';cases e'
     ·have hs':∀j,j<N.n→j≠0→(N.shut i c .done).s j=.done:=fun j hj hj0=>by
       show (if j=i then _ else N.s j)=_;by_cases e:j=i
       ·rw [if_pos e]
       ·rw [if_neg e];rcases key j hj with rfl | rfl | e'
        ·exact absurd rfl hj0
        ·exact absurd rfl e
        ·exact e'
      have hs0:(N.shut i c .done).s 0=.recv c recvEnd:=by show (if 0=i then _ else N.s 0)=_;rw [if_neg (by omega)];exact hm
      have key2:∀j,j<N.n→j=0∨(N.shut i c .done).s j=.done:=fun j hj=>(Nat.eq_zero_or_pos j).imp id fun hp=>hs' j hj (by omega);cases st with
      | hire hi hs=>rcases key2 _ hi with rfl | e <;> simp_all
      | meet hi hj hij hs hs'=>rcases key2 _ hi with rfl | e <;> simp_all
      | shut hi hs=>rcases key2 _ hi with rfl | e <;> simp_all
      | @hear j c' f hj hs hcl=>
       rcases key2 _ hj with rfl | e
       ·rw [hs0] at hs;cases hs;refine .stop _ (by show 0<N.n;rw [T.n];omega) (show (if 0=0 then recvEnd none else (N.shut i c .done).s 0)=Scr.stop from rfl) fun j hj hjn=>⟨?_,?_⟩
        ·show (if j=0 then _ else (N.shut i c .done).s j)=_;rw [if_neg (by omega)];exact hs' j hjn (by omega)
        ·simp only [Net.hear,Net.shut,if_true];show N.kn 0 j∨N.kn i j∨(j=i∧True);rcases Nat.lt_or_ge j i with hl | hl
         ·exact .inl (T.rest j hj hl).2
         ·have hjn:j<N.n:=hjn;exact .inr (.inr ⟨by have:=T.n;omega,trivial⟩)
       ·rw [e] at hs;cases hs
    ·rw [e] at hs;cases hs
 | cons m ms ih=>
  intro N T;have hk:=T.pos;have hch:N.s k=.send c m (sendS c ms):=T.child;have hm:N.s 0=.recv c (recvNext m (recvS c ms)):=T.main;have key:∀i,i<N.n→i=0∨i=k∨N.s i=.done:=fun i hi=>by
   rcases Nat.eq_zero_or_pos i with e | hp
   ·exact .inl e
   ·rcases Nat.lt_or_ge i k with hl | hl
    ·exact .inr (.inr (T.rest i hp hl).1)
    ·exact .inr (.inl (by have:=T.n;omega))
  refine .step N (by rw [T.n];omega) ⟨_,.meet (i:=k) (j:=0) (by rw [T.n];omega) (by rw [T.n];omega) (by omega) hch hm⟩ (fun i hi=>?_) (fun N' st=>?_)
  ·rcases key i hi with rfl | rfl | e
   ·rw [hm];rfl
   ·rw [hch];exact ⟨rfl,T.cl⟩
   ·rw [e];show i≠0;rintro rfl;rw [hm] at e;cases e
  ·cases st with
   | hire hi hs=>rcases key _ hi with rfl | rfl | e <;> simp_all
   | shut hi hs=>rcases key _ hi with rfl | rfl | e <;> simp_all
   | hear hj hs hcl=>
    rcases key _ hj with rfl | rfl | e
    ·rw [hm] at hs;cases hs;rw [T.cl] at hcl;cases hcl
    ·rw [hch] at hs;cases hs
    ·rw [e] at hs;cases hs
   | @meet i j c' m' nx f hi hj hij hs hs'=>
    have hi':i=k:=by
     rcases key _ hi with rfl | rfl | e
     ·rw [hm] at hs;cases hs
     ·rfl
     ·rw [e] at hs;cases hs
    have hj':j=0:=by
     rcases key _ hj with rfl | rfl | e
     ·rfl
     ·rw [hch] at hs';cases hs'
     ·rw [e] at hs';cases hs'
    subst hi' hj';rw [hch] at hs;cases hs;rw [hm] at hs';cases hs';refine ih ⟨T.n,hk,?_,?_,fun j hj hjk=>⟨?_,?_⟩,T.cl⟩
    ·show (if 0=i then _ else if 0=0 then _ else N.s 0)=_;rw [if_neg (by omega),if_pos rfl];show (if m=m then _ else _)=_;rw [if_pos rfl]
    ·show (if i=i then _ else _)=_;rw [if_pos rfl]
    ·show (if j=i then _ else if j=0 then _ else N.s j)=_;rw [if_neg (by omega),if_neg (by omega)];exact (T.rest j hj hjk).1
    ·simp only [Net.meet,or_true,if_true];exact .inr (.inl (T.rest j hj hjk).2)
theorem spawn_good {c:Nat} {ms:List M} {N:Net M} (S:StartN c (.spawn (sendS c ms) (recvS c ms)) N):GoodN (fun x=>x=c) N:=by
 obtain ⟨hn,h0,hr,hcl⟩:=S;have key:∀i,i<N.n→i=0∨N.s i=.done:=fun i hi=>(Nat.eq_zero_or_pos i).imp id fun hp=>(hr i hp hi).1;refine .step N hn ⟨_,.hire hn h0⟩ (fun i hi=>?_) (fun N' st=>?_)
 ·rcases key i hi with rfl | e
  ·rw [h0];trivial
  ·rw [e];show i≠0;rintro rfl;rw [h0] at e;cases e
 ·cases st with
  | meet hi hj hij hs hs'=>rcases key _ hi with rfl | e <;> simp_all
  | shut hi hs=>rcases key _ hi with rfl | e <;> simp_all
  | hear hj hs hcl=>rcases key _ hj with rfl | e <;> simp_all
  | @hire i ch nx hi hs=>
   rcases key _ hi with rfl | e
   ·rw [h0] at hs;cases hs;refine twoN_good (k:=N.n) (ms:=ms) ⟨rfl,hn,?_,?_,fun j hj hjk=>⟨?_,?_⟩,hcl⟩
    ·show (if 0=N.n then _ else if 0=0 then _ else _)=_;rw [if_neg (by omega),if_pos rfl]
    ·show (if N.n=N.n then _ else _)=_;rw [if_pos rfl]
    ·show (if j=N.n then _ else if j=0 then _ else N.s j)=_;rw [if_neg (by omega),if_neg (by omega)];exact (hr j hj hjk).1
    ·show (if j=N.n then False else if 0=N.n then _ else N.kn 0 j);rw [if_neg (by omega),if_neg (by omega)];exact (hr j hj hjk).2
   ·rw [e] at hs;cases hs
omit [DecidableEq M] in
theorem sendS_not (c:Nat) (ms:List M):¬(sendS c ms).isDone:=by cases ms <;> exact id
theorem recvS_not (c:Nat) (ms:List M):¬(recvS c ms).isDone:=by cases ms <;> exact id
end
end Go.Ns
namespace Go.Ns
open Go.Conc
section
variable (d m:Int) (gs:List Good) (ms:List Move) (cs:List Count)
def clashOne (mask:Nat):Option (List Int):=if someB d gs ms (pickC cs (mask:Int) cs.length) m=true then none else some (pickI (mask:Int) cs.length)
def clashFrom (k f:Nat):List (List Int):=(List.range' k f).filterMap (clashOne d m gs ms cs)
def clashAll:List (List Int):=clashFrom d m gs ms cs 0 (2 ^ cs.length)
def clashBell:Int:=if bookBell d m gs ms cs=0 then (if someB d gs ms cs m=true then 0 else if someB d gs ms (pickC cs 0 cs.length) m=true then 0 else 8) else bookBell d m gs ms cs
def clashL:List Int:=if bookBell d m gs ms cs=0∧someB d gs ms cs m=false∧someB d gs ms (pickC cs 0 cs.length) m=true then bestL ((clashAll d m gs ms cs).getD 0 []) ((clashAll d m gs ms cs).drop 1) else []
end
section
variable {d m:Int} {gs:List Good} {ms:List Move} {cs:List Count}
theorem clashFrom_none {k f:Nat} (h:someB d gs ms (pickC cs (k:Int) cs.length) m=true):clashFrom d m gs ms cs k (f+1)=clashFrom d m gs ms cs (k+1) f:=by
 unfold clashFrom clashOne;rw [List.range'_succ,List.filterMap_cons];simp [h]
theorem clashFrom_some {k f:Nat} (h:someB d gs ms (pickC cs (k:Int) cs.length) m=false):clashFrom d m gs ms cs k (f+1)=pickI (k:Int) cs.length ::clashFrom d m gs ms cs (k+1) f:=by
 unfold clashFrom clashOne;rw [List.range'_succ,List.filterMap_cons];simp [h]
theorem bitOn_full {n i:Nat} (hn:n≤4) (hi:i<n):bitOn ((2 ^ n-1:Nat):Int) i=true:=by
 have h:∀n,n≤4→∀i,i<n→bitOn ((2 ^ n-1:Nat):Int) i=true:=by decide
 exact h n hn i hi
theorem range_getD {α:Type} (l:List α) (z:α):(List.range l.length).map (fun i=>l.getD i z)=l:=by
 apply List.ext_getElem
 ·simp
 ·intro i h1 h2;simp [List.getD_eq_getElem?_getD,List.getElem?_eq_getElem h2]
theorem pickC_full (h:cs.length≤4):pickC cs ((2 ^ cs.length-1:Nat):Int) cs.length=cs:=by
 unfold pickC;rw [List.filter_eq_self.2 fun i hi=>bitOn_full h (List.mem_range.1 hi)];exact range_getD cs Count.z
theorem clashAll_ne (hcl:cs.length≤4) (h:someB d gs ms cs m=false):clashAll d m gs ms cs≠[]:=by
 intro e;unfold clashAll clashFrom at e;rw [List.filterMap_eq_nil_iff] at e;have hp:0<2 ^ cs.length:=Nat.pow_pos (by decide)
 have:=e (2 ^ cs.length-1) (List.mem_range'.2 ⟨2 ^ cs.length-1,by omega,by omega⟩)
 unfold clashOne at this;rw [pickC_full hcl,if_neg (by rw [h];simp)] at this;cases this
theorem clashAll_len (hcl:cs.length≤4):(clashAll d m gs ms cs).length≤16:=by
 unfold clashAll clashFrom;refine Nat.le_trans (List.length_filterMap_le _ _) ?_;rw [List.length_range'];exact Nat.pow_le_pow_right (n:=2) (by decide) hcl
theorem clashBell_bad (h:¬bookBell d m gs ms cs=0):clashBell d m gs ms cs=bookBell d m gs ms cs:=by unfold clashBell;rw [if_neg h]
theorem clashL_bad (h:¬bookBell d m gs ms cs=0):clashL d m gs ms cs=[]:=by unfold clashL;rw [if_neg (fun e=>h e.1)]
theorem clashBell_some (h:bookBell d m gs ms cs=0) (h1:someB d gs ms cs m=true):clashBell d m gs ms cs=0:=by unfold clashBell;rw [if_pos h,if_pos h1]
theorem clashL_some (h1:someB d gs ms cs m=true):clashL d m gs ms cs=[]:=by unfold clashL;rw [if_neg (fun e=>by rw [h1] at e;cases e.2.1)]
theorem clashBell_short (h:bookBell d m gs ms cs=0) (h1:someB d gs ms cs m=false) (h2:someB d gs ms (pickC cs 0 cs.length) m=false):clashBell d m gs ms cs=8:=by
 unfold clashBell;rw [if_pos h,if_neg (by rw [h1];simp),if_neg (by rw [h2];simp)]
theorem clashL_short (h2:someB d gs ms (pickC cs 0 cs.length) m=false):clashL d m gs ms cs=[]:=by unfold clashL;rw [if_neg (fun e=>by rw [h2] at e;cases e.2.2)]
theorem clashBell_ok (h:bookBell d m gs ms cs=0) (h1:someB d gs ms cs m=false) (h2:someB d gs ms (pickC cs 0 cs.length) m=true):clashBell d m gs ms cs=0:=by
 unfold clashBell;rw [if_pos h,if_neg (by rw [h1];simp),if_pos h2]
theorem clashL_ok {fl:List Sl} (h:bookBell d m gs ms cs=0) (h1:someB d gs ms cs m=false) (h2:someB d gs ms (pickC cs 0 cs.length) m=true) (hcl:cs.length≤4) (hfl:lists fl=clashAll d m gs ms cs) :
  0<fl.length∧clashL d m gs ms cs=bestL (fl.getD 0 Sl.z).2 (lists (fl.drop 1)):=by
 have hne:=clashAll_ne (d:=d) (gs:=gs) (ms:=ms) hcl h1;have hpos:0<fl.length:=by
  rw [←lists_length,hfl];exact List.length_pos_iff.2 hne
 refine ⟨hpos,?_⟩;unfold clashL;rw [if_pos ⟨h,h1,h2⟩,←hfl,lists_getD hpos];congr 1;unfold lists;rw [List.map_drop]
end
theorem BookOK.pick {d m:Int} {gs:List Good} {ms:List Move} {cs:List Count} (b:BookOK d m gs ms cs) (mask:Int):BookOK d m gs ms (pickC cs mask cs.length):=
 { b with
  clen:=Nat.le_trans (pickC_len cs mask _) b.clen
  count:=fun k hk=>by
   have hm:=getD_mem (d:=Count.z) hk;generalize hx:(pickC cs mask cs.length).getD k Count.z=x at hm;unfold pickC at hm;obtain ⟨i,hi,e⟩:=List.mem_map.1 hm;have hi2:=List.mem_range.1 (List.mem_filter.1 hi).1
   have:=b.count i hi2
   unfold countAt at this ⊢;rw [hx,←e];exact this }
theorem SlAll.flags {h h':GH} {l:List Sl} (s:h.Same h') (a:SlAll h l):SlAll h' l:=fun k=>(a k).flags s
def RepL:Nat→List Int→Value→GH→Prop:=fun _ l v hm=>SlIs hm v 1 eI l
def GH.part (h:GH) (v:Value):GH:=fun b=>if back v=some b then h b else none
def GH.rest (h:GH) (v:Value):GH:=fun b=>if back v=some b then none else h b
theorem GH.split_part (h:GH) (v:Value):GH.Split h (h.rest v) (h.part v) where
 left:=fun b p o hb=>by
  unfold GH.rest at hb;split at hb
  ·cases hb
  ·exact ⟨p,hb,id⟩
 right:=fun b p o hb=>by
  unfold GH.part at hb;split at hb
  ·exact ⟨p,hb,id⟩
  ·cases hb
 one:=fun r o x h1 h2=>by
  unfold GH.rest at h1;unfold GH.part at h2;split at h1
  ·cases h1
  ·rename_i e;rw [if_neg e] at h2;cases h2
 two:=fun r o x h1 h2=>by
  unfold GH.rest at h2;unfold GH.part at h1;split at h2
  ·cases h2
  ·rename_i e;rw [if_neg e] at h1;cases h1
theorem OwnSl.part {α:Type} {h0 h:GH} {v:Value} {t:TypeId} {n:Nat} {enc:α→Array Value} {xs:List α} (x:OwnSl h0 h v t n enc xs):SlIs (h.part v) v n enc xs:=
 OwnSl.sl (h0:=h0) (x.keep fun b o hb ho=>by unfold GH.part;rw [if_pos hb];exact ho)
theorem OwnSl.le_rest {α:Type} {h0 h hb:GH} {v:Value} {t:TypeId} {n:Nat} {enc:α→Array Value} {xs:List α} (x:OwnSl h0 h v t n enc xs) (l:hb.Le h) (l0:hb.Le h0):hb.Le (h.rest v):=fun b p o hbb=>by
 unfold GH.rest;rw [if_neg]
 ·exact l b p o hbb
 ·intro e;rcases x with ⟨rfl,_⟩ | ⟨b1,cap,c,rfl,f0,_⟩
  ·cases e
  ·have:b1=b:=by simpa [back] using e
   subst this
   have:=l0.keep hbb rfl
   rw [f0] at this;cases this
theorem SlIs.join {α:Type} {h hm:GH} {v:Value} {n:Nat} {enc:α→Array Value} {xs:List α} (x:SlIs hm v n enc xs) (c:h.Compat hm):SlIs (h.join hm) v n enc xs:=x.flags fun b p o hb=>by
 unfold GH.join;cases e:h b with
 | none=>exact ⟨p,hb⟩
 | some y=>obtain ⟨q,o'⟩:=y;obtain ⟨rfl,rfl,rfl⟩:=c b q o' p o e hb;exact ⟨false,rfl⟩
theorem GH.Compat.le {a h hm:GH} (l:a.Le h) (c:h.Compat hm):a.Compat hm:=fun b p o q o' x y=>c b p o q o' (l.keep x rfl) y
theorem GH.Le.joins {a h hm:GH} (l:a.Le h) (c:h.Compat hm):(a.join hm).Le (h.join hm):=fun b p o hb=>by
 unfold GH.join at hb ⊢;cases e:a b with
 | some x=>rw [e] at hb;cases hb;rw [l.keep e rfl];exact ⟨o,rfl,.inl rfl⟩
 | none=>
  rw [e] at hb;cases e2:h b with
  | none=>exact ⟨o,hb,.inl rfl⟩
  | some y=>obtain ⟨q,o'⟩:=y;obtain ⟨rfl,rfl,rfl⟩:=c b q o' p o e2 hb;exact ⟨_,rfl,.inl rfl⟩
theorem OwnSl.joins {α:Type} {h0 h hm:GH} {v:Value} {t:TypeId} {n:Nat} {enc:α→Array Value} {xs:List α} (x:OwnSl h0 h v t n enc xs) (c:h.Compat hm):OwnSl (h0.join hm) (h.join hm) v t n enc xs:=by
 rcases x with x | ⟨b,cap,cc,rfl,f0,f1,f2⟩
 ·exact .inl x
 ·refine .inr ⟨b,cap,cc,rfl,?_,?_,f2⟩
  ·unfold GH.join;rw [f0];cases e:hm b with
   | none=>rfl
   | some y=>obtain ⟨q,o'⟩:=y;have:=(c b _ _ q o' f1 e).1;cases this
  ·unfold GH.join;rw [f1]
section
variable {P:Program} {M:Type} {F:FEnv P M} {i i':Option (Scr M)} {σ:Nat→Value} {ds:List Deferred} {h:GH} {Q:PostI M}
theorem trI_ix {c:Code} (e:i=i') (x:TrI F c i' σ ds h Q):TrI F c i σ ds h Q:=e▸x
theorem trLI_ix {ops:Array Oper} {l:List Oper} (e:i=i') (x:TrLI F ops l i' σ ds h Q):TrLI F ops l i σ ds h Q:=e▸x
theorem tr_of_trI {c:Code} {Q:Post} (x:TrI F c none σ ds h fun i e σ ds h=>i=none∧Q e σ ds h):Tr ⟨F.W,F.fn,F.rd,F.N⟩ c σ ds h Q:=by
 intro b k cs L t hb hr hl hs hc;refine x b k cs (fun i=>match i with | none=>L | some _=>fun _ _ _ _=>False) t hb hr (fun i=>?_) hs fun i e σ' ds' h' q t' ht'=>?_
 ·cases i with
  | none=>exact hl
  | some s=>exact ⟨fun _ _ _ x=>x.elim,fun _ _ _ _ x=>x.elim,fun _ _ _ _ _ _ x=>x.elim⟩
 ·obtain ⟨rfl,q⟩:=q;exact hc e σ' ds' h' q t' ht'
theorem trI_end {c:Code} {Q:Post} (x:Tr (F.env none) c σ ds h Q):TrI F c none σ ds h fun i e σ ds h=>i=none∧Q e σ ds h:=
 trI_lift (tr_mono (fun _ _ _ _ q=>⟨rfl,q⟩) x)
variable {dst:Option Nat} {ty:TypeId} {pos:String} {af:Array Edge} {gd:Option (Nat×Bool)}
theorem run_send {a x:Operand} {c:Nat} {v:Value} (ha:evalS σ a=.chan (some c)) (hx:evalS σ x=v) (w:World):(execOp (evalS σ) ⟨dst,.send a x,ty,pos,af,gd⟩).runT P w #[]=(.ok (.comm #[scase c v (.tuple #[])] true .send) w,#[]):=by
 subst hx;show (Result.ok (Next.comm #[{ chan:=evalS σ a,send:=some (evalS σ x),zero:=.tuple #[] }] true .send) w,#[])=_;rw [ha];rfl
theorem run_recv {a:Operand} {c:Nat} {t e:TypeId} {d:ChanDir} {ok:Bool} {z:Value} {inf:TypeInfo} (ht:P.underlying t=some (.chan d e)) (hi:P.info? e=some inf) (hz:inf.zero=some z) (ha:evalS σ a=.chan (some c)) (w:World) :
  (execOp (evalS σ) ⟨dst,.recv t a ok,ty,pos,af,gd⟩).runT P w #[]=(.ok (.comm #[rcase c z] true (.recv ok)) w,#[]):=by
 have h1:(zeroValue e).run P w=.ok z w:=by
  unfold zeroValue typeInfo;simp only [Sem.run_bind,program,hi];simp [Sem.run,hi,hz]
 have h2:(underlying t).run P w=.ok (.chan d e) w:=run_underlying ht w;rw [Sem.runT_eq];unfold execOp;simp [h1,h2,ha,rcase]
theorem run_recv' {a:Operand} {c:Nat} {t e:TypeId} {d:ChanDir} {ok:Bool} {z:Value} (ht:P.underlying t=some (.chan d e)) (hz:(P.info? e).map (·.zero)=some (some z)) (ha:evalS σ a=.chan (some c)) (w:World) :
  (execOp (evalS σ) ⟨dst,.recv t a ok,ty,pos,af,gd⟩).runT P w #[]=(.ok (.comm #[rcase c z] true (.recv ok)) w,#[]):=by
 obtain ⟨inf,hi,h2⟩:=Option.map_eq_some_iff.1 hz;exact run_recv ht hi h2 ha w
theorem run_go {x:Operand} {f:Fn} {cap:Array Value} {tys:Array TypeId} (hx:evalS σ x=.func f #[] cap) (w:World):(execOp (evalS σ) ⟨dst,.go ⟨.value x,#[],tys⟩,ty,pos,af,gd⟩).runT P w #[]=(.ok (.spawn { target:=.fn f cap,args:=#[] }) w,#[]):=by
 have e:resolve (evalS σ) ⟨.value x,#[],tys⟩ ty=(pure { target:=.fn f cap,args:=#[] }:Sem Deferred):=by
  unfold resolve;simp only [hx,Deferred.ofValue];simp
 unfold execOp;simp only [e];rfl
variable {E:Env P} {T:(Nat→Value)→List Deferred→GH→Prop}
theorem ok_makeChan {t e:TypeId} {d:ChanDir} {n:Operand} (ht:P.underlying t=some (.chan d e)) (hi0:(P.info? e).isSome=true) (hn:evalS σ n=.int .i64 0)
  (k:∀r h',h r=none→h.Le h'→h' r=some (true,.chan 0 #[] false 0 0 false)→(∀b,b≠r→h' b=h b)→T (putS σ dst (.chan (some r))) ds h'):OpK E ⟨dst,.makeChan t n,ty,pos,af,gd⟩ σ ds h T:=by
 unfold OpK execOp;refine gh_v ?_;unfold Instr.makeChan;rw [hn];refine gh_bind _ _ (gh_pure ?_);refine gh_bind _ _ (gh_underlying ht ?_);simp only [];obtain ⟨inf,hi⟩:=Option.isSome_iff_exists.1 hi0;refine gh_bind _ _ (gh_typeInfo hi ?_);rw [if_neg (by simp [IntKind.max];decide)];refine gh_bind _ _ ?_;exact fun r hr=>k r _ hr (GH.Le.new hr _ _) (GH.set_same _ _ _ _) fun b hb=>GH.set_ne _ _ _ hb
theorem trL_def {ops:Array Oper} {l:List Oper} {o:Oper} {Q:Post} (hg:o.guard=none) (hrd:E.rd=none) (hd:dstOK o.dst E.N=true) (x:OpK E o σ ds h fun σ' ds' h'=>TrL E ops l σ' ds' h' Q):TrL E ops (o ::l) σ ds h Q:=
 trL_op hg (.inl hrd) hd x
theorem ok_deferClose {x:Operand} {c:Nat} {tys:Array TypeId} {bs:Array Bool} (hx:evalS σ x=.chan (some c)) (hb:(#[x].map fun | .const _=>true | _=>false)=bs) (k:T (putS σ dst undef) (closeD tys ty bs c ::ds) h) :
  OpK E ⟨dst,.defer ⟨.builtin .close,#[x],tys⟩,ty,pos,af,gd⟩ σ ds h T:=by
 unfold OpK execOp;simp only [];refine gh_bind _ _ ?_;unfold resolve;simp only [];refine gh_pure (gh_pure ?_);have e:(#[x].map (evalS σ):Array Value)=#[.chan (some c)]:=by simp [hx]
 rw [e];subst hb;exact k
end
section
variable {d m:Int} {gs:List Good} {ms:List Move} {cs:List Count} {k c:Nat}
theorem clash_none (hk:k<2 ^ cs.length) (h:someB d gs ms (pickC cs (k:Int) cs.length) m=true) :
  some (sendS c (clashFrom d m gs ms cs k (2 ^ cs.length-k)))=some (sendS c (clashFrom d m gs ms cs (k+1) (2 ^ cs.length-(k+1)))):=by
 rw [show 2 ^ cs.length-k=(2 ^ cs.length-(k+1))+1 by omega,clashFrom_none h]
theorem clash_some (hk:k<2 ^ cs.length) (h:someB d gs ms (pickC cs (k:Int) cs.length) m=false) :
  some (sendS c (clashFrom d m gs ms cs k (2 ^ cs.length-k)))=some (.send c (pickI (k:Int) cs.length) (sendS c (clashFrom d m gs ms cs (k+1) (2 ^ cs.length-(k+1))))):=by
 rw [show 2 ^ cs.length-k=(2 ^ cs.length-(k+1))+1 by omega,clashFrom_some h];rfl
theorem clash_end (hk:2 ^ cs.length≤k):some (sendS c (clashFrom d m gs ms cs k (2 ^ cs.length-k)))=some (.close c .done):=by
 rw [show 2 ^ cs.length-k=0 by omega];rfl
theorem clash_lt (h:(k:Int)<(2:Int) ^ ((cs.length:Int)).toNat):k<2 ^ cs.length:=by
 have:=pow_nat cs.length
 rw [Int.toNat_natCast] at h;omega
theorem clash_ge (h:¬(k:Int)<(2:Int) ^ ((cs.length:Int)).toNat):2 ^ cs.length≤k:=by
 have:=pow_nat cs.length
 rw [Int.toNat_natCast] at h;omega
end
end Go.Ns
namespace Go.Ns
def dlOf (ms:List Move) (p:Past) (g:Int) (k:Nat):Int:=if (ms.getD k Move.z).good=g then signed (ms.getD k Move.z).kind.toNat (realOf p k) else 0
def pairAt (ms:List Move) (p:Past) (g:Int) (k:Nat):Int×Int:=((ms.getD k Move.z).day,dlOf ms p g k)
def pairsOf (ms:List Move) (p:Past) (g:Int):List (Int×Int):=(List.range ms.length).map (pairAt ms p g)
def runA (n low:Int):List (Int×Int)→Int×Int
 | []=>(n,low)
 | [x]=>(n+x.2,min (n+x.2) low)
 | x ::y ::t=>runA (n+x.2) (if x.1<y.1 then min (n+x.2) low else low) (y ::t)
def runB (c n low:Int):List (Int×Int)→Int×Int
 | []=>(n,min n low)
 | x ::t=>if c<x.1 then runB x.1 (n+x.2) (min n low) t else runB c (n+x.2) low t
def Rises:Int→List (Int×Int)→Prop
 | _,[]=>True
 | c,x ::t=>c≤x.1∧Rises x.1 t
theorem runA_B:∀(t:List (Int×Int)) (x:Int×Int) (n low:Int),Rises x.1 t→runA n low (x ::t)=runB x.1 (n+x.2) low t
 | [],x,n,low,_=>rfl
 | y ::t,x,n,low,h=>by
  show runA (n+x.2) _ (y ::t)=if x.1<y.1 then _ else _
  rw [runA_B t y _ _ h.2];by_cases e:x.1<y.1
  ·rw [if_pos e,if_pos e]
  ·rw [if_neg e,if_neg e,show x.1=y.1 from by have:=h.1;omega]
theorem runA_B0 {n:Int}:∀{t:List (Int×Int)},(∀x ∈ t,1≤x.1)→Rises 0 t→runA n n t=runB 0 n n t
 | [],_,_=>by simp [runA,runB,Int.min_self]
 | x ::t,h1,h=>by
  rw [runA_B t x n n h.2];show _=if 0<x.1 then _ else _
  rw [if_pos (by have:=h1 x (by simp);omega),Int.min_self]
theorem Rises.weak {c c':Int} (hc:c'≤c):∀{t:List (Int×Int)},Rises c t→Rises c' t
 | [],_=>trivial
 | _ ::_,h=>⟨by have:=h.1;omega,h.2⟩
theorem runB_skip {c d n low:Int} (hcd:c<d):∀{t:List (Int×Int)},Rises d t→runB d n (min n low) t=runB c n low t
 | [],_=>by simp only [runB];congr 1;omega
 | y ::t,h=>by
  have h1:=h.1;show (if d<y.1 then _ else _)=if c<y.1 then _ else _
  rw [if_pos (show c<y.1 by omega)];by_cases e:d<y.1
  ·rw [if_pos e,show min n (min n low)=min n low by omega]
  ·rw [if_neg e,show d=y.1 by omega]
theorem runB_filter {ι:Type} {f:ι→Int×Int} {q:ι→Bool}:∀{l:List ι} {c n low:Int},(∀i ∈ l,q i=false→(f i).2=0)→Rises c (l.map f)→runB c n low (l.map f)=runB c n low ((l.filter q).map f)
 | [],_,_,_,_,_=>rfl
 | i ::l,c,n,low,hz,hr=>by
  have hz':∀j ∈ l,q j=false→(f j).2=0:=fun j hj=>hz j (by simp [hj]);cases hq:q i with
  | true=>
   rw [List.filter_cons_of_pos hq];show (if c<(f i).1 then _ else _)=if c<(f i).1 then _ else _
   split
   ·exact runB_filter hz' hr.2
   ·exact runB_filter hz' (Rises.weak hr.1 hr.2)
  | false=>
   rw [List.filter_cons_of_neg (by simp [hq])];have h0:=hz i (by simp) hq;show (if c<(f i).1 then runB (f i).1 (n+(f i).2) _ _ else _)=_;rw [h0,Int.add_zero];have hr2:Rises (f i).1 (l.map f):=hr.2;rw [←runB_filter hz' (Rises.weak hr.1 hr2)];split
   ·rename_i e;exact runB_skip e hr2
   ·rfl
theorem stockRun_A {ms:List Move} {p:Past} {g dy:Int} (hd:∀k,k<ms.length→(ms.getD k Move.z).day≤dy):∀(f k:Nat) (n low:Int),k+f=ms.length→stockRun ms p g dy f k n low=runA n low ((List.range' k f).map (pairAt ms p g))
 | 0,_,_,_,_=>rfl
 | f+1,k,n,low,e=>by
  have h1:¬dy<(ms.getD k Move.z).day:=by have:=hd k (by omega);omega
  unfold stockRun;rw [if_neg h1,stockRun_A hd f (k+1) _ _ (by omega),List.range'_succ,List.map_cons];have hn:nNext ms p g k n=n+(pairAt ms p g k).2:=by unfold nNext pairAt dlOf;simp only [];split <;> omega
  cases f with
  | zero=>
   show (_,_)=(_,_);rw [hn];congr 1;unfold lowNext;rw [if_pos (.inl (by omega)),Int.min_comm]
  | succ f=>
   rw [List.range'_succ,List.map_cons,hn];have hne:¬((k:Int)+1=ms.length):=by omega
   have hlow:lowNext ms k low (n+(pairAt ms p g k).2)=if (pairAt ms p g k).1<(pairAt ms p g (k+1)).1 then min (n+(pairAt ms p g k).2) low else low:=by
    show (if (k:Int)+1=ms.length∨(ms.getD k Move.z).day<(ms.getD (k+1) Move.z).day then _ else _)=if (ms.getD k Move.z).day<(ms.getD (k+1) Move.z).day then _ else _
    by_cases e2:(ms.getD k Move.z).day<(ms.getD (k+1) Move.z).day
    ·rw [if_pos (.inr e2),if_pos e2,Int.min_comm]
    ·rw [if_neg (by simp only [e2,or_false];exact hne),if_neg e2]
   rw [hlow];rfl
theorem stockOf_A {ms:List Move} {p:Past} {g dy:Int} (hd:∀k,k<ms.length→(ms.getD k Move.z).day≤dy):stockOf ms p g dy=runA (p.first g.toNat) (p.first g.toNat) (pairsOf ms p g):=by
 unfold stockOf pairsOf;rw [stockRun_A hd ms.length 0 _ _ (by omega),List.range_eq_range']
theorem runB_fst:∀(t:List (Int×Int)) (c n low:Int),(runB c n low t).1=n+(t.map (·.2)).sum
 | [],_,n,_=>by simp [runB]
 | x ::t,c,n,low=>by
  show (if c<x.1 then _ else _:Int×Int).1=_;split <;> rw [runB_fst t] <;> simp [Int.add_assoc]
theorem runB_low:∀(t:List (Int×Int)) (c n low:Int),(runB c n low t).2≤low∧(runB c n low t).2≤(runB c n low t).1
 | [],_,n,low=>by simp only [runB];omega
 | x ::t,c,n,low=>by
  show (if c<x.1 then _ else _:Int×Int).2≤low∧(if c<x.1 then _ else _:Int×Int).2≤(if c<x.1 then _ else _:Int×Int).1;split
  ·have:=runB_low t x.1 (n+x.2) (min n low);omega
  ·exact runB_low t c (n+x.2) low
theorem bookBell_of {d m:Int} {gs:List Good} {ms:List Move} {cs:List Count} (b:BookOK d m gs ms cs):bookBell d m gs ms cs=0:=by
 unfold bookBell;refine firstB_miss fun j _ hj=>?_
 have:j=0∨j=1∨j=2∨j=3:=by omega
 rcases this with rfl | rfl | rfl | rfl
 ·show headBell d m=0;unfold headBell;have:=b.days;have:=b.most;rw [if_neg (by omega)]
 ·show goodsBell gs=0;unfold goodsBell;have:=b.glen;rw [if_neg (by omega)];exact firstB_miss fun j _ hj=>b.good j (by omega)
 ·show movesBell d gs ms=0;unfold movesBell;have:=b.mlen;rw [if_neg (by omega)];exact firstB_miss fun j _ hj=>b.move j (by omega)
 ·show countsBell d gs cs=0;unfold countsBell;have:=b.clen;rw [if_neg (by omega)];exact firstB_miss fun j _ hj=>b.count j (by omega)
def DaysUp (ms:List Move):Prop:=ms.Pairwise fun a b=>a.day≤b.day
theorem moveAt_of {d:Int} {gs:List Good} {ms:List Move} {k:Nat} (h1:0≤(ms.getD k Move.z).kind∧(ms.getD k Move.z).kind≤4) (h2:0≤(ms.getD k Move.z).good∧(ms.getD k Move.z).good≤(gs.length:Int)-1)
  (h3:1≤(ms.getD k Move.z).day∧(ms.getD k Move.z).day≤d) (h4:lastDay ms k≤(ms.getD k Move.z).day) (h5:isFew (ms.getD k Move.z).low (ms.getD k Move.z).high):moveAt d gs ms k=0:=by
 unfold moveAt;rw [if_neg (by simpa using h1),if_neg (by simpa using h2),if_neg (by simpa using h3),if_neg (by omega),if_neg (by simpa using h5)]
section
variable {d m:Int} {gs:List Good} {ms:List Move} {cs:List Count}
theorem BookOK.up (b:BookOK d m gs ms cs):DaysUp ms:=by
 have adj:∀k,k+1<ms.length→(ms.getD k Move.z).day≤(ms.getD (k+1) Move.z).day:=fun k hk=>by
  have:=(b.move' hk).2.2.2.1
  unfold lastDay at this;rw [if_neg (by omega)] at this;simpa using this
 have all:∀f k,k+f<ms.length→(ms.getD k Move.z).day≤(ms.getD (k+f) Move.z).day:=by
  intro f
  induction f with
  | zero=>intro k _;exact Int.le_refl _
  | succ f ih=>intro k hk;exact Int.le_trans (ih k (by omega)) (adj (k+f) (by omega))
 unfold DaysUp;rw [List.pairwise_iff_getElem];intro i j hi hj hij
 have:=all (j-i) i (by omega)
 rw [show i+(j-i)=j by omega,getD_at Move.z hi,getD_at Move.z hj] at this;exact this
theorem BookOK.sub (b:BookOK d m gs ms cs) {ms':List Move} (s:ms'.Sublist ms):BookOK d m gs ms' [] where
 days:=b.days
 most:=b.most
 glen:=b.glen
 good:=b.good
 mlen:=Nat.le_trans s.length_le b.mlen
 move:=fun k hk=>by
  have hm:ms'.getD k Move.z ∈ ms:=s.subset (getD_mem hk);obtain ⟨i,hi,e⟩:=List.getElem_of_mem hm
  have:=b.move' hi
  rw [getD_at Move.z hi,e] at this;refine moveAt_of this.1 this.2.1 this.2.2.1 ?_ this.2.2.2.2;unfold lastDay;split
  ·have:=this.2.2.1;omega
  ·have hp:=(List.Pairwise.sublist s b.up);rw [List.pairwise_iff_getElem] at hp
   have:=hp (k-1) k (by omega) hk (by omega)
   rwa [←getD_at Move.z (show k-1<ms'.length by omega),←getD_at Move.z hk] at this
 clen:=by simp
 count:=fun k hk=>by simp at hk
theorem rises_map {ι:Type} {f:ι→Int×Int}:∀{l:List ι} {c:Int},l.Pairwise (fun i j=>(f i).1≤(f j).1)→(∀i ∈ l,c≤(f i).1)→Rises c (l.map f)
 | [],_,_,_=>trivial
 | i ::l,c,h,h1=>⟨h1 i (by simp),rises_map (List.pairwise_cons.1 h).2 fun j hj=>(List.pairwise_cons.1 h).1 j hj⟩
theorem BookOK.pairsUp (b:BookOK d m gs ms cs) (p:Past) (g:Int) {l:List Nat} (s:l.Sublist (List.range ms.length)):Rises 0 (l.map (pairAt ms p g)):=by
 refine rises_map ?_ fun i hi=>?_
 ·have h1:(List.range ms.length).Pairwise (fun i j=>(pairAt ms p g i).1≤(pairAt ms p g j).1):=by
   rw [List.pairwise_iff_getElem];intro i j hi hj hij;simp only [List.getElem_range]
   have:=b.up
   unfold DaysUp at this;rw [List.pairwise_iff_getElem] at this;simp only [List.length_range] at hi hj
   have:=this i j hi hj hij
   rwa [←getD_at Move.z,←getD_at Move.z] at this
  exact h1.sublist s
 ·have:=List.mem_range.1 (s.subset hi)
  have:=(b.move' this).2.2.1
  show 0≤(ms.getD i Move.z).day;omega
theorem BookOK.stock (b:BookOK d m gs ms cs) (p:Past) (g:Int):stockOf ms p g d=runB 0 (p.first g.toNat) (p.first g.toNat) (pairsOf ms p g):=by
 rw [stockOf_A fun k hk=>(b.move' hk).2.2.1.2];refine runA_B0 (fun x hx=>?_) (b.pairsUp p g (List.Sublist.refl _));obtain ⟨i,hi,rfl⟩:=List.mem_map.1 hx;exact (b.move' (List.mem_range.1 hi)).2.2.1.1
end
def choiceOf (picks:List Int) (k:Nat):Int:=if (k:Int)<picks.length then picks.getD k 0 else 0
def numOf (lo hi n:Int):Int:=lo+n%(hi-lo+1)
theorem numOf_range {lo hi n:Int} (h:lo≤hi):lo≤numOf lo hi n∧numOf lo hi n≤hi:=by
 unfold numOf;have h0:=Int.emod_nonneg n (show hi-lo+1≠0 by omega);have h1:=Int.emod_lt_of_pos n (show 0<hi-lo+1 by omega);omega
def firstAt (gs:List Good) (picks:List Int) (i:Nat):Int:=numOf (gs.getD i Good.z).low (gs.getD i Good.z).high (choiceOf picks i)
def manyAt (gs:List Good) (ms:List Move) (picks:List Int) (i:Nat):Int:=numOf (ms.getD i Move.z).low (ms.getD i Move.z).high (choiceOf picks (gs.length+i))
def realFirst (gs:List Good) (picks:List Int):List Int:=(List.range gs.length).map (firstAt gs picks)
def realMany (gs:List Good) (ms:List Move) (picks:List Int):List Int:=(List.range ms.length).map (manyAt gs ms picks)
def lieC' (ms:List Move) (m bits:Int) (k:Nat) (l:List Int):Prop:=(ms.getD k Move.z).kind=0∧bits.fdiv (2 ^ k)%2=1∧(l.length:Int)<m
instance (ms:List Move) (m bits:Int) (k:Nat) (l:List Int):Decidable (lieC' ms m bits k l):=inferInstanceAs (Decidable (_∧_))
def realLies (ms:List Move) (m bits:Int):Nat→List Int
 | 0=>[]
 | k+1=>if lieC' ms m bits k (realLies ms m bits k) then realLies ms m bits k++[(k:Int)] else realLies ms m bits k
theorem numsBell_of {l:List Int} {n:Int} (h:(l.length:Int)=n) (h2:∀x ∈ l,0≤x∧x≤99):numsBell l n=0:=by
 unfold numsBell;rw [if_neg (by simpa using h),if_neg];rw [List.any_eq_true];rintro ⟨x,hx,e⟩;exact (of_decide_eq_true e) (h2 x hx)
theorem realLies_spec {ms:List Move} {m bits:Int}:∀k,k≤ms.length→(∀x ∈ realLies ms m bits k,0≤x∧x<(k:Int)∧isNoteB ms x=true)∧(realLies ms m bits k).Pairwise (· < ·)
 | 0,_=>⟨fun x hx=>by simp [realLies] at hx,List.Pairwise.nil⟩
 | k+1,hk=>by
  obtain ⟨h1,h2⟩:=realLies_spec (ms:=ms) (m:=m) (bits:=bits) k (by omega);unfold realLies;split
  ·rename_i hc
   refine ⟨fun x hx=>?_,?_⟩
   ·rcases List.mem_append.1 hx with hx | hx
    ·have:=h1 x hx;exact ⟨this.1,by omega,this.2.2⟩
    ·simp at hx;subst hx;refine ⟨by omega,by omega,?_⟩;unfold isNoteB;refine decide_eq_true ⟨⟨by omega,by omega⟩,?_⟩;rw [Int.toNat_natCast];exact hc.1
   ·rw [List.pairwise_append];refine ⟨h2,List.pairwise_singleton ..,fun a ha b hb=>?_⟩;simp at hb;subst hb;exact (h1 a ha).2.1
  ·exact ⟨fun x hx=>by have:=h1 x hx;exact ⟨this.1,by omega,this.2.2⟩,h2⟩
theorem lieAt_of {ms:List Move} {l:List Int} (h1:∀x ∈ l,isNoteB ms x=true∧0≤x) (h2:l.Pairwise (· < ·)):firstB (lieAt ms l) 0 l.length=0:=by
 refine firstB_miss fun j _ hj=>?_;have hj:j<l.length:=by omega
 unfold lieAt;rw [if_neg (by rw [(h1 _ (getD_mem hj)).1];simp),if_neg];unfold lastLie;split
 ·have:=(h1 _ (getD_mem (d:=(0:Int)) hj)).2;omega
 ·rw [List.pairwise_iff_getElem] at h2
  have:=h2 (j-1) j (by omega) hj (by omega)
  rw [getD_at 0 hj,getD_at 0 (show j-1<l.length by omega)];omega
section
variable {d m:Int} {gs:List Good} {ms:List Move} {cs:List Count} {picks:List Int} {bits:Int}
theorem handed_of (b:BookOK d m gs ms cs) {f y l:List Int} (hf:numsBell f gs.length=0) (hy:numsBell y ms.length=0) (hl:firstB (lieAt ms l) 0 l.length=0):handedBell d m gs ms cs f y l=0:=
 handedBell_4 (by simpa using bookBell_of b) (by simpa using hf) (by simpa using hy) hl
theorem first_ok (b:BookOK d m gs ms cs) (picks:List Int):numsBell (realFirst gs picks) gs.length=0:=numsBell_of (by simp [realFirst]) fun x hx=>by
 obtain ⟨i,hi,rfl⟩:=List.mem_map.1 hx
 have:=b.gfew i
 have:=numOf_range (n:=choiceOf picks i) this.2.1
 unfold firstAt;omega
theorem manyAt_range (b:BookOK d m gs ms cs) (picks:List Int) (i:Nat):0≤manyAt gs ms picks i∧manyAt gs ms picks i≤99:=by
 have:=b.few i
 have:=numOf_range (n:=choiceOf picks (gs.length+i)) this.2.1
 unfold manyAt;omega
theorem many_ok (b:BookOK d m gs ms cs) (picks:List Int):numsBell (realMany gs ms picks) ms.length=0:=numsBell_of (by simp [realMany]) fun x hx=>by
 obtain ⟨i,hi,rfl⟩:=List.mem_map.1 hx;exact manyAt_range b picks i
theorem real_ok (b:BookOK d m gs ms cs) (picks:List Int) (bits:Int):handedBell d m gs ms cs (realFirst gs picks) (realMany gs ms picks) (realLies ms m bits ms.length)=0:=by
 obtain ⟨h1,h2⟩:=realLies_spec (ms:=ms) (m:=m) (bits:=bits) ms.length (Nat.le_refl _);exact handed_of b (first_ok b picks) (many_ok b picks) (lieAt_of (fun x hx=>⟨(h1 x hx).2.2,(h1 x hx).1⟩) h2)
theorem liesTo_lies (p:Past) (l:List Int) (i:Nat) (h0:∀x ∈ l,0≤x):(liesTo p l l.length).lies i=(decide ((i:Int) ∈ l) || p.lies i):=by
 unfold liesTo;rw [List.take_length]
 induction l generalizing p with
 | nil=>simp
 | cons x l ih=>
  rw [List.foldl_cons,ih _ fun y hy=>h0 y (by simp [hy])];have hx:=h0 x (by simp);show (decide ((i:Int) ∈ l) || if i=x.toNat then true else p.lies i)=_;by_cases e:i=x.toNat
  ·rw [if_pos e]
   have:(i:Int)=x:=by omega
   simp [this]
  ·rw [if_neg e]
   have:¬(i:Int)=x:=by omega
   simp [this]
theorem liesTo_first (p:Past) (l:List Int) (k:Nat):(liesTo p l k).first=p.first∧(liesTo p l k).many=p.many:=by
 unfold liesTo;generalize l.take k=t
 induction t generalizing p with
 | nil=>exact ⟨rfl,rfl⟩
 | cons x t ih=>exact ih (p.setLie x.toNat true)
theorem handed_first {f y l:List Int} (h:handedBell d m gs ms cs f y l=0) {i:Nat} (hi:i<f.length):(handedP d m gs ms cs f y l).first i=f.getD i 0:=by
 unfold handedP handedPast;rw [if_pos h,(liesTo_first _ _ _).1];show (if i<f.length then f.getD i 0 else 0)=_;rw [if_pos hi]
theorem handed_many {f y l:List Int} (h:handedBell d m gs ms cs f y l=0) {i:Nat} (hi:i<y.length):(handedP d m gs ms cs f y l).many i=y.getD i 0:=by
 unfold handedP handedPast;rw [if_pos h,(liesTo_first _ _ _).2];show (if i<y.length then y.getD i 0 else 0)=_;rw [if_pos hi]
theorem handed_lies {f y l:List Int} (h:handedBell d m gs ms cs f y l=0) (h0:∀x ∈ l,0≤x) (i:Nat):(handedP d m gs ms cs f y l).lies i=decide ((i:Int) ∈ l):=by
 unfold handedP handedPast;rw [if_pos h,liesTo_lies _ _ _ h0];show (decide ((i:Int) ∈ l) || false)=_;simp
def keptI (l:List Int) (k:Nat):List Nat:=(List.range k).filter fun i=> !decide ((i:Int) ∈ l)
def keptM (ms:List Move) (l:List Int) (k:Nat):List Move:=(keptI l k).map fun i=>ms.getD i Move.z
def keptY (y l:List Int) (k:Nat):List Int:=(keptI l k).map fun i=>y.getD i 0
theorem keptI_succ (l:List Int) (k:Nat):keptI l (k+1)=keptI l k++if (k:Int) ∈ l then [] else [k]:=by
 unfold keptI;rw [List.range_succ,List.filter_append];congr 1;by_cases h:(k:Int) ∈ l <;> simp [h]
theorem keptM_t {l:List Int} {k:Nat} (h:(k:Int) ∈ l):keptM ms l (k+1)=keptM ms l k:=by unfold keptM;rw [keptI_succ,if_pos h];simp
theorem keptM_f {l:List Int} {k:Nat} (h:¬(k:Int) ∈ l):keptM ms l (k+1)=keptM ms l k++[ms.getD k Move.z]:=by unfold keptM;rw [keptI_succ,if_neg h];simp
theorem keptY_t {y l:List Int} {k:Nat} (h:(k:Int) ∈ l):keptY y l (k+1)=keptY y l k:=by unfold keptY;rw [keptI_succ,if_pos h];simp
theorem keptY_f {y l:List Int} {k:Nat} (h:¬(k:Int) ∈ l):keptY y l (k+1)=keptY y l k++[y.getD k 0]:=by unfold keptY;rw [keptI_succ,if_neg h];simp
theorem keptM_len (ms:List Move) (l:List Int) (k:Nat):(keptM ms l k).length≤k:=by
 unfold keptM keptI;rw [List.length_map]
 have:=List.length_filter_le (fun i:Nat=> !decide ((i:Int) ∈ l)) (List.range k)
 rwa [List.length_range] at this
theorem keptY_len (y:List Int) (l:List Int) (k:Nat):(keptY y l k).length≤k:=by
 unfold keptY keptI;rw [List.length_map]
 have:=List.length_filter_le (fun i:Nat=> !decide ((i:Int) ∈ l)) (List.range k)
 rwa [List.length_range] at this
theorem keptM_sub (ms:List Move) (l:List Int):(keptM ms l ms.length).Sublist ms:=by
 unfold keptM keptI
 conv=>rhs;rw [←range_getD ms Move.z]
 exact List.filter_sublist.map _
theorem kept_ok (b:BookOK d m gs ms cs) {f y l:List Int} (hf:numsBell f gs.length=0) (hy:numsBell y ms.length=0):handedBell d m gs (keptM ms l ms.length) [] f (keptY y l ms.length) []=0:=
 handed_of (b.sub (keptM_sub ms l)) hf (numsBell_of (by simp [keptY,keptM]) fun x hx=>by
  obtain ⟨i,hi,rfl⟩:=List.mem_map.1 hx;exact (numsBell_ok hy).2 i) rfl
theorem kept_stock (b:BookOK d m gs ms cs) {f y l:List Int} (hf:numsBell f gs.length=0) (hy:numsBell y ms.length=0) (hl:firstB (lieAt ms l) 0 l.length=0) (h0:∀x ∈ l,0≤x) {g:Nat} (hg:g<gs.length) :
  stockOf ms (handedP d m gs ms cs f y l) (g:Int) d=stockOf (keptM ms l ms.length) (handedP d m gs (keptM ms l ms.length) [] f (keptY y l ms.length) []) (g:Int) d:=by
 have hb:=handed_of b hf hy hl;have hb':=kept_ok (l:=l) b hf hy;have hfl:f.length=gs.length:=by have:=(numsBell_ok hf).1;omega
 have hyl:y.length=ms.length:=by have:=(numsBell_ok hy).1;omega
 rw [b.stock,(b.sub (keptM_sub ms l)).stock,Int.toNat_natCast,handed_first hb (by omega),handed_first hb' (by omega)];have e:pairsOf (keptM ms l ms.length) (handedP d m gs (keptM ms l ms.length) [] f (keptY y l ms.length) []) (g:Int)=(keptI l ms.length).map (pairAt ms (handedP d m gs ms cs f y l) (g:Int)):=by
  unfold pairsOf;apply List.ext_getElem
  ·simp [keptM]
  ·intro i h1 h2;have h2':i<(keptI l ms.length).length:=by simpa using h2
   rw [List.getElem_map,List.getElem_map,List.getElem_range];have hk:(keptI l ms.length)[i] ∈ keptI l ms.length:=List.getElem_mem h2';have hk1:=List.mem_filter.1 hk;have hk2:=List.mem_range.1 hk1.1;have hk3:¬(((keptI l ms.length)[i]:Nat):Int) ∈ l:=by simpa using hk1.2
   have em:(keptM ms l ms.length).getD i Move.z=ms.getD (keptI l ms.length)[i] Move.z:=by
    rw [getD_at Move.z (by simpa [keptM] using h2')];simp [keptM]
   have ey:(keptY y l ms.length).getD i 0=y.getD (keptI l ms.length)[i] 0:=by
    rw [getD_at 0 (by simpa [keptY] using h2')];simp [keptY]
   unfold pairAt dlOf realOf;rw [em,handed_lies hb' (by simp),handed_lies hb h0,handed_many hb' (by simpa [keptY] using h2'),handed_many hb (by omega),ey];simp [hk3]
 rw [e];unfold pairsOf keptI;refine runB_filter (fun i hi hq=>?_) (b.pairsUp _ _ (List.Sublist.refl _))
 have:(i:Int) ∈ l:=by simpa using hq
 unfold pairAt dlOf realOf;rw [handed_lies hb h0,decide_eq_true this];simp only [if_true];split
 ·unfold signed;split <;> rfl
 ·rfl
def consTo (ms:List Move) (f y l:List Int) (g:Int):Nat→Int
 | 0=>f.getD g.toNat 0
 | k+1=>if¬(ms.getD k Move.z).good=g∨(k:Int) ∈ l then consTo ms f y l g k else if (ms.getD k Move.z).kind=0∨(ms.getD k Move.z).kind=4 then consTo ms f y l g k+y.getD k 0 else consTo ms f y l g k-y.getD k 0
theorem cons_left (b:BookOK d m gs ms cs) {f y l:List Int} (hf:numsBell f gs.length=0) (hy:numsBell y ms.length=0) (hl:firstB (lieAt ms l) 0 l.length=0) (h0:∀x ∈ l,0≤x) {g:Nat} (hg:g<gs.length) :
  (stockOf ms (handedP d m gs ms cs f y l) (g:Int) d).1=consTo ms f y l (g:Int) ms.length:=by
 have hb:=handed_of b hf hy hl;have hfl:f.length=gs.length:=by have:=(numsBell_ok hf).1;omega
 have hyl:y.length=ms.length:=by have:=(numsBell_ok hy).1;omega
 rw [b.stock,runB_fst,Int.toNat_natCast,handed_first hb (by omega)];have key:∀k,k≤ms.length→f.getD g 0+(((List.range k).map (pairAt ms (handedP d m gs ms cs f y l) (g:Int))).map (·.2)).sum=consTo ms f y l (g:Int) k:=by
  intro k
  induction k with
  | zero=>intro _;simp [consTo]
  | succ k ih=>
   intro hk;rw [List.range_succ,List.map_append,List.map_append,List.sum_append,←Int.add_assoc,ih (by omega)];show _+(_+0)=_;have hkd:=b.kind k;simp only [Int.add_zero,consTo,pairAt,dlOf,realOf];rw [handed_lies hb h0,handed_many hb (by omega)];by_cases e1:(ms.getD k Move.z).good=(g:Int)
   ·by_cases e2:(k:Int) ∈ l
    ·rw [if_pos e1,decide_eq_true e2];rw [if_pos (show¬(ms.getD k Move.z).good=(g:Int)∨(k:Int) ∈ l from .inr e2)];unfold signed;simp
    ·rw [if_pos e1,decide_eq_false e2];rw [if_neg (show¬(¬(ms.getD k Move.z).good=(g:Int)∨(k:Int) ∈ l) from fun q=>q.elim (fun q=>q e1) e2)];unfold signed;by_cases e3:(ms.getD k Move.z).kind=0∨(ms.getD k Move.z).kind=4
     ·rw [if_pos e3,if_pos (by omega)];simp
     ·rw [if_neg e3,if_neg (by omega)];simp;omega
   ·rw [if_neg e1,if_pos (.inl e1)];omega
 exact key ms.length (Nat.le_refl _)
theorem cons_low (b:BookOK d m gs ms cs) {f y l:List Int} (hf:numsBell f gs.length=0) (hy:numsBell y ms.length=0) (hl:firstB (lieAt ms l) 0 l.length=0) {g:Nat} (hg:g<gs.length) :
  (stockOf ms (handedP d m gs ms cs f y l) (g:Int) d).2≤(stockOf ms (handedP d m gs ms cs f y l) (g:Int) d).1∧(stockOf ms (handedP d m gs ms cs f y l) (g:Int) d).2≤f.getD g 0:=by
 have hb:=handed_of b hf hy hl;have hfl:f.length=gs.length:=by have:=(numsBell_ok hf).1;omega
 rw [b.stock]
 have:=runB_low (pairsOf ms (handedP d m gs ms cs f y l) (g:Int)) 0 ((handedP d m gs ms cs f y l).first (g:Int).toNat) ((handedP d m gs ms cs f y l).first (g:Int).toNat)
 rw [Int.toNat_natCast,handed_first hb (by omega)] at this ⊢;exact ⟨this.2,this.1⟩
end
end Go.Ns
namespace Go.Ns
open Go.Conc
section
variable {P:Program} {E:Env P} {σ:Nat→Value} {ds:List Deferred} {h:GH} {T:(Nat→Value)→List Deferred→GH→Prop} {dst:Option Nat} {ty:TypeId} {pos:String} {af:Array Edge} {gd:Option (Nat×Bool)}
theorem bytesOf_at {s:ByteArray} {i:Nat} (h:i<s.size):((s[i]'h).toNat:Int)=(bytesOf s).getD i 0:=by
 have h2:i<(bytesOf s).length:=by rw [bytesOf_length];exact h
 rw [getD_at 0 h2];exact (List.getElem_map (l:=s.data.toList) (f:=fun b=>(b.toNat:Int)) (h:=h2)).symm
theorem ok_indexSb {t:TypeId} {x ix:Operand} {s:ByteArray} {kd:IntKind} {i:Int} (ht:strOf P t=true) (hx:evalS σ x=.string s) (hi:evalS σ ix=.int kd i) (h0:0≤i) (h1:i<s.size) (k:T (putS σ dst (.int .u8 ((bytesOf s).getD i.toNat 0))) ds h) :
  OpK E ⟨dst,.index t x ix,ty,pos,af,gd⟩ σ ds h T:=ok_indexS ht hx hi h0 h1 (by rw [bytesOf_at];exact k)
end
theorem nameOK_size {s:ByteArray} (h:¬(1≤(s.size:Int)∧(s.size:Int)≤10)):nameOK s=false:=by unfold nameOK;rw [decide_eq_false h,Bool.and_false]
def countOne (d:Int) (gs:List Good) (c:Count):Int:=if¬(0≤c.good∧c.good≤(gs.length:Int)-1) then 6 else if¬(0≤c.day∧c.day≤d)∨¬((0≤c.low∧c.low≤c.high)∧c.high≤999) then 1 else 0
section
variable {d m:Int} {gs:List Good} {ms:List Move} {cs:List Count}
theorem bookBell_eq:bookBell d m gs ms cs=if headBell d m=0 then (if goodsBell gs=0 then (if movesBell d gs ms=0 then (if countsBell d gs cs=0 then 0 else countsBell d gs cs) else movesBell d gs ms) else goodsBell gs) else headBell d m:=rfl
theorem bb1 (h:¬(1≤d∧d≤99)∨¬(0≤m∧m≤2)):bookBell d m gs ms cs=1:=by
 have e:headBell d m=1:=if_pos h;rw [bookBell_eq,e,if_neg (by decide)]
theorem head0 (h:(1≤d∧d≤99)∧(0≤m∧m≤2)):headBell d m=0:=if_neg (by omega)
theorem bb2 (h0:(1≤d∧d≤99)∧(0≤m∧m≤2)) (h:¬goodsBell gs=0):bookBell d m gs ms cs=goodsBell gs:=by rw [bookBell_eq,if_pos (head0 h0),if_neg h]
theorem bb3 (h0:(1≤d∧d≤99)∧(0≤m∧m≤2)) (h:¬¬goodsBell gs=0) (h2:¬movesBell d gs ms=0):bookBell d m gs ms cs=movesBell d gs ms:=by rw [bookBell_eq,if_pos (head0 h0),if_pos (Decidable.not_not.1 h),if_neg h2]
theorem bb4 (h0:(1≤d∧d≤99)∧(0≤m∧m≤2)) (h:¬¬goodsBell gs=0) (h2:¬¬movesBell d gs ms=0) {c:Int} (h3:countsBell d gs cs=c):bookBell d m gs ms cs=c:=by
 rw [bookBell_eq,if_pos (head0 h0),if_pos (Decidable.not_not.1 h),if_pos (Decidable.not_not.1 h2),h3];by_cases e:c=0
 ·rw [if_pos e,e]
 ·rw [if_neg e]
theorem counts_len (h:(4:Int)<cs.length):countsBell d gs cs=2:=if_pos h
theorem counts_hit {k:Nat} (h:¬(4:Int)<cs.length) (hs:∀j,j<k→countAt d gs cs j=0) (hk:k<cs.length) (e:¬countOne d gs (cs.getD k Count.z)=0):countsBell d gs cs=countOne d gs (cs.getD k Count.z):=by
 unfold countsBell;rw [if_neg h];exact firstB_hit0 hs hk rfl e
theorem counts_end {k:Nat} (h:¬(4:Int)<cs.length) (hs:∀j,j<k→countAt d gs cs j=0) (hk:cs.length≤k):countsBell d gs cs=0:=by
 unfold countsBell;rw [if_neg h];exact firstB_miss0 hs hk
theorem lastDay_at {k:Nat} (h:0<k):lastDay ms k=(ms.getD ((k:Int)-1).toNat Move.z).day:=by
 unfold lastDay;rw [if_neg (by omega),show ((k:Int)-1).toNat=k-1 by omega]
theorem mv1 {k:Nat} (h:(ms.getD k Move.z).kind<0∨4<(ms.getD k Move.z).kind):moveAt d gs ms k=1:=by unfold moveAt;rw [if_pos (by omega)]
theorem mv2 {k:Nat} (h0:¬((ms.getD k Move.z).kind<0∨4<(ms.getD k Move.z).kind)) (h:¬(0≤(ms.getD k Move.z).good∧(ms.getD k Move.z).good≤(gs.length:Int)-1)):moveAt d gs ms k=6:=by unfold moveAt;rw [if_neg (by omega),if_pos h]
theorem mv3 {k:Nat} (h0:¬((ms.getD k Move.z).kind<0∨4<(ms.getD k Move.z).kind)) (h1:¬¬(0≤(ms.getD k Move.z).good∧(ms.getD k Move.z).good≤(gs.length:Int)-1)) (h:¬(1≤(ms.getD k Move.z).day∧(ms.getD k Move.z).day≤d)):moveAt d gs ms k=1:=by
 unfold moveAt;rw [if_neg (by omega),if_neg h1,if_pos h]
theorem mv4 {k:Nat} (h0:¬((ms.getD k Move.z).kind<0∨4<(ms.getD k Move.z).kind)) (h1:¬¬(0≤(ms.getD k Move.z).good∧(ms.getD k Move.z).good≤(gs.length:Int)-1)) (h2:¬¬(1≤(ms.getD k Move.z).day∧(ms.getD k Move.z).day≤d)) (hk:(0:Int)<(k:Int))
  (h:(ms.getD k Move.z).day<(ms.getD ((k:Int)-1).toNat Move.z).day):moveAt d gs ms k=7:=by
 unfold moveAt;rw [if_neg (by omega),if_neg h1,if_neg h2,lastDay_at (by omega),if_pos h]
theorem mv5 {k:Nat} (h0:¬((ms.getD k Move.z).kind<0∨4<(ms.getD k Move.z).kind)) (h1:¬¬(0≤(ms.getD k Move.z).good∧(ms.getD k Move.z).good≤(gs.length:Int)-1)) (h2:¬¬(1≤(ms.getD k Move.z).day∧(ms.getD k Move.z).day≤d)) {c:Int}
  (h3:(0:Int)<(k:Int)→¬(ms.getD k Move.z).day<(ms.getD ((k:Int)-1).toNat Move.z).day) (h4:(if¬isFew (ms.getD k Move.z).low (ms.getD k Move.z).high then (1:Int) else 0)=c):moveAt d gs ms k=c:=by
 have e:¬(ms.getD k Move.z).day<lastDay ms k:=by
  by_cases hk:0<k
  ·rw [lastDay_at hk];exact h3 (by omega)
  ·have:=Decidable.not_not.1 h2
   unfold lastDay;rw [if_pos (by omega)];omega
 unfold moveAt;rw [if_neg (by omega),if_neg h1,if_neg h2,if_neg e,h4]
theorem gd4 {k:Nat} (h:nameOK (gs.getD k Good.z).name=false):goodAt gs k=4:=by unfold goodAt;rw [if_pos h]
theorem gd5 {k j:Nat} (h0:nameOK (gs.getD k Good.z).name=true) (hj:(j:Int)<(k:Int)) (hk:(k:Int)<gs.length) (h:((gs.getD j Good.z).name.toList==(gs.getD k Good.z).name.toList)=true):goodAt gs k=5:=by
 unfold goodAt;rw [if_neg (by rw [h0];decide),if_pos];rw [List.any_eq_true];refine ⟨gs.getD j Good.z,?_,h⟩;rw [getD_at Good.z (show j<gs.length by omega)];exact List.mem_take_iff_getElem.2 ⟨j,by omega,rfl⟩
theorem gd1 {k j:Nat} (h0:nameOK (gs.getD k Good.z).name=true) (hj:j≤k) (hj':¬(j:Int)<(k:Int)) (h:(gs.take j).any (fun x=>x.name.toList==(gs.getD k Good.z).name.toList)=false) {c:Int}
  (hc:(if (¬(0≤(gs.getD k Good.z).cost∧(gs.getD k Good.z).cost≤999)∨¬(1≤(gs.getD k Good.z).pack∧(gs.getD k Good.z).pack≤20))∨¬isFew (gs.getD k Good.z).low (gs.getD k Good.z).high then (1:Int) else 0)=c):goodAt gs k=c:=by
 obtain rfl:j=k:=by omega
 unfold goodAt;rw [if_neg (by rw [h0];decide),if_neg (by rw [h];decide),hc]
def greatB (gs:List Good) (ms:List Move) (cs:List Count):Bool:=decide ((20:Int)<gs.length) || decide ((20:Int)<ms.length) || decide ((20:Int)<cs.length) || gs.any fun x=>decide ((100:Int)<x.name.size)
theorem great_len (h:((20:Int)<gs.length∨(20:Int)<ms.length)∨(20:Int)<cs.length):greatB gs ms cs=true:=by
 unfold greatB;rcases h with (h | h) | h <;> simp [h]
theorem great_hit {k:Nat} (hk:k<gs.length) (h:(100:Int)<(gs.getD k Good.z).name.size):greatB gs ms cs=true:=by
 unfold greatB;rw [Bool.or_eq_true];right;rw [List.any_eq_true];exact ⟨_,getD_mem hk,decide_eq_true h⟩
theorem great_end {k:Nat} (h:¬(20:Int)<gs.length) (h2:¬(20:Int)<ms.length) (h3:¬(20:Int)<cs.length) (hk:gs.length≤k) (hs:∀j,j<k→¬(100:Int)<(gs.getD j Good.z).name.size):greatB gs ms cs=false:=by
 unfold greatB;rw [decide_eq_false h,decide_eq_false h2,decide_eq_false h3];simp only [Bool.false_or];rw [List.any_eq_false];intro x hx;obtain ⟨i,hi,rfl⟩:=List.getElem_of_mem hx
 have:=hs i (by omega)
 rw [getD_at Good.z hi] at this;simpa using this
theorem great_names (h:greatB gs ms cs=false):∀k,(gs.getD k Good.z).name.size≤1000:=by
 unfold greatB at h;rw [Bool.or_eq_false_iff] at h;intro k;by_cases hk:k<gs.length
 ·have:=List.any_eq_false.1 h.2 _ (getD_mem (d:=Good.z) hk)
  have:=of_decide_eq_false (Bool.eq_false_iff.2 this)
  omega
 ·rw [getD_out (by omega)];decide
theorem great_names' (h:(!greatB gs ms cs)=true):∀k,(gs.getD k Good.z).name.size≤1000:=great_names (by simpa using h)
def fitB (d m:Int) (gs:List Good) (ms:List Move) (cs:List Count):Bool:= !greatB gs ms cs && decide (bookBell d m gs ms cs=0)
end
theorem SlAll.cons {h:GH} {l:List Sl} {v:Value} {xs:List Int} (a:SlIs h v 1 eI xs) (b:SlAll h l):SlAll h ((v,xs) ::l):=fun k=>by
 cases k with
 | zero=>exact a
 | succ k=>exact b k
theorem lists_take {a b:List Sl} {k:Nat} (h:(lists a).take k=(lists b).take k) (ha:k<a.length) (hb:k<b.length) (e:(a.getD k Sl.z).2=(b.getD k Sl.z).2):(lists a).take (k+1)=(lists b).take (k+1):=
 take_eq_of [] h (by rw [lists_length];exact ha) (by rw [lists_length];exact hb) (by rw [lists_getD ha,lists_getD hb,e])
theorem lists_end {a b:List Sl} {k:Nat} (h:(lists a).take k=(lists b).take k) (hk:¬(k:Int)<a.length) (hl:(a.length:Int)=b.length):lists a=lists b:=by
 rw [List.take_of_length_le (by rw [lists_length];omega),List.take_of_length_le (by rw [lists_length];omega)] at h;exact h
theorem lists_ne {a b:List Sl} (h:¬(a.length:Int)=b.length):¬lists a=lists b:=fun e=>h (by rw [←lists_length,←lists_length,e])
theorem lists_neAt {a b:List Sl} {k:Nat} (ha:k<a.length) (hb:k<b.length) (e:¬(a.getD k Sl.z).2=(b.getD k Sl.z).2):¬lists a=lists b:=fun q=>e (by rw [←lists_getD ha,←lists_getD hb,q])
end Go.Ns
namespace Go.Ns
open Go.Conc
def exGs:List Good:=[⟨⟨#[116,101,97]⟩,5,4,3,3⟩,⟨⟨#[114,105,99,101]⟩,2,10,5,6⟩]
def exMs:List Move:=[⟨0,0,2,4,4⟩,⟨1,0,3,2,3⟩,⟨2,1,4,0,1⟩,⟨0,1,5,10,10⟩]
def exCs:List Count:=[⟨0,10,4,5⟩,⟨1,10,5,5⟩]
theorem ex_small:(hists 10 exGs exMs exCs 1).length≤12:=by
 have e:(hists 10 exGs exMs exCs 1).length=4:=by kernel_rfl
 omega
theorem ex_names:∀k,(exGs.getD k Good.z).name.size≤1000
 | 0=>by decide
 | 1=>by decide
 | k+2=>by rw [getD_out (by simp [exGs])];decide
theorem fill_sl2 {v0 v1:Value} (h0:v0.cells=#[v0]) (h1:v1.cells=#[v1]):Instr.fill (fun i=>some (i*1,1)) ((Array.range (2*1)).map (#[Value.slice none 0 0][·% #[Value.slice none 0 0].size]!)) [(0,v0),(1,v1)]=some #[v0,v1]:=by
 have e:((Array.range (2*1)).map (#[Value.slice none 0 0][·% #[Value.slice none 0 0].size]!))=#[Value.slice none 0 0,Value.slice none 0 0]:=by kernel_rfl
 rw [e];simp [Instr.fill,h0,h1]
theorem fill_sl7 {v0 v1 v2 v3 v4 v5 v6:Value} (h0:v0.cells=#[v0]) (h1:v1.cells=#[v1]) (h2:v2.cells=#[v2]) (h3:v3.cells=#[v3]) (h4:v4.cells=#[v4]) (h5:v5.cells=#[v5]) (h6:v6.cells=#[v6]):Instr.fill (fun i=>some (i*1,1)) ((Array.range (7*1)).map (#[Value.slice none 0 0][·% #[Value.slice none 0 0].size]!)) [(0,v0),(1,v1),(2,v2),(3,v3),(4,v4),(5,v5),(6,v6)]=some #[v0,v1,v2,v3,v4,v5,v6]:=by
 have e:((Array.range (7*1)).map (#[Value.slice none 0 0][·% #[Value.slice none 0 0].size]!))=#[Value.slice none 0 0,Value.slice none 0 0,Value.slice none 0 0,Value.slice none 0 0,Value.slice none 0 0,Value.slice none 0 0,Value.slice none 0 0]:=by kernel_rfl
 rw [e];simp [Instr.fill,h0,h1,h2,h3,h4,h5,h6]
theorem SlIs.isSl {α:Type} {h:GH} {v:Value} {n:Nat} {enc:α→Array Value} {xs:List α} (x:SlIs h v n enc xs):∀k i,v≠.int k i:=by
 obtain ⟨a,cap,rfl,_⟩:=x;intro k i e;cases e
theorem SlIs.across {h h':GH} {v:Value} {xs:List Int} {r:Nat} {a b c:Value} {T:TypeId} (x:SlIs h v 1 eI xs) (hb:h r=some (true,.cells #[.int .i64 10,.int .i64 1,a,b,c] T (0,0))) (ho:∀y,y≠r→h' y=h y)
  (ha:∀k i,a≠.int k i) (hb':∀k i,b≠.int k i) (hc:∀k i,c≠.int k i) (hx:∀o,o<5→∃i:Fin xs.length,(o+i.val=0→xs[i.val]≠10)∧(o+i.val=1→xs[i.val]≠1)):SlIs h' v 1 eI xs:=by
 obtain ⟨ad,cap,hv,hcap,hm,he⟩:=x;refine ⟨ad,cap,hv,hcap,hm,fun i hi=>?_⟩;obtain ⟨y,off,h1,h2⟩:=he i hi;refine ⟨y,off,h1,h2.same (ho y ?_)⟩;rintro rfl;have key:∀j (hj:j<xs.length),off+j<5∧(#[Value.int .i64 10,.int .i64 1,a,b,c]:Array Value).extract (off+j) (off+j+1)=eI xs[j]:=fun j hj=>by
  obtain ⟨y2,off2,h3,h4⟩:=he j hj;rw [h1] at h3;simp only [Option.some.injEq,Addr.mk.injEq,and_true] at h3;obtain ⟨rfl,rfl⟩:=h3;obtain ⟨p,cc,t,f,q1,q2,q3⟩:=h4;rw [hb] at q1;simp only [Option.some.injEq,Prod.mk.injEq,Obj.cells.injEq] at q1;obtain ⟨_,rfl,_⟩:=q1;rw [Nat.mul_one] at q2 q3;exact ⟨by simp at q2;omega,q3⟩
 obtain ⟨⟨j,hj⟩,e0,e1⟩:=hx off (by have:=(key i hi).1;omega);obtain ⟨k1,k2⟩:=key j hj;simp only at e0 e1;generalize off+j=o at k1 k2 e0 e1;generalize xs[j]=z at k2 e0 e1
 have:o=0∨o=1∨o=2∨o=3∨o=4:=by omega
 rcases this with rfl | rfl | rfl | rfl | rfl
 ·have k3:(#[.int .i64 10]:Array Value)=#[.int .i64 z]:=k2;simp at k3;exact e0 rfl k3.symm
 ·have k3:(#[.int .i64 1]:Array Value)=#[.int .i64 z]:=k2;simp at k3;exact e1 rfl k3.symm
 ·have k3:(#[a]:Array Value)=#[.int .i64 z]:=k2;simp at k3;exact ha _ _ k3
 ·have k3:(#[b]:Array Value)=#[.int .i64 z]:=k2;simp at k3;exact hb' _ _ k3
 ·have k3:(#[c]:Array Value)=#[.int .i64 z]:=k2;simp at k3;exact hc _ _ k3
def histN (d m:Int) (gs:List Good) (ms:List Move) (cs:List Count):Int:=if bookBell d m gs ms cs=0 then ((hists d gs ms cs m).length:Int) else 0
end Go.Ns
