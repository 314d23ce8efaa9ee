/- Rules and walks, part 2 of 6. No conditions. -/
import Derived.Sort.AssemblyPlain
import Derived.Sort.LotD3
import Derived.Test.YtecpfaceomflkaaGreatDoorPYA
set_option linter.unusedVariables false
set_option linter.unusedSimpArgs false
set_option linter.unnecessarySimpa false
set_option linter.unusedSectionVars false
namespace Go.Ns
open Go.Conc
section
variable {P:Program} {E:GE P} {O:Nat->Value} {ds:List Deferred} {h:GH} {T:(Nat->Value)->List Deferred->GH->Prop}
variable {dst:Option Nat} {ty:TypeId} {pos:String} {af:Array Edge} {gd:Option (Nat×Bool)}
def UponV(W:Wk P)(R:Value->GH->Prop):Next->GH->Prop
 | .enter f args,h=>AV W f args h R
 | .round l f tmps a c,h=>Bb W l f tmps a c h R
 | _,_=>False
def Bw(W:Wk P)(fv:Value)(args:Array Value)(h:GH)(R:Value->GH->Prop):Prop:=
 (do let d<-Deferred.ofValue fv args;invoke d.target d.args:Sem Next).gh P h (UponV W R)
theorem Bw.mono{W:Wk P}{fv:Value}{args:Array Value}{h:GH}{R R':Value->GH->Prop}(x:Bw W fv args h R)(hr:∀v h',R v h'->R' v h'):Bw W fv args h R':=by
 refine Ez _ (λnx h' y=>?_) h x;cases nx <;> first | exact y | exact AV.mono y hr | exact Bb.mono y hr
theorem LF{f:Operand}{args:Array Operand}{tys:Array TypeId}{fv:Value}{vs:Array Value}(hv:AN O f=fv)(ha:args.map (AN O)=vs)(x:Bw E.wk fv vs h λv h'=>T (putS O dst v) ds h') :
  BU E ⟨dst,.call ⟨.value f,args,tys⟩,ty,pos,af,gd⟩ O ds h T:=by
 unfold BU execOp;simp only [];unfold resolve;simp only [hv,ha];refine Ez _ (λnx h' y=>?_) h x;cases nx <;> first | exact y | exact y.elim
theorem Du{f x:Operand}{tys:Array TypeId}{fv v1:Value}(hv:AN O f=fv)(h1:AN O x=v1)(y:Bw E.wk fv #[v1] h λv h'=>T (putS O dst v) ds h') :
  BU E ⟨dst,.call ⟨.value f,#[x],tys⟩,ty,pos,af,gd⟩ O ds h T:=LF hv (by simp [h1]) y
theorem BP{W:Wk P}{g:FuncId}{fn:Func}{first cap args vs:Array Value}{R:Value->GH->Prop}(hf:P.funcs[g]? =some fn)(hc:AM fn=true)(ha:first++args++cap=vs)(x:AV W g vs h R):Bw W (.func (.func g) first cap) args h R:=by
 subst ha;unfold Bw;simp only [Deferred.ofValue];refine AD _ _ (Aq ?_);exact Ng hf hc x
theorem I3{l:Nat}{p:Bool}{lo:Loop}{Q:Loop->GH->Prop}(hl:h l=some (p,.loop lo))(q:Q lo h):(Instr.getLoop l).gh P h Q:=by
 unfold Instr.getLoop;exact AD _ _ ⟨p,_,hl,rfl,rfl,q⟩
theorem O8{W:Wk P}{l:Nat}{p:Bool}{lo:Loop}{args:Array Value}{R:Value->GH->Prop}(hl:h l=some (p,.loop lo))(hn:args.size=lo.params.size)
  (x:Bb W l lo.fn ((lo.params.zip args).foldl (λtmps x=>tmps.setIfInBounds x.1 x.2) lo.tmps) lo.assign lo.body h R):Bw W (.func (.yield l) #[] #[]) args h R:=by
 unfold Bw;simp only [Deferred.ofValue];refine AD _ _ (Aq ?_);unfold invoke;simp only [];unfold Instr.yield;refine AD _ _ (I3 hl ?_);have e:#[]++args=args:=aD
 rw [e,if_neg (by rw [hn];simp)];exact x
def WT(Q:Post)(O:Nat->Value)(ds:List Deferred)(l:Nat)(h:GH):Prop:=
 ∃lo,h l=some (true,.loop lo)/\(lo.state==.busy)=false/\match lo.pending with
  | none=>Q .normal O ds (h.set l true (.loop { lo with state:=.exhausted }))
  | some (.exit id)=>Q (.exit id) O ds (h.set l true (.loop { lo with state:=.exhausted }))
  | some .ret=>Q .ret O ds (h.set l true (.loop { lo with state:=.exhausted }))
  | some _=>False
theorem L1{f:Operand}{params:Array Tmp}{assign body:Code}{Q:Post}(hrd:E.rd=none)
  (x:∀(t:Array Value) d l,BS t E.N O->h d=none->h l=none->l≠d->
   Bw E.wk (AN O f) #[.func (.yield l) #[] #[]] ((h.set d true (.deferred (some []))).set l true (.loop { state:=.ready,pending:=none,fn:=E.fn,tmps:=t,params,assign,body,defers:=d }))
    λ_ h'=>WT Q O ({ target:=.collected d,args:=#[] } ::ds) l h'):Tr E (.rangeFunc f params assign body) O ds h Q:=by
 intro b k cs L t hb hr hl hs hq;refine E.wk.closed _ _ rfl λw fw=>?_;have e1:(Instr.enterLoop b.fn t params assign body b.roundOf).gh P h λr h'=>∃d l,h d=none/\h l=none/\l≠d/\r=(l,[{ target:=.collected d,args:=#[] }])/\
   h'=(h.set d true (.deferred (some []))).set l true (.loop { state:=.ready,pending:=none,fn:=b.fn,tmps:=t,params,assign,body,defers:=d }):=by
  rw [hr,hrd];unfold Instr.enterLoop;refine AD _ _ (λd hd=>?_);refine AD _ _ (Aq ?_);refine AD _ _ (λl hl'=>?_);have hne:l≠d:=λe=>by subst e;rw [GH.set_same] at hl';cases hl'
  rw [GH.set_ne _ _ _ hne] at hl';exact ⟨d,l,hd,hl',hne,rfl,rfl⟩
 obtain ⟨r,w1,h1,es1,r1,r2,d,l,hd,hl',hne,rfl,rfl⟩:=Iu fw e1;have y:=x t d l hs hd hl' hne;rw [<-hb] at y;let mark:List Deferred:=[{ target:=.collected d,args:=#[] }];have hev:(Cc b t (mark++ds) (.inRangeFunc l ::k)).eval=AN O:=funext λo=>by rw [Lk hs]
 have y':(do let d<-resolve (Cc b t (mark++ds) (.inRangeFunc l ::k)).eval { callee:=.value f,args:=#[.const (.func (.yield l) #[] #[])],argTypes:=#[] } 0;invoke d.target d.args:Sem Next).gh P
   ((h.set d true (.deferred (some []))).set l true (.loop { state:=.ready,pending:=none,fn:=b.fn,tmps:=t,params,assign,body,defers:=d })) (UponV E.wk λ_ h'=>WT Q O ({ target:=.collected d,args:=#[] } ::ds) l h'):=by
  rw [hev];unfold resolve;simpa [AN,Bw] using y
 obtain ⟨nx,w2,h2,es2,q1,q2,q3⟩:=Iu r2.fits y';have hstep:stepG P E.wk.main (G (Cc b t ds (.code (.rangeFunc f params assign body) ::k)) cs) w=
   GStep.after (seen P b.fn es1) (stepG.apply P true (Cc b t (mark++ds) (.inRangeFunc l ::k)) cs none
    (do let d<-resolve (Cc b t (mark++ds) (.inRangeFunc l ::k)).eval { callee:=.value f,args:=#[.const (.func (.yield l) #[] #[])],argTypes:=#[] } 0;invoke d.target d.args) w1):=by
  rw [Ay];unfold stepG.exec;simp only [Cc,r1];rfl
 have sub2:∀q:Bool,∀e ∈ seen P b.fn (if q then #[] else es2),e ∈ es2:=λq e he=>by
  have:=mem_seen he
  cases q with
  | true=>simp at this
  | false=>simpa using this
 have hok:∀q:Bool,Bg h w (seen P b.fn es1++(seen P b.fn (if q then #[] else es2)++ #[])) h2 w2:=λq=>
  (r2.trans q2).sub λe he=>by
   rw [Array.append_empty,Array.mem_append] at he;rw [Array.mem_append];rcases he with he | he
   ·exact .inl (mem_seen he)
   ·exact .inr (sub2 q e he)
 have CP:∀(v:Value) h',WT Q O ({ target:=.collected d,args:=#[] } ::ds) l h'->E.wk.K (G ((Cc b t (mark++ds) (.inRangeFunc l ::k)).finish v) cs) h':=by
  rintro v h' ⟨lo,hlo,hst,z⟩;show E.wk.K (G (Cc b t (mark++ds) (.endRangeFunc l ::k)) cs) h';refine E.wk.closed _ _ rfl λw fw=>?_;have e2:(Instr.endLoop l).gh P h' λjump h''=>jump=lo.pending/\h''=h'.set l true (.loop { lo with state:=.exhausted }):=by
   unfold Instr.endLoop;refine AD _ _ (I3 hlo ?_);rw [hst];refine AD _ _ ⟨_,hlo,rfl,rfl,rfl,?_⟩;exact ⟨rfl,rfl⟩
  obtain ⟨jump,w3,h3,es3,p1,p2,rfl,rfl⟩:=Iu fw e2;refine ⟨G (Cc b t (mark++ds) ((lo.pending.map Item.code).toList++k)) cs,w3,_,_,?_,p2.sub (es':=seen P b.fn es3++ #[]) λe he=>?_,?_⟩
  ·rw [Ay];unfold stepG.exec;simp only [Cc,p1];rfl
  ·rw [Array.append_empty] at he;exact mem_seen he
  ·cases hp:lo.pending with
   | none=>
    rw [hp] at z;exact hq _ _ _ _ z t hs
   | some c=>
    rw [hp] at z;cases c with
    | ret=>
     have:=hq _ _ _ _ z t hs
     exact hl.ret t _ _ k this
    | exit id=>
     have:=hq _ _ _ _ z t hs
     show E.wk.K (G (Cc b t (mark++ds) (.code (.exit id) ::k)) cs) _;cases hx:exitTo id k with
     | none=>simp only [DD,hx] at this;exact hl.exit id t _ _ k hx this
     | some k'=>
      simp only [DD,hx] at this;exact Wk.go (Cc b t (mark++ds) k') (λw=>by rw [Ay];simp [stepG.exec,Cc,G,hx]) this
    | _=>exact z.elim
 cases nx with
 | enter f' args=>
  refine ⟨_,w2,_,h2,?_,hok (b.kind==.early),q3 (Cc b t (mark++ds) (.inRangeFunc l ::k)) cs CP⟩;rw [hstep];simp only [stepG.apply,q1,if_true];rfl
 | round l' f' tmps a c=>
  refine ⟨_,w2,_,h2,?_,hok (b.kind==.early),q3 (Cc b t (mark++ds) (.inRangeFunc l ::k)) cs CP⟩;rw [hstep];simp only [stepG.apply,q1,if_true];rfl
 | _=>exact q3.elim
theorem Nm{W:Wk P}{l:Nat}{f:FuncId}{tmps:Array Value}{N:Nat}{assign body:Code}{R:Value->GH->Prop}(hN:tmps.size=N)
  (x:Tr ⟨W,f,some l,N⟩ assign (λi=>tmps.getD i undef) [] h λe O ds h'=>e=.normal/\∃lo,h' l=some (true,.loop lo)/\lo.state=.ready/\
   Tr ⟨W,f,some l,N⟩ body O ds (h'.set l true (.loop { lo with state:=.busy })) λe _ _ h''=>∃lo',h'' l=some (true,.loop lo')/\match e with
    | .normal=>R (.bool true) (h''.set l true (.loop { lo' with state:=.ready,pending:=none }))
    | .exit id=>R (.bool false) (h''.set l true (.loop { lo' with state:=.done,pending:=some (.exit id) }))
    | .ret=>R (.bool false) (h''.set l true (.loop { lo' with state:=.done,pending:=some .ret }))
    | _=>False):Bb W l f tmps assign body h R:=by
 intro c cs hc;let b:Frame:=Frame.round l f tmps assign body .normal;show W.K (G (Cc b tmps [] [.code assign,.beginRound,.code body]) (c ::cs)) h;have leave:∀(jump:Option Code)(v:Value)(t:Array Value)(ds:List Deferred)(k:List Item)(h'':GH)(lo':Loop),h'' l=some (true,.loop lo')->
   (∀w,stepG P W.main (G (Cc b t ds k) (c ::cs)) w=GStep.after (seen P f ((Instr.endRound l jump).runT P w #[]).2) (match ((Instr.endRound l jump).runT P w #[]).1 with
    | .ok v w=>doReturn P W.main (Cc b t ds k) (c ::cs) none v w
    | .halt _ w=>.ended (.stuck "range over a function: no such loop" ((Cc b t ds k).pos P)) w))->v=.bool jump.isNone->
   R v (h''.set l true (.loop { lo' with state:=if jump.isNone then .ready else .done,pending:=jump }))->W.K (G (Cc b t ds k) (c ::cs)) h'':=by
  rintro jump v t ds k h'' lo' hlo hstep rfl hR;refine W.closed _ _ rfl λw fw=>?_;have e2:(Instr.endRound l jump).gh P h'' λv h3=>v=.bool jump.isNone/\h3=h''.set l true (.loop { lo' with state:=if jump.isNone then .ready else .done,pending:=jump }):=by
   unfold Instr.endRound;refine AD _ _ (I3 hlo ?_);refine AD _ _ ⟨_,hlo,rfl,rfl,rfl,?_⟩;exact ⟨rfl,rfl⟩
  obtain ⟨v,w3,h3,es3,p1,p2,rfl,rfl⟩:=Iu fw e2;refine ⟨G (c.finish (.bool jump.isNone)) cs,w3,_,_,?_,p2.sub (es':=seen P f es3++ #[]) λe he=>?_,hc _ _ hR⟩
  ·rw [hstep,p1];rfl
  ·rw [Array.append_empty] at he;exact mem_seen he
 let L:Lv:=λj t ds h''=>∃lo',h'' l=some (true,.loop lo')/\match j with
  | none=>R (.bool true) (h''.set l true (.loop { lo' with state:=.ready,pending:=none }))
  | some (.exit id)=>R (.bool false) (h''.set l true (.loop { lo' with state:=.done,pending:=some (.exit id) }))
  | some .ret=>R (.bool false) (h''.set l true (.loop { lo' with state:=.done,pending:=some .ret }))
  | some _=>False
 have hL:Ll W b (c ::cs) L:=by
  refine ⟨?_,?_,?_⟩
  ·rintro t ds h'' ⟨lo',h1,h2⟩;exact leave none _ t ds [] h'' lo' h1 (λw=>by rw [Ay];rfl) rfl (by simpa using h2)
  ·rintro t ds h'' k ⟨lo',h1,h2⟩;exact leave (some .ret) _ t ds (.code .ret ::k) h'' lo' h1 (λw=>by rw [Ay];rfl) rfl (by simpa using h2)
  ·rintro id t ds h'' k hk ⟨lo',h1,h2⟩;exact leave (some (.exit id)) _ t ds (.code (.exit id) ::k) h'' lo' h1 (λw=>by rw [Ay];simp only [stepG.exec,Cc,hk,Option.elim];rfl) rfl (by simpa using h2)
 refine x b [.beginRound,.code body] (c ::cs) L tmps rfl rfl hL ⟨hN,λi=>rfl⟩ ?_;rintro e O ds h' ⟨rfl,lo,h1,h2,h3⟩ t' ht';show W.K (G (Cc b t' ds [.beginRound,.code body]) (c ::cs)) h';refine W.closed _ _ rfl λw fw=>?_;have e3:(do (some l).elim (stuck "beginRound: no round") Instr.beginRound;pure Next.skip:Sem Next).gh P h' λnx h''=>nx=.skip/\h''=h'.set l true (.loop { lo with state:=.busy }):=by
  show Sem.gh P (do Instr.beginRound l;pure Next.skip:Sem Next) h' _;unfold Instr.beginRound;refine AD _ _ (AD _ _ (I3 h1 ?_));refine AD _ _ ⟨_,h1,rfl,rfl,rfl,?_⟩;rw [h2];exact ⟨rfl,rfl⟩
 obtain ⟨nx,w3,h4,es3,p1,p2,rfl,rfl⟩:=Iu fw e3;refine ⟨G (Cc b t' ds [.code body]) (c ::cs),w3,_,_,?_,p2.sub (es':=seen P f es3++ #[]) λe he=>?_,?_⟩
 ·rw [Ay];unfold stepG.exec;simp only [Cc];unfold stepG.apply;have hb:b.roundOf=some l:=rfl;simp only [hb,p1,if_true];rfl
 ·rw [Array.append_empty] at he;exact mem_seen he
 ·refine h3 b [] (c ::cs) L t' rfl rfl hL ht' ?_;rintro e σ' ds' h'' ⟨lo',g1,g2⟩ t2 ht2;cases e with
  | normal=>
   exact hL.stop t2 ds' h'' ⟨lo',g1,g2⟩
  | exit id=>exact ⟨lo',g1,g2⟩
  | ret=>exact ⟨lo',g1,g2⟩
  | _=>exact g2.elim
end
end Go.Ns
namespace Go.Ns
open Go.Conc
section
variable {P:Program} {E:GE P} {O:Nat->Value} {ds:List Deferred} {h:GH} {T:(Nat->Value)->List Deferred->GH->Prop}
variable {dst:Option Nat} {ty:TypeId} {pos:String} {af:Array Edge} {gd:Option (Nat×Bool)}
variable {V:Type}
def Fw(R:GH->GH->Prop):List R3->Prop
 | []=>True
 | φ ::l=>(∀v h h',R h h'->φ v h->φ v h')/\Fw R l
theorem Fw.mono{R:GH->GH->Prop}:∀{Φ:List R3},Fw R Φ->∀k v h h',R h h'->Lx Φ k v h->Lx Φ k v h'
 | [],_,k,v,h,h',_,x=>by cases k <;> exact x
 | φ ::l,ok,0,v,h,h',r,x=>ok.1 v h h' r x
 | φ ::l,ok,k+1,v,h,h',r,x=>Fw.mono ok.2 k v h h' r x
theorem tr_drawn{R:GH->GH->Prop}(rr:∀h,R h h)(rt:∀a b c,R a b->R b c->R a c){id:Nat}{l:List Oper}{Q:Post}(n:Nat)(cls:List (List Nat))(Φ:List R3)
  (hm:P.follows .mixedOrders=true) (ok:Tf E.N l n cls=true) (mono:Fw R Φ) (x:Ni R E l n Φ O ds h Q n 0 l cls):Tr E (.region id l.toArray true) O ds h Q:=
 tr_draw R n cls Φ hm ok rr rt mono.mono x
theorem O9{id:Nat}{l:List Oper}{Q:Post}(n:Nat)(cls:List (List Nat))(Φ:List R3)
  (hm:P.follows .mixedOrders=true) (ok:Tf E.N l n cls=true) (mono:Fw GH.Le Φ) (x:Ni GH.Le E l n Φ O ds h Q n 0 l cls):Tr E (.region id l.toArray true) O ds h Q:=
 tr_drawn GH.Le.refl (λ_ _ _=>GH.Le.trans) n cls Φ hm ok mono x
theorem trL_opg{ops:Array Oper}{o:Oper}{l:List Oper}{Q:Post}{j d:Nat}{want:Bool}{oj:Oper}(hg:o.guard=some (j,want))(hj:ops[j]? =some oj)(hjd:oj.dst=some d)(hv:O d=.bool want)(hdj:Nat.blt d E.N=true)
  (hdf:E.rd=none\/C0 o.op=false) (hd:Cx o.dst E.N=true) (x:BU E o O ds h λσ' ds' h'=>DN E ops l σ' ds' h' Q):DN E ops (o ::l) O ds h Q:=TY hg hj hjd hv hdj hdf hd x
theorem A3{ops:Array Oper}{o:Oper}{l:List Oper}{Q:Post}{j d:Nat}{want:Bool}{oj:Oper}(hg:o.guard=some (j,want))(hj:ops[j]? =some oj)(hjd:oj.dst=some d)(hv:O d=undef)(hdj:Nat.blt d E.N=true)
  (hd:Cx o.dst E.N=true) (x:DN E ops l (putS O o.dst undef) ds h Q):DN E ops (o ::l) O ds h Q:=by
 intro i b k cs L t hi hb hr hl hs hc;have ho:ops[i]? =some o:=by simpa using (hi 0).symm
 have hy:yielded ops t j=none:=by
  have hlt:d<t.size:=by rw [hs.1];exact Nat.blt_eq▸hdj
  have h2:=hs.2 d;rw [hv] at h2;have h3:t[d]? =some undef:=by
   simp only [Array.getD_eq_getD_getElem?,Array.getElem?_eq_getElem hlt,Option.getD_some] at h2;rw [Array.getElem?_eq_getElem hlt,h2]
  simp [yielded,hj,hjd,h3,undef]
 refine Wk.go (Cc b (WJ t o.dst undef) ds (.inRegion ops (List.range' (i+1) l.length) ::k)) (λw=>?_) ?_
 ·have hw':((ops[i]?).map (Region.wanted · (yielded ops t))).getD false=false:=by
   simp only [ho,Option.map_some,Option.getD_some,Region.wanted,hg,hy];cases want <;> rfl
  rw [<-C1 ho (rest:=List.range' (i+1) l.length),List.length_cons,List.range'_succ,Ay];unfold stepG.exec;simp only [Cc,hw',Bool.false_eq_true,↓reduceIte];rfl
 ·exact x (i+1) b k cs L _ (λj=>by have:=hi (j+1);simpa [Nat.add_assoc,Nat.add_comm 1 j] using this) hb hr hl (hs.putS hd undef) hc
theorem Av{ops:Array Oper}{l:List Oper}{Q:Post}{p:Prop}[Decidable p](a:p->DN E ops l O ds h Q)(a':¬p->DN E ops l O ds h Q):DN E ops l O ds h Q:=if h:p then a h else a' h
theorem KU{ops:Array Oper}{l:List Oper}{Q:Post}{b:Bool}(a:b=true->DN E ops l O ds h Q)(a':b=false->DN E ops l O ds h Q):DN E ops l O ds h Q:=by
 cases b with
 | true=>exact a rfl
 | false=>exact a' rfl
theorem E2{f:Fn}{x1:Operand}{v1:Value}(h1:AN O x1=v1)(k:T (putS O dst (.func f #[] #[v1])) ds h):BU E ⟨dst,.makeFunc f #[] #[x1],ty,pos,af,gd⟩ O ds h T:=EC (by simp [h1]) k
theorem Fx{f:Fn}{x1 x2:Operand}{v1 v2:Value}(h1:AN O x1=v1)(h2:AN O x2=v2)(k:T (putS O dst (.func f #[] #[v1,v2])) ds h):BU E ⟨dst,.makeFunc f #[] #[x1,x2],ty,pos,af,gd⟩ O ds h T:=EC (by simp [h1,h2]) k
theorem I4{f:Fn}{x1 x2 x3:Operand}{v1 v2 v3:Value}(h1:AN O x1=v1)(h2:AN O x2=v2)(h3:AN O x3=v3)(k:T (putS O dst (.func f #[] #[v1,v2,v3])) ds h):BU E ⟨dst,.makeFunc f #[] #[x1,x2,x3],ty,pos,af,gd⟩ O ds h T:=EC (by simp [h1,h2,h3]) k
theorem Ti{f:Fn}{x1 x2 x3 x4:Operand}{v1 v2 v3 v4:Value}(h1:AN O x1=v1)(h2:AN O x2=v2)(h3:AN O x3=v3)(h4:AN O x4=v4)(k:T (putS O dst (.func f #[] #[v1,v2,v3,v4])) ds h):BU E ⟨dst,.makeFunc f #[] #[x1,x2,x3,x4],ty,pos,af,gd⟩ O ds h T:=EC (by simp [h1,h2,h3,h4]) k
theorem Tj{f:Fn}{x1 x2 x3 x4 x5:Operand}{v1 v2 v3 v4 v5:Value}(h1:AN O x1=v1)(h2:AN O x2=v2)(h3:AN O x3=v3)(h4:AN O x4=v4)(h5:AN O x5=v5)(k:T (putS O dst (.func f #[] #[v1,v2,v3,v4,v5])) ds h):BU E ⟨dst,.makeFunc f #[] #[x1,x2,x3,x4,x5],ty,pos,af,gd⟩ O ds h T:=EC (by simp [h1,h2,h3,h4,h5]) k
theorem D4{v:Value}{p:Prop}[Decidable p](e:v=.bool (decide p))(g:v=.bool false):¬p:=by
 rw [e] at g;simpa using g
theorem AO.fresh{h0 h:GH}{v:Value}{t:TypeId}{n:Nat}{enc:V->Array Value}{xs:List V}(x:AO h0 h v t n enc xs):∀b,CP v=some b->h0 b=none:=by
 intro b hb;rcases x with ⟨rfl,_⟩ | ⟨b',cap,c,rfl,h1,_⟩
 ·cases hb
 ·simp [CP] at hb;subst hb;exact h1
theorem AO.inDom{h0 h:GH}{v:Value}{t:TypeId}{n:Nat}{enc:V->Array Value}{xs:List V}(x:AO h0 h v t n enc xs):∀b,CP v=some b->∃o,h b=some o:=by
 intro b hb;rcases x with ⟨rfl,_⟩ | ⟨b',cap,c,rfl,h1,h2,_⟩
 ·cases hb
 ·simp [CP] at hb;subst hb;exact ⟨_,h2⟩
def Aw(v:Value)(b:Nat):Prop:=CP v≠some b
def Apart(v w:Value):Prop:=∀b,CP v=some b->CP w≠some b
theorem Apart.symm{v w:Value}(a:Apart v w):Apart w v:=λb h h'=>a b h' h
theorem Aw.nil{b:Nat}:Aw (.slice none 0 0) b:=by intro h;cases h
theorem Apart.nil{w:Value}:Apart (.slice none 0 0) w:=by intro b h;cases h
theorem Aw.old{h0 h:GH}{v:Value}{t:TypeId}{n:Nat}{enc:V->Array Value}{xs:List V}(x:AO h0 h v t n enc xs){b:Nat}{o:Bool×Obj}(hb:h0 b=some o):Aw v b:=λe=>by
 rw [x.fresh b e] at hb;cases hb
theorem Aw.new{h0 h:GH}{v:Value}{t:TypeId}{n:Nat}{enc:V->Array Value}{xs:List V}(x:AO h0 h v t n enc xs){b:Nat}(hb:h b=none):Aw v b:=λe=>by
 obtain ⟨o,ho⟩:=x.inDom b e;rw [hb] at ho;cases ho
def Fy(h h':GH)(v v':Value):Prop:=(∀b o,h b=some o->CP v≠some b->h' b=some o)/\(CP v'=CP v\/((∃r,CP v'=some r/\h r=none)/\∀b o,h b=some o->h' b=some o))
theorem Aw.grown{h h':GH}{v v':Value}(g:Fy h h' v v'){b:Nat}{o:Bool×Obj}(hb:h b=some o)(x:Aw v b):Aw v' b:=λe=>by
 rcases g.2 with q | ⟨⟨r,q1,q2⟩,_⟩
 ·exact x (q▸e)
 ·rw [q1] at e;cases e;rw [q2] at hb;cases hb
theorem Apart.grown{h h' h0:GH}{v v' w:Value}(g:Fy h h' v v'){t:TypeId}{n:Nat}{enc:V->Array Value}{xs:List V}(y:AO h0 h w t n enc xs)(x:Apart v w):Apart v' w:=λb e e'=>by
 obtain ⟨o,ho⟩:=y.inDom b e';rcases g.2 with q | ⟨⟨r,q1,q2⟩,_⟩
 ·exact x b (q▸e) e'
 ·rw [q1] at e;cases e;rw [q2] at ho;cases ho
theorem AO.grown{h h' h0:GH}{v v' w:Value}(g:Fy h h' v v'){t:TypeId}{n:Nat}{enc:V->Array Value}{xs:List V}(y:AO h0 h w t n enc xs)(x:Apart v w):AO h0 h' w t n enc xs:=
 y.keep λb o hb ho=>g.1 b o ho λe=>x b e hb
theorem GH.Le.grown{h1 h h':GH}{v v':Value}(g:Fy h h' v v')(l:h1.Le h)(f:∀b,CP v=some b->h1 b=none):h1.Le h':=λb p o hb=>by
 obtain ⟨o',h2,h3⟩:=l b p o hb;exact ⟨o',g.1 b _ h2 λe=>(by rw [f b e] at hb;cases hb),h3⟩
theorem Ck{h h':GH}{v v':Value}(g:Fy h h' v v'){b:Nat}{o:Bool×Obj}(hb:h b=some o)(x:Aw v b):h' b=some o:=g.1 b o hb x
theorem AO.stored{h0 h h':GH}{v:Value}{t:TypeId}{n:Nat}{enc:V->Array Value}{xs:List V}(y:AO h0 h v t n enc xs){r:Nat}(x:Aw v r)(ho:∀b,b≠r->h' b=h b):AO h0 h' v t n enc xs:=
 y.keep λb o hb hb'=>by rw [ho b λe=>by subst e;exact x hb];exact hb'
theorem BE{s x:TypeId}{o1 o2:Operand}{h0:GH}{v w:Value}{e n bytes:Nat}{enc:V->Array Value}{xs ys:List V}(ht:Ie P s x=some (e,n,bytes))(h1:AN O o1=v)(h2:AN O o2=w)
  (hv:AO h0 h v e n enc xs) (hw:AL h w n enc ys) (l0:∀r,h r=none->h0 r=none) (hb:(2*(xs.length+ys.length)+512)*bytes<=2 ^ 48) (hfine:∀y ∈ ys,(enc y).toList.all (·.oneCell')=true)
  (k:∀v' h',AO h0 h' v' e n enc (xs++ys)->Fy h h' v v'->T (putS O dst v') ds h') :
  BU E ⟨dst,.call ⟨.builtin .append,#[o1,o2],#[s,x]⟩,ty,pos,af,gd⟩ O ds h T:=
 ZI ht h1 h2 hv hw l0 hb hfine λv' h' a b c=>k v' h' a ⟨b,c⟩
theorem AZ{h0:GH}{t:TypeId}{x ix:Operand}{n:Nat}{enc:V->Array Value}{xs:List V}{v:Value}{kd:IntKind}{i:Int}(ht:Ef P t=some n)(hs:AL h0 v n enc xs)(hx:AN O x=v)(hi:AN O ix=.int kd i)(h0':0<=i)(h1:i<xs.length)
  (k:∀b off,AY h0 b off n (enc (xs[i.toNat]' aA))->T (putS O dst (.pointer (some ⟨b,off,none⟩))) ds h):BU E ⟨dst,.indexAddr t x ix,ty,pos,af,gd⟩ O ds h T:=by
 obtain ⟨a,cap,rfl,_,_,he⟩:=hs;obtain ⟨b,off,rfl,hb⟩:=he i.toNat aA;exact Bi ht hx hi h0' h1 (k b _ hb)
theorem AO.built{h h':GH}{r:Nat}{t:TypeId}{n:Nat}{enc:V->Array Value}{xs:List V}{c:Array Value}{m:Nat}(hr:h r=none)(hb:h' r=some (true,.cells c t (0,0)))(hm:xs.length=m)(hml:Nat.ble m 16777216=true)(hn:∀x ∈ xs,(enc x).size=n)(hc:c.toList=DX enc xs) :
  AO h h' (.slice (some ⟨r,0,none⟩) m m) t n enc xs:=by
 subst hm
 have:=Nat.le_of_ble_eq_true hml
 refine .inr ⟨r,_,c,rfl,hr,hb,?_,Nat.le_refl _,aA,?_,hn⟩
 ·rw [<-Eh hn,<-hc,Array.length_toList]
 ·rw [hc,<-Eh hn,List.take_length]
theorem AS{t:TypeId}{len n:Nat}{z cells:Array Value}{e:TypeId}{parts:Array (Nat×Operand)}(hs:DP P t=some (n,z,e))(hl:len*n<=2 ^ 24)(hn:(len*n=0)=False)
  (hf:Instr.fill (λi=>some (i*n,n)) ((Array.range (len*n)).map (z[·%z.size]!)) (parts.map λ(i,x)=>(i,AN O x)).toList=some cells)
  (k:∀r h',h r=none->h.Le h'->h' r=some (true,.cells cells e (0,0))->(∀b,b≠r->h' b=h b)->T (putS O dst (.slice (some ⟨r,0,none⟩) len len)) ds h'):BU E ⟨dst,.buildSlice t len parts,ty,pos,af,gd⟩ O ds h T:=
 RV hs hl hn hf λr hr=>k r _ hr (GH.Le.new hr _ _) (GH.set_same _ _ _ _) λb hb=>GH.set_ne _ _ _ hb
theorem Dg{t:TypeId}{n:Nat}{z:Array Value}{e:TypeId}(hs:DP P t=some (n,z,e))(k:∀r h',h r=none->h.Le h'->h' r=some (true,.cells #[] e (0,0))->(∀b,b≠r->h' b=h b)->T (putS O dst (.slice (some ⟨r,0,none⟩) 0 0)) ds h') :
  BU E ⟨dst,.buildSlice t 0 #[],ty,pos,af,gd⟩ O ds h T:=by
 unfold BU execOp;refine Fu ?_;unfold DP at hs;unfold Instr.buildSlice;cases hu:P.underlying t with
 | none=>rw [hu] at hs;cases hs
 | some d=>
  rw [hu] at hs;cases d <;> first | (cases hs;done) | skip
  rename_i e'
  simp only at hs;cases ht:CZ P e' with
  | none=>rw [ht] at hs;cases hs
  | some x=>
   cases hz:Bt P e' with
   | none=>rw [ht,hz] at hs;cases hs
   | some z'=>
    rw [ht,hz] at hs;simp only [Option.some.injEq,Prod.mk.injEq] at hs;obtain ⟨rfl,rfl,rfl⟩:=hs;refine AD _ _ (Ai hu ?_);refine AD _ _ (GP (by rw [ht];rfl) ?_);rw [Nat.zero_mul,if_neg aC];dsimp only;rw [if_pos rfl];refine AD _ _ (Aq ?_);have e0:Instr.fill (λi=>some (i*x.snd,x.snd)) (Array.map (λy=>(#[]:Array Value)[y%(#[]:Array Value).size]!) (Array.range 0)) (Array.map (λy:Nat×Operand=>(y.fst,AN O y.snd)) #[]).toList=some #[]:=by
     simp [Instr.fill]
    rw [e0];dsimp only;refine AD _ _ ?_;unfold newRow;refine AD _ _ (λr hr=>?_);exact k r _ hr (GH.Le.new hr _ _) (GH.set_same _ _ _ _) λb hb=>GH.set_ne _ _ _ hb
end
end Go.Ns
namespace Go.Ns
open Go.Conc
section
variable {P:Program} {E:GE P}
def HO:Op->Option (List Operand)
 | .move x | .assign x | .box _ x | .unOp _ _ x | .convert _ _ x | .load _ x | .fieldAddr _ x _ | .field _ x _ | .nilCheck x | .extract x _ | .makeInterface _ x | .makeChan _ x | .typeAssert x _ _ _=>some [x]
 | .pick c a b=>some [c,a,b]
 | .alloc _=>some []
 | .build _ ps | .buildSlice _ _ ps=>some (ps.toList.map (·.2))
 | .store _ a x | .binOp _ _ a x _ | .indexAddr _ a x | .index _ a x | .lookup _ a x _ | .makeSlice _ a x=>some [a,x]
 | .makeFunc _ f c=>some (f.toList++c.toList)
 | .makeMap _ r=>some r.toList
 | .slice _ x lo hi mx=>some (x ::(lo.toList++(hi.toList++mx.toList)))
 | .mapUpdate _ m k x=>some [m,k,x]
 | .call c=>some (c.args.toList++match c.callee with | .value f=>[f] | .invoke r _=>[r] | .builtin _=>[])
 | _=>none
theorem PA{ρ ρ':Operand->Value}{a:Array Operand}(e:∀x ∈ a.toList,ρ x=ρ' x):a.map ρ=a.map ρ':=by
 apply Array.toList_inj.1;rw [Array.toList_map,Array.toList_map];exact List.map_congr_left e
theorem Un{ρ ρ':Operand->Value}{a:Array (Nat×Operand)}(e:∀x ∈ a.toList.map (·.2),ρ x=ρ' x):(a.map λ(i,x)=>(i,ρ x))=a.map λ(i,x)=>(i,ρ' x):=by
 apply Array.toList_inj.1;rw [Array.toList_map,Array.toList_map];exact List.map_congr_left λx hx=>by
  have:=e x.2 (List.mem_map.2 ⟨x,hx,rfl⟩)
  obtain ⟨i,y⟩:=x;exact congrArg (Prod.mk i) this
theorem Ya{ρ ρ':Operand->Value}{a:Option Operand}(e:∀x ∈ a.toList,ρ x=ρ' x):a.map ρ=a.map ρ':=by
 cases a with
 | none=>rfl
 | some x=>simp [e x aD]
theorem L2{ρ ρ':Operand->Value}{o:Oper}{xs:List Operand}(hx:HO o.op=some xs)(e:∀x ∈ xs,ρ x=ρ' x):execOp ρ o=execOp ρ' o:=by
 obtain ⟨dst,op,ty,pos,af,gd⟩:=o;cases op <;> simp only [HO,Option.some.injEq,reduceCtorEq] at hx
 case call c=>
  subst hx;have e1:=PA (a:=c.args) λx hx=>e x (List.mem_append_left _ hx);simp only [execOp,resolve,e1];cases hc:c.callee with
  | builtin b=>rfl
  | value f=>simp only [];rw [e f (List.mem_append_right _ (by rw [hc];simp))]
  | invoke r m=>simp only [];rw [e r (List.mem_append_right _ (by rw [hc];simp))]
 case makeFunc f a b=>
  subst hx;simp only [execOp];rw [PA (a:=a) λx hx=>e x (List.mem_append_left _ hx),PA (a:=b) λx hx=>e x (List.mem_append_right _ hx)]
 case slice t x lo hi mx=>
  subst hx;simp only [execOp];rw [e x aD,Ya (a:=lo) λy hy=>e y aE,Ya (a:=hi) λy hy=>e y aE,Ya (a:=mx) λy hy=>e y aE]
 case build t ps=>subst hx;simp only [execOp];rw [Un e]
 case buildSlice t n ps=>subst hx;simp only [execOp];rw [Un e]
 case makeMap t r=>subst hx;simp only [execOp];rw [Ya e]
 all_goals
  subst hx;simp only [List.mem_cons,or_false,forall_eq_or_imp,forall_eq,List.not_mem_nil,false_implies,implies_true] at e;simp [execOp,e]
def IB(xs:List Operand):List Nat:=xs.filterMap λx=>match x with | .tmp t=>some t | _=>none
theorem Nn{O σ':Nat->Value}{xs:List Operand}(e:∀t ∈ IB xs,O t=σ' t):∀x ∈ xs,AN O x=AN σ' x:=λx hx=>by
 cases x with
 | tmp t=>exact e t (List.mem_filterMap.2 ⟨_,hx,rfl⟩)
 | const v=>rfl
 | global g=>rfl
 | func f=>rfl
def Ku:Op->Bool
 | .call c=>match c.callee with
  | .builtin b=>b==.len || b==.cap || b==.min || b==.max
  | _=>false
 | .move _ | .assign _ | .nilCheck _ | .pick .. | .build .. | .load .. | .binOp .. | .unOp .. | .convert .. | .makeFunc .. | .fieldAddr .. | .field .. | .indexAddr .. | .index .. | .extract .. | .lookup .. | .slice .. | .makeInterface .. | .typeAssert .. =>true
 | _=>false
theorem KV{β:Type}{s:Sem β}{f:β->Value}{h:GH}{Q:Next->GH->Prop}:(s.bind λx=>(Sem.pure (Next.value (f x)):Sem Next)).gh P h Q->(s.bind λx=>(Sem.pure (Next.value (f x)):Sem Next)).gh P h λa h'=>Q a h'/\∃v,a=.value v:=by
 induction s generalizing h with
 | pure a=>intro x;exact ⟨x,_,rfl⟩
 | load m a k ih=>rintro ⟨x1,x2,p,c,t,f,v,y1,y2,z⟩;exact ⟨x1,x2,p,c,t,f,v,y1,y2,ih v z⟩
 | store m a v k ih=>rintro ⟨x1,x2,x3,c,t,f,y1,y2,y3,z⟩;exact ⟨x1,x2,x3,c,t,f,y1,y2,y3,ih z⟩
 | new o k ih=>intro x r hr;exact ih r (x r hr)
 | shape r k ih=>rintro ⟨p,c,t,f,y,z⟩;exact ⟨p,c,t,f,y,ih _ z⟩
 | freeze a n k ih=>
  rintro (⟨y,z⟩ | ⟨y,c,t,f,y2,z⟩)
  ·exact .inl ⟨y,ih z⟩
  ·exact .inr ⟨y,c,t,f,y2,ih z⟩
 | frozen a k ih=>rintro ⟨p,c,t,f,y,z⟩;exact ⟨p,c,t,f,y,ih _ z⟩
 | getObj r k ih=>rintro ⟨p,o,y1,y2,y3,z⟩;exact ⟨p,o,y1,y2,y3,ih _ z⟩
 | setObj r o k ih=>rintro ⟨o',y1,y2,y2',y3,z⟩;exact ⟨o',y1,y2,y2',y3,ih z⟩
 | choose q k ih=>rintro ⟨y,z⟩;exact ⟨λx=>ih _ (y x),λx t=>ih _ (z x t)⟩
 | sys c k ih=>intro x;exact x.elim
 | program k ih=>intro x;exact ih _ x
 | mark m k ih=>rintro ⟨y,z⟩;exact ⟨y,ih z⟩
 | halt x=>intro y;exact y.elim
def Hq(P:Program)(e:Sem Next):Prop:=∀(h:GH)(Q:Next->GH->Prop),e.gh P h Q->e.gh P h λa h'=>Q a h'/\∃v,a=.value v
theorem Hq.bind{β:Type}{s:Sem β}{f:β->Sem Next}(hf:∀a,Hq P (f a)):Hq P (s.bind f):=by
 induction s with
 | pure a=>exact hf a
 | load m a k ih=>rintro h Q ⟨x1,x2,p,c,t,f,v,y1,y2,z⟩;exact ⟨x1,x2,p,c,t,f,v,y1,y2,ih v _ _ z⟩
 | store m a v k ih=>rintro h Q ⟨x1,x2,x3,c,t,f,y1,y2,y3,z⟩;exact ⟨x1,x2,x3,c,t,f,y1,y2,y3,ih _ _ z⟩
 | new o k ih=>intro h Q x r hr;exact ih r _ _ (x r hr)
 | shape r k ih=>rintro h Q ⟨p,c,t,f,y,z⟩;exact ⟨p,c,t,f,y,ih _ _ _ z⟩
 | freeze a n k ih=>
  rintro h Q (⟨y,z⟩ | ⟨y,c,t,f,y2,z⟩)
  ·exact .inl ⟨y,ih _ _ z⟩
  ·exact .inr ⟨y,c,t,f,y2,ih _ _ z⟩
 | frozen a k ih=>rintro h Q ⟨p,c,t,f,y,z⟩;exact ⟨p,c,t,f,y,ih _ _ _ z⟩
 | getObj r k ih=>rintro h Q ⟨p,o,y1,y2,y3,z⟩;exact ⟨p,o,y1,y2,y3,ih _ _ _ z⟩
 | setObj r o k ih=>rintro h Q ⟨o',y1,y2,y2',y3,z⟩;exact ⟨o',y1,y2,y2',y3,ih _ _ z⟩
 | choose q k ih=>rintro h Q ⟨y,z⟩;exact ⟨λx=>ih _ _ _ (y x),λx t=>ih _ _ _ (z x t)⟩
 | sys c k ih=>intro h Q x;exact x.elim
 | program k ih=>intro h Q x;exact ih _ _ _ x
 | mark m k ih=>rintro h Q ⟨y,z⟩;exact ⟨y,ih _ _ z⟩
 | halt x=>intro h Q y;exact y.elim
theorem Hq.value(v:Value):Hq P (pure (.value v)):=λ_ _ x=>⟨x,v,rfl⟩
theorem leaf_val{ρ:Operand->Value}{o:Oper}(hv:Ku o.op=true){h:GH}{Q:Next->GH->Prop}(x:(execOp ρ o).gh P h Q):(execOp ρ o).gh P h λa h'=>Q a h'/\∃v,a=.value v:=by
 obtain ⟨dst,op,ty,pos,af,gd⟩:=o;cases op
 case nilCheck a=>
  have hp:Hq P (runtimePanic .nilDeref:Sem Next):=λ_ _ y=>by first | exact y.elim | exact Hq.bind (λ_=>λ_ _ z=>z.elim) _ _ y
  have key:Hq P (execOp ρ ⟨dst,.nilCheck a,ty,pos,af,gd⟩):=by
   unfold execOp;dsimp only;split
   ·exact hp
   ·exact hp
   ·exact hp
   ·split
    ·exact hp
    ·refine Hq.bind λp=>Hq.bind λr=>?_;split
     ·exact Hq.bind λ_=>Hq.value _
     ·exact Hq.value _
    ·exact Hq.value _
   ·exact Hq.value _
  exact key _ _ x
 case call c=>
  simp only [Ku] at hv;have e:∀s:Sem Value,execOp ρ ⟨dst,.call c,ty,pos,af,gd⟩=s.bind (λx=>Sem.pure (Next.value x))->(execOp ρ ⟨dst,.call c,ty,pos,af,gd⟩).gh P h λa h'=>Q a h'/\∃v,a=.value v:=λs q=>by
   rw [q] at x ⊢;exact KV (f:=λx=>x) x
  cases hc:c.callee with
  | value f=>rw [hc] at hv;cases hv
  | invoke r m=>rw [hc] at hv;cases hv
  | builtin b=>
   rw [hc] at hv;have q:execOp ρ ⟨dst,.call c,ty,pos,af,gd⟩=builtin b c.argTypes ty (c.args.map fun | .const _=>true | _=>false) (c.args.map ρ):=by
    show (resolve ρ c ty).bind _=_;unfold resolve;rw [hc];rfl
   cases b <;> first | (simp at hv;done) | exact e _ q
 all_goals first | (simp [Ku] at hv;done) | skip
 all_goals first | exact KV (s:=Sem.pure _) (f:=λ_=>_) x | exact KV (f:=λx=>x) x | exact KV (β:=Bool) x
theorem GH.Le.get{h h':GH}(l:h.Le h'){b:Nat}{x:Bool×Obj}(hb:h b=some x):h' b=some x:=l.keep (p:=x.1) (o:=x.2) hb rfl
theorem GH.Le.of{h h':GH}(x:∀b y,h b=some y->h' b=some y):h.Le h':=λb p o hb=>⟨o,x b _ hb,.inl rfl⟩
def over(h' h2:GH):GH:=λb=>match h' b with
 | some x=>some x
 | none=>h2 b
theorem R7{h h2:GH}(l:h.Le h2):over h h2=h2:=funext λb=>by
 unfold over;split
 ·rename_i x hb;exact (l.get hb).symm
 ·rfl
theorem GH.Le.set2{h h2:GH}(l:h.Le h2)(r:Nat)(p:Bool)(o:Obj):(h.set r p o).Le (h2.set r p o):=.of λb y hb=>by
 by_cases e:b=r
 ·subst e;rw [GH.set_same] at hb ⊢;exact hb
 ·rw [GH.set_ne h p o e] at hb;rw [GH.set_ne h2 p o e];exact l.get hb
def Uo(h h':GH):Prop:=∀b,(∃x,h b=some x)->∃x,h' b=some x
theorem L3{h h' h2:GH}{r:Nat}{p:Bool}{o:Obj}(d:Uo (h.set r p o) h'):over h' (h2.set r p o)=over h' h2:=funext λb=>by
 unfold over;by_cases e:b=r
 ·subst e;obtain ⟨x,hx⟩:=d b ⟨_,GH.set_same h b p o⟩;rw [hx]
 ·rw [GH.set_ne h2 p o e]
theorem Uo.set{h h':GH}{r:Nat}{p:Bool}{o:Obj}(d:Uo (h.set r p o) h'):Uo h h':=λb ⟨x,hx⟩=>by
 by_cases e:b=r
 ·subst e;exact d b ⟨_,GH.set_same h b p o⟩
 ·exact d b ⟨x,by rw [GH.set_ne h p o e];exact hx⟩
theorem gh_over{V:Type}(e:Sem V){Q:V->GH->Prop}:∀{h h2:GH},h.Le h2->e.gh P h Q->e.gh P h2 λa h3=>∃h',Uo h h'/\Q a h'/\h3=over h' h2:=by
 induction e with
 | pure a=>intro h h2 l x;exact ⟨h,λ_ y=>y,x,(R7 l).symm⟩
 | load m a k ih=>rintro h h2 l ⟨x1,x2,p,c,t,f,v,y1,y2,z⟩;exact ⟨x1,x2,p,c,t,f,v,l.get y1,y2,ih v l z⟩
 | store m a v k ih=>
  rintro h h2 l ⟨x1,x2,x3,c,t,f,y1,y2,y3,z⟩;exact ⟨x1,x2,x3,c,t,f,l.get y1,y2,y3,Ez _ (λ_ _ ⟨h',d,q,r⟩=>⟨h',d.set,q,r.trans (L3 d)⟩) _ (ih (l.set2 _ _ _) z)⟩
 | new o k ih=>
  intro h h2 l x r hr;have hr0:h r=none:=by
   cases hb:h r with
   | none=>rfl
   | some y=>rw [l.get hb] at hr;cases hr
  exact Ez _ (λ_ _ ⟨h',d,q,r⟩=>⟨h',d.set,q,r.trans (L3 d)⟩) _ (ih r (l.set2 _ _ _) (x r hr0))
 | shape r k ih=>rintro h h2 l ⟨p,c,t,f,y,z⟩;exact ⟨p,c,t,f,l.get y,ih _ l z⟩
 | freeze a n k ih=>
  rintro h h2 l (⟨y,z⟩ | ⟨y,c,t,f,y2,z⟩)
  ·exact .inl ⟨y,ih l z⟩
  ·exact .inr ⟨y,c,t,f,l.get y2,Ez _ (λ_ _ ⟨h',d,q,r⟩=>⟨h',d.set,q,r.trans (L3 d)⟩) _ (ih (l.set2 _ _ _) z)⟩
 | frozen a k ih=>rintro h h2 l ⟨p,c,t,f,y,z⟩;exact ⟨p,c,t,f,l.get y,ih _ l z⟩
 | getObj r k ih=>rintro h h2 l ⟨p,o,y1,y2,y3,z⟩;exact ⟨p,o,l.get y1,y2,y3,ih _ l z⟩
 | setObj r o k ih=>
  rintro h h2 l ⟨o',y1,y2,y2',y3,z⟩;exact ⟨o',l.get y1,y2,y2',y3,Ez _ (λ_ _ ⟨h',d,q,r⟩=>⟨h',d.set,q,r.trans (L3 d)⟩) _ (ih (l.set2 _ _ _) z)⟩
 | choose q k ih=>rintro h h2 l ⟨y,z⟩;exact ⟨λx=>ih _ l (y x),λx t=>ih _ l (z x t)⟩
 | sys c k ih=>intro h h2 l x;exact x.elim
 | program k ih=>intro h h2 l x;exact ih _ l x
 | mark m k ih=>rintro h h2 l ⟨y,z⟩;exact ⟨y,ih l z⟩
 | halt x=>intro h h2 l y;exact y.elim
def Tk(E:GE P)(o:Oper)(O:Nat->Value)(ds:List Deferred)(h:GH)(v:Value):Prop:=BU E o O ds h λσ' ds' h'=>σ'=putS O o.dst v/\ds'=ds/\h'=h
theorem Tk.move{o:Oper}{xs:List Operand}{O σ2:Nat->Value}{ds:List Deferred}{h h2:GH}{v:Value}(hv:Ku o.op=true)(hx:HO o.op=some xs)(e:∀t ∈ IB xs,O t=σ2 t)(l:h.Le h2)
  (y:Tk E o O ds h v):Tk E o σ2 ds h2 v:=by
 unfold Tk BU at y ⊢;rw [<-L2 hx (Nn e)];refine Ez _ ?_ _ (gh_over _ l (leaf_val hv y));rintro a h3 ⟨h',_,⟨q,v',rfl⟩,rfl⟩;obtain ⟨q1,_,rfl⟩:=q;refine ⟨?_,rfl,R7 l⟩;cases hd:o.dst with
 | none=>rfl
 | some d=>
  have:=congrFun q1 d
  simp only [hd,putS,upd_same] at this;rw [this]
theorem BU.move{o:Oper}{xs:List Operand}{O σ2:Nat->Value}{ds:List Deferred}{h:GH}{T T2:(Nat->Value)->List Deferred->GH->Prop}(hx:HO o.op=some xs)(e:∀t ∈ IB xs,O t=σ2 t)
  (ht:∀x ds' h',T (putS O o.dst x) ds' h'->T2 (putS σ2 o.dst x) ds' h') (y:BU E o O ds h T):BU E o σ2 ds h T2:=by
 unfold BU at y ⊢;rw [<-L2 hx (Nn e)];refine Ez _ (λnx h' q=>?_) _ y;cases nx <;> first | exact ht _ _ _ q | exact AV.mono q λv h'' r=>ht _ _ _ r | exact Bb.mono q λv h'' r=>ht _ _ _ r | exact q
inductive Kd where
 | p | r | e | w | a | l | b
 deriving DecidableEq
def Kd.fix:Kd->Bool
 | .a | .l | .b=>false
 | _=>true
def isB:Value->Bool->Bool
 | .bool is,w=>is==w
 | _,_=>false
def Gd(l:List Oper)(o:Oper)(O:Nat->Value)(b:Bool):Prop:=match o.guard with
 | none=>b=true
 | some (g,w)=>∃og d is,l[g]? =some og/\og.dst=some d/\O d=is/\b=isB is w
theorem Gd.iff{l:List Oper}{o:Oper}{O:Nat->Value}{b:Bool}(x:Gd l o O b):DI l o O↔b=true:=by
 unfold Gd at x;unfold DI;cases hg:o.guard with
 | none=>rw [hg] at x;simp only at x;simp [x]
 | some y=>
  obtain ⟨g,w⟩:=y;rw [hg] at x;obtain ⟨og,d,is,h1,h2,h3,rfl⟩:=x;simp only [h1,h2,h3];cases is <;> simp [isB]
def Gw(fl:Bool)(h hx:GH):Prop:=h.Le hx/\(fl=false->hx=h)
theorem Gw.refl(fl:Bool)(h:GH):Gw fl h h:=⟨GH.Le.refl h,λ_=>rfl⟩
def zOf(P:Program)(t:TypeId):Array Value:=(Bt P t).getD #[]
def skS:Kd->(Nat->Value)->Option Nat->Nat->Value
 | .l,O,_=>O
 | _,O,d=>putS O d undef
def TD(E:GE P)(l:List Oper)(n:Nat)(fl:Bool)(hs:GH)(ds:List Deferred)(Lw:Nat->Value->GH->Prop)(F:(Nat->Value)->GH->Prop):List (Kd×Nat)->(Nat->Value)->GH->Prop
 | [],O,h=>∀hx,Gw fl h hx->F O hx
 | (kd,k) ::π,O,h=>∃o b,l[k]? =some o/\Gd l o O b/\(b=false->TD E l n fl hs ds Lw F π (skS kd O o.dst) h)/\(b=true->match kd with
  | .p=>∃v,(∀hx,Lw n undef hx->Tk E o O ds hx v)/\TD E l n fl hs ds Lw F π (putS O o.dst v) h
  | .r=>∃v,Tk E o O ds h v/\TD E l n fl hs ds Lw F π (putS O o.dst v) h
  | .e=>∀hx,Gw fl h hx->BU E o O ds hx λσ' ds' h'=>ds'=ds/\∃v,σ'=putS O o.dst v/\hx.Le h'/\TD E l n fl hs ds Lw F π (putS O o.dst v) h'
  | .w=>∀hx,Gw fl h hx->BU E o O ds hx λσ' ds' h'=>ds'=ds/\∃v,σ'=putS O o.dst v/\Lw n undef h'/\TD E l n false hs ds Lw F π (putS O o.dst v) h'
  | .a=>∀t r hx,o.op=.alloc t->h.Le hx->hs r=none->hx r=some (true,.cells (zOf P t) t (0,0))->TD E l n fl hs ds Lw F π (putS O o.dst (.pointer (some ⟨r,0,none⟩))) hx
  | .l=>(∀hx,h.Le hx->BU E o O ds hx λσ' ds' h'=>ds'=ds/\∃v,σ'=putS O o.dst v/\hx.Le h'/\Lw k v h')/\TD E l n fl hs ds Lw F π O h
  | .b=>∀v hx,h.Le hx->Lw k v hx->TD E l n fl hs ds Lw F π (putS O o.dst v) hx)
def HB(l:List Oper)(n:Nat)(cl seen:List Nat)(t:Nat):Bool:= !(DS l n).contains t || seen.any λj=>cl.contains j && match l[j]? with
 | some oj=>oj.dst==some t
 | none=>false
def IT(l:List Oper)(n:Nat)(cls:List (List Nat))(seen:List Nat)(k t:Nat):Bool:=(List.range n).any λj=> !seen.contains j && (cls.getD j []).contains k && match l[j]? with
 | some oj=>oj.dst==some t
 | none=>false
def Tl(P:Program):Op->Bool
 | .alloc t=>(Bt P t).isSome
 | _=>false
def F0(P:Program)(l:List Oper)(n:Nat)(cls:List (List Nat))(fl:Bool):List (Kd×Nat)->List Nat->List Nat->List Nat->Bool->Bool
 | [],seen,_,_,_=>(List.range n).all seen.contains
 | (kd,k) ::π,seen,effs,rds,wr=>match l[k]? with
  | none=>false
  | some o=>(match HO o.op with
    | none=>false
    | some xs=>Nat.blt k n && !seen.contains k && (IB xs).all λt=>HB l n (cls.getD k []) seen t || (kd.fix && IT l n cls seen k t)) &&
   (match o.guard with
    | none=>true
    | some (g,_)=>seen.contains g && (cls.getD k []).contains g) &&
   (match kd with
    | .p=>Ku o.op && effs.all (cls.getD k []).contains && F0 P l n cls fl π (k ::seen) effs rds wr
    | .r=>Ku o.op && effs.all (cls.getD k []).contains && F0 P l n cls fl π (k ::seen) effs (k ::rds) wr
    | .e=>effs.all (cls.getD k []).contains && F0 P l n cls fl π (k ::seen) (k ::effs) rds wr
    | .w=>effs.all (cls.getD k []).contains && rds.all (cls.getD k []).contains && F0 P l n cls fl π (k ::seen) (k ::effs) rds true
    | .a=>fl && !wr && Tl P o.op && o.dst.isSome && o.guard.isNone && F0 P l n cls fl π (k ::seen) (k ::effs) rds wr
    | .l=>fl && o.dst.isSome && effs.all (cls.getD k []).contains && F0 P l n cls fl π seen effs rds wr
    | .b=>fl && !wr && o.dst.isSome && F0 P l n cls fl π (k ::seen) (k ::effs) rds wr)
structure PF(E:GE P)(l:List Oper)(n:Nat)(cls:List (List Nat))(ds:List Deferred)(Lw:Nat->Value->GH->Prop)(σ0:Nat->Value)(seen rds:List Nat)(σr:Nat->Value)(h':GH)(k:Nat)(o:Oper)(xs:List Operand)(b:Bool)(v:Value):Prop where
 at':l[k]? =some o
 op:HO o.op=some xs
 val:Ku o.op=true
 gfix:∀g w,o.guard=some (g,w)->g ∈ seen/\g ∈ cls.getD k []
 gd:Gd l o σr b
 vop:b=true->∃σk,(∀t ∈ IB xs,(HB l n (cls.getD k []) seen t=true/\σk t=σr t)\/(IT l n cls [] k t=true/\σk t=σ0 t))/\Tk E o σk ds h' v/\(k ∈ rds\/∀hx,Lw n undef hx->Tk E o σk ds hx v)
 is:∀d,o.dst=some d->σr d=if b=true then v else undef
def ZK(E:GE P)(l:List Oper)(n:Nat)(cls:List (List Nat))(ds:List Deferred)(Lw:Nat->Value->GH->Prop)(seen:List Nat)(σr:Nat->Value)(h':GH)(k:Nat):Prop:=
 ∃o xs b,l[k]? =some o/\HO o.op=some xs/\(∀t ∈ IB xs,HB l n (cls.getD k []) seen t=true)/\(∀g w,o.guard=some (g,w)->g ∈ seen/\g ∈ cls.getD k [])/\Gd l o σr b/\(b=true->
  ∀σ2 hx,(∀t ∈ IB xs,σr t=σ2 t)->h'.Le hx->BU E o σ2 ds hx λσ'' ds' h2=>ds'=ds/\∃v,σ''=putS σ2 o.dst v/\hx.Le h2/\Lw k v h2)
structure HP(E:GE P)(l:List Oper)(n:Nat)(cls:List (List Nat))(fl:Bool)(hs:GH)(ds:List Deferred)(Lw:Nat->Value->GH->Prop)(F:(Nat->Value)->GH->Prop)(σ0:Nat->Value)(seen effs rds:List Nat)(wr:Bool)(π:List (Kd×Nat))(σr:Nat->Value)(hr:GH)
  (D:Nat->Bool) (σ':Nat->Value) (h':GH):Prop where
 td:TD E l n (fl && !wr) hs ds Lw F π σr hr
 ok:F0 P l n cls fl π seen effs rds wr=true
 gw:Gw (fl && !wr) hr h'
 base:∀t,(DS l n).contains t=false->σ' t=σr t
 lt:∀k ∈ seen,k<n
 eff:∀k ∈ effs,D k=true
 rest:∀kd k,(kd,k) ∈ π->kd.fix=true->D k=false
 done:∀k ∈ seen,D k=true->∀o d,l[k]? =some o->o.dst=some d->σ' d=σr d
 pend:∀k ∈ seen,D k=false->∃o xs b v,PF E l n cls ds Lw σ0 seen rds σr h' k o xs b v
 flo:∀k,(Kd.a,k) ∈ π->D k=true->∀o t d,l[k]? =some o->o.op=.alloc t->o.dst=some d->∃r,σ' d=.pointer (some ⟨r,0,none⟩)/\hs r=none/\h' r=some (true,.cells (zOf P t) t (0,0))
 flb:∀k,(Kd.b,k) ∈ π->D k=false->(Kd.l,k) ∈ π\/ZK E l n cls ds Lw seen σr h' k
 fld:∀k,(Kd.b,k) ∈ π->D k=true->∀o d,l[k]? =some o->o.dst=some d->∃b,Gd l o σ' b/\(b=true->Lw k (σ' d) h')/\(b=false->σ' d=undef)
 mono:∀k v h1 h2,GH.Le h1 h2->Lw k v h1->Lw k v h2
 frm:Lw n undef h'
 pre:wr=false->hs.Le h'
 clos:∀k,k<n->D k=true->∀q ∈ cls.getD k [],D q=true
 iniR:∀j,j<n->j ∉ seen->∀o t,l[j]? =some o->o.dst=some t->σr t=σ0 t
 iniS:∀j,j<n->D j=false->∀o t,l[j]? =some o->o.dst=some t->σ' t=σ0 t
theorem LG{l:List Oper}{n:Nat}{cls:List (List Nat)}{seen:List Nat}{k t:Nat}(x:IT l n cls seen k t=true):∃j o,j<n/\j ∉ seen/\k ∈ cls.getD j []/\l[j]? =some o/\o.dst=some t:=by
 unfold IT at x;obtain ⟨j,hj,y⟩:=List.any_eq_true.1 x;rw [Bool.and_eq_true,Bool.and_eq_true] at y;cases ho:l[j]? with
 | none=>rw [ho] at y;simp at y
 | some oj=>
  rw [ho] at y;exact ⟨j,oj,List.mem_range.1 hj,(λhm=>by rw [List.contains_iff_mem.2 hm] at y;simp at y),List.contains_iff_mem.1 y.1.2,ho,by simpa using y.2⟩
theorem PB{l:List Oper}{n:Nat}{cls:List (List Nat)}{seen:List Nat}{k t:Nat}(x:IT l n cls seen k t=true):IT l n cls [] k t=true:=by
 unfold IT at x ⊢;obtain ⟨j,hj,y⟩:=List.any_eq_true.1 x;rw [Bool.and_eq_true,Bool.and_eq_true] at y;exact List.any_eq_true.2 ⟨j,hj,by rw [Bool.and_eq_true,Bool.and_eq_true];exact ⟨⟨rfl,y.1.2⟩,y.2⟩⟩
theorem Jo{l:List Oper}{n:Nat}{cl seen:List Nat}{k t:Nat}(x:HB l n cl seen t=true):HB l n cl (k ::seen) t=true:=by
 unfold HB at x ⊢;rw [Bool.or_eq_true] at x ⊢;rcases x with x | x
 ·exact .inl x
 ·exact .inr (by rw [List.any_cons,x];simp)
theorem Mm{l:List Oper}{n:Nat}{cl seen:List Nat}{k t d:Nat}{o:Oper}(nd:(DS l n).Nodup)(hlt:∀k ∈ seen,k<n)(hk:k<n)(hs:k ∉ seen)(ho:l[k]? =some o)(hd:o.dst=some d)(x:HB l n cl seen t=true):t≠d:=by
 intro e;subst e;unfold HB at x;rw [Bool.or_eq_true] at x;rcases x with x | x
 ·have:t ∈ DS l n:=by
   simp only [DS,List.mem_filterMap];refine ⟨o,?_,hd⟩
   have:(l.take n)[k]? =some o:=by rw [List.getElem?_take];simp [hk,ho]
   exact List.mem_of_getElem? this
  simp [this] at x
 ·rw [List.any_eq_true] at x;obtain ⟨j,hj,y⟩:=x;rw [Bool.and_eq_true] at y;cases hoj:l[j]? with
  | none=>rw [hoj] at y;simp at y
  | some oj=>
   rw [hoj] at y;have y2:oj.dst=some t:=by simpa using y.2
   exact Dy nd hk (hlt j hj) (λe=>hs (e▸hj)) ho hoj hd y2 rfl
theorem Cp{O:Nat->Value}{o:Oper}{v:Value}{t:Nat}(h:∀d,o.dst=some d->t≠d):putS O o.dst v t=O t:=by
 cases hd:o.dst with
 | none=>rfl
 | some d=>exact upd_ne O v (Tg (h d hd))
theorem HQ{l:List Oper}{n k t:Nat}{o:Oper}(hk:k<n)(ho:l[k]? =some o)(ht:(DS l n).contains t=false):∀d,o.dst=some d->t≠d:=λd hd e=>by
 subst e;rw [Uj hk ho hd] at ht;cases ht
section
variable {l:List Oper} {n:Nat} {cls:List (List Nat)} {fl:Bool} {hs:GH} {ds:List Deferred} {Lw:Nat->Value->GH->Prop} {F:(Nat->Value)->GH->Prop} {seen effs rds:List Nat} {wr:Bool} {π:List (Kd×Nat)} {σ0 σr σ':Nat->Value} {hr h':GH} {D:Nat->Bool}
theorem Gd.put{o ok:Oper}{k:Nat}{b:Bool}{v:Value}(nd:(DS l n).Nodup)(hlt:∀k ∈ seen,k<n)(hk:k<n)(hks:k ∉ seen)(hok:l[k]? =some ok)(hg:∀g w,o.guard=some (g,w)->g ∈ seen)(x:Gd l o σr b):Gd l o (putS σr ok.dst v) b:=by
 unfold Gd at x ⊢;cases hgd:o.guard with
 | none=>rw [hgd] at x;exact x
 | some y=>
  obtain ⟨g,w⟩:=y;rw [hgd] at x;obtain ⟨og,d,is,h1,h2,h3,h4⟩:=x;have hgs:=hg g w hgd;exact ⟨og,d,is,h1,h2,by rw [Cp λd' hd'=>Dy nd hk (hlt g hgs) (λe=>hks (e▸hgs)) hok h1 hd' h2];exact h3,h4⟩
theorem PF.put{k j:Nat}{o ok:Oper}{xs:List Operand}{b:Bool}{v w:Value}(nd:(DS l n).Nodup)(hlt:∀k ∈ seen,k<n)(hk:k<n)(hks:k ∉ seen)(hok:l[k]? =some ok)(hj:j ∈ seen)(l2:hr.Le h')
  (x:PF E l n cls ds Lw σ0 seen rds σr hr j o xs b v):PF E l n cls ds Lw σ0 (k ::seen) rds (putS σr ok.dst w) h' j o xs b v where
 at':=x.at'
 op:=x.op
 val:=x.val
 gfix:=λg w' hg=>⟨List.mem_cons_of_mem _ (x.gfix g w' hg).1,(x.gfix g w' hg).2⟩
 gd:=x.gd.put nd hlt hk hks hok λg w' hg=>(x.gfix g w' hg).1
 vop:=λhb=>by
  obtain ⟨σk,y0,y1,y2⟩:=x.vop hb;exact ⟨σk,λt ht=>(y0 t ht).imp (λq=>⟨Jo q.1,q.2.trans (Cp λd hd=>Mm nd hlt hk hks hok hd q.1).symm⟩) id,y1.move x.val x.op (λ_ _=>rfl) l2,y2⟩
 is:=λd hd=>by rw [Cp λd' hd'=>Dy nd hk (hlt j hj) (λe=>hks (e▸hj)) hok x.at' hd' hd];exact x.is d hd
theorem PF.more{j:Nat}{o:Oper}{xs:List Operand}{b:Bool}{v:Value}{k:Nat}(x:PF E l n cls ds Lw σ0 seen rds σr h' j o xs b v):PF E l n cls ds Lw σ0 seen (k ::rds) σr h' j o xs b v:=
 { x with vop:=λhb=>by obtain ⟨σk,y0,y1,y2⟩:=x.vop hb;exact ⟨σk,y0,y1,y2.imp (List.mem_cons_of_mem _) id⟩ }
theorem ZK.put{k j:Nat}{ok:Oper}{w:Value}(nd:(DS l n).Nodup)(hlt:∀k ∈ seen,k<n)(hk:k<n)(hks:k ∉ seen)(hok:l[k]? =some ok)(x:ZK E l n cls ds Lw seen σr h' j):ZK E l n cls ds Lw (k ::seen) (putS σr ok.dst w) h' j:=by
 obtain ⟨o,xs,b,h1,h2,h3,hg,hgd,h4⟩:=x;exact ⟨o,xs,b,h1,h2,λt ht=>Jo (h3 t ht),λg w' e=>⟨List.mem_cons_of_mem _ (hg g w' e).1,(hg g w' e).2⟩,hgd.put nd hlt hk hks hok λg w' e=>(hg g w' e).1,
  λhb σ2 hx e l2=>h4 hb σ2 hx (λt ht=>(Cp λd hd=>Mm nd hlt hk hks hok hd (h3 t ht)).symm.trans (e t ht)) l2⟩
theorem ZK.le{j:Nat}{h2:GH}(l2:h'.Le h2)(x:ZK E l n cls ds Lw seen σr h' j):ZK E l n cls ds Lw seen σr h2 j:=by
 obtain ⟨o,xs,b,h1,h3,h4,hg,hgd,h5⟩:=x;exact ⟨o,xs,b,h1,h3,h4,hg,hgd,λhb σ2 hx e l3=>h5 hb σ2 hx e (l2.trans l3)⟩
theorem F1{kd kd2:Kd}{k j:Nat}(h:(kd2,j) ∈ (kd,k) ::π)(ne:kd2≠kd):(kd2,j) ∈ π:=by
 rcases List.mem_cons.1 h with e | h
 ·cases e;exact absurd rfl ne
 ·exact h
def headOK(P:Program)(l:List Oper)(n:Nat)(cls:List (List Nat))(fl:Bool)(π:List (Kd×Nat))(seen effs rds:List Nat)(wr:Bool)(k:Nat)(o:Oper):Kd->Prop
 | .p=>Ku o.op=true/\(∀q ∈ effs,q ∈ cls.getD k [])/\F0 P l n cls fl π (k ::seen) effs rds wr=true
 | .r=>Ku o.op=true/\(∀q ∈ effs,q ∈ cls.getD k [])/\F0 P l n cls fl π (k ::seen) effs (k ::rds) wr=true
 | .e=>(∀q ∈ effs,q ∈ cls.getD k [])/\F0 P l n cls fl π (k ::seen) (k ::effs) rds wr=true
 | .w=>(∀q ∈ effs,q ∈ cls.getD k [])/\(∀q ∈ rds,q ∈ cls.getD k [])/\F0 P l n cls fl π (k ::seen) (k ::effs) rds true=true
 | .a=>fl=true/\wr=false/\Tl P o.op=true/\o.dst.isSome=true/\o.guard=none/\F0 P l n cls fl π (k ::seen) (k ::effs) rds wr=true
 | .l=>fl=true/\o.dst.isSome=true/\(∀q ∈ effs,q ∈ cls.getD k [])/\F0 P l n cls fl π seen effs rds wr=true
 | .b=>fl=true/\wr=false/\o.dst.isSome=true/\F0 P l n cls fl π (k ::seen) (k ::effs) rds wr=true
theorem EP{kd:Kd}{k:Nat}(x:F0 P l n cls fl ((kd,k) ::π) seen effs rds wr=true) :
  ∃o xs,l[k]? =some o/\HO o.op=some xs/\k<n/\k ∉ seen/\(∀t ∈ IB xs,HB l n (cls.getD k []) seen t=true\/(kd.fix=true/\IT l n cls seen k t=true))/\(∀g w,o.guard=some (g,w)->g ∈ seen/\g ∈ cls.getD k [])/\
  headOK P l n cls fl π seen effs rds wr k o kd:=by
 unfold F0 at x;cases ho:l[k]? with
 | none=>rw [ho] at x;cases x
 | some o=>
  rw [ho] at x;simp only [Bool.and_eq_true] at x;obtain ⟨⟨x1,x2⟩,x3⟩:=x;cases hx:HO o.op with
  | none=>rw [hx] at x1;cases x1
  | some xs=>
   rw [hx] at x1;simp only [Bool.and_eq_true,Bool.or_eq_true,Bool.not_eq_true',List.all_eq_true] at x1;obtain ⟨⟨y1,y2⟩,y3⟩:=x1;refine ⟨o,xs,rfl,hx,Nat.blt_eq▸y1,(λhm=>by rw [List.contains_iff_mem.2 hm] at y2;cases y2),y3,λg w hg=>?_,?_⟩
   ·rw [hg] at x2;simp only [Bool.and_eq_true] at x2;exact ⟨List.contains_iff_mem.1 x2.1,List.contains_iff_mem.1 x2.2⟩
   ·cases kd <;> unfold headOK <;> simp only [Bool.and_eq_true,List.all_eq_true,List.contains_iff_mem,Bool.not_eq_true',Option.isNone_iff_eq_none] at x3 ⊢
    ·exact ⟨x3.1.1,x3.1.2,x3.2⟩
    ·exact ⟨x3.1.1,x3.1.2,x3.2⟩
    ·exact x3
    ·exact ⟨x3.1.1,x3.1.2,x3.2⟩
    ·exact ⟨x3.1.1.1.1.1,x3.1.1.1.1.2,x3.1.1.1.2,x3.1.1.2,x3.1.2,x3.2⟩
    ·exact ⟨x3.1.1.1,x3.1.1.2,x3.1.2,x3.2⟩
    ·exact ⟨x3.1.1.1,x3.1.1.2,x3.1.2,x3.2⟩
theorem GS{kd:Kd}{k:Nat}(x:F0 P l n cls fl ((kd,k) ::π) seen effs rds wr=true):∃seen' effs' rds' wr',F0 P l n cls fl π seen' effs' rds' wr'=true/\(∀q ∈ seen,q ∈ seen')/\(kd≠.l->seen'=k ::seen)/\(kd=.l->seen'=seen)/\(∀q ∈ effs,q ∈ effs')/\(kd=.e\/kd=.w\/kd=.a\/kd=.b->k ∈ effs'):=by
 obtain ⟨o,xs,_,_,_,_,_,_,y⟩:=EP x;cases kd with
 | p=>exact ⟨_,_,_,_,y.2.2,λ_ q=>List.mem_cons_of_mem _ q,λ_=>rfl,(λe=>by cases e),λ_ q=>q,λe=>by rcases e with e | e | e | e <;> cases e⟩
 | r=>exact ⟨_,_,_,_,y.2.2,λ_ q=>List.mem_cons_of_mem _ q,λ_=>rfl,(λe=>by cases e),λ_ q=>q,λe=>by rcases e with e | e | e | e <;> cases e⟩
 | e=>exact ⟨_,_,_,_,y.2,λ_ q=>List.mem_cons_of_mem _ q,λ_=>rfl,(λe=>by cases e),λ_ q=>List.mem_cons_of_mem _ q,λ_=>List.mem_cons_self⟩
 | w=>exact ⟨_,_,_,_,y.2.2,λ_ q=>List.mem_cons_of_mem _ q,λ_=>rfl,(λe=>by cases e),λ_ q=>List.mem_cons_of_mem _ q,λ_=>List.mem_cons_self⟩
 | a=>exact ⟨_,_,_,_,y.2.2.2.2.2,λ_ q=>List.mem_cons_of_mem _ q,λ_=>rfl,(λe=>by cases e),λ_ q=>List.mem_cons_of_mem _ q,λ_=>List.mem_cons_self⟩
 | l=>exact ⟨_,_,_,_,y.2.2.2,λ_ q=>q,(λe=>absurd rfl e),λ_=>rfl,λ_ q=>q,λe=>by rcases e with e | e | e | e <;> cases e⟩
 | b=>exact ⟨_,_,_,_,y.2.2.2,λ_ q=>List.mem_cons_of_mem _ q,λ_=>rfl,(λe=>by cases e),λ_ q=>List.mem_cons_of_mem _ q,λ_=>List.mem_cons_self⟩
theorem DY:∀{π:List (Kd×Nat)} {seen effs rds:List Nat} {wr:Bool},F0 P l n cls fl π seen effs rds wr=true->∀kd k,(kd,k) ∈ π->k ∉ seen/\k<n
 | [],_,_,_,_,_,kd,k,h=>by cases h
 | (kd',k') ::π,seen,effs,rds,wr,x,kd,k,h=>by
  obtain ⟨o,xs,_,_,h1,h2,_⟩:=EP x;rcases List.mem_cons.1 h with e | h
  ·cases e;exact ⟨h2,h1⟩
  ·obtain ⟨seen',effs',rds',wr',y,z,_⟩:=GS x
   have:=DY y kd k h
   exact ⟨λq=>this.1 (z _ q),this.2⟩
theorem PC:∀{π:List (Kd×Nat)} {seen effs rds:List Nat} {wr:Bool},F0 P l n cls fl π seen effs rds wr=true->∀i,i<n->i ∈ seen\/∃kd,(kd,i) ∈ π/\kd≠.l
 | [],seen,_,_,_,x,i,hi=>by
  unfold F0 at x;exact .inl (List.contains_iff_mem.1 (List.all_eq_true.1 x i (List.mem_range.2 hi)))
 | (kd',k') ::π,seen,effs,rds,wr,x,i,hi=>by
  obtain ⟨seen',effs',rds',wr',y,_,z1,z2,_⟩:=GS x;rcases PC y i hi with h | ⟨kd,h,hne⟩
  ·by_cases e:kd'=.l
   ·rw [z2 e] at h;exact .inl h
   ·rw [z1 e] at h;rcases List.mem_cons.1 h with rfl | h
    ·exact .inr ⟨kd',List.mem_cons_self,e⟩
    ·exact .inl h
  ·exact .inr ⟨kd,List.mem_cons_of_mem _ h,hne⟩
theorem PD:∀{π:List (Kd×Nat)} {seen effs rds:List Nat} {wr:Bool},F0 P l n cls fl π seen effs rds wr=true->∀kd k,(kd,k) ∈ π->kd≠.a->kd≠.b->∀q ∈ effs,q ∈ cls.getD k []
 | [],_,_,_,_,_,kd,k,h=>by cases h
 | (kd',k') ::π,seen,effs,rds,wr,x,kd,k,h=>by
  intro hne hnb q hq;rcases List.mem_cons.1 h with e | h
  ·cases e;obtain ⟨o,xs,_,_,_,_,_,_,y⟩:=EP x;cases kd' with
   | p=>exact y.2.1 q hq
   | r=>exact y.2.1 q hq
   | e=>exact y.1 q hq
   | w=>exact y.1 q hq
   | a=>exact absurd rfl hne
   | l=>exact y.2.2.1 q hq
   | b=>exact absurd rfl hnb
  ·obtain ⟨seen',effs',rds',wr',y,_,_,_,z,_⟩:=GS x;exact PD y kd k h hne hnb q (z q hq)
theorem HR{n k:Nat}{seen:List Nat}(h:∀q ∈ seen,q<n)(hk:k<n):∀q ∈ k ::seen,q<n:=λq hq=>by
 rcases List.mem_cons.1 hq with rfl | hq
 ·exact hk
 ·exact h q hq
theorem DG:∀{π:List (Kd×Nat)} {seen effs rds:List Nat} {wr:Bool},F0 P l n cls fl π seen effs rds wr=true->(∀q ∈ seen,q<n)->∀kd k,(kd,k) ∈ π->kd=.a\/kd=.b->fl=true/\wr=false/\k<n/\∃o,l[k]? =some o/\(kd=.a->Tl P o.op=true/\o.guard=none)/\o.dst.isSome=true/\∀g w,o.guard=some (g,w)->g<n/\g ∈ cls.getD k []
 | [],_,_,_,_,_,_,kd,k,h=>by cases h
 | (kd',k') ::π,seen,effs,rds,wr,x,hlt,kd,k,h=>by
  intro hkd;obtain ⟨o,xs,ho,hx,h1,h2,h3,h4,hh⟩:=EP x;rcases List.mem_cons.1 h with e | h6
  ·cases e;rcases hkd with rfl | rfl
   ·exact ⟨hh.1,hh.2.1,h1,o,ho,λ_=>⟨hh.2.2.1,hh.2.2.2.2.1⟩,hh.2.2.2.1,λg w hg=>⟨hlt g (h4 g w hg).1,(h4 g w hg).2⟩⟩
   ·exact ⟨hh.1,hh.2.1,h1,o,ho,(λe=>by cases e),hh.2.2.1,λg w hg=>⟨hlt g (h4 g w hg).1,(h4 g w hg).2⟩⟩
  ·cases kd' with
   | p=>exact DG hh.2.2 (HR hlt h1) kd k h6 hkd
   | r=>exact DG hh.2.2 (HR hlt h1) kd k h6 hkd
   | e=>exact DG hh.2 (HR hlt h1) kd k h6 hkd
   | w=>have:=(DG hh.2.2 (HR hlt h1) kd k h6 hkd).2.1;cases this
   | a=>exact DG hh.2.2.2.2.2 (HR hlt h1) kd k h6 hkd
   | l=>exact DG hh.2.2.2 hlt kd k h6 hkd
   | b=>exact DG hh.2.2.2 (HR hlt h1) kd k h6 hkd
theorem Gd.other{o ok:Oper}{k:Nat}{b:Bool}{v:Value}{O:Nat->Value}(nd:(DS l n).Nodup)(hk:k<n)(hok:l[k]? =some ok)(hg:∀g w,o.guard=some (g,w)->g<n/\g≠k)(x:Gd l o O b):Gd l o (putS O ok.dst v) b:=by
 unfold Gd at x ⊢;cases hgd:o.guard with
 | none=>rw [hgd] at x;exact x
 | some y=>
  obtain ⟨g,w⟩:=y;rw [hgd] at x;obtain ⟨og,d,is,h1,h2,h3,h4⟩:=x;obtain ⟨hgn,hne⟩:=hg g w hgd;exact ⟨og,d,is,h1,h2,by rw [Cp λd' hd'=>Dy nd hk hgn (λe=>hne e.symm) hok h1 hd' h2];exact h3,h4⟩
theorem Gd.uniq{o:Oper}{O:Nat->Value}{b b':Bool}(x:Gd l o O b)(y:Gd l o O b'):b=b':=by
 have h1:=x.iff;have h2:=y.iff;rw [h1] at h2;cases b <;> cases b' <;> simp_all
theorem If{k:Nat}:HA D k k=true:=by simp [HA]
theorem Bd{k j:Nat}(h:j≠k):HA D k j=D j:=by unfold HA;rw [if_neg (λe=>h e.symm)]
theorem FX{k j:Nat}(h:D j=true):HA D k j=true:=by unfold HA;split <;> simp [h]
theorem HP.agree(x:HP E l n cls fl hs ds Lw F σ0 seen effs rds wr π σr hr D σ' h'){cl:List Nat}(hcl:∀q ∈ cl,D q=true){t:Nat}(y:HB l n cl seen t=true):σr t=σ' t:=by
 unfold HB at y;rw [Bool.or_eq_true] at y;rcases y with y | y
 ·exact (x.base t (by simpa using y)).symm
 ·rw [List.any_eq_true] at y;obtain ⟨j,hj,z⟩:=y;rw [Bool.and_eq_true] at z;cases hoj:l[j]? with
  | none=>rw [hoj] at z;simp at z
  | some oj=>
   rw [hoj] at z;exact (x.done j hj (hcl j (List.contains_iff_mem.1 z.1)) oj t hoj (by simpa using z.2)).symm
theorem HP.late(x:HP E l n cls fl hs ds Lw F σ0 seen effs rds wr π σr hr D σ' h'){k t:Nat}(hkD:D k=false)(y:IT l n cls [] k t=true):σ' t=σ0 t:=by
 obtain ⟨j,o,hj,_,hk,ho,hd⟩:=LG y;refine x.iniS j hj ?_ o t ho hd;cases hD:D j with
 | false=>rfl
 | true=>have:=x.clos j hj hD k hk;rw [hkD] at this;cases this
theorem HP.agree2(x:HP E l n cls fl hs ds Lw F σ0 seen effs rds wr π σr hr D σ' h'){k:Nat}{kd:Kd}(hcl:∀q ∈ cls.getD k [],D q=true)(hkD:D k=false){t:Nat}(y:HB l n (cls.getD k []) seen t=true\/(kd.fix=true/\IT l n cls seen k t=true)):σr t=σ' t:=by
 rcases y with y | ⟨_,y⟩
 ·exact x.agree hcl y
 ·obtain ⟨j,o,hj,hns,_,ho,hd⟩:=LG y;rw [x.iniR j hj hns o t ho hd,x.late hkD (PB y)]
theorem HP.iniR'(x:HP E l n cls fl hs ds Lw F σ0 seen effs rds wr π σr hr D σ' h')(nd:(DS l n).Nodup){k:Nat}{o:Oper}{v:Value}(hkn:k<n)(ho:l[k]? =some o):∀j,j<n->j ∉ k ::seen->∀o' t,l[j]? =some o'->o'.dst=some t->putS σr o.dst v t=σ0 t:=λj hj hjn o' t ho' hd'=>by
 rw [Cp λd hd=>Dy nd hkn hj (λe=>hjn (by rw [e];exact List.mem_cons_self)) ho ho' hd hd'];exact x.iniR j hj (λq=>hjn (List.mem_cons_of_mem _ q)) o' t ho' hd'
theorem HP.iniS'(x:HP E l n cls fl hs ds Lw F σ0 seen effs rds wr π σr hr D σ' h')(nd:(DS l n).Nodup){k:Nat}{o:Oper}{v:Value}(hkn:k<n)(ho:l[k]? =some o):∀j,j<n->HA D k j=false->∀o' t,l[j]? =some o'->o'.dst=some t->putS σ' o.dst v t=σ0 t:=λj hj hD o' t ho' hd'=>by
 have e:k≠j:=λe=>by subst e;rw [If] at hD;cases hD
 rw [Cp λd hd=>Dy nd hkn hj e ho ho' hd hd'];rw [Bd e.symm] at hD;exact x.iniS j hj hD o' t ho' hd'
theorem HP.guard(x:HP E l n cls fl hs ds Lw F σ0 seen effs rds wr π σr hr D σ' h'){cl:List Nat}(hcl:∀q ∈ cl,D q=true){o:Oper}{b:Bool}(hg:∀g w,o.guard=some (g,w)->g ∈ seen/\g ∈ cl)(y:Gd l o σr b):Gd l o σ' b:=by
 unfold Gd at y ⊢;cases hgd:o.guard with
 | none=>rw [hgd] at y;exact y
 | some z=>
  obtain ⟨g,w⟩:=z;rw [hgd] at y;obtain ⟨og,d,is,h1,h2,h3,h4⟩:=y;exact ⟨og,d,is,h1,h2,by rw [x.done g (hg g w hgd).1 (hcl g (hg g w hgd).2) og d h1 h2];exact h3,h4⟩
theorem HP.unfoldV{kd:Kd}{k:Nat}(nd:(DS l n).Nodup)(hkd:kd=.p\/kd=.r)(x:HP E l n cls fl hs ds Lw F σ0 seen effs rds wr ((kd,k) ::π) σr hr D σ' h') :
  ∃rds' σr',HP E l n cls fl hs ds Lw F σ0 (k ::seen) effs rds' wr π σr' hr D σ' h':=by
 obtain ⟨o,xs,ho,hx,hkn,hks,hfix,hg,hh⟩:=EP x.ok;obtain ⟨o2,b,ho2,hgd,hF,hT⟩:=x.td;obtain rfl:o2=o:=Option.some.inj (ho2.symm.trans ho);have hkD:D k=false:=x.rest kd k List.mem_cons_self (by rcases hkd with e | e <;> rw [e] <;> rfl);have hval:Ku o2.op=true:=by rcases hkd with rfl | rfl <;> exact hh.1
 have key:∀(v:Value)(rds':List Nat),(rds'=rds\/rds'=k ::rds)->F0 P l n cls fl π (k ::seen) effs rds' wr=true->TD E l n (fl && !wr) hs ds Lw F π (putS σr o2.dst (if b=true then v else undef)) hr->
   (b=true->Tk E o2 σr ds h' v/\(k ∈ rds'\/∀hx,Lw n undef hx->Tk E o2 σr ds hx v))->HP E l n cls fl hs ds Lw F σ0 (k ::seen) effs rds' wr π (putS σr o2.dst (if b=true then v else undef)) hr D σ' h':=by
  intro v rds' hrds ok' td' hv;refine ⟨td',ok',x.gw,λt ht=>?_,λj hj=>?_,x.eff,λkd' j hj hne=>x.rest kd' j (List.mem_cons_of_mem _ hj) hne,λj hj hDj o' d ho' hd=>?_,λj hj hDj=>?_,λj hj=>x.flo j (List.mem_cons_of_mem _ hj),λj hj hDj=>(x.flb j (List.mem_cons_of_mem _ hj) hDj).imp (λq=>F1 q (by rcases hkd with e | e <;> rw [e] <;> decide)) (ZK.put nd x.lt hkn hks ho),λj hj=>x.fld j (List.mem_cons_of_mem _ hj),x.mono,x.frm,x.pre,x.clos,x.iniR' nd hkn ho,x.iniS⟩
  ·rw [Cp (HQ hkn ho ht)];exact x.base t ht
  ·rcases List.mem_cons.1 hj with rfl | hj
   ·exact hkn
   ·exact x.lt j hj
  ·rcases List.mem_cons.1 hj with rfl | hj
   ·rw [hkD] at hDj;cases hDj
   ·rw [Cp λd' hd'=>Dy nd hkn (x.lt j hj) (λe=>hks (e▸hj)) ho ho' hd' hd];exact x.done j hj hDj o' d ho' hd
  ·rcases List.mem_cons.1 hj with rfl | hj
   ·refine ⟨o2,xs,b,v,ho,hx,hval,λg w hgg=>⟨List.mem_cons_of_mem _ (hg g w hgg).1,(hg g w hgg).2⟩,hgd.put nd x.lt hkn hks ho λg w hgg=>(hg g w hgg).1,λhb=>?_,λd hd=>?_⟩
    ·obtain ⟨y1,y2⟩:=hv hb;refine ⟨σr,λt ht=>?_,y1,y2⟩;rcases hfix t ht with q | ⟨_,q⟩
     ·exact .inl ⟨Jo q,(Cp λd hd=>Mm nd x.lt hkn hks ho hd q).symm⟩
     ·obtain ⟨j',o',hj',hns,_,ho',hd'⟩:=LG q;exact .inr ⟨PB q,x.iniR j' hj' hns o' t ho' hd'⟩
    ·rw [hd];exact upd_same _ _ _
   ·obtain ⟨o',xs',b',v',pf⟩:=x.pend j hj hDj
    have:=pf.put (w:=if b=true then v else undef) nd x.lt hkn hks ho hj (GH.Le.refl _)
    rcases hrds with rfl | rfl
    ·exact ⟨o',xs',b',v',this⟩
    ·exact ⟨o',xs',b',v',this.more⟩
 cases b with
 | false=>
  rcases hkd with rfl | rfl
  ·exact ⟨_,_,key undef _ (.inl rfl) hh.2.2 (hF rfl) (λe=>by cases e)⟩
  ·exact ⟨_,_,key undef _ (.inr rfl) hh.2.2 (hF rfl) (λe=>by cases e)⟩
 | true=>
  rcases hkd with rfl | rfl
  ·obtain ⟨v,h1,h2⟩:=hT rfl;exact ⟨_,_,key v _ (.inl rfl) hh.2.2 h2 (λ_=>⟨h1 _ x.frm,.inr h1⟩)⟩
  ·obtain ⟨v,h1,h2⟩:=hT rfl;exact ⟨_,_,key v _ (.inr rfl) hh.2.2 h2 (λ_=>⟨h1.move hval hx (λ_ _=>rfl) x.gw.1,.inl List.mem_cons_self⟩)⟩
theorem HP.unfoldA{k:Nat}(nd:(DS l n).Nodup)(hD:D k=true)(x:HP E l n cls fl hs ds Lw F σ0 seen effs rds wr ((Kd.a,k) ::π) σr hr D σ' h') :
  ∃σr',HP E l n cls fl hs ds Lw F σ0 (k ::seen) (k ::effs) rds wr π σr' h' D σ' h':=by
 obtain ⟨o,xs,ho,hx,hkn,hks,hfix,hg,hh⟩:=EP x.ok;obtain ⟨o2,b,ho2,hgd,hF,hT⟩:=x.td;obtain rfl:o2=o:=Option.some.inj (ho2.symm.trans ho);obtain ⟨hfl,hwr,hal,hds,hgn,ok'⟩:=hh;obtain rfl:b=true:=by unfold Gd at hgd;rw [hgn] at hgd;exact hgd
 obtain ⟨t,CR⟩:∃t,o2.op=.alloc t:=by
  cases hq:o2.op <;> rw [hq] at hal <;> first | exact ⟨_,rfl⟩ | cases hal
 obtain ⟨d,hd⟩:=Option.isSome_iff_exists.1 hds;obtain ⟨r,h1,h2,h3⟩:=x.flo k List.mem_cons_self hD o2 t d ho CR hd;refine ⟨putS σr o2.dst (.pointer (some ⟨r,0,none⟩)),hT rfl t r h' CR x.gw.1 h2 h3,ok',Gw.refl _ _,λt ht=>?_,λj hj=>?_,λj hj=>?_,λkd' j hj hne=>x.rest kd' j (List.mem_cons_of_mem _ hj) hne,λj hj hDj o' d' ho' hd'=>?_,λj hj hDj=>?_,
  λj hj=>x.flo j (List.mem_cons_of_mem _ hj),λj hj hDj=>(x.flb j (List.mem_cons_of_mem _ hj) hDj).imp (λq=>F1 q aC) (ZK.put nd x.lt hkn hks ho),λj hj=>x.fld j (List.mem_cons_of_mem _ hj),x.mono,x.frm,x.pre,x.clos,x.iniR' nd hkn ho,x.iniS⟩
 ·rw [Cp (HQ hkn ho ht)];exact x.base t ht
 ·rcases List.mem_cons.1 hj with rfl | hj
  ·exact hkn
  ·exact x.lt j hj
 ·rcases List.mem_cons.1 hj with rfl | hj
  ·exact hD
  ·exact x.eff j hj
 ·rcases List.mem_cons.1 hj with rfl | hj
  ·obtain rfl:o'=o2:=Option.some.inj (ho'.symm.trans ho);obtain rfl:d'=d:=Option.some.inj (hd'.symm.trans hd);rw [h1,hd];exact (upd_same _ _ _).symm
  ·rw [Cp λe he=>Dy nd hkn (x.lt j hj) (λe=>hks (e▸hj)) ho ho' he hd'];exact x.done j hj hDj o' d' ho' hd'
 ·rcases List.mem_cons.1 hj with rfl | hj
  ·rw [hD] at hDj;cases hDj
  ·obtain ⟨o',xs',b',v',pf⟩:=x.pend j hj hDj;exact ⟨o',xs',b',v',pf.put nd x.lt hkn hks ho hj (GH.Le.refl _)⟩
theorem HP.unfoldB{k:Nat}(nd:(DS l n).Nodup)(hD:D k=true)(x:HP E l n cls fl hs ds Lw F σ0 seen effs rds wr ((Kd.b,k) ::π) σr hr D σ' h') :
  ∃σr' hr',HP E l n cls fl hs ds Lw F σ0 (k ::seen) (k ::effs) rds wr π σr' hr' D σ' h':=by
 obtain ⟨o,xs,ho,hx,hkn,hks,hfix,hg,hh⟩:=EP x.ok;obtain ⟨o2,b,ho2,hgd,hF,hT⟩:=x.td;obtain rfl:o2=o:=Option.some.inj (ho2.symm.trans ho);obtain ⟨hfl,hwr,hds,ok'⟩:=hh;obtain ⟨d,hd⟩:=Option.isSome_iff_exists.1 hds;obtain ⟨b2,hb2,hL,hU⟩:=x.fld k List.mem_cons_self hD o2 d ho hd;obtain rfl:b=b2:=(x.guard (x.clos k hkn hD) hg hgd).uniq hb2;obtain ⟨hr',hgw,htd⟩:∃hr',Gw (fl && !wr) hr' h'/\TD E l n (fl && !wr) hs ds Lw F π (putS σr o2.dst (σ' d)) hr':=by
  cases b with
  | true=>exact ⟨h',Gw.refl _ _,hT rfl (σ' d) h' x.gw.1 (hL rfl)⟩
  | false=>exact ⟨hr,x.gw,by rw [hU rfl];exact hF rfl⟩
 refine ⟨putS σr o2.dst (σ' d),hr',htd,ok',hgw,λt ht=>?_,λj hj=>?_,λj hj=>?_,λkd' j hj hne=>x.rest kd' j (List.mem_cons_of_mem _ hj) hne,λj hj hDj o' d' ho' hd'=>?_,λj hj hDj=>?_,
  λj hj=>x.flo j (List.mem_cons_of_mem _ hj),λj hj hDj=>(x.flb j (List.mem_cons_of_mem _ hj) hDj).imp (λq=>F1 q aC) (ZK.put nd x.lt hkn hks ho),λj hj=>x.fld j (List.mem_cons_of_mem _ hj),x.mono,x.frm,x.pre,x.clos,x.iniR' nd hkn ho,x.iniS⟩
 ·rw [Cp (HQ hkn ho ht)];exact x.base t ht
 ·rcases List.mem_cons.1 hj with rfl | hj
  ·exact hkn
  ·exact x.lt j hj
 ·rcases List.mem_cons.1 hj with rfl | hj
  ·exact hD
  ·exact x.eff j hj
 ·rcases List.mem_cons.1 hj with rfl | hj
  ·obtain rfl:o'=o2:=Option.some.inj (ho'.symm.trans ho);obtain rfl:d'=d:=Option.some.inj (hd'.symm.trans hd);rw [hd];exact (upd_same _ _ _).symm
  ·rw [Cp λe he=>Dy nd hkn (x.lt j hj) (λe=>hks (e▸hj)) ho ho' he hd'];exact x.done j hj hDj o' d' ho' hd'
 ·rcases List.mem_cons.1 hj with rfl | hj
  ·rw [hD] at hDj;cases hDj
  ·obtain ⟨o',xs',b',v',pf⟩:=x.pend j hj hDj;exact ⟨o',xs',b',v',pf.put nd x.lt hkn hks ho hj (GH.Le.refl _)⟩
theorem HP.unfoldL{k:Nat}(x:HP E l n cls fl hs ds Lw F σ0 seen effs rds wr ((Kd.l,k) ::π) σr hr D σ' h') :
  HP E l n cls fl hs ds Lw F σ0 seen effs rds wr π σr hr D σ' h':=by
 obtain ⟨o,xs,ho,hx,hkn,hks,hfix,hg,hh⟩:=EP x.ok;obtain ⟨o2,b,ho2,hgd,hF,hT⟩:=x.td;obtain rfl:o2=o:=Option.some.inj (ho2.symm.trans ho);obtain ⟨hfl,hds,heff,ok'⟩:=hh;obtain ⟨d,hd⟩:=Option.isSome_iff_exists.1 hds;have td:TD E l n (fl && !wr) hs ds Lw F π σr hr:=by
  cases b with
  | true=>exact (hT rfl).2
  | false=>exact hF rfl
 refine ⟨td,ok',x.gw,x.base,x.lt,x.eff,λkd' j hj hne=>x.rest kd' j (List.mem_cons_of_mem _ hj) hne,x.done,x.pend,λj hj=>x.flo j (List.mem_cons_of_mem _ hj),λj hj hDj=>?_,λj hj=>x.fld j (List.mem_cons_of_mem _ hj),x.mono,x.frm,x.pre,x.clos,x.iniR,x.iniS⟩;by_cases e:j=k
 ·subst e;refine .inr ⟨o2,xs,b,ho,hx,λt ht=>(hfix t ht).resolve_right (λq=>by cases q.1),hg,hgd,λhb σ2 hx2 e l2=>?_⟩;have hp:=(hT hb).1;refine BU.move hx e (λz ds' h2 q=>?_) (hp hx2 (x.gw.1.trans l2));obtain ⟨rfl,v,hv,l3,hL⟩:=q;have hz:z=v:=by
   have:=congrFun hv d
   simp only [hd,putS,upd_same] at this;exact this
  exact ⟨rfl,v,by rw [hz],l3,hL⟩
 ·refine (x.flb j (List.mem_cons_of_mem _ hj) hDj).imp (λq=>?_) id;rcases List.mem_cons.1 q with e2 | q
  ·cases e2;exact absurd rfl e
  ·exact q
theorem HP.fldPut(x:HP E l n cls fl hs ds Lw F σ0 seen effs rds wr π σr hr D σ' h')(nd:(DS l n).Nodup){k:Nat}{o:Oper}{v:Value}{h2:GH}(hkn:k<n)(ho:l[k]? =some o)(hkD:D k=false)(l2:h'.Le h2){j:Nat}(hj:(Kd.b,j) ∈ π)(hjk:j≠k)(hDj:D j=true)
  {o':Oper} {d':Nat} (ho':l[j]? =some o') (hd':o'.dst=some d'):∃b,Gd l o' (putS σ' o.dst v) b/\(b=true->Lw j (putS σ' o.dst v d') h2)/\(b=false->putS σ' o.dst v d'=undef):=by
 obtain ⟨_,_,hjn,o3,ho3,_,_,hg⟩:=DG x.ok x.lt _ j hj (.inr rfl);obtain rfl:o3=o':=Option.some.inj (ho3.symm.trans ho');obtain ⟨b,hb,hL,hU⟩:=x.fld j hj hDj o3 d' ho' hd';have e:putS σ' o.dst v d'=σ' d':=Cp λe he=>Dy nd hkn hjn (λq=>hjk q.symm) ho ho' he hd';refine ⟨b,hb.other nd hkn ho λg w hgw=>⟨(hg g w hgw).1,λq=>?_⟩,λhb'=>by rw [e];exact x.mono _ _ _ _ l2 (hL hb'),λhb'=>by rw [e];exact hU hb'⟩
 have:=x.clos j hjn hDj g (hg g w hgw).2
 rw [q,hkD] at this;cases this
theorem HP.ran{kd:Kd}{k:Nat}{o:Oper}{xs:List Operand}{v:Value}{hr2 h2:GH}{wr':Bool}(nd:(DS l n).Nodup)(hkD:D k=false)(hkl:kd≠.l)(ho:l[k]? =some o)(hkn:k<n)(hks:k ∉ seen)(hcl:∀q ∈ cls.getD k [],D q=true)
  (x:HP E l n cls fl hs ds Lw F σ0 seen effs rds wr ((kd,k) ::π) σr hr D σ' h') (td:TD E l n (fl && !wr') hs ds Lw F π (putS σr o.dst v) hr2) (ok':F0 P l n cls fl π (k ::seen) (k ::effs) rds wr'=true) (gw:Gw (fl && !wr') hr2 h2)
  (how:(wr'=wr/\h'.Le h2)\/(wr'=true/\(∀q ∈ rds,D q=true)/\Lw n undef h2)) :
  HP E l n cls fl hs ds Lw F σ0 (k ::seen) (k ::effs) rds wr' π (putS σr o.dst v) hr2 (HA D k) (putS σ' o.dst v) h2:=by
 refine ⟨td,ok',gw,λt ht=>?_,λj hj=>?_,λj hj=>?_,λkd' j hj hne=>?_,λj hj hDj o' d' ho' hd'=>?_,λj hj hDj=>?_,λj hj hDj o' t d' ho' CR hd'=>?_,λj hj hDj=>?_,λj hj hDj o' d' ho' hd'=>?_,x.mono,(by rcases how with ⟨_,l2⟩ | ⟨_,_,hf⟩;exact x.mono _ _ _ _ l2 x.frm;exact hf),λhw=>?_,λj hjn hDj q hq=>?_,x.iniR' nd hkn ho,x.iniS' nd hkn ho⟩
 ·rw [Cp (HQ hkn ho ht),Cp (HQ hkn ho ht)];exact x.base t ht
 ·rcases List.mem_cons.1 hj with rfl | hj
  ·exact hkn
  ·exact x.lt j hj
 ·rcases List.mem_cons.1 hj with rfl | hj
  ·exact If
  ·exact FX (x.eff j hj)
 ·have hnew:=(DY ok' kd' j hj).1;rw [Bd λe=>hnew (by rw [e];exact List.mem_cons_self)];exact x.rest kd' j (List.mem_cons_of_mem _ hj) hne
 ·rcases List.mem_cons.1 hj with rfl | hj
  ·obtain rfl:o'=o:=Option.some.inj (ho'.symm.trans ho);rw [hd'];exact (upd_same _ _ _).trans (upd_same _ _ _).symm
  ·have hjk:j≠k:=λe=>hks (e▸hj);rw [Bd hjk] at hDj;have hne:∀e,o.dst=some e->d'≠e:=λe he=>Dy nd hkn (x.lt j hj) (λe=>hjk e.symm) ho ho' he hd';rw [Cp hne,Cp hne];exact x.done j hj hDj o' d' ho' hd'
 ·rcases List.mem_cons.1 hj with rfl | hj
  ·rw [If] at hDj;cases hDj
  ·have hjk:j≠k:=λe=>hks (e▸hj);rw [Bd hjk] at hDj;obtain ⟨o',xs',b',v',pf⟩:=x.pend j hj hDj;rcases how with ⟨_,l2⟩ | ⟨_,hrd,hfr⟩
   ·exact ⟨o',xs',b',v',pf.put nd x.lt hkn hks ho hj l2⟩
   ·have pf2:PF E l n cls ds Lw σ0 seen rds σr h2 j o' xs' b' v':=⟨pf.at',pf.op,pf.val,pf.gfix,pf.gd,λhb=>by obtain ⟨σk,y0,y1,y2⟩:=pf.vop hb;exact ⟨σk,y0,y2.elim (λhm=>by rw [hrd j hm] at hDj;cases hDj) λhall=>⟨hall h2 hfr,.inr hall⟩⟩,pf.is⟩;exact ⟨o',xs',b',v',pf2.put nd x.lt hkn hks ho hj (GH.Le.refl _)⟩
 ·have hnew:=(DY ok' _ j hj);have hjk:j≠k:=λe=>hnew.1 (by rw [e];exact List.mem_cons_self);rw [Bd hjk] at hDj;obtain ⟨r,h1,h3,h4⟩:=x.flo j (List.mem_cons_of_mem _ hj) hDj o' t d' ho' CR hd';rcases how with ⟨_,l2⟩ | ⟨hw,_⟩
  ·exact ⟨r,by rw [Cp λe he=>Dy nd hkn hnew.2 (λe=>hjk e.symm) ho ho' he hd'];exact h1,h3,l2.get h4⟩
  ·have:=(DG ok' (HR x.lt hkn) _ j hj (.inl rfl)).2.1;rw [hw] at this;cases this
 ·have hnew:=(DY ok' _ j hj);have hjk:j≠k:=λe=>hnew.1 (by rw [e];exact List.mem_cons_self);rw [Bd hjk] at hDj;rcases how with ⟨_,l2⟩ | ⟨hw,_⟩
  ·exact (x.flb j (List.mem_cons_of_mem _ hj) hDj).imp (λq=>F1 q hkl.symm) λq=>(q.put nd x.lt hkn hks ho).le l2
  ·have:=(DG ok' (HR x.lt hkn) _ j hj (.inr rfl)).2.1;rw [hw] at this;cases this
 ·have hnew:=(DY ok' _ j hj);have hjk:j≠k:=λe=>hnew.1 (by rw [e];exact List.mem_cons_self);rw [Bd hjk] at hDj;rcases how with ⟨_,l2⟩ | ⟨hw,_⟩
  ·exact x.fldPut nd hkn ho hkD l2 (List.mem_cons_of_mem _ hj) hjk hDj ho' hd'
  ·have:=(DG ok' (HR x.lt hkn) _ j hj (.inr rfl)).2.1;rw [hw] at this;cases this
 ·rcases how with ⟨e,l2⟩ | ⟨e,_⟩
  ·exact (x.pre (e▸hw)).trans l2
  ·rw [e] at hw;cases hw
 ·by_cases e:j=k
  ·subst e;exact FX (hcl q hq)
  ·rw [Bd e] at hDj;exact FX (x.clos j hjn hDj q hq)
def TdAt(E:GE P)(l:List Oper)(n:Nat)(cls:List (List Nat))(fl:Bool)(hs:GH)(ds:List Deferred)(Lw:Nat->Value->GH->Prop)(F:(Nat->Value)->GH->Prop)(σ0:Nat->Value)(D:Nat->Bool)(σ':Nat->Value)(h':GH):Prop:=
 ∃seen effs rds wr π σr hr,HP E l n cls fl hs ds Lw F σ0 seen effs rds wr π σr hr D σ' h'
abbrev RunK(E:GE P)(l:List Oper)(n:Nat)(cls:List (List Nat))(fl:Bool)(hs:GH)(ds:List Deferred)(Lw:Nat->Value->GH->Prop)(F:(Nat->Value)->GH->Prop)(σ0:Nat->Value)(D:Nat->Bool)(σ':Nat->Value)(h':GH)(k:Nat)(o:Oper):Prop:=
 (DI l o σ'->BU E o σ' ds h' λσ'' ds'' h''=>ds''=ds/\TdAt E l n cls fl hs ds Lw F σ0 (HA D k) σ'' h'')/\(¬DI l o σ'->TdAt E l n cls fl hs ds Lw F σ0 (HA D k) (putS σ' o.dst undef) h')
theorem HP.runV{k:Nat}{o:Oper}(nd:(DS l n).Nodup)(ho:l[k]? =some o)(hks:k ∈ seen)(hkD:D k=false)(hcl:∀q ∈ cls.getD k [],D q=true)(x:HP E l n cls fl hs ds Lw F σ0 seen effs rds wr π σr hr D σ' h') :
  RunK E l n cls fl hs ds Lw F σ0 D σ' h' k o:=by
 obtain ⟨o2,xs,b,v,pf⟩:=x.pend k hks hkD;obtain rfl:o2=o:=Option.some.inj (pf.at'.symm.trans ho);have hkn:=x.lt k hks;have hgi:=(x.guard hcl pf.gfix pf.gd).iff;have key:HP E l n cls fl hs ds Lw F σ0 seen effs rds wr π σr hr (HA D k) (putS σ' o2.dst (if b=true then v else undef)) h':=by
  refine ⟨x.td,x.ok,x.gw,λt ht=>?_,x.lt,λj hj=>FX (x.eff j hj),λkd' j hj hne=>?_,λj hj hDj o' d' ho' hd'=>?_,λj hj hDj=>?_,λj hj hDj o' t d' ho' CR hd'=>?_,λj hj hDj=>?_,λj hj hDj o' d' ho' hd'=>?_,x.mono,x.frm,x.pre,λj hjn hDj q hq=>?_,x.iniR,x.iniS' nd hkn ho⟩
  ·rw [Cp (HQ hkn ho ht)];exact x.base t ht
  ·have hnew:=(DY x.ok kd' j hj).1;rw [Bd λ(e:j=k)=>hnew (by rw [e];exact hks)];exact x.rest kd' j hj hne
  ·by_cases hjk:j=k
   ·subst hjk;obtain rfl:o'=o2:=Option.some.inj (ho'.symm.trans ho);rw [pf.is d' hd',hd'];exact upd_same _ _ _
   ·rw [Bd hjk] at hDj;rw [Cp λe he=>Dy nd hkn (x.lt j hj) (λe=>hjk e.symm) ho ho' he hd'];exact x.done j hj hDj o' d' ho' hd'
  ·by_cases hjk:j=k
   ·subst hjk;rw [If] at hDj;cases hDj
   ·rw [Bd hjk] at hDj;exact x.pend j hj hDj
  ·have hnew:=DY x.ok _ j hj;have hjk:j≠k:=λe=>hnew.1 (by rw [e];exact hks);rw [Bd hjk] at hDj;obtain ⟨r,h1,h3⟩:=x.flo j hj hDj o' t d' ho' CR hd';exact ⟨r,by rw [Cp λe he=>Dy nd hkn hnew.2 (λe=>hjk e.symm) ho ho' he hd'];exact h1,h3⟩
  ·have hnew:=DY x.ok _ j hj;have hjk:j≠k:=λe=>hnew.1 (by rw [e];exact hks);rw [Bd hjk] at hDj;exact x.flb j hj hDj
  ·have hnew:=DY x.ok _ j hj;have hjk:j≠k:=λe=>hnew.1 (by rw [e];exact hks);rw [Bd hjk] at hDj;exact x.fldPut nd hkn ho hkD (GH.Le.refl _) hj hjk hDj ho' hd'
  ·by_cases e:j=k
   ·subst e;exact FX (hcl q hq)
   ·rw [Bd e] at hDj;exact FX (x.clos j hjn hDj q hq)
 refine ⟨λhG=>?_,λhG=>?_⟩
 ·obtain rfl:=hgi.1 hG;obtain ⟨σk,y0,y1,_⟩:=pf.vop rfl;have y:=y1.move (σ2:=σ') pf.val pf.op (λt ht=>(y0 t ht).elim (λq=>q.2.trans (x.agree hcl q.1)) λq=>q.2.trans (x.late hkD q.1).symm) (GH.Le.refl _);refine BU.move pf.op (λ_ _=>rfl) (λz ds' h'' q=>?_) y;obtain ⟨q1,rfl,rfl⟩:=q;exact ⟨rfl,_,_,_,_,_,_,_,by rw [q1];exact key⟩
 ·cases b with
  | true=>exact absurd (hgi.2 rfl) hG
  | false=>exact ⟨_,_,_,_,_,_,_,key⟩
theorem TD.grow{E:GE P}{fl2:Bool}:∀{π:List (Kd×Nat)} {seen effs rds:List Nat} {wr fl:Bool} {O:Nat->Value} {h h':GH},F0 P l n cls fl2 π seen effs rds wr=true->Gw fl h h'->TD E l n fl hs ds Lw F π O h->TD E l n false hs ds Lw F π O h'
 | [],_,_,_,_,fl,O,h,h',_,g,x=>λhx g2=>by rw [g2.2 rfl];exact x h' g
 | (kd,k) ::π,_,_,_,_,fl,O,h,h',ok,g,⟨o,b,ho,hgd,hF,hT⟩=>by
  obtain ⟨o2,xs,ho2,hx,_,_,_,_,hh⟩:=EP ok;obtain rfl:o2=o:=Option.some.inj (ho2.symm.trans ho);obtain ⟨_,_,_,_,ok',_⟩:=GS ok;refine ⟨o2,b,ho,hgd,λe=>TD.grow ok' g (hF e),λe=>?_⟩;have hT':=hT e;cases kd with
  | p=>obtain ⟨v,a,td⟩:=hT';exact ⟨v,a,TD.grow ok' g td⟩
  | r=>obtain ⟨v,a,td⟩:=hT';exact ⟨v,a.move hh.1 hx (λ_ _=>rfl) g.1,TD.grow ok' g td⟩
  | e=>intro hx2 g2;rw [g2.2 rfl];exact (hT' h' g).mono λ_ _ _ ⟨q1,v,q2,q3,td⟩=>⟨q1,v,q2,q3,TD.grow ok' (Gw.refl _ _) td⟩
  | w=>intro hx2 g2;rw [g2.2 rfl];exact hT' h' g
  | a=>intro t r hx2 e2 l2 hr hb;exact TD.grow ok' (Gw.refl _ _) (hT' t r hx2 e2 (g.1.trans l2) hr hb)
  | l=>exact ⟨λhx2 l2=>hT'.1 hx2 (g.1.trans l2),TD.grow ok' g hT'.2⟩
  | b=>intro v hx2 l2 q;exact TD.grow ok' (Gw.refl _ _) (hT' v hx2 (g.1.trans l2) q)
theorem HP.runE{kd:Kd}{k:Nat}{o:Oper}(nd:(DS l n).Nodup)(hkd:kd=.e\/kd=.w)(ho:l[k]? =some o)(hcl:∀q ∈ cls.getD k [],D q=true)(x:HP E l n cls fl hs ds Lw F σ0 seen effs rds wr ((kd,k) ::π) σr hr D σ' h') :
  RunK E l n cls fl hs ds Lw F σ0 D σ' h' k o:=by
 obtain ⟨o1,xs,ho1,hx,hkn,hks,hfix,hg,hh⟩:=EP x.ok;obtain rfl:o1=o:=Option.some.inj (ho1.symm.trans ho);obtain ⟨o2,b,ho2,hgd,hF,hT⟩:=x.td;obtain rfl:o2=o1:=Option.some.inj (ho2.symm.trans ho);have hgi:=(x.guard hcl hg hgd).iff;have hkD:D k=false:=x.rest kd k List.mem_cons_self (by rcases hkd with e | e <;> rw [e] <;> rfl);refine ⟨λhG=>?_,λhG=>?_⟩
 ·obtain rfl:=hgi.1 hG;rcases hkd with rfl | rfl
  ·refine (hT rfl h' x.gw).move hx (λt ht=>x.agree2 hcl hkD (hfix t ht)) λz ds' h'' q=>?_;obtain ⟨rfl,v,hv,l2,td⟩:=q;refine ⟨rfl,?_⟩;have e:putS σ' o2.dst z=putS σ' o2.dst v:=by
    cases hd:o2.dst with
    | none=>rfl
    | some d=>
     have:=congrFun hv d
     simp only [hd,putS,upd_same] at this;rw [this]
   rw [e];exact ⟨_,_,_,_,_,_,_,x.ran (xs:=xs) nd hkD aC ho hkn hks hcl td hh.2 (Gw.refl _ _) (.inl ⟨rfl,l2⟩)⟩
  ·refine (hT rfl h' x.gw).move hx (λt ht=>x.agree2 hcl hkD (hfix t ht)) λz ds' h'' q=>?_;obtain ⟨rfl,v,hv,hfr,td⟩:=q;refine ⟨rfl,?_⟩;have e:putS σ' o2.dst z=putS σ' o2.dst v:=by
    cases hd:o2.dst with
    | none=>rfl
    | some d=>
     have:=congrFun hv d
     simp only [hd,putS,upd_same] at this;rw [this]
   rw [e];exact ⟨_,_,_,_,_,_,_,x.ran (xs:=xs) nd hkD aC ho hkn hks hcl (by rw [Bool.not_true,Bool.and_false];exact td) hh.2.2 (Gw.refl _ _) (.inr ⟨rfl,λq hq=>hcl q (hh.2.1 q hq),hfr⟩)⟩
 ·cases b with
  | true=>exact absurd (hgi.2 rfl) hG
  | false=>
   rcases hkd with rfl | rfl
   ·exact ⟨_,_,_,_,_,_,_,x.ran (xs:=xs) nd hkD aC ho hkn hks hcl (hF rfl) hh.2 x.gw (.inl ⟨rfl,GH.Le.refl _⟩)⟩
   ·exact ⟨_,_,_,_,_,_,_,x.ran (xs:=xs) nd hkD aC ho hkn hks hcl (by rw [Bool.not_true,Bool.and_false];exact TD.grow hh.2.2 x.gw (hF rfl)) hh.2.2 (Gw.refl _ _) (.inr ⟨rfl,λq hq=>hcl q (hh.2.1 q hq),x.frm⟩)⟩
theorem Hh:∀{π:List (Kd×Nat)} {seen effs rds:List Nat} {wr:Bool},F0 P l n cls fl π seen effs rds wr=true->∀{kd1 kd2:Kd}{j:Nat},(kd1,j) ∈ π->(kd2,j) ∈ π->kd1≠.l->kd2≠.l->kd1=kd2
 | [],_,_,_,_,_,_,_,_,h,_,_,_=>by cases h
 | (kd,k) ::π,seen,effs,rds,wr,x,kd1,kd2,j,h1,h2,n1,n2=>by
  obtain ⟨seen',e',r',w',ok2,_,z,_⟩:=GS x;rcases List.mem_cons.1 h1 with e1 | h3 <;> rcases List.mem_cons.1 h2 with e2 | h4
  ·cases e1;cases e2;rfl
  ·cases e1;exact absurd (by rw [z n1];exact List.mem_cons_self) (DY ok2 _ _ h4).1
  ·cases e2;exact absurd (by rw [z n2];exact List.mem_cons_self) (DY ok2 _ _ h3).1
  ·exact Hh ok2 h3 h4 n1 n2
theorem HP.runA{k:Nat}{o:Oper}(nd:(DS l n).Nodup)(hk:(Kd.a,k) ∈ π)(hkD:D k=false)(ho:l[k]? =some o)(hcl:∀q ∈ cls.getD k [],D q=true)(x:HP E l n cls fl hs ds Lw F σ0 seen effs rds wr π σr hr D σ' h') :
  RunK E l n cls fl hs ds Lw F σ0 D σ' h' k o:=by
 obtain ⟨hfl,hwr,hkn,o2,ho2,hal0,hds,_⟩:=DG x.ok x.lt _ k hk (.inl rfl);obtain ⟨hal,hgn⟩:=hal0 rfl;obtain rfl:o2=o:=Option.some.inj (ho2.symm.trans ho);have hks:=(DY x.ok _ k hk).1;obtain ⟨t,CR⟩:∃t,o2.op=.alloc t:=by
  cases hq:o2.op <;> rw [hq] at hal <;> first | exact ⟨_,rfl⟩ | cases hal
 have hz:Bt P t=some (zOf P t):=by
  rw [CR] at hal;obtain ⟨z,hz⟩:=Option.isSome_iff_exists.1 (show (Bt P t).isSome=true from hal);unfold zOf;rw [hz];rfl
 refine ⟨λ_=>?_,λhG=>absurd (by unfold DI;rw [hgn];trivial) hG⟩;obtain ⟨dst,op,ty,pos,af,gd⟩:=o2;simp only at CR hds hgn;subst CR;obtain ⟨d,rfl⟩:=Option.isSome_iff_exists.1 hds;refine AR hz λr h2 hr0 l2 hnb hoth=>⟨rfl,seen,effs,rds,wr,π,σr,hr,x.td,x.ok,⟨x.gw.1.trans l2,λe=>by rw [hfl,hwr] at e;cases e⟩,λt' ht=>?_,x.lt,λj hj=>FX (x.eff j hj),λkd' j hj hne=>?_,λj hj hDj o' d' ho' hd'=>?_,λj hj hDj=>?_,λj hj hDj o' t' d' ho' hop' hd'=>?_,λj hj hDj=>?_,λj hj hDj o' d' ho' hd'=>?_,x.mono,x.mono _ _ _ _ l2 x.frm,λhw=>(x.pre hw).trans l2,λj hjn hDj q hq=>?_,x.iniR,x.iniS' nd hkn ho⟩
 ·rw [Cp (HQ hkn ho ht)];exact x.base t' ht
 ·by_cases e:j=k
  ·subst e;rw [Hh x.ok hj hk (by rintro rfl;cases hne) aC] at hne;cases hne
  ·rw [Bd e];exact x.rest kd' j hj hne
 ·have hjk:j≠k:=λe=>hks (e▸hj);rw [Bd hjk] at hDj;rw [Cp λe he=>Dy nd hkn (x.lt j hj) (λe=>hjk e.symm) ho ho' he hd'];exact x.done j hj hDj o' d' ho' hd'
 ·have hjk:j≠k:=λe=>hks (e▸hj);rw [Bd hjk] at hDj;obtain ⟨o',xs',b',v',pf⟩:=x.pend j hj hDj;exact ⟨o',xs',b',v',pf.at',pf.op,pf.val,pf.gfix,pf.gd,λhb=>by obtain ⟨σk,y0,y1,y2⟩:=pf.vop hb;exact ⟨σk,y0,y1.move pf.val pf.op (λ_ _=>rfl) l2,y2⟩,pf.is⟩
 ·by_cases e:j=k
  ·subst e;cases ho'.symm.trans ho;cases hd';cases hop';have hb0:hs r=none:=by
    cases hb:hs r with
    | none=>rfl
    | some y=>rw [(x.pre hwr).get hb] at hr0;cases hr0
   exact ⟨r,upd_same _ _ _,hb0,hnb⟩
  ·rw [Bd e] at hDj;have hnew:=DY x.ok _ j hj;obtain ⟨r',h1,h3,h4⟩:=x.flo j hj hDj o' t' d' ho' hop' hd';exact ⟨r',by rw [Cp λe' he=>Dy nd hkn hnew.2 (λq=>e q.symm) ho ho' he hd'];exact h1,h3,l2.get h4⟩
 ·have e:j≠k:=λe=>by subst e;cases Hh x.ok hj hk aC aC
  rw [Bd e] at hDj;exact (x.flb j hj hDj).imp id (ZK.le l2)
 ·have e:j≠k:=λe=>by subst e;cases Hh x.ok hj hk aC aC
  rw [Bd e] at hDj;exact x.fldPut nd hkn ho hkD l2 hj e hDj ho' hd'
 ·by_cases e:j=k
  ·subst e;exact FX (hcl q hq)
  ·rw [Bd e] at hDj;exact FX (x.clos j hjn hDj q hq)
theorem HP.reachB{k:Nat}(nd:(DS l n).Nodup)(hkD:D k=false)(hcl:∀q ∈ cls.getD k [],D q=true):∀{π:List (Kd×Nat)} {seen effs rds:List Nat} {wr:Bool} {σr:Nat->Value} {hr:GH},
  HP E l n cls fl hs ds Lw F σ0 seen effs rds wr π σr hr D σ' h'->(Kd.b,k) ∈ π->∃seen effs rds wr π' σr hr,HP E l n cls fl hs ds Lw F σ0 seen effs rds wr π' σr hr D σ' h'/\(Kd.b,k) ∈ π'/\ZK E l n cls ds Lw seen σr h' k:=by
 intro π
 induction π with
 | nil=>intro _ _ _ _ _ _ _ h;cases h
 | cons y π ih=>
  intro seen effs rds wr σr hr x hm;obtain ⟨kd2,k2⟩:=y;rcases x.flb k hm hkD with hl | hp
  ·by_cases hL:kd2=.l
   ·subst hL;exact ih x.unfoldL (F1 hm aC)
   ·have hl2:=F1 hl (Ne.symm hL);have heff:kd2=.e\/kd2=.w\/kd2=.a\/kd2=.b->D k2=true:=λhk=>by
     obtain ⟨s',e',r',w',ok2,_,_,_,_,z⟩:=GS x.ok;exact hcl _ (PD ok2 .l k hl2 aC aC k2 (z hk))
    cases kd2 with
    | p=>obtain ⟨rds',σr',x'⟩:=x.unfoldV nd (.inl rfl);exact ih x' (F1 hm aC)
    | r=>obtain ⟨rds',σr',x'⟩:=x.unfoldV nd (.inr rfl);exact ih x' (F1 hm aC)
    | e=>have:=x.rest _ _ List.mem_cons_self rfl;rw [heff (.inl rfl)] at this;cases this
    | w=>have:=x.rest _ _ List.mem_cons_self rfl;rw [heff (.inr (.inl rfl))] at this;cases this
    | a=>obtain ⟨σr',x'⟩:=x.unfoldA nd (heff (.inr (.inr (.inl rfl))));exact ih x' (F1 hm aC)
    | l=>exact absurd rfl hL
    | b=>
     have hD2:=heff (.inr (.inr (.inr rfl)));obtain ⟨σr',hr',x'⟩:=x.unfoldB nd hD2;rcases List.mem_cons.1 hm with e | hm2
     ·cases e;rw [hkD] at hD2;cases hD2
     ·exact ih x' hm2
  ·exact ⟨_,_,_,_,_,_,_,x,hm,hp⟩
theorem HP.runB{k:Nat}{o:Oper}(nd:(DS l n).Nodup)(hk0:(Kd.b,k) ∈ π)(hkD:D k=false)(ho:l[k]? =some o)(hcl:∀q ∈ cls.getD k [],D q=true)(x0:HP E l n cls fl hs ds Lw F σ0 seen effs rds wr π σr hr D σ' h') :
  RunK E l n cls fl hs ds Lw F σ0 D σ' h' k o:=by
 obtain ⟨seen,effs,rds,wr,π,σr,hr,x,hk,hp⟩:=x0.reachB nd hkD hcl hk0;obtain ⟨hfl,hwr,hkn,o2,ho2,_,hds,_⟩:=DG x.ok x.lt _ k hk (.inr rfl);obtain rfl:o2=o:=Option.some.inj (ho2.symm.trans ho);have hks:=(DY x.ok _ k hk).1;obtain ⟨o3,xs,b,ho3,hx,hfix,hg,hgd,hrun⟩:=hp;obtain rfl:o3=o2:=Option.some.inj (ho3.symm.trans ho);obtain ⟨d,hd⟩:=Option.isSome_iff_exists.1 hds;have hgs:=x.guard hcl hg hgd;have hgo:∀v,Gd l o3 (putS σ' o3.dst v) b:=λv=>hgs.other nd hkn ho λg w e=>⟨x.lt g (hg g w e).1,λq=>hks (q▸(hg g w e).1)⟩;have key:∀(v:Value)(h2:GH),h'.Le h2->(b=true->Lw k v h2)->(b=false->v=undef)->TdAt E l n cls fl hs ds Lw F σ0 (HA D k) (putS σ' o3.dst v) h2:=by
  intro v h2 l2 hL hU;refine ⟨seen,effs,rds,wr,π,σr,hr,x.td,x.ok,⟨x.gw.1.trans l2,λe=>by rw [hfl,hwr] at e;cases e⟩,λt' ht=>?_,x.lt,λj hj=>FX (x.eff j hj),λkd' j hj hne=>?_,λj hj hDj o' d' ho' hd'=>?_,λj hj hDj=>?_,λj hj hDj o' t' d' ho' hop' hd'=>?_,λj hj hDj=>?_,λj hj hDj o' d' ho' hd'=>?_,x.mono,x.mono _ _ _ _ l2 x.frm,λhw=>(x.pre hw).trans l2,λj hjn hDj q hq=>?_,x.iniR,x.iniS' nd hkn ho⟩
  ·rw [Cp (HQ hkn ho ht)];exact x.base t' ht
  ·by_cases e:j=k
   ·subst e;rw [Hh x.ok hj hk (by rintro rfl;cases hne) aC] at hne;cases hne
   ·rw [Bd e];exact x.rest kd' j hj hne
  ·have hjk:j≠k:=λe=>hks (e▸hj);rw [Bd hjk] at hDj;rw [Cp λe he=>Dy nd hkn (x.lt j hj) (λe=>hjk e.symm) ho ho' he hd'];exact x.done j hj hDj o' d' ho' hd'
  ·have hjk:j≠k:=λe=>hks (e▸hj);rw [Bd hjk] at hDj;obtain ⟨o',xs',b',v',pf⟩:=x.pend j hj hDj;exact ⟨o',xs',b',v',pf.at',pf.op,pf.val,pf.gfix,pf.gd,λhb=>by obtain ⟨σk,y0,y1,y2⟩:=pf.vop hb;exact ⟨σk,y0,y1.move pf.val pf.op (λ_ _=>rfl) l2,y2⟩,pf.is⟩
  ·have e:j≠k:=λe=>by subst e;cases Hh x.ok hj hk aC aC
   rw [Bd e] at hDj;have hnew:=DY x.ok _ j hj;obtain ⟨r',h1,h3,h4⟩:=x.flo j hj hDj o' t' d' ho' hop' hd';exact ⟨r',by rw [Cp λe' he=>Dy nd hkn hnew.2 (λq=>e q.symm) ho ho' he hd'];exact h1,h3,l2.get h4⟩
  ·have e:j≠k:=λe=>by subst e;rw [If] at hDj;cases hDj
   rw [Bd e] at hDj;exact (x.flb j hj hDj).imp id (ZK.le l2)
  ·by_cases e:j=k
   ·subst e;obtain rfl:o'=o3:=Option.some.inj (ho'.symm.trans ho);refine ⟨b,hgo v,λhb=>?_,λhb=>?_⟩
    ·rw [hd',show putS σ' (some d') v d'=v from upd_same _ _ _];exact hL hb
    ·rw [hd',show putS σ' (some d') v d'=v from upd_same _ _ _];exact hU hb
   ·rw [Bd e] at hDj;exact x.fldPut nd hkn ho hkD l2 hj e hDj ho' hd'
  ·by_cases e:j=k
   ·subst e;exact FX (hcl q hq)
   ·rw [Bd e] at hDj;exact FX (x.clos j hjn hDj q hq)
 refine ⟨λhG=>?_,λhG=>?_⟩
 ·obtain rfl:=hgs.iff.1 hG;refine BU.move hx (λ_ _=>rfl) (λz ds' h2 q=>?_) (hrun rfl σ' h' (λt ht=>x.agree hcl (hfix t ht)) (GH.Le.refl _));obtain ⟨rfl,v,hv,l2,hL⟩:=q;rw [hv];exact ⟨rfl,key v h2 l2 (λ_=>hL) (λe=>by cases e)⟩
 ·cases b with
  | true=>exact absurd (hgs.iff.2 rfl) hG
  | false=>exact key undef h' (GH.Le.refl _) (λe=>by cases e) (λ_=>rfl)
theorem HP.reach{kd:Kd}{i:Nat}(nd:(DS l n).Nodup)(hne:kd.fix=true)(hcl:∀q ∈ cls.getD i [],D q=true):∀{π:List (Kd×Nat)} {seen effs rds:List Nat} {wr:Bool} {σr:Nat->Value} {hr:GH},
  HP E l n cls fl hs ds Lw F σ0 seen effs rds wr π σr hr D σ' h'->(kd,i) ∈ π->∃seen effs rds wr π' σr hr,HP E l n cls fl hs ds Lw F σ0 seen effs rds wr ((kd,i) ::π') σr hr D σ' h':=by
 intro π
 induction π with
 | nil=>intro _ _ _ _ _ _ _ h;cases h
 | cons y π ih=>
  intro seen effs rds wr σr hr x hm;obtain ⟨kd2,k2⟩:=y;rcases List.mem_cons.1 hm with e | hm2
  ·cases e;exact ⟨_,_,_,_,_,_,_,x⟩
  ·have hv:kd2=.p\/kd2=.r->∃seen effs rds wr π' σr hr,HP E l n cls fl hs ds Lw F σ0 seen effs rds wr ((kd,i) ::π') σr hr D σ' h':=λhk=>by
    obtain ⟨rds',σr',x'⟩:=x.unfoldV nd hk;exact ih x' hm2
   have heff:kd2=.e\/kd2=.w\/kd2=.a\/kd2=.b->D k2=true:=λhk=>by
    obtain ⟨s',e',r',w',ok2,_,_,_,_,z⟩:=GS x.ok;exact hcl _ (PD ok2 kd i hm2 (by rintro rfl;cases hne) (by rintro rfl;cases hne) k2 (z hk))
   cases kd2 with
   | p=>exact hv (.inl rfl)
   | r=>exact hv (.inr rfl)
   | e=>have:=x.rest _ _ List.mem_cons_self rfl;rw [heff (.inl rfl)] at this;cases this
   | w=>have:=x.rest _ _ List.mem_cons_self rfl;rw [heff (.inr (.inl rfl))] at this;cases this
   | a=>
    obtain ⟨σr',x'⟩:=x.unfoldA nd (heff (.inr (.inr (.inl rfl))));exact ih x' hm2
   | l=>exact ih x.unfoldL hm2
   | b=>
    obtain ⟨σr',hr',x'⟩:=x.unfoldB nd (heff (.inr (.inr (.inr rfl))));exact ih x' hm2
theorem HP.ends(nd:(DS l n).Nodup)(hall:∀i,i<n->D i=true):∀{π:List (Kd×Nat)} {seen effs rds:List Nat} {wr:Bool} {σr:Nat->Value} {hr:GH},
  HP E l n cls fl hs ds Lw F σ0 seen effs rds wr π σr hr D σ' h'->F σ' h':=by
 intro π
 induction π with
 | nil=>
  intro seen effs rds wr σr hr x;have e:σ'=σr:=funext λt=>by
   cases hc:(DS l n).contains t with
   | false=>exact x.base t hc
   | true=>
    rw [List.contains_iff_mem] at hc;simp only [DS,List.mem_filterMap] at hc;obtain ⟨o,ho,hd⟩:=hc;obtain ⟨k,hk⟩:=List.mem_iff_getElem?.1 ho;have hkn:k<n:=by
     have:=(List.getElem?_eq_some_iff.1 hk).1
     simp at this;omega
    have hok:l[k]? =some o:=by rw [List.getElem?_take] at hk;simpa [hkn] using hk
    rcases PC x.ok k hkn with h | ⟨_,h,_⟩
    ·exact x.done k h (hall k hkn) o t hok hd
    ·cases h
  rw [e];exact x.td h' x.gw
 | cons y π ih=>
  intro seen effs rds wr σr hr x;obtain ⟨kd,k⟩:=y;have hk:=(DY x.ok kd k List.mem_cons_self).2;cases kd with
  | a=>obtain ⟨σr',x'⟩:=x.unfoldA nd (hall k hk);exact ih x'
  | b=>obtain ⟨σr',hr',x'⟩:=x.unfoldB nd (hall k hk);exact ih x'
  | l=>exact ih x.unfoldL
  | p=>have:=x.rest _ k List.mem_cons_self rfl;rw [hall k hk] at this;cases this
  | r=>have:=x.rest _ k List.mem_cons_self rfl;rw [hall k hk] at this;cases this
  | e=>have:=x.rest _ k List.mem_cons_self rfl;rw [hall k hk] at this;cases this
  | w=>have:=x.rest _ k List.mem_cons_self rfl;rw [hall k hk] at this;cases this
end
def Tm(c:List Nat)(k:List Nat->Bool):Bool:=match c with
 | []=>k []
 | x ::xs=>Tm xs λxs'=>k (x ::xs')
theorem R8:∀(c:List Nat)(k:List Nat->Bool),Tm c k=k c
 | [],_=>rfl
 | x ::xs,k=>by unfold Tm;rw [R8 xs]
def Tn(cls:List (List Nat))(k:List (List Nat)->Bool):Bool:=match cls with
 | []=>k []
 | c ::cs=>Tn cs λcs'=>k (c ::cs')
theorem R9:∀(cls:List (List Nat))(k:List (List Nat)->Bool),Tn cls k=k cls
 | [],_=>rfl
 | c ::cs,k=>by unfold Tn;exact R9 cs _
def PE(l:List Oper):List Oper->Nat->List (List Nat)->(List (List Nat)->Bool)->Bool
 | [],_,acc,c=>Tn acc.reverse c
 | o ::os,k,acc,c=>Tm ((List.range k).filter λj=>IA o j || (List.range k).any λe=>IA o e && (acc.getD (k-1-e) []).contains j) λx=>PE l os (k+1) (x ::acc) c
theorem Hr{l:List Oper}{c:List (List Nat)->Bool}:∀{os:List Oper}{k:Nat}{acc:List (List Nat)},PE l os k acc c=true->∃cls,c cls=true
 | [],k,acc,h=>⟨acc.reverse,(R9 acc.reverse c).symm.trans h⟩
 | o ::os,k,acc,h=>by unfold PE at h;rw [R8] at h;exact Hr h
def PG(P:Program)(N:Nat)(l:List Oper)(n:Nat)(cls:List (List Nat))(fl:Bool)(π:List (Kd×Nat)):Bool:=Fv N l n cls && F0 P l n cls fl π [] [] [] false && π.all λx=>x.1 !=.b || π.contains (.l,x.2)
theorem Yb{Lw:Nat->Value->GH->Prop}{F:(Nat->Value)->GH->Prop}{id:Nat}{l:List Oper}{O:Nat->Value}{ds:List Deferred}{h:GH}(n:Nat)(cls:List (List Nat))(fl:Bool)(π:List (Kd×Nat))(hm:P.follows .mixedOrders=true)
  (hL:∀k v h1 h2,GH.Le h1 h2->Lw k v h1->Lw k v h2) (hF:Lw n undef h) (ok:PG P E.N l n cls fl π=true) (x:TD E l n fl h ds Lw F π O h) {b:Frame} {k:List Item} {cs:List Frame} {t:Array Value} (hb:b.fn=E.fn) (hr:b.roundOf=E.rd) (hs:BS t E.N O)
  (y:∀σ' h',F σ' h'->∀t',BS t' E.N σ'->E.wk.K (G (Cc b t' ds (.inRegion l.toArray (List.range' n (l.drop n).length) ::k)) cs) h') :
  E.wk.K (G (Cc b t ds (.code (.region id l.toArray true) ::k)) cs) h:=by
 unfold PG at ok;rw [Bool.and_eq_true,Bool.and_eq_true] at ok;obtain ⟨⟨ok1,ok2⟩,ok3⟩:=ok;have nd:(DS l n).Nodup:=by
  have:=ok1
  unfold Fv at this;simp only [Bool.and_eq_true] at this;exact of_decide_eq_true this.1.2
 refine O1 n cls (TdAt E l n cls fl h ds Lw F O) hm ok1 ?_ ?_ hb hr hs ?_
 ·exact ⟨[],[],[],false,π,O,h,by rw [Bool.not_false,Bool.and_true];exact x,ok2,Gw.refl _ _,λ_ _=>rfl,(λ_ hk=>by cases hk),(λ_ hk=>by cases hk),(λ_ _ _ _=>rfl),(λ_ hk=>by cases hk),(λ_ hk=>by cases hk),(λ_ _ hD=>by cases hD),(λk hk _=>.inl (by have:=List.all_eq_true.1 ok3 _ hk;simpa using this)),(λ_ _ hD=>by cases hD),hL,hF,(λ_=>GH.Le.refl _),(λ_ _ hD=>by cases hD),(λ_ _ _ _ _ _ _=>rfl),(λ_ _ _ _ _ _ _=>rfl)⟩
 ·rintro D σ' h' i o ⟨seen,effs,rds,wr,π',σr,hr,z0⟩ hin hiD ho hcl hgl;rcases PC z0.ok i hin with hs | ⟨kd,hk,hkl⟩
  ·exact z0.runV nd ho hs hiD hcl
  ·by_cases hne:kd.fix=false
   ·cases kd with
    | a=>exact z0.runA nd hk hiD ho hcl
    | b=>exact z0.runB nd hk hiD ho hcl
    | l=>exact absurd rfl hkl
    | p=>cases hne
    | r=>cases hne
    | e=>cases hne
    | w=>cases hne
   ·obtain ⟨seen,effs,rds,wr,π'',σr,hr,z⟩:=z0.reach nd (by simpa using hne) hcl hk;cases kd with
    | p=>
     obtain ⟨rds',σr',z'⟩:=z.unfoldV nd (.inl rfl);exact z'.runV nd ho List.mem_cons_self hiD hcl
    | r=>
     obtain ⟨rds',σr',z'⟩:=z.unfoldV nd (.inr rfl);exact z'.runV nd ho List.mem_cons_self hiD hcl
    | e=>exact z.runE nd (.inl rfl) ho hcl
    | w=>exact z.runE nd (.inr rfl) ho hcl
    | a=>exact absurd rfl hne
    | l=>exact absurd rfl hne
    | b=>exact absurd rfl hne
 ·rintro D σ' h' ⟨seen,effs,rds,wr,π',σr,hr,z0⟩ hall t' ht';exact y _ _ (z0.ends nd hall) t' ht'
theorem tr_td{Lw:Nat->Value->GH->Prop}{F:(Nat->Value)->GH->Prop}{id:Nat}{l:List Oper}{O:Nat->Value}{ds:List Deferred}{h:GH}{Q:Post}(n:Nat)(cls:List (List Nat))(fl:Bool)(π:List (Kd×Nat))(hm:P.follows .mixedOrders=true)
  (hL:∀k v h1 h2,GH.Le h1 h2->Lw k v h1->Lw k v h2) (hF:Lw n undef h) (ok:PG P E.N l n cls fl π=true) (x:TD E l n fl h ds Lw F π O h) (y:∀σ' h',F σ' h'->DN E l.toArray (l.drop n) σ' ds h' Q):Tr E (.region id l.toArray true) O ds h Q:=λb k cs L t hb hr hl hs hq=>
 Yb n cls fl π hm hL hF ok x hb hr hs λσ' h' f t' ht'=>y σ' h' f n b k cs L t' (λj=>aD) hb hr hl ht' hq
def FrW(n:Nat)(Fr:GH->Prop)(k:Nat)(_:Value)(h:GH):Prop:=k=n->Fr h
theorem FrW.mono{n:Nat}{Fr:GH->Prop}(m:∀h1 h2,GH.Le h1 h2->Fr h1->Fr h2):∀k v h1 h2,GH.Le h1 h2->FrW n Fr k v h1->FrW n Fr k v h2:=λ_ _ _ _ l x e=>m _ _ l (x e)
abbrev LoIs(O:Nat->Value)(o:Option Operand)(lo d:Nat):Prop:=match o with
 | none=>lo=d
 | some o=>∃kd,AN O o=.int kd lo
def Kv(m:Nat):Kd×Nat:=if 1000<=m then (if m%2=0 then .l else .b,(m-1000) / 2) else (match m%5 with | 0=>.p | 1=>.r | 2=>.e | 3=>.w | _=>.a,m / 5)
def dK:List Nat->List (Kd×Nat)
 | []=>[]
 | m ::l=>Kv m ::dK l
theorem Cm{id:Nat}{l:List Oper}{O:Nat->Value}{ds:List Deferred}{h:GH}{Q:Post}(n:Nat)(fl:Bool)(π:List Nat)(hm:P.follows .mixedOrders=true)
  (ok:PE l (l.take n) 0 [] (λcls=>PG P E.N l n cls fl (dK π))=true) (x:TD E l n fl h ds (λ_ _ _=>True) (λσ' h'=>DN E l.toArray (l.drop n) σ' ds h' Q) (dK π) O h):Tr E (.region id l.toArray true) O ds h Q:=
 let ⟨cls,h1⟩:=Hr ok
 tr_td n cls fl (dK π) hm (λ_ _ _ _ _ y=>y) trivial h1 x λ_ _ y=>y
theorem LH{id:Nat}{l:List Oper}{O:Nat->Value}{ds:List Deferred}{h:GH}{Q:Post}(F:(Nat->Value)->GH->Prop)(n:Nat)(fl:Bool)(π:List Nat)(hm:P.follows .mixedOrders=true)
  (ok:PE l (l.take n) 0 [] (λcls=>PG P E.N l n cls fl (dK π))=true) (x:TD E l n fl h ds (λ_ _ _=>True) F (dK π) O h) (y:∀σ' h',F σ' h'->DN E l.toArray (l.drop n) σ' ds h' Q):Tr E (.region id l.toArray true) O ds h Q:=
 let ⟨cls,h1⟩:=Hr ok
 tr_td n cls fl (dK π) hm (λ_ _ _ _ _ y=>y) trivial h1 x y
theorem Mn{id:Nat}{l:List Oper}{O:Nat->Value}{ds:List Deferred}{h:GH}{Q:Post}(n:Nat)(Lw:Nat->Value->GH->Prop)(hL:∀k v h1 h2,GH.Le h1 h2->Lw k v h1->Lw k v h2)(hF:Lw n undef h)(fl:Bool)(π:List Nat)(hm:P.follows .mixedOrders=true)
  (ok:PE l (l.take n) 0 [] (λcls=>PG P E.N l n cls fl (dK π))=true) (x:TD E l n fl h ds Lw (λσ' h'=>DN E l.toArray (l.drop n) σ' ds h' Q) (dK π) O h):Tr E (.region id l.toArray true) O ds h Q:=
 let ⟨cls,h1⟩:=Hr ok
 tr_td n cls fl (dK π) hm hL hF h1 x λ_ _ y=>y
section
variable {l:List Oper} {n:Nat} {fl:Bool} {hs:GH} {ds:List Deferred} {Lw:Nat->Value->GH->Prop} {F:(Nat->Value)->GH->Prop} {π:List Nat} {O:Nat->Value} {h:GH} {m k g d:Nat} {dst:Option Nat} {op:Op} {ty:TypeId} {pos:String} {af:Array Edge} {v:Value} {w is:Bool} {og:Oper}
theorem vz{V β γ:Type}{a:V}{b:β}{c:γ}:a=a/\b=b/\c=c:=⟨rfl,rfl,rfl⟩
theorem tP(hk:Kv m=(.p,k))(ho:l[k]? =some ⟨dst,op,ty,pos,af,none⟩)(x:∀hx,Tk E ⟨dst,op,ty,pos,af,none⟩ O ds hx v)(y:TD E l n fl hs ds Lw F (dK π) (putS O dst v) h):TD E l n fl hs ds Lw F (dK (m ::π)) O h:=by
 unfold dK;rw [hk];exact ⟨_,true,ho,rfl,λe=>(by cases e),λ_=>⟨v,λhx _=>x hx,y⟩⟩
theorem tR(hk:Kv m=(.r,k))(ho:l[k]? =some ⟨dst,op,ty,pos,af,none⟩)(x:Tk E ⟨dst,op,ty,pos,af,none⟩ O ds h v)(y:TD E l n fl hs ds Lw F (dK π) (putS O dst v) h):TD E l n fl hs ds Lw F (dK (m ::π)) O h:=by
 unfold dK;rw [hk];exact ⟨_,true,ho,rfl,λe=>(by cases e),λ_=>⟨v,x,y⟩⟩
theorem tE(hk:Kv m=(.e,k))(ho:l[k]? =some ⟨dst,op,ty,pos,af,none⟩)
  (x:BU E ⟨dst,op,ty,pos,af,none⟩ O ds h λσ' ds' h'=>ds'=ds/\∃v,σ'=putS O dst v/\h.Le h'/\TD E l n false hs ds Lw F (dK π) (putS O dst v) h'):TD E l n false hs ds Lw F (dK (m ::π)) O h:=by
 unfold dK;rw [hk];exact ⟨_,true,ho,rfl,λe=>(by cases e),λ_ hx hg=>by rw [hg.2 rfl];exact x⟩
theorem tEf(hk:Kv m=(.e,k))(ho:l[k]? =some ⟨dst,op,ty,pos,af,none⟩)
  (x:∀hx,h.Le hx->BU E ⟨dst,op,ty,pos,af,none⟩ O ds hx λσ' ds' h'=>ds'=ds/\∃v,σ'=putS O dst v/\hx.Le h'/\TD E l n true hs ds Lw F (dK π) (putS O dst v) h'):TD E l n true hs ds Lw F (dK (m ::π)) O h:=by
 unfold dK;rw [hk];exact ⟨_,true,ho,rfl,λe=>(by cases e),λ_ hx hg=>x hx hg.1⟩
theorem tW(hk:Kv m=(.w,k))(ho:l[k]? =some ⟨dst,op,ty,pos,af,none⟩)
  (x:BU E ⟨dst,op,ty,pos,af,none⟩ O ds h λσ' ds' h'=>ds'=ds/\∃v,σ'=putS O dst v/\TD E l n false hs ds (λ_ _ _=>True) F (dK π) (putS O dst v) h'):TD E l n false hs ds (λ_ _ _=>True) F (dK (m ::π)) O h:=by
 unfold dK;rw [hk];exact ⟨_,true,ho,rfl,λe=>(by cases e),λ_ hx hg=>by rw [hg.2 rfl];exact x.mono λ_ _ _ q=>⟨q.1,by obtain ⟨v,e,y⟩:=q.2;exact ⟨v,e,trivial,y⟩⟩⟩
theorem tWL(hk:Kv m=(.w,k))(ho:l[k]? =some ⟨dst,op,ty,pos,af,none⟩)
  (x:BU E ⟨dst,op,ty,pos,af,none⟩ O ds h λσ' ds' h'=>ds'=ds/\∃v,σ'=putS O dst v/\Lw n undef h'/\TD E l n false hs ds Lw F (dK π) (putS O dst v) h'):TD E l n false hs ds Lw F (dK (m ::π)) O h:=by
 unfold dK;rw [hk];exact ⟨_,true,ho,rfl,λe=>(by cases e),λ_ hx hg=>by rw [hg.2 rfl];exact x⟩
theorem tWfL(hk:Kv m=(.w,k))(ho:l[k]? =some ⟨dst,op,ty,pos,af,none⟩)
  (x:∀hx,h.Le hx->BU E ⟨dst,op,ty,pos,af,none⟩ O ds hx λσ' ds' h'=>ds'=ds/\∃v,σ'=putS O dst v/\Lw n undef h'/\TD E l n false hs ds Lw F (dK π) (putS O dst v) h'):TD E l n true hs ds Lw F (dK (m ::π)) O h:=by
 unfold dK;rw [hk];exact ⟨_,true,ho,rfl,λe=>(by cases e),λ_ hx hg=>x hx hg.1⟩
theorem tA{t:TypeId}{z:Array Value}(hk:Kv m=(.a,k))(ho:l[k]? =some ⟨dst,.alloc t,ty,pos,af,none⟩)(hz:Bt P t=some z)
  (x:∀r hx,h.Le hx->hs r=none->hx r=some (true,.cells z t (0,0))->TD E l n true hs ds Lw F (dK π) (putS O dst (.pointer (some ⟨r,0,none⟩))) hx):TD E l n true hs ds Lw F (dK (m ::π)) O h:=by
 unfold dK;rw [hk];refine ⟨_,true,ho,rfl,λe=>(by cases e),λ_ t' r hx e l2 hr hb=>?_⟩;cases e;exact x r hx l2 hr (by rw [hb];unfold zOf;rw [hz];rfl)
theorem tF(hk:Kv m=(.p,k))(ho:l[k]? =some ⟨dst,op,ty,pos,af,none⟩)(x:∀hx,Lw n undef hx->Tk E ⟨dst,op,ty,pos,af,none⟩ O ds hx v)(y:TD E l n fl hs ds Lw F (dK π) (putS O dst v) h):TD E l n fl hs ds Lw F (dK (m ::π)) O h:=by
 unfold dK;rw [hk];exact ⟨_,true,ho,rfl,λe=>(by cases e),λ_=>⟨v,x,y⟩⟩
theorem tL(hk:Kv m=(.l,k))(ho:l[k]? =some ⟨dst,op,ty,pos,af,none⟩)
  (x:∀hx,h.Le hx->BU E ⟨dst,op,ty,pos,af,none⟩ O ds hx λσ' ds' h'=>ds'=ds/\∃v,σ'=putS O dst v/\hx.Le h'/\Lw k v h') (y:TD E l n fl hs ds Lw F (dK π) O h):TD E l n fl hs ds Lw F (dK (m ::π)) O h:=by
 unfold dK;rw [hk];exact ⟨_,true,ho,rfl,λe=>(by cases e),λ_=>⟨x,y⟩⟩
theorem tB(hk:Kv m=(.b,k))(ho:l[k]? =some ⟨dst,op,ty,pos,af,none⟩)(x:∀v hx,h.Le hx->Lw k v hx->TD E l n fl hs ds Lw F (dK π) (putS O dst v) hx):TD E l n fl hs ds Lw F (dK (m ::π)) O h:=by
 unfold dK;rw [hk];exact ⟨_,true,ho,rfl,λe=>(by cases e),λ_=>x⟩
theorem HT(h1:l[g]? =some og)(h2:og.dst=some d)(h3:O d=.bool w):Gd l ⟨dst,op,ty,pos,af,some (g,w)⟩ O true:=⟨og,d,.bool w,h1,h2,h3,by cases w <;> rfl⟩
theorem tPg(hk:Kv m=(.p,k))(ho:l[k]? =some ⟨dst,op,ty,pos,af,some (g,w)⟩)(h1:l[g]? =some og)(h2:og.dst=some d)(h3:O d=.bool w)(x:∀hx,Tk E ⟨dst,op,ty,pos,af,some (g,w)⟩ O ds hx v)
  (y:TD E l n fl hs ds Lw F (dK π) (putS O dst v) h):TD E l n fl hs ds Lw F (dK (m ::π)) O h:=by
 unfold dK;rw [hk];exact ⟨_,true,ho,HT h1 h2 h3,λe=>(by cases e),λ_=>⟨v,λhx _=>x hx,y⟩⟩
theorem tRg(hk:Kv m=(.r,k))(ho:l[k]? =some ⟨dst,op,ty,pos,af,some (g,w)⟩)(h1:l[g]? =some og)(h2:og.dst=some d)(h3:O d=.bool w)(x:Tk E ⟨dst,op,ty,pos,af,some (g,w)⟩ O ds h v)
  (y:TD E l n fl hs ds Lw F (dK π) (putS O dst v) h):TD E l n fl hs ds Lw F (dK (m ::π)) O h:=by
 unfold dK;rw [hk];exact ⟨_,true,ho,HT h1 h2 h3,λe=>(by cases e),λ_=>⟨v,x,y⟩⟩
theorem SA(hk:Kv m=(.e,k))(ho:l[k]? =some ⟨dst,op,ty,pos,af,some (g,w)⟩)(h1:l[g]? =some og)(h2:og.dst=some d)(h3:O d=.bool w)
  (x:BU E ⟨dst,op,ty,pos,af,some (g,w)⟩ O ds h λσ' ds' h'=>ds'=ds/\∃v,σ'=putS O dst v/\h.Le h'/\TD E l n false hs ds Lw F (dK π) (putS O dst v) h'):TD E l n false hs ds Lw F (dK (m ::π)) O h:=by
 unfold dK;rw [hk];exact ⟨_,true,ho,HT h1 h2 h3,λe=>(by cases e),λ_ hx hg=>by rw [hg.2 rfl];exact x⟩
theorem tS{kd:Kd}(hk:Kv m=(kd,k))(ho:l[k]? =some ⟨dst,op,ty,pos,af,some (g,w)⟩)(h1:l[g]? =some og)(h2:og.dst=some d)(h3:O d=.bool is)(hne:(is==w)=false)
  (y:TD E l n fl hs ds Lw F (dK π) (putS O dst undef) h) (hl:(kd !=Kd.l)=true:=by rfl):TD E l n fl hs ds Lw F (dK (m ::π)) O h:=by
 unfold dK;rw [hk];exact ⟨_,false,ho,⟨og,d,.bool is,h1,h2,h3,hne.symm⟩,λ_=>(by cases kd <;> first | exact y | cases hl),λe=>(by cases e)⟩
theorem tSL(hk:Kv m=(.l,k))(ho:l[k]? =some ⟨dst,op,ty,pos,af,some (g,w)⟩)(h1:l[g]? =some og)(h2:og.dst=some d)(h3:O d=.bool is)(hne:(is==w)=false)
  (y:TD E l n fl hs ds Lw F (dK π) O h):TD E l n fl hs ds Lw F (dK (m ::π)) O h:=by
 unfold dK;rw [hk];exact ⟨_,false,ho,⟨og,d,.bool is,h1,h2,h3,hne.symm⟩,λ_=>y,λe=>(by cases e)⟩
theorem tEfg(hk:Kv m=(.e,k))(ho:l[k]? =some ⟨dst,op,ty,pos,af,some (g,w)⟩)(h1:l[g]? =some og)(h2:og.dst=some d)(h3:O d=.bool w)
  (x:∀hx,h.Le hx->BU E ⟨dst,op,ty,pos,af,some (g,w)⟩ O ds hx λσ' ds' h'=>ds'=ds/\∃v,σ'=putS O dst v/\hx.Le h'/\TD E l n true hs ds Lw F (dK π) (putS O dst v) h'):TD E l n true hs ds Lw F (dK (m ::π)) O h:=by
 unfold dK;rw [hk];exact ⟨_,true,ho,HT h1 h2 h3,λe=>(by cases e),λ_ hx hg=>x hx hg.1⟩
theorem tWfLg(hk:Kv m=(.w,k))(ho:l[k]? =some ⟨dst,op,ty,pos,af,some (g,w)⟩)(h1:l[g]? =some og)(h2:og.dst=some d)(h3:O d=.bool w)
  (x:∀hx,h.Le hx->BU E ⟨dst,op,ty,pos,af,some (g,w)⟩ O ds hx λσ' ds' h'=>ds'=ds/\∃v,σ'=putS O dst v/\Lw n undef h'/\TD E l n false hs ds Lw F (dK π) (putS O dst v) h'):TD E l n true hs ds Lw F (dK (m ::π)) O h:=by
 unfold dK;rw [hk];exact ⟨_,true,ho,HT h1 h2 h3,λe=>(by cases e),λ_ hx hg=>x hx hg.1⟩
theorem tLg(hk:Kv m=(.l,k))(ho:l[k]? =some ⟨dst,op,ty,pos,af,some (g,w)⟩)(h1:l[g]? =some og)(h2:og.dst=some d)(h3:O d=.bool w)
  (x:∀hx,h.Le hx->BU E ⟨dst,op,ty,pos,af,some (g,w)⟩ O ds hx λσ' ds' h'=>ds'=ds/\∃v,σ'=putS O dst v/\hx.Le h'/\Lw k v h') (y:TD E l n fl hs ds Lw F (dK π) O h):TD E l n fl hs ds Lw F (dK (m ::π)) O h:=by
 unfold dK;rw [hk];exact ⟨_,true,ho,HT h1 h2 h3,λe=>(by cases e),λ_=>⟨x,y⟩⟩
theorem tBg(hk:Kv m=(.b,k))(ho:l[k]? =some ⟨dst,op,ty,pos,af,some (g,w)⟩)(h1:l[g]? =some og)(h2:og.dst=some d)(h3:O d=.bool w)(x:∀v hx,h.Le hx->Lw k v hx->TD E l n fl hs ds Lw F (dK π) (putS O dst v) hx):TD E l n fl hs ds Lw F (dK (m ::π)) O h:=by
 unfold dK;rw [hk];exact ⟨_,true,ho,HT h1 h2 h3,λe=>(by cases e),λ_=>x⟩
theorem tN(x:F O h):TD E l n false hs ds Lw F (dK []) O h:=λhx hg=>by rw [hg.2 rfl];exact x
theorem tNf(x:∀hx,h.Le hx->F O hx):TD E l n true hs ds Lw F (dK []) O h:=λhx hg=>x hx hg.1
section
variable {V:Type} {enc:V->Array Value} {xs:List V} {h0:GH} {t:TypeId} {a ix:Operand} {z:Nat} {sv:Value} {kd:IntKind} {i:Int}
theorem tI(hk:Kv m=(.p,k))(ho:l[k]? =some ⟨dst,.indexAddr t a ix,ty,pos,af,none⟩)(ht:Ef P t=some z)(hs':AL h0 sv z enc xs)(hx:AN O a=sv)(hi:AN O ix=.int kd i)(h0':0<=i)(h1:i<xs.length)
  (y:∀b off,AY h0 b off z (enc (xs[i.toNat]' aA))->TD E l n fl hs ds Lw F (dK π) (putS O dst (.pointer (some ⟨b,off,none⟩))) h):TD E l n fl hs ds Lw F (dK (m ::π)) O h:=by
 obtain ⟨p,cap,rfl,_,_,he⟩:=hs';obtain ⟨b,off,rfl,hb⟩:=he i.toNat aA;exact tP hk ho (λ_=>Bi ht hx hi h0' h1 vz) (y b _ hb)
theorem tSl{olo ohi:Option Operand}(lo hi:Nat)(hk:Kv m=(.p,k))(ho:l[k]? =some ⟨dst,.slice t a olo ohi none,ty,pos,af,none⟩)(ht:Ef P t=some z)(hs':AL h0 sv z enc xs)(hx:AN O a=sv)
  (hlo:LoIs O olo lo 0) (hhi:LoIs O ohi hi xs.length) (h1:lo<=hi) (h2:hi<=xs.length)
  (y:∀v',AL h0 v' z enc ((xs.take hi).drop lo)->TD E l n fl hs ds Lw F (dK π) (putS O dst v') h):TD E l n fl hs ds Lw F (dK (m ::π)) O h:=by
 have h3:=hs';obtain ⟨p,cap,rfl,hc,_,_⟩:=hs';exact tP hk ho (λ_=>KR lo hi ht hc hx hlo hhi h1 h2 vz) (y _ (h3.part h1 h2))
theorem tIg(hk:Kv m=(.p,k))(ho:l[k]? =some ⟨dst,.indexAddr t a ix,ty,pos,af,some (g,w)⟩)(h1':l[g]? =some og)(h2':og.dst=some d)(h3':O d=.bool w)(ht:Ef P t=some z)(hs':AL h0 sv z enc xs)(hx:AN O a=sv)(hi:AN O ix=.int kd i)(h0':0<=i)(h1:i<xs.length)
  (y:∀b off,AY h0 b off z (enc (xs[i.toNat]' aA))->TD E l n fl hs ds Lw F (dK π) (putS O dst (.pointer (some ⟨b,off,none⟩))) h):TD E l n fl hs ds Lw F (dK (m ::π)) O h:=by
 obtain ⟨p,cap,rfl,_,_,he⟩:=hs';obtain ⟨b,off,rfl,hb⟩:=he i.toNat aA;exact tPg hk ho h1' h2' h3' (λ_=>Bi ht hx hi h0' h1 vz) (y b _ hb)
end
theorem eT{h':GH}{π':List (Kd×Nat)}(l2:h.Le h')(y:TD E l n fl hs ds Lw F π' (putS O dst v) h'):ds=ds/\∃v',putS O dst v=putS O dst v'/\h.Le h'/\TD E l n fl hs ds Lw F π' (putS O dst v') h':=⟨rfl,v,rfl,l2,y⟩
theorem wTL{h':GH}{π':List (Kd×Nat)}(fr:Lw n undef h')(y:TD E l n fl hs ds Lw F π' (putS O dst v) h'):ds=ds/\∃v',putS O dst v=putS O dst v'/\Lw n undef h'/\TD E l n fl hs ds Lw F π' (putS O dst v') h':=⟨rfl,v,rfl,fr,y⟩
theorem wT{h':GH}{π':List (Kd×Nat)}(y:TD E l n fl hs ds Lw F π' (putS O dst v) h'):ds=ds/\∃v',putS O dst v=putS O dst v'/\TD E l n fl hs ds Lw F π' (putS O dst v') h':=⟨rfl,v,rfl,y⟩
end
theorem L4{X:Prop}{p:Prop}[Decidable p](a:p->X)(b:¬p->X):X:=if h:p then a h else b h
theorem PH{X:Prop}{b:Bool}(x:b=true->X)(y:b=false->X):X:=by cases b with
 | true=>exact x rfl
 | false=>exact y rfl
end
end Go.Ns
namespace Go.Ns
def eI(i:Int):Array Value:=#[.int .i64 i]
def eB(i:Int):Array Value:=#[.int .u8 i]
structure Good where
 name:ByteArray
 cost:Int
 pack:Int
 low:Int
 high:Int
structure H8 where
 kind:Int
 good:Int
 day:Int
 low:Int
 high:Int
structure Jd where
 good:Int
 day:Int
 low:Int
 high:Int
structure To where
 first:Nat->Int
 many:Nat->Int
 lies:Nat->Bool
def realOf(p:To)(i:Nat):Int:=if p.lies i then 0 else p.many i
def Good.z:Good:=⟨⟨#[]⟩,0,0,0,0⟩
def H8.z:H8:=⟨0,0,0,0,0⟩
def Jd.z:Jd:=⟨0,0,0,0⟩
theorem CQ{V:Type}{xs:List V}{i:Nat}(d:V)(hi:i<xs.length):xs.getD i d=xs[i]'hi:=by
 simp [List.getD_eq_getElem?_getD,List.getElem?_eq_getElem hi]
theorem AY.getD{V:Type}{h:GH}{b off n:Nat}{enc:V->Array Value}{xs:List V}{i:Nat}{hi:i<xs.length}(d:V)(x:AY h b off n (enc (xs[i]'hi))):AY h b off n (enc (xs.getD i d)):=by
 rw [CQ d hi];exact x
theorem Dd{V:Type}{a:List V}{k:Nat}(d:V)(ha:k<a.length):a.take (k+1)=a.take k++[a.getD k d]:=by
 rw [List.take_succ_eq_append_getElem ha,CQ d ha]
theorem PI{V:Type}{a b:List V}{k:Nat}(d:V)(h:a.take k=b.take k)(ha:k<a.length)(hb:k<b.length)(e:a.getD k d=b.getD k d):a.take (k+1)=b.take (k+1):=by
 rw [Dd d ha,Dd d hb,h,e]
theorem Tp{a b:List Int}{k:Nat}(h:a.take k=b.take k)(hk:k<=a.length)(hk':¬(k:Int)<a.length)(hl:(a.length:Int)=b.length):a=b:=by
 have h1:k=a.length:=aA
 have h2:b.length=a.length:=aA
 rw [h1,List.take_length,<-h2,List.take_length] at h;exact h
theorem ne_len{V:Type}{a b:List V}(h:¬(a.length:Int)=b.length):¬a=b:=λe=>h (by rw [e])
theorem ne_getD{V:Type}{a b:List V}{k:Nat}{d:V}(e:¬a.getD k d=b.getD k d):¬a=b:=λh=>e (by rw [h])
theorem has_hit{a:List Int}{k:Nat}{n:Int}(hk:(k:Int)<a.length)(e:a.getD k 0=n):n ∈ a:=by
 have hk':k<a.length:=aA
 rw [CQ 0 hk'] at e;exact e▸List.getElem_mem hk'
theorem has_next{a:List Int}{k:Nat}{n:Int}(hk:(k:Int)<a.length)(h:¬n ∈ a.take k)(e:¬a.getD k 0=n):¬n ∈ a.take (k+1):=by
 rw [Dd 0 aA];simp only [List.mem_append,List.mem_singleton,not_or];exact ⟨h,λq=>e q.symm⟩
theorem has_end{a:List Int}{k:Nat}{n:Int}(hk:¬(k:Int)<a.length)(h:¬n ∈ a.take k):¬n ∈ a:=by
 rwa [List.take_of_length_le aA] at h
def Ei(c:Int):Prop:=97<=c/\c<=122
def E3(c:Int):Prop:=48<=c/\c<=57
instance (c:Int):Decidable (Ei c):=inferInstanceAs (Decidable (_/\_))
instance (c:Int):Decidable (E3 c):=inferInstanceAs (Decidable (_/\_))
def idxOf{V:Type}(p:V->Bool):List V->Int
 | []=> -1
 | x ::l=>if p x then 0 else if idxOf p l<0 then-1 else idxOf p l+1
theorem PJ{V:Type}(p:V->Bool):∀l:List V,-1<=idxOf p l
 | []=>by simp [idxOf]
 | x ::l=>by have:=PJ p l;unfold idxOf;split <;> (try split) <;> omega
theorem E4{V:Type}(p:V->Bool):∀l:List V,(0<=idxOf p l)↔l.any p=true
 | []=>by simp [idxOf]
 | x ::l=>by
  have:=E4 p l
  have h2:=PJ p l;unfold idxOf;cases hp:p x with
  | true=>simp [hp]
  | false=>
   simp only [Bool.false_eq_true,if_false,List.any_cons,hp,Bool.false_or];rw [<-this];split <;> omega
theorem Hi{V:Type}{p:V->Bool}{l:List V}{k:Nat}{d:V}(hk:(k:Int)<l.length)(h:(l.take k).any p=false)(e:p (l.getD k d)=true):idxOf p l=k:=by
 induction l generalizing k with
 | nil=>simp at hk;omega
 | cons x l ih=>
  unfold idxOf;cases k with
  | zero=>simp at e;simp [e]
  | succ k=>
   simp only [List.take_succ_cons,List.any_cons,Bool.or_eq_false_iff] at h;rw [h.1]
   have:=ih (k:=k) (by simp at hk;omega) h.2 (by simpa using e)
   rw [this];simp only [Bool.false_eq_true,if_false];rw [if_neg aA];omega
theorem GT{V:Type}{p:V->Bool}{l:List V}{k:Nat}(hk:¬(k:Int)<l.length)(h:(l.take k).any p=false):idxOf p l= -1:=by
 rw [List.take_of_length_le aA] at h
 have:=E4 p l
 have h2:=PJ p l;rw [h] at this;simp at this;omega
theorem EN{V:Type}{p:V->Bool}{l:List V}{k:Nat}{d:V}(hk:(k:Int)<l.length)(h:(l.take k).any p=false)(e:p (l.getD k d)=false):(l.take (k+1)).any p=false:=by
 rw [Dd d aA,List.any_append,h];simp only [Bool.false_or,List.any_cons,List.any_nil,Bool.or_false,e]
theorem BO{V:Type}{l:List V}{k:Nat}{d:V}(hk:k<l.length):l.getD k d ∈ l:=by
 rw [CQ d hk];exact List.getElem_mem hk
def Cv(f:Nat->Int):Nat->Nat->Int
 | _,0=>0
 | i,n+1=>if f i=0 then Cv f (i+1) n else f i
theorem PK{f:Nat->Int}{c:Int}:∀{n i k:Nat},(∀j,i<=j->j<i+k->f j=0)->k<n->f (i+k)=c->c≠0->Cv f i n=c
 | 0,i,k,_,hk,_,_=>aA
 | n+1,i,0,_,_,e,hc=>by unfold Cv;rw [Nat.add_zero] at e;rw [e,if_neg hc]
 | n+1,i,k+1,h,hk,e,hc=>by
  unfold Cv;rw [if_pos (h i (Nat.le_refl _) aA)];exact PK (k:=k) (λj h1 h2=>h j aA aA) aA (by rw [<-e];congr 1;omega) hc
theorem Np{f:Nat->Int}:∀{n i:Nat},(∀j,i<=j->j<i+n->f j=0)->Cv f i n=0
 | 0,_,_=>rfl
 | n+1,i,h=>by
  unfold Cv;rw [if_pos (h i (Nat.le_refl _) aA)];exact Np λj h1 h2=>h j aA aA
theorem De{f:Nat->Int}{k:Nat}(h:∀j,j<k->f j=0)(e:f k=0):∀j,j<k+1->f j=0:=λj hj=>by
 rcases Nat.lt_or_ge j k with q | q
 ·exact h j q
 ·rw [show j=k by omega];exact e
theorem BK{f:Nat->Int}{c:Int}{n k:Nat}(h:∀j,j<k->f j=0)(hk:k<n)(e:f k=c)(hc:c≠0):Cv f 0 n=c:=
 PK (i:=0) (k:=k) (λj _ hj=>h j aA) hk (by rw [Nat.zero_add];exact e) hc
theorem Bj{f:Nat->Int}{n k:Nat}(h:∀j,j<k->f j=0)(hk:n<=k):Cv f 0 n=0:=Np λj _ hj=>h j aA
def IU(s:ByteArray)(k:Nat):Int:=if¬Ei ((bytesOf s).getD k 0)/\(k=0\/¬E3 ((bytesOf s).getD k 0)) then 1 else 0
def Ej(s:ByteArray):Bool:=decide (Cv (IU s) 0 s.size=0) && decide (1<=(s.size:Int)/\(s.size:Int)<=10)
theorem Kw(s:ByteArray)(k:Nat):0<=(bytesOf s).getD k 0/\(bytesOf s).getD k 0<=255:=by
 by_cases h:k<(bytesOf s).length
 ·rw [CQ 0 h];have h2:k<s.data.toList.length:=by rw [C2] at h;rw [Array.length_toList];exact h
  have e:(bytesOf s)[k]'h=((s.data.toList[k]'h2).toNat:Int):=List.getElem_map _;rw [e]
  have:=(s.data.toList[k]'h2).toNat_lt
  omega
 ·simp only [List.getD_eq_getElem?_getD];rw [List.getElem?_eq_none aA];decide
theorem PL{s:ByteArray}{k:Nat}(h:∀j,j<k->IU s j=0)(hk:k<s.size)(e:IU s k=1):Ej s=false:=by
 unfold Ej;rw [BK h hk e aC];simp
theorem PM{s:ByteArray}{k:Nat}(h:∀j,j<k->IU s j=0)(hk:s.size<=k):Ej s=decide (1<=(s.size:Int)/\(s.size:Int)<=10):=by
 unfold Ej;rw [Bj h hk];simp
end Go.Ns
namespace Go.Ns
open Go.Conc
def Cd(lo:Int)(k:Nat):List Int:=(List.range k).map λ(j:Nat)=>lo+(j:Int)
def ED(lo hi:Int):List Int:=Cd lo (hi-lo+1).toNat
theorem Nq(lo:Int)(k:Nat):Cd lo (k+1)=Cd lo k++[lo+(k:Int)]:=by
 simp [Cd,List.range_succ]
theorem PN{lo n:Int}{k:Nat}:n ∈ Cd lo k↔lo<=n/\n<lo+k:=by
 simp only [Cd,List.mem_map,List.mem_range];constructor
 ·rintro ⟨j,hj,rfl⟩;omega
 ·rintro ⟨h1,h2⟩;exact ⟨(n-lo).toNat,aA,aA⟩
theorem ZL{lo hi n:Int}:n ∈ ED lo hi↔lo<=n/\n<=hi:=by
 unfold ED;rw [PN];omega
theorem WU{β:Type}{f:Int->List β}{lo hi:Int}{k:Nat}(h:¬lo+(k:Int)<=hi)(hk:(k:Int)<=hi-lo+1\/k=0):(Cd lo k).flatMap f=(ED lo hi).flatMap f:=by
 unfold ED;congr 2;omega
theorem Nr{β:Type}{f:Int->List β}{lo:Int}{k:Nat}:(Cd lo (k+1)).flatMap f=(Cd lo k).flatMap f++f (lo+k):=by
 rw [Nq,List.flatMap_append];simp
def Bp(X:Nat->Prop)(h h':GH):Prop:=∀b p o,h b=some (p,o)->¬X b->∃o',h' b=some (p,o')/\(o'=o\/(Jh o=true/\Jh o'=true))
theorem Bp.refl(X:Nat->Prop)(h:GH):Bp X h h:=λ_ _ o x _=>⟨o,x,.inl rfl⟩
theorem GH.Le.keepX{h h':GH}(l:h.Le h')(X:Nat->Prop):Bp X h h':=λb p o x _=>l b p o x
theorem Bp.trans{X X1:Nat->Prop}{a b c:GH}(x:Bp X a b)(hX:∀r,X1 r->X r\/a r=none)(y:Bp X1 b c):Bp X a c:=λr p o hr hn=>by
 obtain ⟨o1,h1,h2⟩:=x r p o hr hn;obtain ⟨o2,h3,h4⟩:=y r p o1 h1 λq=>(hX r q).elim hn λe=>by rw [e] at hr;cases hr
 refine ⟨o2,h3,?_⟩;rcases h2 with rfl | h2
 ·exact h4
 ·rcases h4 with rfl | h4
  ·exact .inr h2
  ·exact .inr ⟨h2.1,h4.2⟩
theorem Bp.box{X:Nat->Prop}{h h':GH}(x:Bp X h h'){b:Nat}{p:Bool}{o:Obj}(hb:h b=some (p,o))(hX:¬X b)(ho:Jh o=false):h' b=some (p,o):=by
 obtain ⟨o',h1,rfl | ⟨h2,_⟩⟩:=x b p o hb hX
 ·exact h1
 ·rw [ho] at h2;cases h2
theorem Bp.store{X:Nat->Prop}{h h1 h2:GH}(x:Bp X h h1){r:Nat}(hr:h r=none)(ho:∀b,b≠r->h2 b=h1 b):Bp X h h2:=λb p o hb hn=>by
 rw [ho b λe=>by subst e;rw [hr] at hb;cases hb];exact x b p o hb hn
structure GF{V:Type}(hB:GH)(I:List V->(Nat->Prop)->GH->Prop):Prop where
 dom:∀pre X h b,I pre X h->X b->∃p o,h b=some (p,o)/\Jh o=false
 stable:∀pre X h h',I pre X h->(∀b,X b->h' b=h b)->hB.Le h'->I pre X h'
theorem GF.le{V:Type}{hB:GH}{I:List V->(Nat->Prop)->GH->Prop}(P:GF hB I){pre:List V}{X:Nat->Prop}{h h':GH}(x:I pre X h)(l:h.Le h')(lB:hB.Le h'):I pre X h':=
 P.stable pre X h h' x (λb hb=>by
  obtain ⟨p,o,h1,h2⟩:=P.dom pre X h b x hb;rw [l.keep h1 h2,h1]) lB
theorem GF.store{V:Type}{hB:GH}{I:List V->(Nat->Prop)->GH->Prop}(P:GF hB I){pre:List V}{X:Nat->Prop}{h h':GH}(x:I pre X h){r:Nat}(hr:¬X r)(ho:∀b,b≠r->h' b=h b)(lB:hB.Le h'):I pre X h':=
 P.stable pre X h h' x (λb hb=>ho b λe=>hr (e▸hb)) lB
theorem GF.off{V:Type}{hB:GH}{I:List V->(Nat->Prop)->GH->Prop}(P:GF hB I){pre:List V}{X:Nat->Prop}{h:GH}(x:I pre X h){r:Nat}(hr:h r=none):¬X r:=λq=>by
 obtain ⟨p,o,h1,_⟩:=P.dom pre X h r x q;rw [hr] at h1;cases h1
theorem OS{X X1:Nat->Prop}{h:GH}(hX:∀r,X1 r->X r\/h r=none){r:Nat}{o:Bool×Obj}(hr:h r=some o)(n:¬X r):¬X1 r:=λq=>(hX r q).elim n λe=>by rw [e] at hr;cases hr
def ET{V:Type}(hB:GH)(I:List V->(Nat->Prop)->GH->Prop)(S:GH->Prop)(pre:List V)(X:Nat->Prop)(h:GH)(l:List V)(v:Value)(h':GH):Prop:=
 ∃ok X',v=.bool ok/\(∀b,X' b->X b\/h b=none)/\Bp X h h'/\hB.Le h'/\(ok=true->I (pre++l) X' h')/\(ok=false->S h')
structure PO{V:Type}{P:Program}(W:Wk P)(hB:GH)(yv:Value)(enc:V->Array Value)(I:List V->(Nat->Prop)->GH->Prop)(S:GH->Prop)(all:List V):Prop where
 prom:GF hB I
 one:yv.cells=#[yv]
 call:∀pre p post X h,all=pre++p ::post->I pre X h->hB.Le h->Bw W yv #[.agg (enc p)] h (ET hB I S pre X h [p])
structure EO{V:Type}(hB:GH)(I:List V->(Nat->Prop)->GH->Prop)(X0:Nat->Prop)(h:GH)(pre:List V)(X:Nat->Prop)(hc:GH):Prop where
 inv:I pre X hc
 sub:∀b,X b->X0 b\/h b=none
 keep:Bp X0 h hc
 base:hB.Le hc
section
variable {V:Type} {hB:GH} {I:List V->(Nat->Prop)->GH->Prop} {S:GH->Prop} {X0 X X1:Nat->Prop} {h hc h':GH} {pre l:List V}
theorem EO.start(x:I pre X h)(lB:hB.Le h):EO hB I X h pre X h:=⟨x,λ_ q=>.inl q,Bp.refl _ _,lB⟩
theorem EO.le(P:GF hB I)(y:EO hB I X0 h pre X hc)(l:hc.Le h'):EO hB I X0 h pre X h':=
 ⟨P.le y.inv l (y.base.trans l),y.sub,y.keep.trans (λ_ q=>.inl q) (l.keepX X0),y.base.trans l⟩
theorem EO.store(P:GF hB I)(y:EO hB I X0 h pre X hc){r:Nat}(hr:h r=none)(rB:hB r=none)(hn:¬X r)(ho:∀b,b≠r->h' b=hc b):EO hB I X0 h pre X h':=
 ⟨P.store y.inv hn ho (y.base.upd rB ho),y.sub,y.keep.store hr ho,y.base.upd rB ho⟩
theorem subX(s:∀b,X b->X0 b\/h b=none)(k:Bp X0 h hc)(s':∀b,X1 b->X b\/hc b=none):∀b,X1 b->X0 b\/h b=none:=λb q=>by
 rcases s' b q with q | q
 ·exact s b q
 ·by_cases q0:X0 b
  ·exact .inl q0
  ·refine .inr ?_;cases hb:h b with
   | none=>rfl
   | some x=>
    obtain ⟨o',h1,_⟩:=k b x.1 x.2 hb q0;rw [h1] at q;cases q
theorem EO.call(y:EO hB I X0 h pre X hc){v:Value}(r:ET hB I S pre X hc l v h') :
  ∃ok X',v=.bool ok/\(∀b,X' b->X b\/hc b=none)/\Bp X hc h'/\(ok=true->EO hB I X0 h (pre++l) X' h')/\(ok=false->∀l',ET hB I S pre X0 h l' (.bool false) h'):=by
 obtain ⟨ok,X',hv,hs,hk,hl,h1,h2⟩:=r;have kk:Bp X0 h h':=y.keep.trans y.sub hk;have ss:=subX y.sub y.keep hs;exact ⟨ok,X',hv,hs,hk,λe=>⟨h1 e,ss,kk,hl⟩,λe l'=>⟨false,X',rfl,ss,kk,hl,(λx=>by cases x),λ_=>h2 e⟩⟩
theorem EO.done(y:EO hB I X0 h (pre++l) X hc):ET hB I S pre X0 h l (.bool true) hc:=⟨true,X,rfl,y.sub,y.keep,y.base,λ_=>y.inv,λx=>by cases x⟩
theorem EO.pass{V:Type}{hB:GH}{I:List V->(Nat->Prop)->GH->Prop}{S:GH->Prop}{X0 X:Nat->Prop}{h hc h':GH}{pre:List V}{l:List V}{v:Value}(y:EO hB I X0 h pre X hc)(r:ET hB I S pre X hc l v h'):ET hB I S pre X0 h l v h':=by
 obtain ⟨ok,X',hv,hs,hk,hl,h1,h2⟩:=r;exact ⟨ok,X',hv,subX y.sub y.keep hs,y.keep.trans y.sub hk,hl,h1,h2⟩
theorem ET.stopped{pre':List V}{v:Value}(hv:v=.bool false)(r:∀l',ET hB I S pre X0 h l' (.bool false) h'):ET hB I S pre' X0 h l v h':=by
 obtain ⟨ok,X',e,hs,hk,hl,_,h2⟩:=r [];cases e;exact ⟨false,X',hv,hs,hk,hl,(λx=>by cases x),h2⟩
end
def CN{V:Type}(all pre l:List V):Prop:=∃post,all=pre++l++post
section
variable {V:Type} {all pre a b:List V}
theorem CN.left(w:CN all pre (a++b)):CN all pre a:=by
 obtain ⟨post,h⟩:=w;exact ⟨b++post,by rw [h];simp⟩
theorem CN.right(w:CN all pre (a++b)):CN all (pre++a) b:=by
 obtain ⟨post,h⟩:=w;exact ⟨post,by rw [h];simp⟩
theorem CN.one{p:V}(w:CN all pre [p]):∃post,all=pre++p ::post:=by
 obtain ⟨post,h⟩:=w;exact ⟨post,by rw [h];simp⟩
theorem WV(lo:Int)(i j:Nat):Cd lo (i+j)=Cd lo i++Cd (lo+i) j:=by
 unfold Cd;rw [List.range_add,List.map_append,List.map_map];congr 1;apply List.map_congr_left;intro x _;simp only [Function.comp];omega
theorem CN.round{lo hi:Int}{k:Nat}{F:Int->List V}(w:CN all pre ((ED lo hi).flatMap F))(hk:lo+(k:Int)<=hi):CN all (pre++(Cd lo k).flatMap F) (F (lo+k)):=by
 have e:ED lo hi=Cd lo k++([lo+(k:Int)]++Cd (lo+((k+1:Nat):Int)) ((hi-lo+1).toNat-(k+1))):=by
  unfold ED;rw [<-List.append_assoc,<-Nq,<-WV];congr 1;omega
 rw [e,List.flatMap_append,List.flatMap_append] at w;have w2:=w.right.left;simpa using w2
theorem CN.roundEnd{lo hi:Int}{k:Nat}{F:Int->List V}(h:¬lo+(k:Int)<=hi)(hk:(k:Int)<=hi-lo+1\/k=0):(ED lo hi).flatMap F=(Cd lo k).flatMap F:=(WU h hk).symm
end
section
variable {ag:To->Bool} {gs:List Good} {ms:List H8} {mo:Int} {f i k:Nat} {p pc:To} {all pre:List To} {lo hi x:Int}
end
theorem DM{f:Nat->Int}:∀{n i:Nat},Cv f i n=0->∀j,i<=j->j<i+n->f j=0
 | 0,i,_,j,h1,h2=>aA
 | n+1,i,h,j,h1,h2=>by
  unfold Cv at h;split at h
  ·rename_i e
   rcases Nat.eq_or_lt_of_le h1 with rfl | h3
   ·exact e
   ·exact DM h j h3 aA
  ·rename_i e;exact absurd h e
section
variable {d m:Int} {gs:List Good} {ms:List H8} {cs:List Jd}
theorem BZ{V:Type}{l:List V}{k:Nat}{z:V}(h:l.length<=k):l.getD k z=z:=by
 simp [List.getD_eq_getElem?_getD,List.getElem?_eq_none h]
variable {f y l:List Int}
end
section
variable {d m:Int} {gs:List Good} {ms:List H8} {cs:List Jd} {f y l:List Int}
end
theorem Up{V β:Type}{f:V->List β}{c:Nat}:∀{l:List V},(∀x ∈ l,(f x).length<=c)->(l.flatMap f).length<=l.length*c
 | [],_=>aD
 | x ::l,h=>by
  rw [List.flatMap_cons,List.length_append,List.length_cons,Nat.succ_mul];have h1:=h x aD;have h2:=Up (l:=l) λy hy=>h y (by simp [hy]);omega
theorem pre_len{V:Type}{all pre post:List V}{p:V}(h:all=pre++p ::post){n:Nat}(hn:all.length<=n):pre.length+1<=n:=by
 rw [h,List.length_append,List.length_cons] at hn;omega
theorem AL.one{V:Type}{h:GH}{v:Value}{n:Nat}{enc:V->Array Value}{xs:List V}(x:AL h v n enc xs):v.cells=#[v]/\v.oneCell'=true:=by
 obtain ⟨a,cap,rfl,_⟩:=x;exact ⟨rfl,rfl⟩
theorem EX{v:Value}(h:v.cells=#[v]/\v.oneCell'=true):Value.fine v=true:=by unfold Value.fine;rw [h.1];simp [h.2]
theorem EY{v:Value}(h:v.cells=#[v]/\v.oneCell'=true):v.cells.size=1:=by rw [h.1];rfl
theorem F2{v:Value}(h:v.cells=#[v]/\v.oneCell'=true){c c':Array Value}{o:Nat}(e:Bq c o [v]=c'):Bq c o v.cells.toList=c':=by rw [h.1];exact e
end Go.Ns
namespace Go.Ns
open Go.Conc
section
variable {P:Program} {E:GE P} {O:Nat->Value} {ds:List Deferred} {V:Type}
def Uq(hB:GH)(J:List V->(Nat->Prop)->GH->Prop)(Stop:Code->GH->Prop)(pre:List V)(Y:Nat->Prop)(h:GH)(l:Nat)(lo:Loop):Post:=λe _ _ h3=>
 h3 l=some (true,.loop { lo with state:=.busy })/\∃Y',(∀b,Y' b->Y b\/h b=none)/\Bp (λb=>Y b\/b=l) h h3/\hB.Le h3/\match e with
  | .normal=>J pre Y' h3
  | .exit id=>Stop (.exit id) h3
  | .ret=>Stop .ret h3
  | _=>False
def Nt(J:List V->(Nat->Prop)->GH->Prop)(l d:Nat)(lo:Loop)(pre:List V)(X:Nat->Prop)(h:GH):Prop:=
 ∃Y,J pre Y h/\(∀b,X b↔Y b\/b=l\/b=d)/\¬Y l/\¬Y d/\h l=some (true,.loop lo)/\h d=some (true,.deferred (some []))
def SB(Stop:Code->GH->Prop)(l d:Nat)(lo:Loop)(h:GH):Prop:=
 ∃c,Stop c h/\h l=some (true,.loop { lo with state:=.done,pending:=some c })/\h d=some (true,.deferred (some []))
def YEnd(hB:GH)(I:List V->(Nat->Prop)->GH->Prop)(Sp:GH->Prop)(all:List V)(X:Nat->Prop)(h h':GH):Prop:=
 ∃X',(∀b,X' b->X b\/h b=none)/\Bp X h h'/\hB.Le h'/\(I all X' h'\/Sp h')
theorem ET.final{hB:GH}{I:List V->(Nat->Prop)->GH->Prop}{Sp:GH->Prop}{all:List V}{X:Nat->Prop}{h h':GH}{v:Value}(r:ET hB I Sp [] X h all v h'):YEnd hB I Sp all X h h':=by
 obtain ⟨ok,X',hv,hs,hk,hl,h1,h2⟩:=r;cases ok with
 | true=>exact ⟨X',hs,hk,hl,.inl (h1 rfl)⟩
 | false=>exact ⟨X',hs,hk,hl,.inr (h2 rfl)⟩
theorem tr_range{enc:V->Array Value}{all:List V}{hB hc:GH}{J:List V->(Nat->Prop)->GH->Prop}{Stop:Code->GH->Prop}{Y0:Nat->Prop}{par:Tmp}{f:Operand}{assign body:Code}{Q:Post}
  (hrd:E.rd=none) (hpar:Nat.blt par E.N=true) (hJ:GF hB J) (hB0:hB.Le hc) (j0:J [] Y0 hc)
  (hS:∀c (h h':GH) l lo,Stop c h->h l=some (true,.loop lo)->(∀b,b≠l->h' b=h b)->Stop c h')
  (src:∀(yv:Value)(I:List V->(Nat->Prop)->GH->Prop)(Sp:GH->Prop)(X:Nat->Prop)(h:GH),PO E.wk hB yv enc I Sp all->hB.Le h->I [] X h->Bw E.wk (AN O f) #[yv] h λ_ h'=>YEnd hB I Sp all X h h')
  (round:∀(l d:Nat)(lo:Loop)(pre:List V)(p:V)(post:List V)(Y:Nat->Prop)(h:GH),all=pre++p ::post->J pre Y h->hB.Le h->hB l=none->¬Y l->h l=some (true,.loop lo)->
   Tr ⟨E.wk,E.fn,some l,E.N⟩ assign (upd O par (.agg (enc p))) [] h λe σ' ds' h1=>e=.normal/\h1 l=some (true,.loop lo)/\∀h2,h2 l=some (true,.loop { lo with state:=.busy })->(∀b,b≠l->h2 b=h1 b)->
    Tr ⟨E.wk,E.fn,some l,E.N⟩ body σ' ds' h2 (Uq hB J Stop (pre++[p]) Y h l lo))
  (fin:∀(d l:Nat)(h':GH),hB.Le h'->hB d=none->hB l=none->hc d=none->h' d=some (true,.deferred (some []))->
   (∀Y,J all Y h'->(∀b,Y b->b≠d)->Q .normal O ({ target:=.collected d,args:=#[] } ::ds) h')/\
   (∀c,Stop c h'->match c with
    | .exit id=>Q (.exit id) O ({ target:=.collected d,args:=#[] } ::ds) h'
    | .ret=>Q .ret O ({ target:=.collected d,args:=#[] } ::ds) h'
    | _=>False)):Tr E (.rangeFunc f #[par] assign body) O ds hc Q:=by
 refine L1 hrd λt d l hs hd hl hne=>?_;have hl':hB l=none:=hB0.nothing hl;have hd':hB d=none:=hB0.nothing hd;let lo:Loop:={ state:=.ready,pending:=none,fn:=E.fn,tmps:=t,params:=#[par],assign,body,defers:=d };have nYl:¬Y0 l:=hJ.off j0 hl;have nYd:¬Y0 d:=hJ.off j0 hd;have hL1:((hc.set d true (.deferred (some []))).set l true (.loop lo)) l=some (true,.loop lo):=GH.set_same _ _ _ _;have hL2:((hc.set d true (.deferred (some []))).set l true (.loop lo)) d=some (true,.deferred (some [])):=by rw [GH.set_ne _ _ _ (Ne.symm hne)];exact GH.set_same _ _ _ _
 have hL3:∀b,b≠l->b≠d->((hc.set d true (.deferred (some []))).set l true (.loop lo)) b=hc b:=λb h1 h2=>by rw [GH.set_ne _ _ _ h1,GH.set_ne _ _ _ h2]
 have hLB:hB.Le ((hc.set d true (.deferred (some []))).set l true (.loop lo)):=(hB0.trans (GH.Le.new hd _ _)).trans (GH.Le.new (by rw [GH.set_ne _ _ _ hne];exact hl) _ _);have hI0:Nt J l d lo [] (λb=>Y0 b\/b=l\/b=d) ((hc.set d true (.deferred (some []))).set l true (.loop lo)):=by
  refine ⟨Y0,hJ.stable _ _ hc _ j0 (λb hb=>hL3 b (λe=>nYl (e▸hb)) (λe=>nYd (e▸hb))) hLB,λb=>Iff.rfl,nYl,nYd,hL1,hL2⟩
 have prom:GF hB (Nt J l d lo):=by
  refine ⟨?_,?_⟩
  ·rintro pre X h b ⟨Y,j,hX,_,_,h1,h2⟩ hb;rcases (hX b).1 hb with h3 | rfl | rfl
   ·exact hJ.dom _ _ _ _ j h3
   ·exact ⟨_,_,h1,rfl⟩
   ·exact ⟨_,_,h2,rfl⟩
  ·rintro pre X h h' ⟨Y,j,hX,n1,n2,h1,h2⟩ same lB;refine ⟨Y,hJ.stable _ _ h h' j (λb hb=>same b ((hX b).2 (.inl hb))) lB,hX,n1,n2,?_,?_⟩
   ·rw [same l ((hX l).2 (.inr (.inl rfl)))];exact h1
   ·rw [same d ((hX d).2 (.inr (.inr rfl)))];exact h2
 have yk:PO E.wk hB (.func (.yield l) #[] #[]) enc (Nt J l d lo) (SB Stop l d lo) all:=by
  refine ⟨prom,rfl,?_⟩;rintro pre p post X h hall ⟨Y,j,hX,n1,n2,h1,h2⟩ lB;refine O8 h1 rfl ?_;have ef:(lo.params.zip #[Value.agg (enc p)]).foldl (λtmps x=>tmps.setIfInBounds x.1 x.2) lo.tmps=t.setIfInBounds par (.agg (enc p)):=by simp [lo]
  rw [ef];show Bb E.wk l E.fn (t.setIfInBounds par (.agg (enc p))) assign body h _;have hs':=hs.put hpar (.agg (enc p));refine Nm (N:=E.N) hs'.1 ?_;have e0:(λi=>(t.setIfInBounds par (.agg (enc p))).getD i undef)=upd O par (.agg (enc p)):=funext hs'.2;rw [e0];refine KN ?_ (round l d lo pre p post Y h hall j lB hl' n1 h1);rintro e σ' ds' ha ⟨rfl,ha1,hb⟩;refine ⟨rfl,lo,ha1,rfl,?_⟩;refine KN ?_ (hb _ (GH.set_same _ _ _ _) λb hb=>GH.set_ne _ _ _ hb);rintro e σ2 ds2 h3 ⟨g1,Y',g2,g3,g4,g5⟩;have hd3:h3 d=some (true,.deferred (some [])):=g3.box h2 (λq=>q.elim n2 (λe=>hne e.symm)) rfl;have nl:¬Y' l:=λq=>(g2 l q).elim n1 λe=>by rw [h1] at e;cases e
  have nd:¬Y' d:=λq=>(g2 d q).elim n2 λe=>by rw [h2] at e;cases e
  have key:∀(lo2:Loop)(ok:Bool),(if ok then J (pre++[p]) Y' (h3.set l true (.loop lo2))/\lo2=lo else SB Stop l d lo (h3.set l true (.loop lo2)))->ET hB (Nt J l d lo) (SB Stop l d lo) pre X h [p] (.bool ok) (h3.set l true (.loop lo2)):=by
   intro lo2 ok hok;refine ⟨ok,λb=>Y' b\/b=l\/b=d,rfl,?_,?_,?_,?_,?_⟩
   ·rintro b (hb | rfl | rfl)
    ·exact (g2 b hb).imp (λq=>(hX b).2 (.inl q)) id
    ·exact .inl ((hX _).2 (.inr (.inl rfl)))
    ·exact .inl ((hX _).2 (.inr (.inr rfl)))
   ·intro b q o hb hn;have nb:b≠l:=λe=>hn ((hX b).2 (.inr (.inl e)));rw [GH.set_ne _ _ _ nb];exact g3 b q o hb λq=>q.elim (λz=>hn ((hX b).2 (.inl z))) nb
   ·exact g4.upd hl' λb hb=>GH.set_ne _ _ _ hb
   ·rintro rfl;simp only [if_true] at hok;obtain ⟨hj,rfl⟩:=hok;exact ⟨Y',hj,λb=>Iff.rfl,nl,nd,GH.set_same _ _ _ _,by rw [GH.set_ne _ _ _ (Ne.symm hne)];exact hd3⟩
   ·rintro rfl;simpa using hok
  have js:∀(lo2:Loop),J (pre++[p]) Y' h3->J (pre++[p]) Y' (h3.set l true (.loop lo2)):=λlo2 hj=>hJ.store hj nl (λb hb=>GH.set_ne _ _ _ hb) (g4.upd hl' λb hb=>GH.set_ne _ _ _ hb);have ss:∀c (lo2:Loop),Stop c h3->Stop c (h3.set l true (.loop lo2)):=λc lo2 hc=>hS c h3 _ l _ hc g1 λb hb=>GH.set_ne _ _ _ hb;refine ⟨_,g1,?_⟩;cases e with
  | normal=>exact key _ true (by simp only [if_true];exact ⟨js _ g5,rfl⟩)
  | exit id=>exact key _ false (by simp only [Bool.false_eq_true,if_false];exact ⟨_,ss _ _ g5,GH.set_same _ _ _ _,by rw [GH.set_ne _ _ _ (Ne.symm hne)];exact hd3⟩)
  | ret=>exact key _ false (by simp only [Bool.false_eq_true,if_false];exact ⟨_,ss _ _ g5,GH.set_same _ _ _ _,by rw [GH.set_ne _ _ _ (Ne.symm hne)];exact hd3⟩)
  | goto _=>exact g5.elim
  | panic _=>exact g5.elim
  | outgrown=>exact g5.elim
 refine (src _ _ _ _ _ yk hLB hI0).mono ?_;rintro v h' ⟨X',hs',hk,hl2,hor⟩;rcases hor with ⟨Y,j,hX,n1,n2,h1,h2⟩ | ⟨c,hst,h1,h2⟩
 ·refine ⟨lo,h1,rfl,?_⟩;show Q .normal O _ _;have hB':=hl2.upd hl' (λb hb=>GH.set_ne h' true (.loop { lo with state:=.exhausted }) hb);refine (fin d l _ hB' hd' hl' hd (by rw [GH.set_ne _ _ _ (Ne.symm hne)];exact h2)).1 Y (hJ.store j n1 (λb hb=>GH.set_ne _ _ _ hb) hB') λb hb e=>n2 (e▸hb)
 ·refine ⟨_,h1,rfl,?_⟩;have hB':=hl2.upd hl' (λb hb=>GH.set_ne h' true (.loop { { lo with state:=.done,pending:=some c } with state:=.exhausted }) hb)
  have:=(fin d l _ hB' hd' hl' hd (by rw [GH.set_ne _ _ _ (Ne.symm hne)];exact h2)).2 c (hS c h' _ l _ hst h1 λb hb=>GH.set_ne _ _ _ hb)
  cases c with
  | exit id=>exact this
  | ret=>exact this
  | _=>exact this.elim
structure Ob(hB:GH)(X:Nat->Prop)(h hc:GH):Prop where
 keep:Bp X h hc
 base:hB.Le hc
 dom:∀b,X b->∃o,hc b=some o
section
variable {hB h hc h':GH} {X:Nat->Prop}
theorem GH.Le.someOf{h h':GH}(l:h.Le h'){b:Nat}(x:∃o,h b=some o):∃o,h' b=some o:=by
 obtain ⟨o,hb⟩:=x;obtain ⟨o',h1,_⟩:=l b o.1 o.2 hb;exact ⟨_,h1⟩
theorem Ob.start(lB:hB.Le h)(d:∀b,X b->∃o,h b=some o):Ob hB X h h:=⟨Bp.refl _ _,lB,d⟩
theorem Ob.le(r:Ob hB X h hc)(l:hc.Le h'):Ob hB X h h':=⟨r.keep.trans (λ_ q=>.inl q) (l.keepX X),r.base.trans l,λb hb=>l.someOf (r.dom b hb)⟩
theorem Ob.nothing(r:Ob hB X h hc){q:Nat}(hq:hc q=none):h q=none:=by
 cases hx:h q with
 | none=>rfl
 | some x=>
  by_cases hX:X q
  ·obtain ⟨o,ho⟩:=r.dom q hX;rw [hq] at ho;cases ho
  ·obtain ⟨o',h1,_⟩:=r.keep q x.1 x.2 hx hX;rw [hq] at h1;cases h1
theorem Ob.store(r:Ob hB X h hc){q:Nat}(hq:X q\/h q=none)(rB:hB q=none)(ho:∀b,b≠q->h' b=hc b)(hn:∃o,h' q=some o):Ob hB X h h':=
 ⟨λb p o hb hX=>by
   have nb:b≠q:=λe=>by
    subst e;rcases hq with hq | hq
    ·exact hX hq
    ·rw [hq] at hb;cases hb
   rw [ho b nb];exact r.keep b p o hb hX,
  r.base.upd rB ho,λb hb=>by
   by_cases e:b=q
   ·subst e;exact hn
   ·rw [ho b e];exact r.dom b hb⟩
theorem Bp.app{v v':Value}(k:Bp X h hc)(g:Fy hc h' v v')(hv:∀b,CP v=some b->X b):Bp X h h':=λb p o hb hX=>by
 obtain ⟨o',h1,h2⟩:=k b p o hb hX;exact ⟨o',g.1 b _ h1 λe=>hX (hv b e),h2⟩
theorem Bp.store'{q:Nat}(k:Bp X h hc)(hq:X q\/h q=none)(ho:∀b,b≠q->h' b=hc b):Bp X h h':=λb p o hb hX=>by
 have nb:b≠q:=λe=>by
  subst e;rcases hq with hq | hq
  ·exact hX hq
  ·rw [hq] at hb;cases hb
 rw [ho b nb];exact k b p o hb hX
end
def GH.del(h:GH)(r:Nat):GH:=λb=>if b=r then none else h b
theorem GH.del_le(h:GH)(r:Nat):(h.del r).Le h:=λb p o hb=>by
 unfold GH.del at hb;split at hb
 ·cases hb
 ·exact ⟨o,hb,.inl rfl⟩
theorem GH.del_none(h:GH)(r:Nat):h.del r r=none:=if_pos rfl
theorem GH.del_ne{h:GH}{r b:Nat}(e:b≠r):h.del r b=h b:=if_neg e
theorem GH.Le.del{h0 h:GH}(l:h0.Le h){r:Nat}(hr:h0 r=none):h0.Le (h.del r):=λb p o hb=>by
 rw [GH.del_ne (GH.ne_of hb hr)];exact l b p o hb
theorem AY.del{h:GH}{r b off n:Nat}{vs:Array Value}(x:AY h b off n vs)(e:b≠r):AY (h.del r) b off n vs:=x.same (GH.del_ne e)
theorem Tq{W:Wk P}{x v:Value}{args:Array Value}{h:GH}{R:Value->GH->Prop}(e:x=v)(k:Bw W v args h R):Bw W x args h R:=e▸k
def JCol{V:Type}(hB:GH)(r:Nat)(T t:TypeId)(n:Nat)(enc:V->Array Value)(pre:List V)(Y:Nat->Prop)(h:GH):Prop:=
 ∃w,h r=some (true,.cells #[w] T (0,0))/\AO hB h w t n enc pre/\Aw w r/\hB r=none/\∀b,Y b↔b=r\/CP w=some b
theorem AO.cellsAt{V:Type}{h0 h:GH}{v:Value}{t:TypeId}{n:Nat}{enc:V->Array Value}{xs:List V}(x:AO h0 h v t n enc xs):∀b,CP v=some b->∃c,h b=some (true,.cells c t (0,0)):=by
 intro b hb;rcases x with ⟨rfl,_⟩ | ⟨b',cap,c,rfl,h1,h2,_⟩
 ·cases hb
 ·simp [CP] at hb;subst hb;exact ⟨_,h2⟩
theorem SC{V:Type}(hB:GH)(r:Nat)(T t:TypeId)(n:Nat)(enc:V->Array Value):GF hB (JCol hB r T t n enc):=by
 refine ⟨?_,?_⟩
 ·rintro pre Y h b ⟨w,h1,h2,h3,h0,h4⟩ hb;rcases (h4 b).1 hb with rfl | h5
  ·exact ⟨_,_,h1,rfl⟩
  ·obtain ⟨c,hc⟩:=h2.cellsAt b h5;exact ⟨_,_,hc,rfl⟩
 ·rintro pre Y h h' ⟨w,h1,h2,h3,h0,h4⟩ same lB;refine ⟨w,by rw [same r ((h4 r).2 (.inl rfl))];exact h1,h2.keep λb o hb ho=>by rw [same b ((h4 b).2 (.inr hb))];exact ho,h3,h0,h4⟩
theorem WW{V:Type}{hB h:GH}{r:Nat}{T t:TypeId}{n:Nat}{enc:V->Array Value}(x:h r=some (true,.cells #[.slice none 0 0] T (0,0)))(h0:hB r=none):JCol hB r T t n enc [] (λb=>b=r) h:=
 ⟨_,x,AO.nil _ _ _ _ _,Aw.nil,h0,λ_=>⟨.inl,λq=>q.elim id λe=>by cases e⟩⟩
theorem jcol_end{V:Type}{hB h h' ha hb:GH}{r:Nat}{T t:TypeId}{n:Nat}{enc:V->Array Value}{pre:List V}{w w':Value}{Y:Nat->Prop}(hY:∀b,Y b↔b=r\/CP w=some b)(g:Fy ha hb w w')(hn:∀q,ha q=none->h q=none)
  (x:h' r=some (true,.cells #[w'] T (0,0))) (o:AO hB h' w' t n enc pre) (f:Aw w' r) (h0:hB r=none) :
  ∃Y',(∀b,Y' b->Y b\/h b=none)/\JCol hB r T t n enc pre Y' h':=by
 refine ⟨λb=>b=r\/CP w'=some b,?_,w',x,o,f,h0,λ_=>Iff.rfl⟩;rintro b (rfl | hb)
 ·exact .inl ((hY _).2 (.inl rfl))
 ·rcases g.2 with e | ⟨⟨q,e1,e2⟩,_⟩
  ·exact .inl ((hY _).2 (.inr (by rw [<-e];exact hb)))
  ·rw [e1] at hb;cases hb;exact .inr (hn _ e2)
theorem Mp{fn:Func}{O:Nat->Value}{R:Value->GH->Prop}{d:Nat}{ds:List Deferred}{h:GH}(hd:h d=some (true,.deferred (some [])))(x:∀h',(∀b,b≠d->h' b=h b)->GM P fn O R ds h') :
  GM P fn O R ({ target:=.collected d,args:=#[] } ::ds) h:=⟨d,rfl,_,hd,rfl,x _ λb hb=>GH.set_ne _ _ _ hb⟩
end
end Go.Ns
namespace Go.Ns
open Go.Conc
section
variable {P:Program} {E:GE P}
abbrev Law2:=(Nat->Value)->Value->GH->Prop
def KeepD(S:Nat->Prop)(h h':GH):Prop:=Bp S h h'/\∀b,(∃o,h b=some o)->∃o,h' b=some o
section
variable {Pre:Nat->GH->Prop} {Φ:List Law2} {S:Nat->Prop} {k:Nat} {cl:List Nat} {h h':GH}
end
theorem AO.apartTy{V β:Type}{h0 h1 h:GH}{v w:Value}{t t':TypeId}{n n':Nat}{enc:V->Array Value}{enc':β->Array Value}{xs:List V}{ys:List β}(x:AO h0 h v t n enc xs)(y:AO h1 h w t' n' enc' ys)(ne:t≠t'):Apart v w:=λb e e'=>by
 rcases x with ⟨rfl,_⟩ | ⟨b1,_,c1,rfl,_,h2,_⟩
 ·cases e
 ·rcases y with ⟨rfl,_⟩ | ⟨b2,_,c2,rfl,_,h3,_⟩
  ·cases e'
  ·simp only [CP,Option.some.injEq] at e e';subst e;subst e';rw [h2] at h3;simp only [Option.some.injEq,Prod.mk.injEq,Obj.cells.injEq] at h3;exact ne h3.2.2.1
end
end Go.Ns
namespace Go.Ns
open Go.Conc
section
variable {P:Program} {E:GE P} {O:Nat->Value} {ds:List Deferred} {h:GH} {T:(Nat->Value)->List Deferred->GH->Prop}
variable {dst:Option Nat} {ty:TypeId} {pos:String} {af:Array Edge} {gd:Option (Nat×Bool)}
def WX:Value->Bool
 | .slice none _ _=>true
 | _=>false
theorem ZM{xt yt:TypeId}{x y:Operand}{a:Option Addr}{l c:Nat}(ht:Jj P xt=true)(hx:AN O x=.slice a l c)(hy:AN O y=.slice none 0 0)(k:T (putS O dst (.bool (WX (.slice a l c)))) ds h) :
  BU E ⟨dst,.binOp .eql xt x y yt,ty,pos,af,gd⟩ O ds h T:=by
 unfold BU execOp;simp only [hx,hy];refine Fu (AD _ _ ?_);show Sem.gh P (do pure (Value.bool (<-Op.equal xt (.slice a l c) (.slice none 0 0))):Sem Value) h _;refine AD _ _ ?_;unfold Op.equal Op.maxDepth;show (Op.equalIn (9999+1) xt (.slice a l c) (.slice none 0 0)).gh P h _;unfold Op.equalIn;unfold Jj at ht;cases hu:P.underlying xt with
 | none=>rw [hu] at ht;cases ht
 | some d=>
  rw [hu] at ht;refine AD _ _ (Ai hu ?_);cases d <;> first | (cases ht;done) | skip
  cases a with
  | none=>exact k
  | some a=>exact k
theorem Hs{V:Type}{xt yt:TypeId}{x y:Operand}{v:Value}{n:Nat}{enc:V->Array Value}{xs:List V}(ht:Jj P xt=true)(s:AL h v n enc xs)(hx:AN O x=v)(hy:AN O y=.slice none 0 0)(k:T (putS O dst (.bool (WX v))) ds h) :
  BU E ⟨dst,.binOp .eql xt x y yt,ty,pos,af,gd⟩ O ds h T:=by
 obtain ⟨a,cap,rfl,_⟩:=s;exact ZM ht hx hy k
theorem Ht{V:Type}{v:Value}{n:Nat}{enc:V->Array Value}{xs:List V}(s:AL h v n enc xs)(e:WX v=true):xs=[]:=by
 obtain ⟨a,cap,rfl,_,_,q⟩:=s;cases a with
 | some a=>cases e
 | none=>
  cases xs with
  | nil=>rfl
  | cons x xs=>obtain ⟨b,off,h1,_⟩:=q 0 aD;cases h1
theorem shr_eq{a:Int}{k:Nat}(h:k<=63):a.fdiv (2 ^ (min ((k:Int)).toNat IntKind.i64.bits))=a.fdiv (2 ^ k):=by
 have:min ((k:Int)).toNat IntKind.i64.bits=k:=by
  show min ((k:Int)).toNat 64=k;omega
 rw [this]
theorem shl_eq{k:Nat}(h:k<=60):IntKind.i64.wrap (1*2 ^ (min ((k:Int)).toNat IntKind.i64.bits))=2 ^ k:=by
 have:min ((k:Int)).toNat IntKind.i64.bits=k:=by
  show min ((k:Int)).toNat 64=k;omega
 rw [this,Int.one_mul];have h1:(2:Int) ^ k<=2 ^ 60:=by
  have:=Nat.pow_le_pow_right (show 0<2 by decide) h
  exact_mod_cast this
 have h2:(0:Int)<=2 ^ k:=by
  have:=Nat.zero_le (2 ^ k)
  exact_mod_cast this
 exact IntWalk.i64_in _ aA
end
theorem PP{a:Int}(h:0<=a/\a<=65535)(k:Nat):0<=a.fdiv (2 ^ k)/\a.fdiv (2 ^ k)<=65535:=by
 have hp:(0:Int)<2 ^ k:=by
  have:=Nat.pow_pos (n:=k) (show 0<2 by decide)
  exact_mod_cast this
 rw [Int.fdiv_eq_ediv_of_nonneg _ (Int.le_of_lt hp)];refine ⟨Int.ediv_nonneg h.1 (Int.le_of_lt hp),Int.le_trans (Int.ediv_le_self _ h.1) h.2⟩
def Nu(mask:Int)(k:Nat):Bool:=decide (mask.fdiv (2 ^ k)%2=1)
def BI(mask:Int)(k:Nat):List Int:=((List.range k).filter (Nu mask)).map λ(i:Nat)=>(i:Int)
theorem Jp{p:Nat->Bool}{k:Nat}(h:p k=true):(List.range (k+1)).filter p=(List.range k).filter p++[k]:=by
 rw [List.range_succ,List.filter_append];simp [h]
theorem Jq{p:Nat->Bool}{k:Nat}(h:p k=false):(List.range (k+1)).filter p=(List.range k).filter p:=by
 rw [List.range_succ,List.filter_append];simp [h]
theorem pickI_t{mask:Int}{k:Nat}(h:mask.fdiv (2 ^ k)%2=1):BI mask (k+1)=BI mask k++[(k:Int)]:=by
 unfold BI;rw [Jp (by unfold Nu;rw [decide_eq_true h]),List.map_append];rfl
theorem pickI_f{mask:Int}{k:Nat}(h:¬mask.fdiv (2 ^ k)%2=1):BI mask (k+1)=BI mask k:=by
 unfold BI;rw [Jq (by unfold Nu;rw [decide_eq_false h])]
theorem Mq(mask:Int)(k:Nat):(BI mask k).length<=k:=by
 unfold BI;rw [List.length_map]
 have:=List.length_filter_le (Nu mask) (List.range k)
 rwa [List.length_range] at this
def H9(a b:Int):Int:=if a<b then-1 else if b<a then 1 else 0
def EZ(a b:List Int):Nat->Nat->Int
 | 0,_=>if (a.length:Int)<b.length then-1 else 0
 | f+1,k=>if (b.length:Int)<=k then 1 else if¬H9 (a.getD k 0) (b.getD k 0)=0 then H9 (a.getD k 0) (b.getD k 0) else EZ a b f (k+1)
def HU(a b:List Int):Int:=EZ a b a.length 0
theorem Nv{a b:List Int}{k:Nat}(hk:¬(k:Int)<a.length):EZ a b (a.length-k) k=if (a.length:Int)<b.length then-1 else 0:=by
 rw [show a.length-k=0 by omega];rfl
theorem LI{a b:List Int}{k:Nat}(hk:k<a.length):EZ a b (a.length-k) k=if (b.length:Int)<=k then 1 else if¬H9 (a.getD k 0) (b.getD k 0)=0 then H9 (a.getD k 0) (b.getD k 0) else EZ a b (a.length-(k+1)) (k+1):=by
 rw [show a.length-k=(a.length-(k+1))+1 by omega];rfl
abbrev Sl:=Value×List Int
def Sl.z:Sl:=(.slice none 0 0,[])
def Je(x:Sl):Array Value:=#[x.1]
def HI(h:GH)(l:List Sl):Prop:=∀k,AL h (l.getD k Sl.z).1 1 eI (l.getD k Sl.z).2
theorem HI.le{h h':GH}{l:List Sl}(x:HI h l)(e:h.Le h'):HI h' l:=λk=>(x k).le e
def Ax(l:List Sl):List (List Int):=l.map (·.2)
theorem Fc{l:List Sl}{k:Nat}(hk:k<l.length):(Ax l).getD k []=(l.getD k Sl.z).2:=by
 unfold Ax;rw [CQ [] (by simpa using hk),CQ Sl.z hk];simp
end Go.Ns
namespace Go.Ns
open Go.Conc
def Dk(n:Int):Value:=.int .i64 n
section
variable {hB h hc h':GH} {ms:List H8} {pasts:List To} {r:Nat}
end
section
variable {P:Program} {E:GE P} {O:Nat->Value} {ds:List Deferred} {h:GH} {T:(Nat->Value)->List Deferred->GH->Prop}
variable {dst:Option Nat} {ty:TypeId} {pos:String} {af:Array Edge} {gd:Option (Nat×Bool)}
end
section
variable {hB h hc h':GH} {ms:List H8} {pasts:List To} {r:Nat}
theorem AO.keepX{V:Type}{X:Nat->Prop}{h0:GH}{v:Value}{t:TypeId}{n:Nat}{enc:V->Array Value}{xs:List V}(x:AO h0 h v t n enc xs)(k:Bp X h h')(hS:∀b,CP v=some b->¬X b):AO h0 h' v t n enc xs:=by
 rcases x with x | ⟨b,cap,c,rfl,h2,h3,h4⟩
 ·exact .inl x
 ·exact .inr ⟨b,cap,c,rfl,h2,k.box h3 (hS b rfl) rfl,h4⟩
theorem AL.slDel{V:Type}{v:Value}{n:Nat}{enc:V->Array Value}{xs:List V}(x:AL h v n enc xs){p:Bool}{es:Array MapEntry}{clk:Nat}(hr:h r=some (p,.map es clk)):AL (h.del r) v n enc xs:=by
 obtain ⟨a,cap,hv,hc,hm,he⟩:=x;refine ⟨a,cap,hv,hc,hm,λi hi=>?_⟩;obtain ⟨b,off,h1,h2⟩:=he i hi;refine ⟨b,off,h1,h2.del λe=>?_⟩;obtain ⟨p',c,t,f,hb,_⟩:=h2;rw [e,hr] at hb;cases hb
end
section
variable {P:Program} {E:GE P} {O:Nat->Value} {ds:List Deferred} {h:GH}
end
section
variable {d m:Int} {gs:List Good} {ms:List H8} {cs:List Jd} {o:List Int}
end
end Go.Ns
namespace Go.Ns
open Go.Conc Go.Sort
def EU(rest:List Value)(d:Array Int):Array Value:=(d.toList.map (λx=>Value.int .i64 x)++rest).toArray
theorem Hj(rest:List Value)(d:Array Int):(EU rest d).size=d.size+rest.length:=by simp [EU]
theorem Hu{rest:List Value}{d:Array Int}{i:Nat}(h:i<d.size):(EU rest d)[0+i*1]? =some (.int .i64 d[i]!):=by
 have h1:i<(d.toList.map (λx=>Value.int .i64 x)).length:=by simpa using h
 rw [Nat.zero_add,Nat.mul_one];unfold EU;rw [List.getElem?_toArray,List.getElem?_append_left h1,List.getElem?_map];simp [h,getElem!_pos]
theorem PQ{rest:List Value}{d:Array Int}{i:Nat}{v:Int}(h:i<d.size):Bq (EU rest d) (0+i*1) [.int .i64 v]=EU rest (d.setIfInBounds i v):=by
 rw [Nat.zero_add,Nat.mul_one];show (EU rest d).setIfInBounds i (.int .i64 v)=_;unfold EU;apply Array.toList_inj.1;have h1:i<(d.toList.map (λx=>Value.int .i64 x)).length:=by simpa using h
 rw [Array.toList_setIfInBounds];simp only [];rw [List.set_append_left _ _ h1,Array.toList_setIfInBounds,List.map_set]
structure Dl(b:Nat)(h hc:GH):Prop where
 keep:Bp (λx=>x=b) h hc
 dom:∃o,hc b=some o
section
variable {b:Nat} {h hc h':GH}
theorem Dl.start(x:∃o,h b=some o):Dl b h h:=⟨Bp.refl _ _,x⟩
theorem Dl.put(y:Dl b h hc)(ho:∀x,x≠b->h' x=hc x)(x:∃o,h' b=some o):Dl b h h':=⟨y.keep.store' (.inl rfl) ho,x⟩
theorem Dl.call(y:Dl b h hc)(k:Bp (λx=>x=b) hc h')(x:∃o,h' b=some o):Dl b h h':=⟨y.keep.trans (λ_ q=>.inl q) k,x⟩
end
def Gu(d:Array Int)(off:Nat):Array Int:=(d.toList.take off++List.replicate (d.size-off) 0).toArray
theorem RW(d:Array Int)(off:Nat):(Gu d off).size=d.size:=by simp [Gu];omega
theorem ZN{a j:Nat}{dd:Array Int}(h:(a:Int)<(j:Int)/\dd[j]! <dd[((j:Int)-1).toNat]!) :
  insInner ltInt a j dd=insInner ltInt a (j-1) ((dd.setIfInBounds j dd[((j:Int)-1).toNat]!).setIfInBounds ((j:Int)-1).toNat dd[j]!):=by
 obtain ⟨h1,h2⟩:=h;cases j with
 | zero=>omega
 | succ j=>
  have e:(((j+1:Nat):Int)-1).toNat=j:=aA
  rw [e] at h2 ⊢
  conv=>lhs;unfold insInner
  rw [if_pos (by unfold ltInt;simp;exact ⟨aA,h2⟩)];rfl
theorem ins_stop{a j:Nat}{dd:Array Int}(h:¬((a:Int)<(j:Int)/\dd[j]! <dd[((j:Int)-1).toNat]!)):insInner ltInt a j dd=dd:=by
 cases j with
 | zero=>rfl
 | succ j=>
  have e:(((j+1:Nat):Int)-1).toNat=j:=aA
  rw [e] at h;unfold insInner;rw [if_neg (by unfold ltInt;simp;intro q;exact Int.not_lt.1 λr=>h ⟨aA,r⟩)]
theorem RX{a b i:Nat}{dd:Array Int}(h:i<b):insOuter ltInt a b i dd=insOuter ltInt a b (i+1) (insInner ltInt a i dd):=by
 conv=>lhs;unfold insOuter
 rw [if_pos h]
theorem Ts{a b i:Nat}{dd:Array Int}(h:¬(i:Int)<b):insOuter ltInt a b i dd=dd:=by
 unfold insOuter;rw [if_neg aA]
def FO(l:List Int):List Int:=(Go.Sort.sort ltInt l.toArray).toList
theorem ZO{d:Array Int}{a b limit:Nat}{x y:Bool}(h:b-a<=12):pdq ltInt d a b limit x y=insertionSort ltInt d a b:=by
 unfold pdq;rw [if_pos h]
theorem I5{a r:Int}{k:Nat}(h:k<=63)(e:a / 2 ^ k=r):a.fdiv (2 ^ (min ((k:Int)).toNat IntKind.u64.bits))=r:=by
 have:min ((k:Int)).toNat IntKind.u64.bits=k:=by
  show min ((k:Int)).toNat 64=k;omega
 have hp:(0:Int)<=2 ^ k:=by
  have:=Nat.zero_le (2 ^ k)
  exact_mod_cast this
 rw [this,Int.fdiv_eq_ediv_of_nonneg _ hp,e]
section
variable {P:Program} {E:GE P} {O:Nat->Value} {ds:List Deferred} {h:GH} {T:(Nat->Value)->List Deferred->GH->Prop}
variable {dst:Option Nat} {ty:TypeId} {pos:String} {af:Array Edge} {gd:Option (Nat×Bool)}
theorem Fh{t:TypeId}{x ix:Operand}{s:ByteArray}{kd:IntKind}{i:Int}(ht:Oy P t=true)(hx:AN O x=.string s)(hi:AN O ix=.int kd i)(h0:0<=i)(h1:i<((256:Nat):Int))(hs:s.size=256)
  (k:∀n:Int,0<=n->n<=255->T (putS O dst (.int .u8 n)) ds h):BU E ⟨dst,.index t x ix,ty,pos,af,gd⟩ O ds h T:=
 R5 ht hx hi h0 aA (k _ aA (by have:=(s[i.toNat]' aA).toNat_lt;omega))
end
theorem Kx(lt:Int->Int->Bool)(a:Nat):∀(j:Nat)(d:Array Int),(insInner lt a j d).size=d.size
 | 0,d=>rfl
 | j+1,d=>by
  unfold insInner;split
  ·rw [Kx lt a j];simp [swp]
  ·rfl
theorem Ky(lt:Int->Int->Bool)(a b:Nat):∀(n i:Nat)(d:Array Int),b-i<=n->(insOuter lt a b i d).size=d.size
 | 0,i,d,h=>by unfold insOuter;rw [if_neg aA]
 | n+1,i,d,h=>by
  unfold insOuter;split
  ·rw [Ky lt a b n (i+1) _ aA,Kx]
  ·rfl
theorem LJ(d:Array Int)(a b:Nat):(insertionSort ltInt d a b).size=d.size:=Ky _ _ _ _ _ _ (Nat.le_refl _)
theorem Ur{l:List Int}(h:l.length<=12):FO l=(insertionSort ltInt l.toArray 0 l.toArray.size).toList:=by
 unfold FO Go.Sort.sort;rw [ZO (by simpa using h)]
theorem Yc(l:List Int):DX eI l=l.map (λx=>Value.int .i64 x):=by
 induction l with
 | nil=>rfl
 | cons x l ih=>show (eI x).toList++DX eI l=_;rw [ih];rfl
theorem AO.row{h0 h:GH}{v:Value}{xs:List Int}(x:AO h0 h v 3 1 eI xs)(hne:xs≠[]) :
  ∃b cap rest,v=.slice (some ⟨b,0,none⟩) xs.toArray.size cap/\h b=some (true,.cells (EU rest xs.toArray) 3 (0,0)):=by
 rcases x with ⟨_,e⟩ | ⟨b,cap,c,rfl,h1,h2,h3,h4,h5,h6,h7⟩
 ·exact absurd e hne
 ·refine ⟨b,cap,c.toList.drop xs.length,aD,?_⟩;have e:c=EU (c.toList.drop xs.length) xs.toArray:=by
   apply Array.toList_inj.1;unfold EU;simp only [];rw [<-Yc,<-h6,Nat.mul_one,List.take_append_drop]
  rw [<-e];exact h2
theorem AO.ofRow{h0 h h':GH}{b cap:Nat}{rest:List Value}{xs:List Int}{D:Array Int}(x:AO h0 h (.slice (some ⟨b,0,none⟩) xs.toArray.size cap) 3 1 eI xs)(hne:xs≠[])(hD:D.size=xs.length)(hb:h b=some (true,.cells (EU rest xs.toArray) 3 (0,0)))(hb':h' b=some (true,.cells (EU rest D) 3 (0,0))) :
  AO h0 h' (.slice (some ⟨b,0,none⟩) xs.toArray.size cap) 3 1 eI D.toList:=by
 rcases x with ⟨e,_⟩ | ⟨b1,cap1,c,e,h1,h2,h3,h4,h5,h6,h7⟩
 ·cases e
 ·simp only [Value.slice.injEq,Option.some.injEq,Addr.mk.injEq] at e;obtain ⟨⟨rfl,_⟩,_,rfl⟩:=e;rw [hb] at h2;simp only [Option.some.injEq,Prod.mk.injEq,Obj.cells.injEq,true_and,and_true] at h2;subst h2;have hDl:D.toList.length=xs.length:=by rw [Array.length_toList];exact hD
  refine .inr ⟨b,cap,_,by rw [hDl];simp,h1,hb',?_,aA,aA,?_,λy _=>rfl⟩
  ·rw [Hj] at h3 ⊢;rw [hD];simpa using h3
  ·unfold EU;simp only [Nat.mul_one];rw [Yc,<-List.length_map (f:=λx=>Value.int .i64 x),List.take_append_of_le_length (Nat.le_refl _),List.take_length]
theorem Bp.grownSame{h h':GH}{b cap n:Nat}(k:Bp (λx=>x=b) h h'):Fy h h' (.slice (some ⟨b,0,none⟩) n cap) (.slice (some ⟨b,0,none⟩) n cap):=
 ⟨λr o hr hn=>(by
  obtain ⟨o',h1,rfl | ⟨h2,_⟩⟩:=k r o.1 o.2 hr (λe=>hn (by rw [e];rfl))
  ·exact h1
  ·cases h2),.inl rfl⟩
section
variable {P:Program} {E:GE P} {O:Nat->Value} {ds:List Deferred} {h:GH} {T:(Nat->Value)->List Deferred->GH->Prop}
variable {dst:Option Nat} {ty:TypeId} {pos:String} {af:Array Edge} {gd:Option (Nat×Bool)}
theorem WY{t:TypeId}{x o:Operand}{b len cap hi:Nat}(ht:Ef P t=some 1)(hc:len<=cap)(hx:AN O x=.slice (some ⟨b,0,none⟩) len cap)(ho:∃kd,AN O o=.int kd hi)(h2:hi<=len)(k:T (putS O dst (.slice (some ⟨b,0,none⟩) hi cap)) ds h) :
  BU E ⟨dst,.slice t x none (some o) none,ty,pos,af,gd⟩ O ds h T:=by
 refine KR (olo:=none) (ohi:=some o) 0 hi ht hc hx rfl ho (Nat.zero_le _) h2 ?_;have e:(if cap=0 then (some ⟨b,0,none⟩:Option Addr) else (some ⟨b,0,none⟩:Option Addr).map (·.add (0*1)))=some ⟨b,0,none⟩:=by
  split
  ·rfl
  ·simp [Ix]
 rw [e];exact k
theorem L5{t:TypeId}{x o:Operand}{b len cap lo:Nat}(ht:Ef P t=some 1)(hc:len<=cap)(hx:AN O x=.slice (some ⟨b,0,none⟩) len cap)(ho:∃kd,AN O o=.int kd lo)(h2:lo<len)(k:T (putS O dst (.slice (some ⟨b,lo,none⟩) (len-lo) (cap-lo))) ds h) :
  BU E ⟨dst,.slice t x (some o) none none,ty,pos,af,gd⟩ O ds h T:=by
 refine KR (olo:=some o) (ohi:=none) lo len ht hc hx ho rfl (Nat.le_of_lt h2) (Nat.le_refl _) ?_;have e:(if cap=lo then (some ⟨b,0,none⟩:Option Addr) else (some ⟨b,0,none⟩:Option Addr).map (·.add (lo*1)))=some ⟨b,lo,none⟩:=by
  rw [if_neg aA];simp [Ix]
 rw [e];exact k
theorem Us{t e:TypeId}{x:Operand}{b off len cap:Nat}{rest:List Value}{d:Array Int}{z:Nat}(ht:DP P t=some (1,#[.int .i64 0],e))(hx:AN O x=.slice (some ⟨b,off,none⟩) len cap)(hb:h b=some (true,.cells (EU rest d) z (0,0)))(hn:off+len=d.size)(hl:0<len)
  (k:∀h',h' b=some (true,.cells (EU rest (Gu d off)) z (0,0))->(∀x,x≠b->h' x=h x)->T (putS O dst (.tuple #[])) ds h') :
  BU E ⟨dst,.call ⟨.builtin .clear,#[x],#[t]⟩,ty,pos,af,gd⟩ O ds h T:=by
 refine GQ (vs:=#[.slice (some ⟨b,off,none⟩) len cap]) (s:=Builtin.clear_ #[t] ty #[.slice (some ⟨b,off,none⟩) len cap]) (by simp [hx]) (λ_=>rfl) ?_;unfold DP at ht;cases hu:P.underlying t with
 | none=>rw [hu] at ht;cases ht
 | some dd=>
 rw [hu] at ht;cases dd <;> first | (cases ht;done) | skip
 rename_i el
 simp only at ht;cases hty:CZ P el with
 | none=>rw [hty] at ht;cases ht
 | some g=>
 cases hz:Bt P el with
 | none=>rw [hty,hz] at ht;cases ht
 | some z'=>
 rw [hty,hz] at ht;simp only [Option.some.injEq,Prod.mk.injEq] at ht;obtain ⟨_,rfl,rfl⟩:=ht;unfold Builtin.clear_;simp only [List.getElem?_toArray,List.getElem?_cons_zero];refine AD _ _ (Ai hu ?_);obtain ⟨len,rfl⟩:∃m,len=m+1:=⟨len-1,aA⟩;have hzero:∀{Q:Value->GH->Prop}{h:GH},(∀v,v.cells=#[.int .i64 0]->Q v h)->(zeroValue el).gh P h Q:=λ{Q h} q=>by
  unfold Bt at hz;unfold zeroValue;cases hi:P.info? el with
  | none=>rw [hi] at hz;cases hz
  | some i=>
   rw [hi] at hz;simp only [Option.map_eq_some_iff] at hz;obtain ⟨v,hv,e⟩:=hz;refine AD _ _ (Cf hi ?_);rw [hv];exact q v e
 refine AD _ _ (hzero λvz hvz=>?_);rw [hvz];have hcells:(Builtin.zeroCells #[.int .i64 0] (len+1)).toList=List.replicate (len+1) (.int .i64 0):=by
  unfold Builtin.zeroCells;apply List.ext_getElem
  ·simp
  ·intro i h1 h2;simp [Nat.mod_one]
 rw [hcells];have hsz:d.size=d.toList.length:=aD
 refine AD _ _ (IQ (a:=⟨b,off,none⟩) rfl _ 0 (EU rest d) h ?_ hb ?_ ?_)
 ·intro y hy;rw [List.eq_of_mem_replicate hy];rfl
 ·rw [Hj,List.length_replicate];show off+0+(len+1)<=_;omega
 ·refine Aq (k _ ?_ λx hx=>GH.set_ne _ _ _ hx);have e:Bq (EU rest d) (off+0) (List.replicate (len+1) (.int .i64 0))=EU rest (Gu d off):=by
   apply Array.toList_inj.1;rw [EM _ _ _ (by rw [Hj,List.length_replicate];omega)];unfold EU Gu;simp only [List.length_replicate,Nat.add_zero,List.map_append,List.map_take,List.map_replicate];have h1:off<=(d.toList.map (λx=>Value.int .i64 x)).length:=by simp;omega
   rw [List.take_append_of_le_length h1,show d.size-off=len+1 by omega];congr 1;rw [show off+(len+1)=(d.toList.map (λx=>Value.int .i64 x)).length by simp;omega,List.drop_left]
  rw [<-e];exact GH.set_same _ _ _ _
end
def Nw(acc:List Int)(x:Int):List Int:=if acc.getLast? =some x then acc else acc++[x]
def Dh(l:List Int):List Int:=l.foldl Nw []
theorem WZ(acc:List Int)(x:Int):(Nw acc x).getLast? =some x:=by
 unfold Nw;split
 ·assumption
 ·simp
theorem Hv{d:Array Int}{j:Nat}(hj:j<d.size):Dh (d.toList.take (j+1))=Nw (Dh (d.toList.take j)) d[j]! :=by
 have e:d.toList.take (j+1)=d.toList.take j++[d[j]!]:=by
  rw [List.take_succ_eq_append_getElem (by simpa using hj)];simp [getElem!_pos,hj]
 rw [e];unfold Dh;rw [List.foldl_append];rfl
theorem Wa{d:Array Int}{j:Nat}(hj:j<d.size):(Dh (d.toList.take (j+1))).getLast? =some d[j]! :=by
 rw [Hv hj];exact WZ _ _
theorem Mr{rest:List Value}{d:Array Int}{o i:Nat}(h:o+i<d.size):(EU rest d)[o+i*1]? =some (.int .i64 d[o+i]!):=by
 have:=Hu (rest:=rest) h
 rw [Nat.zero_add,Nat.mul_one] at this;rw [Nat.mul_one];exact this
theorem Kz{d:Array Int}{j:Nat}(hj:j<d.size):d.toList.take (j+1)=d.toList.take j++[d[j]!]:=by
 rw [List.take_succ_eq_append_getElem (by simpa using hj)];simp [getElem!_pos,hj]
theorem I6{d:Array Int}{j:Nat}(h1:1<=j)(hj:j<=d.size):(Dh (d.toList.take j)).getLast? =some d[j-1]! :=by
 obtain ⟨i,rfl⟩:∃i,j=i+1:=⟨j-1,aA⟩;exact Wa aA
theorem Tt{d:Array Int}{k:Nat}(h1:1<=k)(hk:k<d.size)(h:¬d[k]! =d[((k:Int)-1).toNat]!)(hs:Dh (d.toList.take k)=d.toList.take k):Dh (d.toList.take (k+1))=d.toList.take (k+1):=by
 rw [Hv hk,Kz hk];unfold Nw;rw [I6 h1 aA,if_neg (by rw [show ((k:Int)-1).toNat=k-1 by omega] at h;simpa using λe=>h e.symm),hs]
theorem Tu{d:Array Int}{k:Nat}(h1:1<=k)(hk:k<d.size)(h:d[k]! =d[((k:Int)-1).toNat]!)(hs:Dh (d.toList.take k)=d.toList.take k):d.toList.take k=Dh (d.toList.take (k+1)):=by
 rw [Hv hk];unfold Nw;rw [I6 h1 aA,if_pos (by rw [show ((k:Int)-1).toNat=k-1 by omega] at h;rw [h]),hs]
theorem Wb{d dd:Array Int}{k q kk:Nat}(hq:1<=q/\k+q<d.size)(hkk:k<=kk/\kk+1<=k+q)(hsz:dd.size=d.size)(hd:∀j,kk<=j->dd[j]! =d[j]!)(hdd:dd.toList.take kk=Dh (d.toList.take (k+q)))(h:¬dd[k+q]! =dd[k+((q:Int)-1).toNat]!) :
  (dd.setIfInBounds kk dd[k+q]!).toList.take (kk+1)=Dh (d.toList.take (k+(q+1))):=by
 have e1:((q:Int)-1).toNat=q-1:=aA
 rw [e1,hd _ aA,hd _ aA] at h;rw [show k+(q+1)=(k+q)+1 by omega,Hv hq.2];unfold Nw;rw [I6 aA aA,if_neg (by rw [show k+q-1=k+(q-1) by omega];simpa using λe=>h e.symm),<-hdd,hd _ aA,Array.toList_setIfInBounds];rw [List.take_succ_eq_append_getElem (by simp;omega),List.take_set_of_le aA];simp
theorem Wc{d dd:Array Int}{k q kk:Nat}(hq:1<=q/\k+q<d.size)(hkk:k<=kk/\kk+1<=k+q)(hd:∀j,kk<=j->dd[j]! =d[j]!)(hdd:dd.toList.take kk=Dh (d.toList.take (k+q)))(h:dd[k+q]! =dd[k+((q:Int)-1).toNat]!) :
  dd.toList.take kk=Dh (d.toList.take (k+(q+1))):=by
 have e1:((q:Int)-1).toNat=q-1:=aA
 rw [e1,hd _ aA,hd _ aA] at h;rw [show k+(q+1)=(k+q)+1 by omega,Hv hq.2];unfold Nw;rw [I6 aA aA,if_pos (by rw [show k+q-1=k+(q-1) by omega,h]),hdd]
theorem ZP{d dd:Array Int}{kk:Nat}{x:Int}(hd:∀j,kk<=j->dd[j]! =d[j]!):∀j,kk+1<=j->(dd.setIfInBounds kk x)[j]! =d[j]! :=λj hj=>by
 rw [<-hd j aA];simp only [getElem!_def,Array.getElem?_setIfInBounds_ne (show kk≠j by omega)]
theorem RY{d:Array Int}{k:Nat}(h:k<=d.size):(Gu d k).toList.take k=d.toList.take k:=by
 unfold Gu;simp only [];rw [List.take_append_of_le_length (by simp;omega),List.take_take];simp
theorem Ut{d:Array Int}(h:2<=d.size):Dh (d.toList.take 1)=d.toList.take 1:=by
 have e:=Kz (d:=d) (j:=0) aA;rw [Nat.zero_add] at e;rw [e];rfl
theorem Uu{d:Array Int}{k:Nat}(hs:Dh (d.toList.take k)=d.toList.take k)(h1:k<=d.size)(h2:d.size<=k):d.toList.take d.size=Dh d.toList:=by
 rw [show k=d.toList.length by simp;omega,List.take_length] at hs;rw [hs,<-Array.length_toList,List.take_length]
theorem Uv{d:Array Int}(h:d.size<2):d.toList.take d.size=Dh d.toList:=by
 rw [<-Array.length_toList,List.take_length]
 have:d.toList.length<2:=by simpa using h
 match hd:d.toList,this with
 | [],_=>rfl
 | [x],_=>rfl
 | _ ::_ ::_,h=>simp at h;omega
theorem PR(l:List Int):FO l=l.mergeSort (λx y=>decide (x<=y)):=sortInt l
theorem EG(l:List Int):(FO l).length=l.length:=by rw [PR,List.length_mergeSort]
theorem sortI_ne{l:List Int}(h:l≠[]):FO l≠[]:=λe=>by
 have:=congrArg List.length e
 rw [EG] at this;exact h (List.length_eq_zero_iff.1 this)
end Go.Ns
namespace Go.Ns
open Go.Conc Go.Sort
section
variable {d dd:Array Int} {a z p i j i0 j0:Nat}
variable {de df:Array Int} {s i2:Nat} {J:Int}
end
section
variable {P:Program} {E:GE P} {O:Nat->Value} {ds:List Deferred} {h:GH} {T:(Nat->Value)->List Deferred->GH->Prop} {dst:Option Nat} {ty:TypeId} {pos:String} {af:Array Edge} {gd:Option (Nat×Bool)} {xt yt:TypeId} {x y:Operand} {a b:Int}
end
section
variable {d dd D D' R:Array Int} {a z a0 z0 p mid:Nat} {ap:Bool}
end
end Go.Ns
namespace Go.Ns
open Go.Conc
section
variable (d m:Int) (gs:List Good) (ms:List H8) (cs:List Jd)
end
def lostTo(ms:List H8)(p:To)(g a b:Int):Nat->Int
 | 0=>0
 | k+1=>lostTo ms p g a b k+(if ((ms.getD k H8.z).kind=2/\(ms.getD k H8.z).good=g)/\a<=(ms.getD k H8.z).day/\(ms.getD k H8.z).day<=b then realOf p k else 0)
section
variable (d m:Int) (gs:List Good) (ms:List H8) (cs:List Jd)
end
section
variable (d m:Int) (gs:List Good) (ms:List H8) (cs:List Jd)
end
section
variable (d m:Int) (gs:List Good) (ms:List H8) (cs:List Jd)
end
section
variable {P:Program} {E:GE P} {O:Nat->Value} {ds:List Deferred} {h:GH} {T:(Nat->Value)->List Deferred->GH->Prop}
variable {dst:Option Nat} {ty:TypeId} {pos:String} {af:Array Edge} {gd:Option (Nat×Bool)}
def fieldP(P:Program)(s:TypeId)(f:Nat)(cs:Array Value):Option Value:=match P.underlying s with
 | some (.struct fields)=>match fields[f]? with
  | some fl=>Ho P fl.type cs fl.offset
  | none=>none
 | _=>none
theorem SD{t:TypeId}{x:Operand}{f:Nat}{cs:Array Value}{v:Value}(hx:AN O x=.agg cs)(hp:fieldP P t f cs=some v)(k:T (putS O dst v) ds h):BU E ⟨dst,.field t x f,ty,pos,af,gd⟩ O ds h T:=by
 refine ok_field (v:=v) ?_ k;rw [hx];unfold fieldP at hp;unfold Instr.field;cases hu:P.underlying t with
 | none=>rw [hu] at hp;cases hp
 | some d=>
  rw [hu] at hp;cases d <;> first | (cases hp;done) | skip
  rename_i fields
  refine AD _ _ (Ai hu ?_);simp only at hp ⊢;cases hf:fields[f]? with
  | none=>rw [hf] at hp;cases hp
  | some fl=>
   rw [hf] at hp;simp only at hp ⊢;exact Hp hp ⟨rfl,rfl⟩
end
section
variable {hB h hc h':GH} {ms:List H8} {pasts:List To} {r:Nat}
end
section
variable {P:Program} {E:GE P} {O:Nat->Value} {ds:List Deferred} {h hB:GH} {ms:List H8} {pasts:List To} {r:Nat}
end
theorem KeepD.leOf{h0 h:GH}(k:KeepD (λb=>h0 b=none) h0 h):h0.Le h:=λb p o hb=>k.1 b p o hb λ(e:h0 b=none)=>by rw [hb] at e;cases e
theorem AO.offTy{V:Type}{h0 h:GH}{v:Value}{t T:TypeId}{n:Nat}{enc:V->Array Value}{xs:List V}(x:AO h0 h v t n enc xs){r:Nat}{p:Bool}{c:Array Value}{f:Nat×Nat}(hr:h r=some (p,.cells c T f))(ne:t≠T):Aw v r:=λe=>by
 obtain ⟨c',h1⟩:=x.cellsAt r e;rw [h1] at hr;simp only [Option.some.injEq,Prod.mk.injEq,Obj.cells.injEq] at hr;exact ne hr.2.2.1
section
variable {P:Program} {E:GE P} {O:Nat->Value} {ds:List Deferred} {h:GH} {T:(Nat->Value)->List Deferred->GH->Prop}
variable {dst:Option Nat} {ty:TypeId} {pos:String} {af:Array Edge} {gd:Option (Nat×Bool)}
end
section
variable {h h':GH} {q r:Nat} {M:Int->Option Int}
theorem Cl.leNum(x:Cl h q Dk Dk M)(l:h.Le h'):Cl h' q Dk Dk M:=by
 obtain ⟨es,clk,h1,y⟩:=x;exact ⟨es,clk,l.keep h1 rfl,y⟩
end
section
variable {P:Program} {E:GE P} {O:Nat->Value} {ds:List Deferred} {h:GH} {T:(Nat->Value)->List Deferred->GH->Prop}
variable {dst:Option Nat} {ty:TypeId} {pos:String} {af:Array Edge} {gd:Option (Nat×Bool)}
theorem PS{t kt vt:TypeId}{x ix:Operand}{r d:Nat}{M:Int->Option Int}{a:Int}(ht:Ly P t=some (kt,vt))(hx:AN O x=.map (some r))(hk:AN O ix=.int .i64 a)(hm:Cl h r Dk Dk M)(hd:Nat.ble (d+1) 10000=true)
  (hc:∀a,ckP P (d+1) kt (Dk a)=true) (he:∀a b,O5 P (d+1) kt (Dk a) (Dk b)=some (a==b)) (hz:(P.info? vt).bind (·.zero)=some (.int .i64 0))
  (k:T (putS O dst (.int .i64 ((M a).getD 0))) ds h):BU E ⟨dst,.lookup t x ix false,ty,pos,af,gd⟩ O ds h T:=by
 refine R6 (ek:=Dk) (ev:=Dk) (a:=a) (z:=.int .i64 0) ht hx hk hm hd (hc _) (λb=>he a b) hz ?_;cases hM:M a <;> (rw [hM] at k;exact k)
theorem ZQ{t kt vt:TypeId}{om ok ox:Operand}{r d:Nat}{M:Int->Option Int}{a n:Int}(ht:Ly P t=some (kt,vt))(hm':AN O om=.map (some r))(hk:AN O ok=.int .i64 a)(hv:AN O ox=.int .i64 n)(hm:Cl h r Dk Dk M)(hd:Nat.ble (d+1) 10000=true)
  (hc:∀a,ckP P (d+1) kt (Dk a)=true) (he:∀a b,O5 P (d+1) kt (Dk a) (Dk b)=some (a==b)) (hs:∀a,Instr.sameBits 10000 (Dk a) (Dk a)=true)
  (k:∀h',Cl h' r Dk Dk (λb=>if b=a then some n else M b)->(∀b,b≠r->h' b=h b)->T (putS O dst undef) ds h'):BU E ⟨dst,.mapUpdate t om ok ox,ty,pos,af,gd⟩ O ds h T:=
 L0 (a:=a) (v:=n) (ek:=Dk) (ev:=Dk) ht hm' hk hv hm hd (hc _) (λb=>he a b) (hs _) k
end
theorem Tv(a:Int):Instr.sameBits 10000 (Dk a) (Dk a)=true:=by
 show Instr.sameBits (9999+1) (Value.int .i64 a) (Value.int .i64 a)=true;unfold Instr.sameBits;simp
def Hw(f:Nat->Int):Nat->Int->Option Int
 | 0=>λ_=>none
 | k+1=>λb=>if b=f k then some ((Hw f k (f k)).getD 0+1) else Hw f k b
theorem Jr(f:Nat->Int):∀(k:Nat)(b:Int),0<=(Hw f k b).getD 0/\(Hw f k b).getD 0<=(k:Int)
 | 0,b=>by simp [Hw]
 | k+1,b=>by
  have h1:=Jr f k b;have h2:=Jr f k (f k);unfold Hw;split
  ·show 0<=(Hw f k (f k)).getD 0+1/\(Hw f k (f k)).getD 0+1<=((k+1:Nat):Int);omega
  ·omega
def K0(f:Nat->Int):Nat->Int
 | 0=>0
 | k+1=>max (K0 f k) ((Hw f (k+1) (f k)).getD 0)
def askTo(w:Nat->Int)(n:Int):Nat->Int×Int
 | 0=>(-1,n)
 | k+1=>if w k<(askTo w n k).2 then ((k:Int),w k) else askTo w n k
section
variable (d m:Int) (gs:List Good) (ms:List H8) (cs:List Jd)
end
end Go.Ns
namespace Go.Ns
open Go.Conc
section
variable {h h0 h':GH} {X:Nat->Prop}
end
theorem PT{V:Type}{enc:V->Array Value}{n:Nat}:∀{xs:List V},(∀x ∈ xs,(enc x).size=n)->∀(i:Nat)(z:V),i<xs.length->DX enc xs=DX enc (xs.take i)++(enc (xs.getD i z)).toList++DX enc (xs.drop (i+1))
 | [],_,i,z,h=>by simp at h
 | y ::xs,hn,0,z,h=>by simp [DX]
 | y ::xs,hn,i+1,z,h=>by
  have:=PT (λx hx=>hn x (List.mem_cons_of_mem _ hx)) i z (by simpa using h)
  show (enc y).toList++DX enc xs=((enc y).toList++DX enc (xs.take i))++(enc (xs.getD i z)).toList++DX enc (xs.drop (i+1));rw [this];simp only [List.append_assoc]
theorem Uw{V:Type}{enc:V->Array Value}:∀{xs:List V}(i:Nat)(x:V),i<xs.length->DX enc (xs.set i x)=DX enc (xs.take i)++(enc x).toList++DX enc (xs.drop (i+1))
 | [],i,x,h=>by simp at h
 | y ::xs,0,x,h=>by simp [DX]
 | y ::xs,i+1,x,h=>by
  have:=Uw (enc:=enc) (xs:=xs) i x (by simpa using h)
  show (enc y).toList++DX enc (xs.set i x)=((enc y).toList++DX enc (xs.take i))++(enc x).toList++DX enc (xs.drop (i+1));rw [this];simp only [List.append_assoc]
theorem AO.put{V:Type}{h0 h h':GH}{t:TypeId}{n cap b i dl:Nat}{enc:V->Array Value}{xs:List V}{c:Array Value}{vs:List Value}{x':V}(z:V)(x:AO h0 h (.slice (some ⟨b,0,none⟩) xs.length cap) t n enc xs)(hb:h b=some (true,.cells c t (0,0)))
  (hi:i<xs.length) (hz:dl+vs.length<=n) (heq:Bq (enc (xs.getD i z)) dl vs=enc x') (hb':h' b=some (true,.cells (Bq c (i*n+dl) vs) t (0,0))):AO h0 h' (.slice (some ⟨b,0,none⟩) xs.length cap) t n enc (xs.set i x'):=by
 rcases x with ⟨e,_⟩ | ⟨b1,cap1,c1,e,f0,f1,f2,f3,f4,f5,f6⟩
 ·cases e
 simp only [Value.slice.injEq,Option.some.injEq,Addr.mk.injEq] at e;obtain ⟨⟨rfl,_⟩,_,rfl⟩:=e;rw [hb] at f1;simp only [Option.some.injEq,Prod.mk.injEq,Obj.cells.injEq,true_and] at f1;obtain ⟨rfl,_⟩:=f1;have hx:(enc (xs.getD i z)).size=n:=f6 _ (BO hi);have hx':(enc x').size=n:=by rw [<-heq,Gj];exact hx
 refine .inr ⟨_,_,_,by rw [List.length_set],f0,hb',by rw [Gj];exact f2,by rw [List.length_set];exact f3,by rw [List.length_set];exact f4,?_,λy hy=>?_⟩
 ·rw [List.length_set];have hA:(DX enc (xs.take i)).length=i*n:=by
   rw [Eh (n:=n) (λy hy=>f6 y (List.mem_of_mem_take hy)),List.length_take];congr 1;omega
  have hlen:(DX enc xs).length=xs.length*n:=Eh f6;have hmul:i*n+n<=xs.length*n:=by rw [<-Nat.succ_mul];exact Nat.mul_le_mul_right n hi
  have hcap:xs.length*n<=c.size:=by rw [f2];exact Nat.mul_le_mul_right n f3
  have hc:c.toList=DX enc xs++c.toList.drop (xs.length*n):=by rw [<-f5,List.take_append_drop]
  have hB:(enc x').toList=(enc (xs.getD i z)).toList.take dl++vs++(enc (xs.getD i z)).toList.drop (dl+vs.length):=by rw [<-heq,EM _ _ _ aA]
  have hBl:(enc (xs.getD i z)).toList.length=n:=by rw [Array.length_toList];exact hx
  have hC:(DX enc (xs.take i)).length+n+(DX enc (xs.drop (i+1))).length=xs.length*n:=by
   rw [<-hlen];conv=>rhs;rw [PT f6 i z hi]
   rw [List.length_append,List.length_append,hBl]
  rw [EM _ _ _ aA,Uw i x' hi,hB,hc,PT f6 i z hi];generalize enc (xs.getD i z)=B at *;generalize DX enc (xs.take i)=A at *;generalize DX enc (xs.drop (i+1))=C at *;generalize c.toList.drop (xs.length*n)=R at *;have e1:(A++B.toList++C++R).take (i*n+dl)=A++B.toList.take dl:=by
   rw [List.append_assoc,List.append_assoc,<-hA,List.take_length_add_append,List.take_append_of_le_length aA]
  have e2:(A++B.toList++C++R).drop (i*n+dl+vs.length)=B.toList.drop (dl+vs.length)++C++R:=by
   rw [List.append_assoc,List.append_assoc,show i*n+dl+vs.length=A.length+(dl+vs.length) by omega,List.drop_length_add_append,List.drop_append_of_le_length aA,List.append_assoc]
  rw [e1,e2];have e3:A++B.toList.take dl++vs++(B.toList.drop (dl+vs.length)++C++R)=(A++(B.toList.take dl++vs++B.toList.drop (dl+vs.length))++C)++R:=by simp only [List.append_assoc]
  rw [e3,List.take_left' ?_];simp only [List.length_append,List.length_take,List.length_drop,hBl];omega
 ·rcases List.mem_or_eq_of_mem_set hy with h | rfl
  ·exact f6 y h
  ·exact hx'
theorem AO.opened{V:Type}{h0 h:GH}{v:Value}{t:TypeId}{n k:Nat}{enc:V->Array Value}{xs:List V}(x:AO h0 h v t n enc xs)(hk:k<xs.length):∃b cap c,v=.slice (some ⟨b,0,none⟩) xs.length cap/\h b=some (true,.cells c t (0,0)):=by
 rcases x with ⟨_,rfl⟩ | ⟨b,cap,c,h1,_,h2,_⟩
 ·simp at hk
 ·exact ⟨b,cap,c,h1,h2⟩
theorem AO.room{V:Type}{h0 h:GH}{t:TypeId}{n cap b k:Nat}{enc:V->Array Value}{xs:List V}{c:Array Value}(x:AO h0 h (.slice (some ⟨b,0,none⟩) xs.length cap) t n enc xs)(hb:h b=some (true,.cells c t (0,0)))(hk:k<xs.length):k*n+n<=c.size:=by
 rcases x with ⟨e,_⟩ | ⟨b1,cap1,c1,e,f0,f1,f2,f3,_⟩
 ·cases e
 simp only [Value.slice.injEq,Option.some.injEq,Addr.mk.injEq] at e;obtain ⟨⟨rfl,_⟩,_,rfl⟩:=e;rw [hb] at f1;simp only [Option.some.injEq,Prod.mk.injEq,Obj.cells.injEq,true_and] at f1;obtain ⟨rfl,_⟩:=f1;rw [f2,<-Nat.succ_mul];exact Nat.mul_le_mul_right n aA
section
variable (d m:Int) (gs:List Good) (ms:List H8) (cs:List Jd)
end
section
variable {d m:Int} {gs:List Good} {ms:List H8} {cs:List Jd} {fl:List Sl} {k:Nat}
theorem B8(l:List Sl):(Ax l).length=l.length:=by unfold Ax;simp
end
theorem Ig{v:Value}(h:v.cells=#[v]):Instr.fill (λi=>some (i*1,1)) ((Array.range (1*1)).map (#[Value.slice none 0 0][·% #[Value.slice none 0 0].size]!)) [(0,v)]=some #[v]:=by
 have e:((Array.range (1*1)).map (#[Value.slice none 0 0][·% #[Value.slice none 0 0].size]!))=#[Value.slice none 0 0]:=aB
 rw [e];simp [Instr.fill,h]
end Go.Ns
namespace Go.Ns
open Go.Conc
section
variable {P:Program} {M:Type}
structure Ms(P:Program)(M:Type) where
 W:Wk P
 Rep:Nat->M->Value->GH->Prop
 main:Bool
 fn:FuncId
 rd:Option Nat
 N:Nat
def Ms.wk(F:Ms P M):Option (Cj M)->Wk P
 | none=>F.W
 | some s=>⟨F.main,EB P F.main (IO P F.Rep F.W.K s F.main),Lp _ _⟩
abbrev Ms.env(F:Ms P M)(i:Option (Cj M)):GE P:=⟨F.wk i,F.fn,F.rd,F.N⟩
abbrev PU(M:Type):=Option (Cj M)->Exit->(Nat->Value)->List Deferred->GH->Prop
def OT(F:Ms P M)(c:Code)(i:Option (Cj M))(O:Nat->Value)(ds:List Deferred)(h:GH)(Q:PU M):Prop:=
 ∀(b:Frame)(k:List Item)(cs:List Frame)(L:Option (Cj M)->Lv)(t:Array Value),b.fn=F.fn->b.roundOf=F.rd->(∀i,Ll (F.wk i) b cs (L i))->BS t F.N O->
  (∀i e σ' ds' h',Q i e σ' ds' h'->∀t',BS t' F.N σ'->DD (F.wk i) (L i) b k cs e t' ds' h')->(F.wk i).K (G (Cc b t ds (.code c ::k)) cs) h
def GG(F:Ms P M)(ops:Array Oper)(l:List Oper)(i:Option (Cj M))(O:Nat->Value)(ds:List Deferred)(h:GH)(Q:PU M):Prop:=
 ∀(n:Nat)(b:Frame)(k:List Item)(cs:List Frame)(L:Option (Cj M)->Lv)(t:Array Value),(∀j,l[j]? =ops[n+j]?)->b.fn=F.fn->b.roundOf=F.rd->(∀i,Ll (F.wk i) b cs (L i))->BS t F.N O->
  (∀i e σ' ds' h',Q i e σ' ds' h'->∀t',BS t' F.N σ'->DD (F.wk i) (L i) b k cs e t' ds' h')->(F.wk i).K (G (Cc b t ds (.inRegion ops (List.range' n l.length) ::k)) cs) h
variable {F:Ms P M} {i:Option (Cj M)} {O:Nat->Value} {ds:List Deferred} {h:GH} {Q:PU M}
theorem Ih{c:Code}(x:Tr (F.env i) c O ds h (Q i)):OT F c i O ds h Q:=λb k cs L t hb hr hl hs hc=>x b k cs (L i) t hb hr (hl i) hs (hc i)
theorem Gk{x y:Code}(a:OT F x i O ds h (λi e σ' ds' h'=>match e with | .normal=>OT F y i σ' ds' h' Q | e=>Q i e σ' ds' h')):OT F (.seq x y) i O ds h Q:=by
 intro b k cs L t hb hr hl hs hc;refine Wk.go (Cc b t ds (.code x ::.code y ::k)) (λw=>by rw [Ay];simp [stepG.exec,Cc,G]) ?_;refine a b (.code y ::k) cs L t hb hr hl hs λi e σ' ds' h' q t' ht'=>?_;cases e with
 | normal=>exact q b k cs L t' hb hr hl ht' hc
 | exit id=>exact DD.push rfl aD (hc _ _ _ _ _ q t' ht')
 | ret=>exact DD.push rfl aD (hc _ _ _ _ _ q t' ht')
 | goto l=>exact DD.push rfl aD (hc _ _ _ _ _ q t' ht')
 | panic l=>exact DD.push rfl aD (hc _ _ _ _ _ q t' ht')
 | outgrown=>exact DD.push rfl aD (hc _ _ _ _ _ q t' ht')
theorem Ba{x y:Code}(a:Tr (F.env i) x O ds h (λe σ' ds' h'=>match e with | .normal=>OT F y i σ' ds' h' Q | e=>Q i e σ' ds' h')):OT F (.seq x y) i O ds h Q:=
 Gk (Ih (Q:=λi e σ' ds' h'=>match e with | .normal=>OT F y i σ' ds' h' Q | e=>Q i e σ' ds' h') a)
theorem EQ{id:Nat}{c:Code}(a:OT F c i O ds h (λi e σ' ds' h'=>match e with | .normal=>Q i .normal σ' ds' h' | .exit id'=>if id'=id then Q i .normal σ' ds' h' else Q i (.exit id') σ' ds' h' | e=>Q i e σ' ds' h')) :
  OT F (.block id c) i O ds h Q:=by
 intro b k cs L t hb hr hl hs hc;refine Wk.go (Cc b t ds (.code c ::.inBlock id ::k)) (λw=>by rw [Ay];simp [stepG.exec,Cc,G]) ?_;refine a b (.inBlock id ::k) cs L t hb hr hl hs λi e σ' ds' h' q t' ht'=>?_;cases e with
 | normal=>exact Wk.go (Cc b t' ds' k) (λw=>by rw [Ay];simp [stepG.exec,Cc,G]) (hc _ _ _ _ _ q t' ht')
 | exit id'=>
  by_cases hid:id'=id
  ·simp only [hid,if_true] at q
   have:=hc _ _ _ _ _ q t' ht'
   simp only [DD,exitTo,hid,beq_self_eq_true,if_true];exact this
  ·simp only [hid,if_false] at q
   have:=hc _ _ _ _ _ q t' ht'
   have hne:(id==id')=false:=by simp;exact λh=>hid h.symm
   simp only [DD,exitTo,hne] at this ⊢;exact this
 | ret=>exact hc _ _ _ _ _ q t' ht'
 | goto l=>exact hc _ _ _ _ _ q t' ht'
 | panic l=>exact hc _ _ _ _ _ q t' ht'
 | outgrown=>exact hc _ _ _ _ _ q t' ht'
theorem Js{c:Code}(I:Nat->Option (Cj M)->(Nat->Value)->List Deferred->GH->Prop){n:Nat}(i0:I n i O ds h)
  (round:∀n i O ds h,I n i O ds h->OT F c i O ds h (λi e σ' ds' h'=>match e with | .normal=>∃m,m<n/\I m i σ' ds' h' | e=>Q i e σ' ds' h')):OT F (.loop c) i O ds h Q:=by
 intro b k cs L t hb hr hl hs hc;refine Wk.go (Cc b t ds (.code c ::.inLoop c ::k)) (λw=>by rw [Ay];simp [stepG.exec,Cc,G]) ?_;have key:∀n i O ds h t,I n i O ds h->BS t F.N O->(F.wk i).K (G (Cc b t ds (.code c ::.inLoop c ::k)) cs) h:=by
  intro n
  induction n using Nat.strongRecOn with
  | ind n ih=>
   intro i O ds h t hi hs;refine round n i O ds h hi b (.inLoop c ::k) cs L t hb hr hl hs λi e σ' ds' h' q t' ht'=>?_;cases e with
   | normal=>
    obtain ⟨m,hm,hi'⟩:=q;exact Wk.go (Cc b t' ds' (.code c ::.inLoop c ::k)) (λw=>by rw [Ay];simp [stepG.exec,Cc,G]) (ih m hm _ _ _ _ _ hi' ht')
   | exit id=>exact DD.push rfl aD (hc _ _ _ _ _ q t' ht')
   | ret=>exact DD.push rfl aD (hc _ _ _ _ _ q t' ht')
   | goto l=>exact DD.push rfl aD (hc _ _ _ _ _ q t' ht')
   | panic l=>exact DD.push rfl aD (hc _ _ _ _ _ q t' ht')
   | outgrown=>exact DD.push rfl aD (hc _ _ _ _ _ q t' ht')
 exact key n i O ds h t i0 hs
theorem Fe{id:Nat}{l:List Oper}(a:GG F l.toArray l i O ds h Q):OT F (.region id l.toArray false) i O ds h Q:=by
 intro b k cs L t hb hr hl hs hc;refine Wk.go (Cc b t ds (.inRegion l.toArray (List.range' 0 l.length) ::k)) (λw=>?_) (a 0 b k cs L t aD hb hr hl hs hc);rw [Ay];simp [stepG.exec,Cc,G,List.range_eq_range']
theorem FP{ops:Array Oper}(q:Q i .normal O ds h):GG F ops [] i O ds h Q:=by
 intro n b k cs L t hi hb hr hl hs hc;exact Wk.go (Cc b t ds k) (λw=>by rw [Ay];simp [stepG.exec,Cc,G]) (hc _ _ _ _ _ q t hs)
theorem Dz{ops:Array Oper}{o:Oper}{l:List Oper}(hg:o.guard=none)(hdf:F.rd=none\/C0 o.op=false)(hd:Cx o.dst F.N=true)
  (x:BU (F.env i) o O ds h λσ' ds' h'=>GG F ops l i σ' ds' h' Q):GG F ops (o ::l) i O ds h Q:=by
 intro n b k cs L t hi hb hr hl hs hc;have ho:ops[n]? =some o:=by simpa using (hi 0).symm
 refine KO (E:=F.env i) (rest:=List.range' (n+1) l.length) ho (by simp [Region.wanted,hg]) (hr▸hdf) hd hs x λσ' ds' h' y t' ht'=>?_;exact y (n+1) b k cs L t' (λj=>by have:=hi (j+1);simpa [Nat.add_assoc,Nat.add_comm 1 j] using this) hb hr hl ht' hc
theorem PW{main:Bool}{b:Frame}{t:Array Value}{ops:Array Oper}{n:Nat}{rest:List Nat}{k:List Item}{cs:List Frame}{o:Oper}{N:Nat}(hs:BS t N O)(ho:ops[n]? =some o)(hw:Region.wanted o (yielded ops t)=true)
  (hdf:b.roundOf=none\/C0 o.op=false) (w:World):stepG P main (G (Cc b t ds (.inRegion ops (n ::rest) ::k)) cs) w=stepG.apply P true (Cc b t ds (.inRegion ops (n ::rest) ::k)) cs none (execOp (AN O) o) w:=by
 have hev:=Lk (b:=b) (ds:=ds) (k:=.inRegion ops (n ::rest) ::k) hs;rw [<-hev];have hw':((ops[n]?).map (Region.wanted · (yielded ops t))).getD false=true:=by simp [ho,hw]
 rw [Ay];unfold stepG.exec;simp only [Cc,hw',↓reduceIte];unfold stepG.oper;simp only [Frame.oper?,ho];rcases hdf with e | e
 ·simp only [e]
 ·cases hq:o.op <;> first | rfl | (rw [hq] at e;cases e;done) | (cases b.roundOf <;> rfl)
theorem Tw{main:Bool}{b:Frame}{t:Array Value}{ops:Array Oper}{n:Nat}{rest:List Nat}{k:List Item}{cs:List Frame}{o:Oper}{N:Nat}{w:World}{cc:Array CommCase}{bl:Bool}{sh:CommShape}(hs:BS t N O)(ho:ops[n]? =some o)(hw:Region.wanted o (yielded ops t)=true)
  (hdf:b.roundOf=none\/C0 o.op=false) (hr:(execOp (AN O) o).runT P w #[]=(.ok (.comm cc bl sh) w,#[])) :
  stepG P main (G (Cc b t ds (.inRegion ops (n ::rest) ::k)) cs) w=.comm (G (Cc b t ds (.inRegion ops (n ::rest) ::k)) cs) cc bl sh w #[]:=by
 rw [PW hs ho hw hdf];simp only [stepG.apply,hr,if_true,ite_self,seen_none];rfl
theorem spawn_at{main:Bool}{b:Frame}{t:Array Value}{ops:Array Oper}{n:Nat}{rest:List Nat}{k:List Item}{cs:List Frame}{o:Oper}{N:Nat}{w:World}{f:Fn}{cap args:Array Value}(hs:BS t N O)(ho:ops[n]? =some o)(hw:Region.wanted o (yielded ops t)=true)
  (hdf:b.roundOf=none\/C0 o.op=false) (hr:(execOp (AN O) o).runT P w #[]=(.ok (.spawn { target:=.fn f cap,args:=args }) w,#[])) :
  stepG P main (G (Cc b t ds (.inRegion ops (n ::rest) ::k)) cs) w=.spawn (G ((Cc b t ds (.inRegion ops (n ::rest) ::k)).finish undef) cs) (born P { target:=.fn f cap,args:=args }) w #[]:=by
 rw [PW hs ho hw hdf];simp only [stepG.apply,hr,if_true,ite_self,seen_none];simp [GStep.after,G,born]
variable {ops:Array Oper} {o:Oper} {l:List Oper}
theorem SE{c:Code}:OT F c (some .never) O ds h Q:=λb k cs L t hb hr _ hs hc=>EB.stop rfl
theorem ZR{c:Nat}{m:M}{nx:Cj M}{v z:Value}{hm h1:GH}(hg:o.guard=none)(hdf:C0 o.op=false)(hd:Cx o.dst F.N=true)
  (hr:∀w,(execOp (AN O) o).runT P w #[]=(.ok (.comm #[scase c v z] true .send) w,#[])) (hsp:GH.Split h h1 hm) (hrep:F.Rep c m v hm) (hnx:¬nx.isDone)
  (x:GG F ops l (some nx) (putS O o.dst undef) ds h1 Q):GG F ops (o ::l) (some (.send c m nx)) O ds h Q:=by
 intro n b k cs L t hi hb hrd hl hs hc;have ho:ops[n]? =some o:=by simpa using (hi 0).symm
 refine EB.stop ⟨_,cs,v,z,hm,h1,rfl,⟨λw f=>?_,hsp,hrep,?_⟩⟩
 ·rw [List.length_cons,List.range'_succ];exact Tw hs ho (by simp [Region.wanted,hg]) (.inr hdf) (hr w)
 ·rw [Gq hnx,List.length_cons,List.range'_succ,C1 ho];exact x (n+1) b k cs L _ (λj=>by have:=hi (j+1);simpa [Nat.add_assoc,Nat.add_comm 1 j] using this) hb hrd hl (hs.putS hd undef) hc
theorem ZS{c:Nat}{f:Option M->Cj M}{z:Value}{ok:Bool}(hg:o.guard=none)(hdf:C0 o.op=false)(hd:Cx o.dst F.N=true)
  (hr:∀w,(execOp (AN O) o).runT P w #[]=(.ok (.comm #[rcase c z] true (.recv ok)) w,#[])) (hnx:∀o,¬(f o).isDone)
  (x:∀m v hm,F.Rep c m v hm->h.Compat hm->GG F ops l (some (f (some m))) (putS O o.dst (recvd ok v true)) ds (h.join hm) Q)
  (y:GG F ops l (some (f none)) (putS O o.dst (recvd ok z false)) ds h Q):GG F ops (o ::l) (some (.recv c f)) O ds h Q:=by
 intro n b k cs L t hi hb hrd hl hs hc;have ho:ops[n]? =some o:=by simpa using (hi 0).symm
 refine EB.stop ⟨_,cs,z,ok,rfl,⟨λw fw=>?_,λm v hm hrep hcp=>?_,?_⟩⟩
 ·rw [List.length_cons,List.range'_succ];exact Tw hs ho (by simp [Region.wanted,hg]) (.inr hdf) (hr w)
 ·show FK P F.Rep F.W.K (f (some m)) F.main _ _;rw [Gq (hnx _),List.length_cons,List.range'_succ,C1 ho];exact x m v hm hrep hcp (n+1) b k cs L _ (λj=>by have:=hi (j+1);simpa [Nat.add_assoc,Nat.add_comm 1 j] using this) hb hrd hl (hs.putS hd _) hc
 ·show FK P F.Rep F.W.K (f none) F.main _ _;rw [Gq (hnx _),List.length_cons,List.range'_succ,C1 ho];exact y (n+1) b k cs L _ (λj=>by have:=hi (j+1);simpa [Nat.add_assoc,Nat.add_comm 1 j] using this) hb hrd hl (hs.putS hd _) hc
theorem Tx{ch nx:Cj M}{f:Fn}{cap args:Array Value}{hc h1:GH}(hg:o.guard=none)(hdf:C0 o.op=false)(hd:Cx o.dst F.N=true)
  (hr:∀w,(execOp (AN O) o).runT P w #[]=(.ok (.spawn { target:=.fn f cap,args:=args }) w,#[])) (hsp:GH.Split h h1 hc) (hnx:¬nx.isDone)
  (child:FK P F.Rep F.W.K ch false (born P { target:=.fn f cap,args:=args }) hc) (x:GG F ops l (some nx) (putS O o.dst undef) ds h1 Q):GG F ops (o ::l) (some (.spawn ch nx)) O ds h Q:=by
 intro n b k cs L t hi hb hrd hl hs hq;have ho:ops[n]? =some o:=by simpa using (hi 0).symm
 refine EB.stop ⟨_,cs,(Cc b t ds (.inRegion ops (List.range' n (o ::l).length) ::k)).finish undef,_,hc,h1,rfl,⟨λw fw=>?_,hsp,?_,child⟩⟩
 ·rw [List.length_cons,List.range'_succ];exact spawn_at hs ho (by simp [Region.wanted,hg]) (.inr hdf) (hr w)
 ·rw [Gq hnx,List.length_cons,List.range'_succ,C1 ho];exact x (n+1) b k cs L _ (λj=>by have:=hi (j+1);simpa [Nat.add_assoc,Nat.add_comm 1 j] using this) hb hrd hl (hs.putS hd undef) hq
theorem Tz{f:FuncId}{fn:Func}{args:Array Value}(hf:P.funcs[f]? =some fn)(hc:AM fn=true)(w:World):(callFunc f args).runT P w #[]=(.ok (.enter f args) w,#[]):=by
 unfold AM at hc;simp only [Bool.and_eq_true,Bool.not_eq_true'] at hc;unfold callFunc;show (match P.funcs[f]? with | none=>_ | some fn=>_:Sem Next).runT P w #[]=_;rw [hf];simp only [];rw [if_neg (by rw [hc.1];simp),if_neg (by cases hb:fn.body with | none=>rw [hb] at hc;simp at hc | some c=>simp)];rfl
theorem Wd{fn:FuncId}{ch:Nat}:seen P fn #[⟨.obj ch,false,true⟩,⟨.obj ch,true,true⟩]=#[⟨.obj ch,false,true⟩,⟨.obj ch,true,true⟩]:=by
 rw [seen_def];simp [seenStep]
end
section
variable {P:Program} {M:Type} {Post:Value->World->Prop}
def GH.Same(h h':GH):Prop:=∀b p o,h b=some (p,o)->∃p',h' b=some (p',o)
theorem IN.flags{g:Goroutine}{h h':GH}{gs:Array Goroutine}{w:World}{q:Nat->Nat}{t:Trace}(B:IN P g h gs w q t)(s:h'.Same h):IN P g h' gs w q t:=
 { B with
  fits:=λb p o hb=>by obtain ⟨p',x⟩:=s b p o hb;exact B.fits b p' o x
  chn:=λb p o k a hb=>by obtain ⟨p',x⟩:=s b p o hb;exact B.chn b p' o k a x }
theorem Dx.flags{g:Goroutine}{h h':GH}(s:h'.Same h)(x:Dx P Post g h'):Dx P Post g h:=λgs w sl q t B=>x gs w sl q t (B.flags s)
def We(s0:Cj M)(N:Gr M):Prop:=0<N.n/\N.s 0=s0/\∀j,0<j->j<N.n->N.s j=.done/\N.kn 0 j
theorem PX{Rep:Nat->M->Value->GH->Prop}{g:Goroutine}{h:GH}{s0:Cj M}(good:∀N:Gr M,We s0 N->FM (λ_=>False) N)(d:FK P Rep (Dx P Post) s0 true g h):Dx P Post g h:=by
 intro gs w sl q t B;let N:Gr M:={ n:=gs.size,s:=λj=>if j=0 then s0 else .done,kn:=λi j=>i=0/\0<j,cl:=λ_=>false,ck:=λ_ _=>False };have hpos:0<gs.size:=B.lt;obtain ⟨r0,hsit⟩:=Gt (cl:=N.cl) d;have hsits:∀i g',gs[i]? =some g'->Oa P Rep (Dx P Post) (N.s i) N.cl (i==0) g' (only h i) (if i=0 then r0 else .leave (q i)):=by
  intro i g' hi;rcases Nat.eq_zero_or_pos i with rfl | hp
  ·have:=B.here;rw [hi] at this;cases this
   simpa [N,only] using hsit
  ·have h0:¬i=0:=aA
   have hq:=B.old i g' hp hi;simp only [N,h0,if_false];exact .leave (q i) rfl hq
 have hparked:∀i (gi:Goroutine) cs sh,gs[i]? =some (parked gi cs sh)->i=0:=λi gi cs sh hi=>by
  rcases Nat.eq_zero_or_pos i with e | hp
  ·exact e
  ·rcases (B.old i _ hp hi).status with e | e <;> cases e
 refine net_runs (used:=λ_=>False) (N:=N) (good N ⟨hpos,rfl,λj hj hjn=>⟨if_neg aA,rfl,hj⟩⟩) (λi=>if i=0 then r0 else .leave (q i)) gs w sl t (only h)
  ⟨rfl,B.HS,B.TI,hsits,λ_ q=>q.elim,λ_ _ q=>q.elim,λ_ _ _ q=>q.elim,?_,?_,λ_ q=>q.elim⟩
 ·intro i j gi gj c' v z sh z' sh' h1 h2;obtain rfl:=hparked i _ _ _ h1;obtain rfl:=hparked j _ _ _ h2;rw [h1] at h2;exact Hg (Option.some.inj h2).symm
 ·rintro i j hi hj ⟨rfl,hjp⟩;refine ⟨if_neg aA,λk a hk _=>B.known k a hk⟩
def LK(W:Wk P):Prop:=∃Post:Value->World->Prop,W.K=Dx P Post
variable {F:Ms P M} {i:Option (Cj M)} {O:Nat->Value} {ds:List Deferred} {h:GH} {Q:PU M}
theorem trI_made{c:Code}{s0:Cj M}(hm:F.main=true)(hW:LK F.W)(hs:¬s0.isDone)(good:∀N:Gr M,We s0 N->FM (λ_=>False) N)(x:OT F c (some s0) O ds h Q):OT F c none O ds h Q:=by
 intro b k cs L t hb hr hl ht hq
 have:=x b k cs L t hb hr hl ht hq
 obtain ⟨Post,hP⟩:=hW;show F.W.K _ _;rw [hP];refine PX (Rep:=F.Rep) good ?_;rw [Gq hs];unfold Ms.wk at this;simp only [hm,hP] at this;exact this
theorem PY{c:Code}{f:Nat->Cj M}{ch:Nat}(hc:h ch=some (true,.chan 0 #[] false 0 0 false))(hs:¬(f ch).isDone)(x:OT F c (some (f ch)) O ds (h.cut ch) Q):OT F c (some (.make f)) O ds h Q:=by
 intro b k cs L t hb hr hl ht hq;refine EB.stop ⟨rfl,ch,hc,?_⟩;rw [Gq hs];exact x b k cs L t hb hr hl ht hq
theorem trI_out{c:Code}{h0:GH}(hW:LK F.W)(hs:h0.Same h)(x:OT F c none O ds (h0.join h) Q):OT F c (some .stop) O ds h Q:=by
 intro b k cs L t hb hr hl ht hq
 have:=x b k cs L t hb hr hl ht hq
 obtain ⟨Post,hP⟩:=hW;refine EB.stop ?_;show F.W.K _ _;have h2:F.W.K _ _:=this;rw [hP] at h2 ⊢;refine h2.flags λb p o hb=>?_;rcases hj:h0 b with _ | ⟨p0,o0⟩
 ·unfold GH.join at hb;rw [hj] at hb;exact ⟨p,hb⟩
 ·unfold GH.join at hb;rw [hj] at hb;cases hb;exact hs b p o hj
def GH.ro(h:GH):GH:=λb=>(h b).map λx=>(false,x.2)
theorem GH.ro_some{h:GH}{b:Nat}{p:Bool}{o:Obj}(hb:h b=some (p,o)):h.ro b=some (false,o):=by unfold GH.ro;rw [hb];rfl
theorem GH.ro_inv{h:GH}{b:Nat}{p:Bool}{o:Obj}(hb:h.ro b=some (p,o)):p=false/\∃p',h b=some (p',o):=by
 unfold GH.ro at hb;cases e:h b with
 | none=>rw [e] at hb;cases hb
 | some x=>rw [e] at hb;obtain ⟨p',o'⟩:=x;cases hb;exact ⟨rfl,p',rfl⟩
theorem GH.split_ro(h:GH):GH.Split h h.ro h.ro where
 left:=λb p o hb=>by obtain ⟨rfl,p',x⟩:=GH.ro_inv hb;exact ⟨p',x,λe=>by cases e⟩
 right:=λb p o hb=>by obtain ⟨rfl,p',x⟩:=GH.ro_inv hb;exact ⟨p',x,λe=>by cases e⟩
 one:=λr o x hb=>by cases (GH.ro_inv hb).1
 two:=λr o x hb=>by cases (GH.ro_inv hb).1
theorem GH.same_ro(h:GH):h.Same h.ro:=λ_ _ _ hb=>⟨false,GH.ro_some hb⟩
theorem GH.Same.trans{a b c:GH}(x:a.Same b)(y:b.Same c):a.Same c:=λr p o hr=>by obtain ⟨p',z⟩:=x r p o hr;exact y r p' o z
theorem GH.Le.same{a b:GH}(x:a.Le b):a.Same b:=λr p o hr=>⟨p,x.keep hr rfl⟩
theorem GH.le_join(a b:GH):a.Le (a.join b):=λr p o hr=>⟨o,by unfold GH.join;rw [hr],.inl rfl⟩
theorem GH.Same.join{a b:GH}(s:a.Same b):b.Same (a.join b):=λr p o hr=>by
 unfold GH.join;cases e:a r with
 | none=>exact ⟨p,hr⟩
 | some x=>obtain ⟨p0,o0⟩:=x;obtain ⟨p',y⟩:=s r p0 o0 e;rw [hr] at y;cases y;exact ⟨p0,rfl⟩
theorem AY.flags{h h':GH}(s:h.Same h'){b off n:Nat}{vs:Array Value}(x:AY h b off n vs):AY h' b off n vs:=by
 obtain ⟨p,c,t,f,y,z⟩:=x;obtain ⟨p',y'⟩:=s _ _ _ y;exact ⟨p',c,t,f,y',z⟩
theorem AL.flags{V:Type}{h h':GH}(s:h.Same h'){v:Value}{n:Nat}{enc:V->Array Value}{xs:List V}(x:AL h v n enc xs):AL h' v n enc xs:=by
 obtain ⟨a,cap,hv,hc,hm,he⟩:=x;refine ⟨a,cap,hv,hc,hm,λi hi=>?_⟩;obtain ⟨b,off,h1,h2⟩:=he i hi;exact ⟨b,off,h1,h2.flags s⟩
end
section
variable {M:Type} [DecidableEq M]
end
end Go.Ns
namespace Go.Ns
inductive Di where
 | job (i:Nat)
 | res (i:Nat) (b:Bool)
 | tick
section
variable (cj co cd:Nat) (n:Nat) (ok:Nat->Bool)
def HJ:Nat->Nat->Cj Di
 | 0,_=>.close cj .done
 | m+1,k=>.send cj (.job k) (HJ m (k+1))
def Ux(W:Cj Di):Option Di->Cj Di
 | none=>.send cd .tick .done
 | some (.job i)=>.send co (.res i (ok i)) W
 | some _=>.never
def FQ:Nat->Cj Di
 | 0=>.never
 | m+1=>.recv cj (Ux co cd ok (FQ m))
def Mt(W:Cj Di):Option Di->Cj Di
 | some .tick=>W
 | _=>.never
def D6:Nat->Cj Di
 | 0=>.close co .done
 | t+1=>.recv cd (Mt (D6 t))
def IC(R:List Nat)(W:List Nat->Cj Di):Option Di->Cj Di
 | none=>if R=[] then .stop else .never
 | some (.res i b)=>if i ∈ R/\b=ok i then W (R.erase i) else .never
 | some _=>.never
def FR:Nat->List Nat->Cj Di
 | 0,_=>.never
 | m+1,R=>.recv co (IC ok R (FR m))
def Hx:Nat->Cj Di
 | 0=>.spawn (D6 co cd 3) (FR co ok (n+1) (List.range n))
 | m+1=>.spawn (FQ cj co cd ok (n+1)) (Hx m)
def poolS:Cj Di:=.make λco=>.make λcj=>.spawn (HJ cj n 0) (.make λcd=>Hx cj co cd n ok 3)
inductive WS where
 | wait (m:Nat)
 | hold (m i:Nat)
 | tick
 | fin
def WS.scr:WS->Cj Di
 | .wait m=>FQ cj co cd ok (m+1)
 | .hold m i=>.send co (.res i (ok i)) (FQ cj co cd ok (m+1))
 | .tick=>.send cd .tick .done
 | .fin=>.done
def WS.left:WS->Nat
 | .wait _=>3
 | .hold _ _=>4
 | .tick=>2
 | .fin=>0
def WS.finN:WS->Nat
 | .fin=>1
 | _=>0
def T0(a:Nat)(c5:Bool)(R:List Nat):Cj Di:=if c5 then FR co ok (R.length+1) R else Hx cj co cd n ok (3-a)
end
structure DZ(cj co cd n:Nat)(ok:Nat->Bool)(k0 a:Nat)(c5:Bool)(k:Nat)(bj bo:Bool)(w:Nat->WS)(R:List Nat)(N:Gr Di):Prop where
 pos:0<k0
 nn:N.n=k0+1+a+(if c5 then 1 else 0)
 ha:a<=3
 h5:c5=true->a=3
 main:N.s 0=T0 cj co cd n ok a c5 R
 old:∀j,0<j->j<k0->N.s j=.done/\N.kn 0 j
 feed:N.s k0=if bj then .done else HJ cj (n-k) k
 hk:k<=n
 bjk:bj=true->k=n
 clj:N.cl cj=bj
 clo:N.cl co=bo
 cld:N.cl cd=false
 work:∀x,x<a->N.s (k0+1+x)=(w x).scr cj co cd ok
 out:∀x,a<=x->w x=.wait n
 wait:∀x m,w x=.wait m->n-k<=m
 hold:∀x m i,w x=.hold m i->n-k<=m/\i<k
 over:∀x,w x=.tick\/w x=.fin->bj=true
 closer:c5=true->N.s (k0+4)=if bo then .done else D6 co cd (3-((w 0).finN+(w 1).finN+(w 2).finN))
 nofin:c5=false->(∀x,w x≠.fin)/\bo=false
 allfin:bo=true->∀x,x<3->w x=.fin
 nd:R.Nodup
 mem:∀i,i ∈ R↔(k<=i/\i<n)\/∃x m,w x=.hold m i
 uniq:∀x y m m' i,w x=.hold m i->w y=.hold m' i->x=y
 full:c5=false->R=List.range n
 ckj:bj=true->N.ck cj k0
 knw:∀x,x<a->w x=.tick\/w x=.fin->N.kn (k0+1+x) k0
 knc:∀x,x<a->w x=.fin->N.kn (k0+4) (k0+1+x)/\N.kn (k0+4) k0
 cko:bo=true->N.ck co (k0+4)/\N.ck co k0/\∀x,x<3->N.ck co (k0+1+x)
def Kp(w:Nat->WS)(x:Nat)(v:WS):Nat->WS:=λy=>if y=x then v else w y
theorem Be{w:Nat->WS}{x:Nat}{v:WS}:Kp w x v x=v:=if_pos rfl
theorem A6{w:Nat->WS}{x y:Nat}{v:WS}(h:y≠x):Kp w x v y=w y:=if_neg h
def L6(n a:Nat)(c5:Bool)(k:Nat)(bj bo:Bool)(w:Nat->WS):Nat:=
 (3-a)+(if c5 then 0 else 1)+3*(n-k)+(if bj then 0 else 1)+((w 0).left+(w 1).left+(w 2).left)+(if bo then 0 else 1)
section
variable {cj co cd n:Nat} {ok:Nat->Bool} {k0 a:Nat} {c5:Bool} {k:Nat} {bj bo:Bool} {w:Nat->WS} {R:List Nat} {N:Gr Di}
theorem DZ.cases(I:DZ cj co cd n ok k0 a c5 k bj bo w R N){i:Nat}(hi:i<N.n):i=0\/(0<i/\i<k0)\/i=k0\/(∃x,x<a/\i=k0+1+x)\/(c5=true/\i=k0+4):=by
 have h1:=I.nn;rcases Nat.eq_zero_or_pos i with e | h0
 ·exact .inl e
 rcases Nat.lt_trichotomy i k0 with h | h | h
 ·exact .inr (.inl ⟨h0,h⟩)
 ·exact .inr (.inr (.inl h))
 by_cases h2:i<k0+1+a
 ·exact .inr (.inr (.inr (.inl ⟨i-(k0+1),aA,aA⟩)))
 ·cases hc:c5 with
  | false=>rw [hc] at h1;simp at h1;omega
  | true=>have h3:=I.h5 hc;rw [hc] at h1;simp at h1;exact .inr (.inr (.inr (.inr ⟨rfl,aA⟩)))
theorem DZ.mainC(I:DZ cj co cd n ok k0 a c5 k bj bo w R N):(c5=true/\N.s 0=.recv co (IC ok R (FR co ok R.length)))\/(c5=false/\((a<3/\N.s 0=.spawn (FQ cj co cd ok (n+1)) (Hx cj co cd n ok (3-(a+1))))\/
  (a=3/\N.s 0=.spawn (D6 co cd 3) (FR co ok (n+1) (List.range n))))):=by
 have h:=I.main;unfold T0 at h;cases hc:c5 with
 | true=>rw [hc] at h;exact .inl ⟨rfl,h⟩
 | false=>
  rw [hc] at h;refine .inr ⟨rfl,?_⟩;have ha:=I.ha;by_cases h3:a=3
  ·subst h3;exact .inr ⟨rfl,h⟩
  ·have e:3-a=(3-(a+1))+1:=aA
   rw [e] at h;exact .inl ⟨aA,h⟩
theorem DZ.feedC(I:DZ cj co cd n ok k0 a c5 k bj bo w R N):(bj=true/\N.s k0=.done)\/(bj=false/\k=n/\N.s k0=.close cj .done)\/(bj=false/\k<n/\N.s k0=.send cj (.job k) (HJ cj (n-(k+1)) (k+1))):=by
 have h:=I.feed;have hk:=I.hk;cases hb:bj with
 | true=>rw [hb] at h;exact .inl ⟨rfl,h⟩
 | false=>
  rw [hb] at h;by_cases e:k=n
  ·subst e;rw [Nat.sub_self] at h;exact .inr (.inl ⟨rfl,rfl,h⟩)
  ·have e2:n-k=(n-(k+1))+1:=aA
   rw [e2] at h;exact .inr (.inr ⟨rfl,aA,h⟩)
theorem DZ.closeC(I:DZ cj co cd n ok k0 a c5 k bj bo w R N)(hc:c5=true):(bo=true/\N.s (k0+4)=.done)\/(bo=false/\3<=(w 0).finN+(w 1).finN+(w 2).finN/\N.s (k0+4)=.close co .done)\/
  (bo=false/\∃t,3-((w 0).finN+(w 1).finN+(w 2).finN)=t+1/\N.s (k0+4)=.recv cd (Mt (D6 co cd t))):=by
 have h:=I.closer hc;cases hb:bo with
 | true=>rw [hb] at h;exact .inl ⟨rfl,h⟩
 | false=>
  rw [hb] at h;generalize (w 0).finN+(w 1).finN+(w 2).finN=q at h;cases e:3-q with
  | zero=>rw [e] at h;exact .inr (.inl ⟨rfl,aA,h⟩)
  | succ t=>rw [e] at h;exact .inr (.inr ⟨rfl,t,rfl,h⟩)
theorem DZ.send(I:DZ cj co cd n ok k0 a c5 k bj bo w R N){i c:Nat}{m:Di}{nx:Cj Di}(hi:i<N.n)(hs:N.s i=.send c m nx) :
  (i=k0/\bj=false/\k<n/\c=cj/\m=.job k/\nx=HJ cj (n-(k+1)) (k+1))\/(∃x,x<a/\i=k0+1+x/\∃f j,w x=.hold f j/\c=co/\m=.res j (ok j)/\nx=FQ cj co cd ok (f+1))\/
  (∃x,x<a/\i=k0+1+x/\w x=.tick/\c=cd/\m=.tick/\nx=.done):=by
 rcases I.cases hi with rfl | ⟨h1,h2⟩ | rfl | ⟨x,hx,rfl⟩ | ⟨hc,rfl⟩
 ·rcases I.mainC with ⟨_,e⟩ | ⟨_,⟨_,e⟩ | ⟨_,e⟩⟩ <;> rw [e] at hs <;> cases hs
 ·rw [(I.old i h1 h2).1] at hs;cases hs
 ·rcases I.feedC with ⟨_,e⟩ | ⟨_,_,e⟩ | ⟨h1,h2,e⟩
  ·rw [e] at hs;cases hs
  ·rw [e] at hs;cases hs
  ·rw [e] at hs;cases hs;exact .inl ⟨rfl,h1,h2,rfl,rfl,rfl⟩
 ·rw [I.work x hx] at hs;cases hw:w x with
  | wait f=>rw [hw] at hs;have h:Cj.recv _ _=Cj.send c m nx:=hs;cases h
  | hold f j=>rw [hw] at hs;have h:Cj.send co (.res j (ok j)) (FQ cj co cd ok (f+1))=Cj.send c m nx:=hs;cases h;exact .inr (.inl ⟨x,hx,rfl,f,j,hw,rfl,rfl,rfl⟩)
  | tick=>rw [hw] at hs;have h:Cj.send cd .tick .done=Cj.send c m nx:=hs;cases h;exact .inr (.inr ⟨x,hx,rfl,hw,rfl,rfl,rfl⟩)
  | fin=>rw [hw] at hs;have h:Cj.done=Cj.send c m nx:=hs;cases h
 ·rcases I.closeC hc with ⟨_,e⟩ | ⟨_,_,e⟩ | ⟨_,t,_,e⟩ <;> rw [e] at hs <;> cases hs
theorem DZ.recv(I:DZ cj co cd n ok k0 a c5 k bj bo w R N){i c:Nat}{f:Option Di->Cj Di}(hi:i<N.n)(hs:N.s i=.recv c f) :
  (i=0/\c5=true/\c=co/\f=IC ok R (FR co ok R.length))\/(∃x,x<a/\i=k0+1+x/\∃m,w x=.wait m/\c=cj/\f=Ux co cd ok (FQ cj co cd ok m))\/
  (c5=true/\i=k0+4/\bo=false/\∃t,3-((w 0).finN+(w 1).finN+(w 2).finN)=t+1/\c=cd/\f=Mt (D6 co cd t)):=by
 rcases I.cases hi with rfl | ⟨h1,h2⟩ | rfl | ⟨x,hx,rfl⟩ | ⟨hc,rfl⟩
 ·rcases I.mainC with ⟨h1,e⟩ | ⟨_,⟨_,e⟩ | ⟨_,e⟩⟩
  ·rw [e] at hs;cases hs;exact .inl ⟨rfl,h1,rfl,rfl⟩
  ·rw [e] at hs;cases hs
  ·rw [e] at hs;cases hs
 ·rw [(I.old i h1 h2).1] at hs;cases hs
 ·rcases I.feedC with ⟨_,e⟩ | ⟨_,_,e⟩ | ⟨h1,h2,e⟩ <;> rw [e] at hs <;> cases hs
 ·rw [I.work x hx] at hs;cases hw:w x with
  | wait m=>rw [hw] at hs;have h:Cj.recv cj (Ux co cd ok (FQ cj co cd ok m))=Cj.recv c f:=hs;cases h;exact .inr (.inl ⟨x,hx,rfl,m,hw,rfl,rfl⟩)
  | hold m j=>rw [hw] at hs;have h:Cj.send _ _ _=Cj.recv c f:=hs;cases h
  | tick=>rw [hw] at hs;have h:Cj.send _ _ _=Cj.recv c f:=hs;cases h
  | fin=>rw [hw] at hs;have h:Cj.done=Cj.recv c f:=hs;cases h
 ·rcases I.closeC hc with ⟨_,e⟩ | ⟨_,_,e⟩ | ⟨h1,t,h2,e⟩
  ·rw [e] at hs;cases hs
  ·rw [e] at hs;cases hs
  ·rw [e] at hs;cases hs;exact .inr (.inr ⟨hc,rfl,h1,t,h2,rfl,rfl⟩)
theorem DZ.close(I:DZ cj co cd n ok k0 a c5 k bj bo w R N){i c:Nat}{nx:Cj Di}(hi:i<N.n)(hs:N.s i=.close c nx) :
  (i=k0/\bj=false/\k=n/\c=cj/\nx=.done)\/(c5=true/\i=k0+4/\bo=false/\3<=(w 0).finN+(w 1).finN+(w 2).finN/\c=co/\nx=.done):=by
 rcases I.cases hi with rfl | ⟨h1,h2⟩ | rfl | ⟨x,hx,rfl⟩ | ⟨hc,rfl⟩
 ·rcases I.mainC with ⟨_,e⟩ | ⟨_,⟨_,e⟩ | ⟨_,e⟩⟩ <;> rw [e] at hs <;> cases hs
 ·rw [(I.old i h1 h2).1] at hs;cases hs
 ·rcases I.feedC with ⟨_,e⟩ | ⟨h1,h2,e⟩ | ⟨h1,h2,e⟩
  ·rw [e] at hs;cases hs
  ·rw [e] at hs;cases hs;exact .inl ⟨rfl,h1,h2,rfl,rfl⟩
  ·rw [e] at hs;cases hs
 ·rw [I.work x hx] at hs;cases hw:w x with
  | wait m=>rw [hw] at hs;have h:Cj.recv _ _=Cj.close c nx:=hs;cases h
  | hold m j=>rw [hw] at hs;have h:Cj.send _ _ _=Cj.close c nx:=hs;cases h
  | tick=>rw [hw] at hs;have h:Cj.send _ _ _=Cj.close c nx:=hs;cases h
  | fin=>rw [hw] at hs;have h:Cj.done=Cj.close c nx:=hs;cases h
 ·rcases I.closeC hc with ⟨_,e⟩ | ⟨h1,h2,e⟩ | ⟨h1,t,h2,e⟩
  ·rw [e] at hs;cases hs
  ·rw [e] at hs;cases hs;exact .inr ⟨hc,rfl,h1,h2,rfl,rfl⟩
  ·rw [e] at hs;cases hs
theorem DZ.spawn(I:DZ cj co cd n ok k0 a c5 k bj bo w R N){i:Nat}{ch nx:Cj Di}(hi:i<N.n)(hs:N.s i=.spawn ch nx) :
  i=0/\c5=false/\((a<3/\ch=FQ cj co cd ok (n+1)/\nx=Hx cj co cd n ok (3-(a+1)))\/(a=3/\ch=D6 co cd 3/\nx=FR co ok (n+1) (List.range n))):=by
 rcases I.cases hi with rfl | ⟨h1,h2⟩ | rfl | ⟨x,hx,rfl⟩ | ⟨hc,rfl⟩
 ·rcases I.mainC with ⟨h1,e⟩ | ⟨h1,⟨h2,e⟩ | ⟨h2,e⟩⟩
  ·rw [e] at hs;cases hs
  ·rw [e] at hs;cases hs;exact ⟨rfl,h1,.inl ⟨h2,rfl,rfl⟩⟩
  ·rw [e] at hs;cases hs;exact ⟨rfl,h1,.inr ⟨h2,rfl,rfl⟩⟩
 ·rw [(I.old i h1 h2).1] at hs;cases hs
 ·rcases I.feedC with ⟨_,e⟩ | ⟨_,_,e⟩ | ⟨h1,h2,e⟩ <;> rw [e] at hs <;> cases hs
 ·rw [I.work x hx] at hs;cases hw:w x with
  | wait m=>rw [hw] at hs;have h:Cj.recv _ _=Cj.spawn ch nx:=hs;cases h
  | hold m j=>rw [hw] at hs;have h:Cj.send _ _ _=Cj.spawn ch nx:=hs;cases h
  | tick=>rw [hw] at hs;have h:Cj.send _ _ _=Cj.spawn ch nx:=hs;cases h
  | fin=>rw [hw] at hs;have h:Cj.done=Cj.spawn ch nx:=hs;cases h
 ·rcases I.closeC hc with ⟨_,e⟩ | ⟨_,_,e⟩ | ⟨_,t,_,e⟩ <;> rw [e] at hs <;> cases hs
theorem DZ.noMake(I:DZ cj co cd n ok k0 a c5 k bj bo w R N){i:Nat}{f:Nat->Cj Di}(hi:i<N.n):N.s i≠.make f:=by
 intro hs;rcases I.cases hi with rfl | ⟨h1,h2⟩ | rfl | ⟨x,hx,rfl⟩ | ⟨hc,rfl⟩
 ·rcases I.mainC with ⟨_,e⟩ | ⟨_,⟨_,e⟩ | ⟨_,e⟩⟩ <;> rw [e] at hs <;> cases hs
 ·rw [(I.old i h1 h2).1] at hs;cases hs
 ·rcases I.feedC with ⟨_,e⟩ | ⟨_,_,e⟩ | ⟨h1,h2,e⟩ <;> rw [e] at hs <;> cases hs
 ·rw [I.work x hx] at hs;cases hw:w x with
  | wait m=>rw [hw] at hs;have h:Cj.recv _ _=Cj.make f:=hs;cases h
  | hold m j=>rw [hw] at hs;have h:Cj.send _ _ _=Cj.make f:=hs;cases h
  | tick=>rw [hw] at hs;have h:Cj.send _ _ _=Cj.make f:=hs;cases h
  | fin=>rw [hw] at hs;have h:Cj.done=Cj.make f:=hs;cases h
 ·rcases I.closeC hc with ⟨_,e⟩ | ⟨_,_,e⟩ | ⟨_,t,_,e⟩ <;> rw [e] at hs <;> cases hs
theorem DZ.fine(I:DZ cj co cd n ok k0 a c5 k bj bo w R N){U:Nat->Prop}(u1:U cj)(u2:U co)(u3:U cd){i:Nat}(hi:i<N.n):Ji U N.cl i (N.s i):=by
 have hp:=I.pos;rcases I.cases hi with rfl | ⟨h1,h2⟩ | rfl | ⟨x,hx,rfl⟩ | ⟨hc,rfl⟩
 ·rcases I.mainC with ⟨_,e⟩ | ⟨_,⟨_,e⟩ | ⟨_,e⟩⟩ <;> rw [e]
  ·exact u2
  ·trivial
  ·trivial
 ·rw [(I.old i h1 h2).1];show i≠0;omega
 ·rcases I.feedC with ⟨_,e⟩ | ⟨h1,_,e⟩ | ⟨h1,h2,e⟩ <;> rw [e]
  ·show _≠0;omega
  ·exact ⟨u1,by rw [I.clj,h1]⟩
  ·exact ⟨u1,by rw [I.clj,h1]⟩
 ·rw [I.work x hx];have hno:bo=false\/w x=.fin:=by
   cases hb:bo with
   | false=>exact .inl rfl
   | true=>exact .inr (I.allfin hb x (by have:=I.ha;omega))
  cases hw:w x with
  | wait m=>exact u1
  | hold m j=>exact ⟨u2,by rw [I.clo];exact hno.elim id λe=>by rw [hw] at e;cases e⟩
  | tick=>exact ⟨u3,I.cld⟩
  | fin=>show _≠0;omega
 ·rcases I.closeC hc with ⟨_,e⟩ | ⟨h1,_,e⟩ | ⟨_,t,_,e⟩ <;> rw [e]
  ·show _≠0;omega
  ·exact ⟨u2,by rw [I.clo,h1]⟩
  ·exact u3
theorem WS.finN_le(x:WS):x.finN<=1:=by cases x <;> simp [WS.finN]
theorem WS.finN_one{x:WS}(h:1<=x.finN):x=.fin:=by cases x <;> simp_all [WS.finN]
theorem WS.finN_zero{x:WS}(h:x≠.fin):x.finN=0:=by cases x <;> simp_all [WS.finN]
theorem DZ.goes(I:DZ cj co cd n ok k0 a c5 k bj bo w R N):∃N',Id N N':=by
 have hp:=I.pos;have hn:=I.nn;rcases I.mainC with ⟨hc,em⟩ | ⟨_,⟨_,e⟩ | ⟨_,e⟩⟩
 ·have ha:=I.h5 hc;subst ha;rw [hc] at hn;simp at hn;have key:∀x,x<3->w x≠.fin->∃N',Id N N':=by
   intro x hx hf;have hwx:=I.work x hx;cases hw:w x with
   | fin=>exact absurd hw hf
   | wait m=>
    rw [hw] at hwx;rcases I.feedC with ⟨hb,_⟩ | ⟨_,_,e⟩ | ⟨_,_,e⟩
    ·exact ⟨_,.hear (j:=k0+1+x) aA hwx (by rw [I.clj,hb])⟩
    ·exact ⟨_,.shut (i:=k0) aA e⟩
    ·exact ⟨_,.meet (i:=k0) (j:=k0+1+x) aA aA aA e hwx⟩
   | hold m j=>rw [hw] at hwx;exact ⟨_,.meet (i:=k0+1+x) (j:=0) aA aA aA hwx em⟩
   | tick=>
    rw [hw] at hwx;have h0:=(w 0).finN_le;have h1:=(w 1).finN_le;have h2:=(w 2).finN_le;have hz:=WS.finN_zero hf;rcases I.closeC hc with ⟨hb,_⟩ | ⟨_,hb,_⟩ | ⟨_,t,_,e⟩
    ·exact absurd (I.allfin hb x hx) hf
    ·obtain rfl | rfl | rfl:x=0\/x=1\/x=2:=aA
     all_goals omega
    ·exact ⟨_,.meet (i:=k0+1+x) (j:=k0+4) aA aA aA hwx e⟩
  by_cases h:∃x,x<3/\w x≠.fin
  ·obtain ⟨x,hx,hf⟩:=h;exact key x hx hf
  ·have hall:∀x,x<3->w x=.fin:=λx hx=>Classical.byContradiction λq=>h ⟨x,hx,q⟩;rcases I.closeC hc with ⟨hb,_⟩ | ⟨_,_,e⟩ | ⟨_,t,ht,e⟩
   ·exact ⟨_,.hear (j:=0) aA em (by rw [I.clo,hb])⟩
   ·exact ⟨_,.shut (i:=k0+4) aA e⟩
   ·rw [hall 0 aA,hall 1 aA,hall 2 aA] at ht;simp [WS.finN] at ht
 ·exact ⟨_,.hire (i:=0) aA e⟩
 ·exact ⟨_,.hire (i:=0) aA e⟩
end
end Go.Ns
namespace Go.Ns
section
variable {M:Type} {N:Gr M} {i j x y c c':Nat} {si sj ch nx:Cj M}
theorem LL(h1:y≠N.n)(h2:y≠i):(N.hire i ch nx).s y=N.s y:=by show (if y=N.n then _ else if y=i then _ else _)=_;rw [if_neg h1,if_neg h2]
theorem PZ:(N.hire i ch nx).s N.n=ch:=if_pos rfl
theorem Wf(h:i≠N.n):(N.hire i ch nx).s i=nx:=by show (if i=N.n then _ else if i=i then _ else _)=_;rw [if_neg h,if_pos rfl]
theorem L7(h1:x≠N.n)(h2:y≠N.n)(k:N.kn x y):(N.hire i ch nx).kn x y:=by show if y=N.n then False else if x=N.n then _ else _;rw [if_neg h2,if_neg h1];exact k
theorem Ye(h2:y≠N.n)(k:N.ck c y):(N.hire i ch nx).ck c y:=by show if y=N.n then False else _;rw [if_neg h2];exact k
theorem HC(h1:y≠i)(h2:y≠j):(N.meet i j si sj).s y=N.s y:=by show (if y=i then _ else if y=j then _ else _)=_;rw [if_neg h1,if_neg h2]
theorem Wg:(N.meet i j si sj).s i=si:=if_pos rfl
theorem Wh(h:j≠i):(N.meet i j si sj).s j=sj:=by show (if j=i then _ else if j=j then _ else _)=_;rw [if_neg h,if_pos rfl]
theorem E5(k:N.kn x y):(N.meet i j si sj).kn x y:=by
 show if x=i\/x=j then _ else _
 split
 ·rename_i h;rcases h with rfl | rfl
  ·exact .inl k
  ·exact .inr (.inl k)
 ·exact k
theorem meet_knj(k:N.kn i y):(N.meet i j si sj).kn j y:=by show if j=i\/j=j then _ else _;rw [if_pos (.inr rfl)];exact .inl k
theorem ZT(h:si.isDone):(N.meet i j si sj).kn j i:=by show if j=i\/j=j then _ else _;rw [if_pos (.inr rfl)];exact .inr (.inr (.inl ⟨rfl,h⟩))
theorem IV(h:y≠i):(N.shut i c nx).s y=N.s y:=if_neg h
theorem Wi:(N.shut i c nx).s i=nx:=if_pos rfl
theorem T1:(N.shut i c nx).cl c=true:=if_pos rfl
theorem Jt(h:c'≠c):(N.shut i c nx).cl c'=N.cl c':=if_neg h
theorem Yf(k:N.kn i y):(N.shut i c nx).ck c y:=by show if c=c then _ else _;rw [if_pos rfl];exact .inl k
theorem Mu(h:nx.isDone):(N.shut i c nx).ck c i:=by show if c=c then _ else _;rw [if_pos rfl];exact .inr ⟨rfl,h⟩
theorem shut_ck'(h:c'≠c)(k:N.ck c' y):(N.shut i c nx).ck c' y:=by show if c'=c then _ else _;rw [if_neg h];exact k
theorem Mw(h:y≠j):(N.hear j c nx).s y=N.s y:=if_neg h
theorem hear_j:(N.hear j c nx).s j=nx:=if_pos rfl
theorem L8(k:N.kn x y):(N.hear j c nx).kn x y:=by
 show if x=j then _ else _
 split
 ·rename_i h;subst h;exact .inl k
 ·exact k
theorem Oc(k:N.ck c y):(N.hear j c nx).kn j y:=by show if j=j then _ else _;rw [if_pos rfl];exact .inr k
end
section
variable {cj co cd n:Nat} {ok:Nat->Bool} {k0 a:Nat} {c5:Bool} {k:Nat} {bj bo:Bool} {w:Nat->WS} {R:List Nat} {N:Gr Di}
theorem ZU{f k:Nat}:(WS.hold f k).left=4:=rfl
theorem Pa{v:WS}{x:Nat}(h:v.finN=(w x).finN)(y:Nat):(Kp w x v y).finN=(w y).finN:=by
 by_cases e:y=x
 ·subst e;rw [Be];exact h
 ·rw [A6 e]
theorem DZ.hire1(I:DZ cj co cd n ok k0 a false k bj bo w R N)(h3:a<3):DZ cj co cd n ok k0 (a+1) false k bj bo w R (N.hire 0 (FQ cj co cd ok (n+1)) (Hx cj co cd n ok (3-(a+1)))):=by
 have hn:N.n=k0+1+a:=by simpa using I.nn
 have hp:=I.pos;obtain ⟨nf,nb⟩:=I.nofin rfl;refine ⟨hp,by show N.n+1=_;simp;omega,h3,λe=>(by cases e),?_,λj h1 h2=>⟨?_,?_⟩,?_,I.hk,I.bjk,I.clj,I.clo,I.cld,λx hx=>?_,λx hx=>I.out x aA,I.wait,I.hold,I.over,λe=>(by cases e),λ_=>⟨nf,nb⟩,I.allfin,I.nd,I.mem,I.uniq,I.full,λe=>Ye aA (I.ckj e),λx hx h=>?_,λx _ h=>absurd h (nf x),λe=>by rw [nb] at e;cases e⟩
 ·rw [Wf aA];rfl
 ·rw [LL aA aA];exact (I.old j h1 h2).1
 ·exact L7 aA aA (I.old j h1 h2).2
 ·rw [LL aA aA];exact I.feed
 ·by_cases e:x=a
  ·subst e;rw [<-hn,PZ,I.out x (Nat.le_refl _)];rfl
  ·rw [LL aA aA];exact I.work x aA
 ·have e:x≠a:=λe=>by subst e;rw [I.out x (Nat.le_refl _)] at h;rcases h with h | h <;> cases h
  exact L7 aA aA (I.knw x aA h)
theorem DZ.hire2(I:DZ cj co cd n ok k0 3 false k bj bo w R N):DZ cj co cd n ok k0 3 true k bj bo w R (N.hire 0 (D6 co cd 3) (FR co ok (n+1) (List.range n))):=by
 have hn:N.n=k0+4:=by have:=I.nn;simp at this;omega
 have hp:=I.pos;obtain ⟨nf,nb⟩:=I.nofin rfl;refine ⟨hp,by show N.n+1=_;simp;omega,I.ha,λ_=>rfl,?_,λj h1 h2=>⟨?_,?_⟩,?_,I.hk,I.bjk,I.clj,I.clo,I.cld,λx hx=>?_,I.out,I.wait,I.hold,I.over,λ_=>?_,λe=>(by cases e),I.allfin,I.nd,I.mem,I.uniq,λe=>(by cases e),λe=>Ye aA (I.ckj e),λx hx h=>?_,λx _ h=>absurd h (nf x),λe=>by rw [nb] at e;cases e⟩
 ·rw [Wf aA,I.full rfl];unfold T0;rw [List.length_range];rfl
 ·rw [LL aA aA];exact (I.old j h1 h2).1
 ·exact L7 aA aA (I.old j h1 h2).2
 ·rw [LL aA aA];exact I.feed
 ·rw [LL aA aA];exact I.work x hx
 ·rw [<-hn,PZ,nb,WS.finN_zero (nf 0),WS.finN_zero (nf 1),WS.finN_zero (nf 2)];rfl
 ·exact L7 aA aA (I.knw x hx h)
theorem DZ.job(I:DZ cj co cd n ok k0 a c5 k false bo w R N)(hkn:k<n){x f:Nat}(hx:x<a)(hw:w x=.wait (f+1)) :
  DZ cj co cd n ok k0 a c5 (k+1) false bo (Kp w x (.hold f k)) R (N.meet k0 (k0+1+x) (HJ cj (n-(k+1)) (k+1)) (.send co (.res k (ok k)) (FQ cj co cd ok (f+1)))):=by
 have hp:=I.pos;have ha:=I.ha;have hf:=I.wait x _ hw;have F:=Pa (w:=w) (x:=x) (v:=.hold f k) (by rw [hw];rfl);have ne:∀{y:Nat}{v:WS},w y=v->v≠.wait (f+1)->y≠x:=λh h2 e=>h2 (by rw [<-h,e,hw]);refine ⟨hp,I.nn,ha,I.h5,?_,λj h1 h2=>⟨?_,E5 (I.old j h1 h2).2⟩,?_,hkn,λe=>(by cases e),I.clj,I.clo,I.cld,λy hy=>?_,λy hy=>?_,λy m h=>?_,λy m i h=>?_,λy h=>?_,λe=>?_,λe=>⟨λy=>?_,(I.nofin e).2⟩,λe=>?_,I.nd,λi=>?_,λy z m m' i h1 h2=>?_,I.full,λe=>(by cases e),λy hy h=>?_,λy hy h=>?_,I.cko⟩
 ·rw [HC aA aA];exact I.main
 ·rw [HC aA aA];exact (I.old j h1 h2).1
 ·rw [Wg];rfl
 ·by_cases e:y=x
  ·subst e;rw [Wh aA,Be];rfl
  ·rw [HC aA aA,A6 e];exact I.work y hy
 ·rw [A6 aA];exact I.out y hy
 ·by_cases e:y=x
  ·subst e;rw [Be] at h;cases h
  ·rw [A6 e] at h;have:=I.wait y m h;omega
 ·by_cases e:y=x
  ·subst e;rw [Be] at h;cases h;exact ⟨aA,aA⟩
  ·rw [A6 e] at h;have:=I.hold y m i h;omega
 ·by_cases e:y=x
  ·subst e;rw [Be] at h;rcases h with h | h <;> cases h
  ·rw [A6 e] at h;exact I.over y h
 ·have h5:=I.h5 e;rw [HC aA aA,F,F,F];exact I.closer e
 ·by_cases e2:y=x
  ·subst e2;rw [Be];intro q;cases q
  ·rw [A6 e2];exact (I.nofin e).1 y
 ·have:=I.allfin e x aA;rw [hw] at this;cases this
 ·rw [I.mem i];constructor
  ·rintro (⟨h1,h2⟩ | ⟨y,m,h⟩)
   ·by_cases e:i=k
    ·subst e;exact .inr ⟨x,f,Be⟩
    ·exact .inl ⟨aA,h2⟩
   ·exact .inr ⟨y,m,by rw [A6 (ne h (by intro q;cases q))];exact h⟩
  ·rintro (⟨h1,h2⟩ | ⟨y,m,h⟩)
   ·exact .inl ⟨aA,h2⟩
   ·by_cases e:y=x
    ·subst e;rw [Be] at h;cases h;exact .inl ⟨Nat.le_refl _,hkn⟩
    ·rw [A6 e] at h;exact .inr ⟨y,m,h⟩
 ·by_cases e1:y=x
  ·by_cases e2:z=x
   ·rw [e1,e2]
   ·subst e1;rw [Be] at h1;cases h1;rw [A6 e2] at h2;have:=(I.hold z _ _ h2).2;omega
  ·rw [A6 e1] at h1;by_cases e2:z=x
   ·subst e2;rw [Be] at h2;cases h2;have:=(I.hold y _ _ h1).2;omega
   ·rw [A6 e2] at h2;exact I.uniq y z m m' i h1 h2
 ·by_cases e:y=x
  ·subst e;rw [Be] at h;rcases h with h | h <;> cases h
  ·rw [A6 e] at h;exact E5 (I.knw y hy h)
 ·by_cases e:y=x
  ·subst e;rw [Be] at h;cases h
  ·rw [A6 e] at h;exact ⟨E5 (I.knc y hy h).1,E5 (I.knc y hy h).2⟩
theorem DZ.res(I:DZ cj co cd n ok k0 a true k bj bo w R N){x f j:Nat}(hx:x<a)(hw:w x=.hold f j) :
  j ∈ R/\DZ cj co cd n ok k0 a true k bj bo (Kp w x (.wait f)) (R.erase j) (N.meet (k0+1+x) 0 (FQ cj co cd ok (f+1)) (FR co ok R.length (R.erase j))):=by
 have hp:=I.pos;have ha:=I.h5 rfl;have hj:j ∈ R:=(I.mem j).2 (.inr ⟨x,f,hw⟩);have hl:=List.length_erase_of_mem hj;have hl2:=List.length_pos_of_mem hj;have hf:=I.hold x _ _ hw;have F:=Pa (w:=w) (x:=x) (v:=.wait f) (by rw [hw];rfl);refine ⟨hj,hp,I.nn,I.ha,I.h5,?_,λy h1 h2=>⟨?_,E5 (I.old y h1 h2).2⟩,?_,I.hk,I.bjk,I.clj,I.clo,I.cld,λy hy=>?_,λy hy=>?_,λy m h=>?_,λy m i h=>?_,λy h=>?_,λe=>?_,λe=>(by cases e),λe=>?_,I.nd.erase j,λi=>?_,λy z m m' i h1 h2=>?_,λe=>(by cases e),I.ckj,λy hy h=>?_,λy hy h=>?_,I.cko⟩
 ·rw [Wh aA];unfold T0;rw [if_pos rfl,show (R.erase j).length+1=R.length by omega]
 ·rw [HC aA aA];exact (I.old y h1 h2).1
 ·rw [HC aA aA];exact I.feed
 ·by_cases e:y=x
  ·subst e;rw [Wg,Be];rfl
  ·rw [HC aA aA,A6 e];exact I.work y hy
 ·rw [A6 aA];exact I.out y hy
 ·by_cases e:y=x
  ·subst e;rw [Be] at h;cases h;exact hf.1
  ·rw [A6 e] at h;exact I.wait y m h
 ·by_cases e:y=x
  ·subst e;rw [Be] at h;cases h
  ·rw [A6 e] at h;exact I.hold y m i h
 ·by_cases e:y=x
  ·subst e;rw [Be] at h;rcases h with h | h <;> cases h
  ·rw [A6 e] at h;exact I.over y h
 ·rw [HC aA aA,F,F,F];exact I.closer e
 ·have:=I.allfin e x aA;rw [hw] at this;cases this
 ·rw [List.Nodup.mem_erase_iff I.nd,I.mem i];constructor
  ·rintro ⟨hne,h | ⟨y,m,h⟩⟩
   ·exact .inl h
   ·refine .inr ⟨y,m,?_⟩;rw [A6 (λe=>by subst e;rw [hw] at h;cases h;exact hne rfl)];exact h
  ·rintro (h | ⟨y,m,h⟩)
   ·exact ⟨λe=>by subst e;omega,.inl h⟩
   ·by_cases e:y=x
    ·subst e;rw [Be] at h;cases h
    ·rw [A6 e] at h;exact ⟨λe2=>by subst e2;exact e (I.uniq y x m f i h hw),.inr ⟨y,m,h⟩⟩
 ·by_cases e1:y=x
  ·subst e1;rw [Be] at h1;cases h1
  ·by_cases e2:z=x
   ·subst e2;rw [Be] at h2;cases h2
   ·rw [A6 e1] at h1;rw [A6 e2] at h2;exact I.uniq y z m m' i h1 h2
 ·by_cases e:y=x
  ·subst e;rw [Be] at h;rcases h with h | h <;> cases h
  ·rw [A6 e] at h;exact E5 (I.knw y hy h)
 ·by_cases e:y=x
  ·subst e;rw [Be] at h;cases h
  ·rw [A6 e] at h;exact ⟨E5 (I.knc y hy h).1,E5 (I.knc y hy h).2⟩
theorem DZ.tick(I:DZ cj co cd n ok k0 a true k bj false w R N){x t:Nat}(hx:x<a)(hw:w x=.tick)(ht:3-((w 0).finN+(w 1).finN+(w 2).finN)=t+1) :
  DZ cj co cd n ok k0 a true k bj false (Kp w x .fin) R (N.meet (k0+1+x) (k0+4) .done (D6 co cd t)):=by
 have hp:=I.pos;have ha:=I.h5 rfl;have hb:=I.over x (.inl hw);refine ⟨hp,I.nn,I.ha,I.h5,?_,λy h1 h2=>⟨?_,E5 (I.old y h1 h2).2⟩,?_,I.hk,I.bjk,I.clj,I.clo,I.cld,λy hy=>?_,λy hy=>?_,λy m h=>?_,λy m i h=>?_,λy h=>hb,λe=>?_,λe=>(by cases e),λe=>(by cases e),I.nd,λi=>?_,λy z m m' i h1 h2=>?_,λe=>(by cases e),I.ckj,λy hy h=>?_,λy hy h=>?_,I.cko⟩
 ·rw [HC aA aA];exact I.main
 ·rw [HC aA aA];exact (I.old y h1 h2).1
 ·rw [HC aA aA];exact I.feed
 ·by_cases e:y=x
  ·subst e;rw [Wg,Be];rfl
  ·rw [HC aA aA,A6 e];exact I.work y hy
 ·rw [A6 aA];exact I.out y hy
 ·by_cases e:y=x
  ·subst e;rw [Be] at h;cases h
  ·rw [A6 e] at h;exact I.wait y m h
 ·by_cases e:y=x
  ·subst e;rw [Be] at h;cases h
  ·rw [A6 e] at h;exact I.hold y m i h
 ·rw [Wh aA];have h0:(w x).finN=0:=by rw [hw];rfl
  have e1:(Kp w x .fin 0).finN+(Kp w x .fin 1).finN+(Kp w x .fin 2).finN=(w 0).finN+(w 1).finN+(w 2).finN+1:=by
   obtain rfl | rfl | rfl:x=0\/x=1\/x=2:=aA
   ·rw [Be,A6 aA,A6 aA,h0];simp only [WS.finN];omega
   ·rw [Be,A6 aA,A6 aA,h0];simp only [WS.finN];omega
   ·rw [Be,A6 aA,A6 aA,h0];simp only [WS.finN]
  rw [e1,show 3-((w 0).finN+(w 1).finN+(w 2).finN+1)=t by omega];rfl
 ·rw [I.mem i];refine or_congr Iff.rfl ⟨?_,?_⟩
  ·rintro ⟨y,m,h⟩;exact ⟨y,m,by rw [A6 (λe=>by subst e;rw [hw] at h;cases h)];exact h⟩
  ·rintro ⟨y,m,h⟩;by_cases e:y=x
   ·subst e;rw [Be] at h;cases h
   ·rw [A6 e] at h;exact ⟨y,m,h⟩
 ·by_cases e1:y=x
  ·subst e1;rw [Be] at h1;cases h1
  ·by_cases e2:z=x
   ·subst e2;rw [Be] at h2;cases h2
   ·rw [A6 e1] at h1;rw [A6 e2] at h2;exact I.uniq y z m m' i h1 h2
 ·by_cases e:y=x
  ·subst e;exact E5 (I.knw y hy (.inl hw))
  ·rw [A6 e] at h;exact E5 (I.knw y hy h)
 ·by_cases e:y=x
  ·subst e;exact ⟨ZT trivial,meet_knj (I.knw y hy (.inl hw))⟩
  ·rw [A6 e] at h;exact ⟨E5 (I.knc y hy h).1,E5 (I.knc y hy h).2⟩
theorem DZ.fed(I:DZ cj co cd n ok k0 a c5 n false bo w R N)(d1:cj≠co)(d2:cj≠cd):DZ cj co cd n ok k0 a c5 n true bo w R (N.shut k0 cj .done):=by
 have hp:=I.pos;have ha:=I.ha;have hnb:∀x,¬(w x=.tick\/w x=.fin):=λx h=>by have:=I.over x h;cases this
 refine ⟨hp,I.nn,ha,I.h5,?_,λy h1 h2=>⟨?_,(I.old y h1 h2).2⟩,?_,I.hk,λ_=>rfl,T1,by rw [Jt d1.symm];exact I.clo,by rw [Jt d2.symm];exact I.cld,λy hy=>?_,I.out,I.wait,I.hold,λ_ _=>rfl,λe=>?_,I.nofin,I.allfin,I.nd,I.mem,I.uniq,I.full,λ_=>Mu trivial,λy hy h=>absurd h (hnb y),λy hy h=>absurd (.inr h) (hnb y),λe=>absurd (.inr (I.allfin e 0 aA)) (hnb 0)⟩
 ·rw [IV aA];exact I.main
 ·rw [IV aA];exact (I.old y h1 h2).1
 ·rw [Wi];rfl
 ·rw [IV aA];exact I.work y hy
 ·rw [IV aA];exact I.closer e
theorem DZ.shut(I:DZ cj co cd n ok k0 a true k bj false w R N)(d1:cj≠co)(d3:co≠cd)(h3:3<=(w 0).finN+(w 1).finN+(w 2).finN):DZ cj co cd n ok k0 a true k bj true w R (N.shut (k0+4) co .done):=by
 have hp:=I.pos;have ha:=I.h5 rfl;have h0:=(w 0).finN_le;have h1:=(w 1).finN_le;have h2:=(w 2).finN_le;have hall:∀x,x<3->w x=.fin:=λx hx=>by
  obtain rfl | rfl | rfl:x=0\/x=1\/x=2:=aA
  all_goals exact WS.finN_one aA
 refine ⟨hp,I.nn,I.ha,I.h5,?_,λy h1 h2=>⟨?_,(I.old y h1 h2).2⟩,?_,I.hk,I.bjk,by rw [Jt d1];exact I.clj,T1,by rw [Jt d3.symm];exact I.cld,λy hy=>?_,I.out,I.wait,I.hold,I.over,λ_=>?_,λe=>(by cases e),λ_=>hall,I.nd,I.mem,I.uniq,λe=>(by cases e),λe=>shut_ck' d1 (I.ckj e),I.knw,I.knc,λ_=>⟨Mu trivial,Yf (I.knc 0 aA (hall 0 aA)).2,λx hx=>Yf (I.knc x aA (hall x hx)).1⟩⟩
 ·rw [IV aA];exact I.main
 ·rw [IV aA];exact (I.old y h1 h2).1
 ·rw [IV aA];exact I.feed
 ·rw [IV aA];exact I.work y hy
 ·rw [Wi];rfl
theorem DZ.hears(I:DZ cj co cd n ok k0 a c5 k true bo w R N){x m:Nat}(hx:x<a)(hw:w x=.wait m):DZ cj co cd n ok k0 a c5 k true bo (Kp w x .tick) R (N.hear (k0+1+x) cj (.send cd .tick .done)):=by
 have hp:=I.pos;have ha:=I.ha;have F:=Pa (w:=w) (x:=x) (v:=.tick) (by rw [hw];rfl);refine ⟨hp,I.nn,ha,I.h5,?_,λy h1 h2=>⟨?_,L8 (I.old y h1 h2).2⟩,?_,I.hk,I.bjk,I.clj,I.clo,I.cld,λy hy=>?_,λy hy=>?_,λy m h=>?_,λy m i h=>?_,λy h=>rfl,λe=>?_,λe=>⟨λy=>?_,(I.nofin e).2⟩,λe=>?_,I.nd,λi=>?_,λy z m m' i h1 h2=>?_,I.full,I.ckj,λy hy h=>?_,λy hy h=>?_,I.cko⟩
 ·rw [Mw aA];exact I.main
 ·rw [Mw aA];exact (I.old y h1 h2).1
 ·rw [Mw aA];exact I.feed
 ·by_cases e:y=x
  ·subst e;rw [hear_j,Be];rfl
  ·rw [Mw aA,A6 e];exact I.work y hy
 ·rw [A6 aA];exact I.out y hy
 ·by_cases e:y=x
  ·subst e;rw [Be] at h;cases h
  ·rw [A6 e] at h;exact I.wait y m h
 ·by_cases e:y=x
  ·subst e;rw [Be] at h;cases h
  ·rw [A6 e] at h;exact I.hold y m i h
 ·have h5:=I.h5 e;rw [Mw aA,F,F,F];exact I.closer e
 ·by_cases e2:y=x
  ·subst e2;rw [Be];intro q;cases q
  ·rw [A6 e2];exact (I.nofin e).1 y
 ·have:=I.allfin e x aA;rw [hw] at this;cases this
 ·rw [I.mem i];refine or_congr Iff.rfl ⟨?_,?_⟩
  ·rintro ⟨y,m,h⟩;exact ⟨y,m,by rw [A6 (λe=>by subst e;rw [hw] at h;cases h)];exact h⟩
  ·rintro ⟨y,m,h⟩;by_cases e:y=x
   ·subst e;rw [Be] at h;cases h
   ·rw [A6 e] at h;exact ⟨y,m,h⟩
 ·by_cases e1:y=x
  ·subst e1;rw [Be] at h1;cases h1
  ·by_cases e2:z=x
   ·subst e2;rw [Be] at h2;cases h2
   ·rw [A6 e1] at h1;rw [A6 e2] at h2;exact I.uniq y z m m' i h1 h2
 ·by_cases e:y=x
  ·subst e;exact Oc (I.ckj rfl)
  ·rw [A6 e] at h;exact L8 (I.knw y hy h)
 ·by_cases e:y=x
  ·subst e;rw [Be] at h;cases h
  ·rw [A6 e] at h;exact ⟨L8 (I.knc y hy h).1,L8 (I.knc y hy h).2⟩
theorem DZ.ends(I:DZ cj co cd n ok k0 a true k bj true w R N){U:Nat->Prop}{W:List Nat->Cj Di}:FM U (N.hear 0 co (IC ok R W none)):=by
 have hp:=I.pos;have ha:=I.h5 rfl;have hall:=I.allfin rfl;have hb:=I.over 0 (.inr (hall 0 aA));have hk:=I.bjk hb;have hR:R=[]:=List.eq_nil_iff_forall_not_mem.2 λi hi=>by
  rcases (I.mem i).1 hi with h | ⟨y,m,h⟩
  ·omega
  ·by_cases e:y<3
   ·rw [hall y e] at h;cases h
   ·rw [I.out y aA] at h;cases h
 have hN:(N.hear 0 co (IC ok R W none)).n=N.n:=rfl;refine .stop U _ (by rw [hN,I.nn];omega) (by rw [hear_j,hR];rfl) λj hj hjn=>?_;rw [Mw aA];obtain ⟨c1,c2,c3⟩:=I.cko rfl;rcases I.cases hjn with rfl | ⟨h1,h2⟩ | rfl | ⟨x,hx,rfl⟩ | ⟨hc,rfl⟩
 ·omega
 ·exact ⟨(I.old j h1 h2).1,L8 (I.old j h1 h2).2⟩
 ·refine ⟨?_,Oc c2⟩;rw [I.feed,hb];rfl
 ·refine ⟨?_,Oc (c3 x aA)⟩;rw [I.work x hx,hall x aA];rfl
 ·refine ⟨?_,Oc c1⟩;rw [I.closer rfl];rfl
theorem pool_on{U:Nat->Prop}(d1:cj≠co)(d2:cj≠cd)(d3:co≠cd)(u1:U cj)(u2:U co)(u3:U cd):∀(q a:Nat)(c5:Bool)(k:Nat)(bj bo:Bool)(w:Nat->WS)(R:List Nat)(N:Gr Di),L6 n a c5 k bj bo w=q->DZ cj co cd n ok k0 a c5 k bj bo w R N->FM U N:=by
 intro q
 induction q using Nat.strongRecOn with
 | ind q ih=>
  intro a c5 k bj bo w R N hq I;have hp:=I.pos;have ha:=I.ha;have L:∀{x:Nat}{v:WS}(_:x<3)(_:v.left<(w x).left),(Kp w x v 0).left+(Kp w x v 1).left+(Kp w x v 2).left<(w 0).left+(w 1).left+(w 2).left:=by
   intro x v hx hv;obtain rfl | rfl | rfl:x=0\/x=1\/x=2:=aA
   all_goals rw [Be,A6 aA,A6 aA];omega
  refine .plain N (by rw [I.nn];omega) I.goes (λi hi=>I.fine u1 u2 u3 hi) (λN' st=>?_) (λi f hi=>I.noMake hi);cases st with
  | hire hi hs=>
   obtain ⟨rfl,rfl,⟨h3,rfl,rfl⟩ | ⟨rfl,rfl,rfl⟩⟩:=I.spawn hi hs
   ·exact ih _ (by rw [<-hq];unfold L6;omega) _ _ _ _ _ _ _ _ rfl (I.hire1 h3)
   ·exact ih _ (by rw [<-hq];unfold L6;simp) _ _ _ _ _ _ _ _ rfl I.hire2
  | shut hi hs=>
   rcases I.close hi hs with ⟨rfl,rfl,rfl,rfl,rfl⟩ | ⟨rfl,rfl,rfl,h3,rfl,rfl⟩
   ·exact ih _ (by rw [<-hq];unfold L6;simp) _ _ _ _ _ _ _ _ rfl (I.fed d1 d2)
   ·exact ih _ (by rw [<-hq];unfold L6;simp) _ _ _ _ _ _ _ _ rfl (I.shut d1 d3 h3)
  | hear hj hs hcl=>
   rcases I.recv hj hs with ⟨rfl,rfl,rfl,rfl⟩ | ⟨x,hx,rfl,m,hw,rfl,rfl⟩ | ⟨rfl,rfl,rfl,t,ht,rfl,rfl⟩
   ·rw [I.clo] at hcl;subst hcl;exact I.ends
   ·rw [I.clj] at hcl;subst hcl
    have:=L (x:=x) (v:=.tick) aA (by rw [hw];simp [WS.left])
    exact ih _ (by rw [<-hq];unfold L6;omega) _ _ _ _ _ _ _ _ rfl (I.hears hx hw)
   ·rw [I.cld] at hcl;cases hcl
  | meet hi hj hij hs hs'=>
   rcases I.send hi hs with ⟨rfl,rfl,hk,rfl,rfl,rfl⟩ | ⟨x,hx,rfl,f,j,hw,rfl,rfl,rfl⟩ | ⟨x,hx,rfl,hw,rfl,rfl,rfl⟩
   ·rcases I.recv hj hs' with ⟨rfl,rfl,e,rfl⟩ | ⟨x,hx,rfl,m,hw,_,rfl⟩ | ⟨rfl,rfl,_,t,ht,e,rfl⟩
    ·exact absurd e d1
    ·obtain ⟨f,rfl⟩:∃f,m=f+1:=⟨m-1,by have:=I.wait x m hw;omega⟩;have h1:(Kp w x (.hold f k) 0).left+(Kp w x (.hold f k) 1).left+(Kp w x (.hold f k) 2).left<=(w 0).left+(w 1).left+(w 2).left+1:=by
      have h0:(w x).left=3:=by rw [hw];rfl
      obtain rfl | rfl | rfl:x=0\/x=1\/x=2:=aA
      all_goals rw [Be,A6 aA,A6 aA];simp only [ZU];omega
     exact ih _ (by rw [<-hq];unfold L6;omega) _ _ _ _ _ _ _ _ rfl (I.job hk hx hw)
    ·exact absurd e d2
   ·rcases I.recv hj hs' with ⟨rfl,rfl,_,rfl⟩ | ⟨y,hy,rfl,m,hw2,e,rfl⟩ | ⟨rfl,rfl,_,t,ht,e,rfl⟩
    ·obtain ⟨hjR,I'⟩:=I.res hx hw
     have:=L (x:=x) (v:=.wait f) aA (by rw [hw];simp [WS.left])
     show FM U (N.meet _ 0 _ (if j ∈ R/\ok j=ok j then _ else _));rw [if_pos ⟨hjR,rfl⟩];exact ih _ (by rw [<-hq];unfold L6;omega) _ _ _ _ _ _ _ _ rfl I'
    ·exact absurd e.symm d1
    ·exact absurd e d3
   ·rcases I.recv hj hs' with ⟨rfl,rfl,e,rfl⟩ | ⟨y,hy,rfl,m,hw2,e,rfl⟩ | ⟨rfl,rfl,rfl,t,ht,_,rfl⟩
    ·exact absurd e.symm d3
    ·exact absurd e.symm d2
    ·have:=L (x:=x) (v:=.fin) aA (by rw [hw];simp [WS.left])
     exact ih _ (by rw [<-hq];unfold L6;omega) _ _ _ _ _ _ _ _ rfl (I.tick hx hw ht)
theorem Wj{M:Type}{N:Gr M}{i y c:Nat}{nx:Cj M}(h:y≠i):(N.mk' i c nx).s y=N.s y:=if_neg h
theorem mk_i{M:Type}{N:Gr M}{i c:Nat}{nx:Cj M}:(N.mk' i c nx).s i=nx:=if_pos rfl
theorem mk_cl{M:Type}{N:Gr M}{i c:Nat}{nx:Cj M}:(N.mk' i c nx).cl c=false:=if_pos rfl
theorem mk_cl'{M:Type}{N:Gr M}{i c c':Nat}{nx:Cj M}(h:c'≠c):(N.mk' i c nx).cl c'=N.cl c':=if_neg h
structure Wl(cj co n:Nat)(ok:Nat->Bool)(k0:Nat)(bj:Bool)(N:Gr Di):Prop where
 pos:0<k0
 nn:N.n=k0+1
 main:N.s 0=.make λcd=>Hx cj co cd n ok 3
 old:∀j,0<j->j<k0->N.s j=.done/\N.kn 0 j
 feed:N.s k0=if bj then .done else HJ cj n 0
 bjk:bj=true->0=n/\N.ck cj k0
 clj:N.cl cj=bj
 clo:N.cl co=false
theorem Wl.cases{i:Nat}(I:Wl cj co n ok k0 bj N)(hi:i<N.n):i=0\/(0<i/\i<k0)\/i=k0:=by have:=I.nn;omega
theorem Wl.feedC(I:Wl cj co n ok k0 bj N):N.s k0=.done\/(bj=false/\n=0/\N.s k0=.close cj .done)\/(bj=false/\∃m,N.s k0=.send cj (.job 0) m):=by
 have h:=I.feed;cases hb:bj with
 | true=>rw [hb] at h;exact .inl h
 | false=>
  rw [hb] at h;cases hn:n with
  | zero=>rw [hn] at h;exact .inr (.inl ⟨rfl,rfl,h⟩)
  | succ m=>rw [hn] at h;exact .inr (.inr ⟨rfl,_,h⟩)
theorem Wl.good(d1:cj≠co):∀(q:Nat)(bj:Bool)(N:Gr Di),(if bj then 0 else 1)=q->Wl cj co n ok k0 bj N->FM (λx=>(False\/x=co)\/x=cj) N:=by
 intro q
 induction q using Nat.strongRecOn with
 | ind q ih=>
 intro bj N hq I;have hp:=I.pos;have hn:=I.nn;refine .step _ N aA (.inr ⟨0,_,aA,I.main⟩) (λi hi=>?_) (λN' st=>?_) (λi f cd hi hs hu=>?_)
 ·rcases I.cases hi with rfl | ⟨h1,h2⟩ | rfl
  ·rw [I.main];trivial
  ·rw [(I.old i h1 h2).1];show i≠0;omega
  ·rcases I.feedC with e | ⟨hb,_,e⟩ | ⟨hb,m,e⟩ <;> rw [e]
   ·show _≠0;omega
   ·exact ⟨.inr rfl,by rw [I.clj,hb]⟩
   ·exact ⟨.inr rfl,by rw [I.clj,hb]⟩
 ·have nr:∀j c f,j<N.n->N.s j≠.recv c f:=by
   intro j c f hj hs;rcases I.cases hj with rfl | ⟨h1,h2⟩ | rfl
   ·rw [I.main] at hs;cases hs
   ·rw [(I.old j h1 h2).1] at hs;cases hs
   ·rcases I.feedC with e | ⟨_,_,e⟩ | ⟨_,m,e⟩ <;> rw [e] at hs <;> cases hs
  cases st with
  | hire hi hs=>
   rcases I.cases hi with rfl | ⟨h1,h2⟩ | rfl
   ·rw [I.main] at hs;cases hs
   ·rw [(I.old _ h1 h2).1] at hs;cases hs
   ·rcases I.feedC with e | ⟨_,_,e⟩ | ⟨_,m,e⟩ <;> rw [e] at hs <;> cases hs
  | meet _ hj _ _ hs'=>exact absurd hs' (nr _ _ _ hj)
  | hear hj hs _=>exact absurd hs (nr _ _ _ hj)
  | shut hi hs=>
   rcases I.cases hi with rfl | ⟨h1,h2⟩ | rfl
   ·rw [I.main] at hs;cases hs
   ·rw [(I.old _ h1 h2).1] at hs;cases hs
   ·rcases I.feedC with e | ⟨hb,hz,e⟩ | ⟨_,m,e⟩
    ·rw [e] at hs;cases hs
    ·rw [e] at hs;cases hs;refine ih 0 (by rw [<-hq,hb];simp) true _ rfl ⟨hp,hn,?_,λj h1 h2=>⟨?_,(I.old j h1 h2).2⟩,?_,λ_=>⟨hz.symm,Mu trivial⟩,T1,by rw [Jt d1.symm];exact I.clo⟩
     ·rw [IV aA];exact I.main
     ·rw [IV aA];exact (I.old j h1 h2).1
     ·rw [Wi];rfl
    ·rw [e] at hs;cases hs
 ·rcases I.cases hi with rfl | ⟨h1,h2⟩ | rfl
  ·rw [I.main] at hs;cases hs;refine pool_on d1 (λe=>hu (.inr e.symm)) (λe=>hu (.inl (.inr e.symm))) (.inl (.inr rfl)) (.inl (.inl (.inr rfl))) (.inr rfl) _ 0 false 0 bj false (λ_=>.wait n) (List.range n) _ rfl
    ⟨hp,by show N.n=_;simp;omega,aA,λe=>(by cases e),by rw [mk_i];rfl,λj h1 h2=>⟨by rw [Wj aA];exact (I.old j h1 h2).1,(I.old j h1 h2).2⟩,by rw [Wj aA];exact I.feed,Nat.zero_le _,λe=>(I.bjk e).1,?_,?_,mk_cl,
     λx hx=>absurd hx aA,λ_ _=>rfl,λx m h=>by cases h;omega,λx m i h=>(by cases h),λx h=>(by rcases h with h | h <;> cases h),λe=>(by cases e),λ_=>⟨λx h=>(by cases h),rfl⟩,λe=>(by cases e),List.nodup_range,λi=>?_,λx y m m' i h=>(by cases h),λ_=>rfl,λe=>(I.bjk e).2,
     λx hx=>absurd hx aA,λx hx=>absurd hx aA,λe=>(by cases e)⟩
   ·rw [mk_cl' (λe=>hu (.inr e.symm))];exact I.clj
   ·rw [mk_cl' (λe=>hu (.inl (.inr e.symm)))];exact I.clo
   ·rw [List.mem_range];constructor
    ·exact λh=>.inl ⟨Nat.zero_le _,h⟩
    ·rintro (h | ⟨x,m,h⟩)
     ·exact h.2
     ·cases h
  ·rw [(I.old _ h1 h2).1] at hs;cases hs
  ·rcases I.feedC with e | ⟨_,_,e⟩ | ⟨_,m,e⟩ <;> rw [e] at hs <;> cases hs
theorem ZV{N:Gr Di}(S:We (poolS n ok) N):FM (λ_=>False) N:=by
 obtain ⟨hn,h0,hr⟩:=S;have key:∀{N:Gr Di}{s0:Cj Di},N.s 0=s0->(∀j,0<j->j<N.n->N.s j=.done/\N.kn 0 j)->∀i,i<N.n->(i=0/\N.s i=s0)\/(i≠0/\N.s i=.done):=by
  intro N s0 h1 h2 i hi;rcases Nat.eq_zero_or_pos i with rfl | hp
  ·exact .inl ⟨rfl,h1⟩
  ·exact .inr ⟨aA,(h2 i hp hi).1⟩
 have made:∀{U:Nat->Prop}{N:Gr Di}{f:Nat->Cj Di},0<N.n->N.s 0=.make f->(∀j,0<j->j<N.n->N.s j=.done/\N.kn 0 j)->
   (∀c,¬U c->FM (λx=>U x\/x=c) (N.mk' 0 c (f c)))->FM U N:=by
  intro U N f hn h0 hr hm;have k1:=key h0 hr;refine .step _ N hn (.inr ⟨0,f,hn,h0⟩) (λi hi=>?_) (λN' st=>?_) (λi g c hi hs hu=>?_)
  ·rcases k1 i hi with ⟨rfl,e⟩ | ⟨h,e⟩ <;> rw [e]
   ·trivial
   ·exact h
  ·cases st with
   | hire hi hs=>rcases k1 _ hi with ⟨rfl,e⟩ | ⟨h,e⟩ <;> rw [e] at hs <;> cases hs
   | meet hi _ _ hs _=>rcases k1 _ hi with ⟨rfl,e⟩ | ⟨h,e⟩ <;> rw [e] at hs <;> cases hs
   | shut hi hs=>rcases k1 _ hi with ⟨rfl,e⟩ | ⟨h,e⟩ <;> rw [e] at hs <;> cases hs
   | hear hi hs _=>rcases k1 _ hi with ⟨rfl,e⟩ | ⟨h,e⟩ <;> rw [e] at hs <;> cases hs
  ·rcases k1 i hi with ⟨rfl,e⟩ | ⟨h,e⟩
   ·rw [e] at hs;cases hs;exact hm c hu
   ·rw [e] at hs;cases hs
 refine made hn h0 hr λco _=>made hn mk_i (λj h1 h2=>⟨by rw [Wj aA];exact (hr j h1 h2).1,(hr j h1 h2).2⟩) λcj hu=>?_;have k2:=key (N:=(N.mk' 0 co (.make λcj=>.spawn (HJ cj n 0) (.make λcd=>Hx cj co cd n ok 3))).mk' 0 cj (.spawn (HJ cj n 0) (.make λcd=>Hx cj co cd n ok 3))) mk_i
  (λj h1 h2=>⟨by rw [Wj aA,Wj aA];exact (hr j h1 h2).1,(hr j h1 h2).2⟩)
 refine .plain _ hn ⟨_,.hire hn mk_i⟩ (λi hi=>?_) (λN' st=>?_) (λi f hi hs=>?_)
 ·rcases k2 i hi with ⟨rfl,e⟩ | ⟨h,e⟩ <;> rw [e]
  ·trivial
  ·exact h
 ·cases st with
  | meet hi _ _ hs _=>rcases k2 _ hi with ⟨rfl,e⟩ | ⟨h,e⟩ <;> rw [e] at hs <;> cases hs
  | shut hi hs=>rcases k2 _ hi with ⟨rfl,e⟩ | ⟨h,e⟩ <;> rw [e] at hs <;> cases hs
  | hear hi hs _=>rcases k2 _ hi with ⟨rfl,e⟩ | ⟨h,e⟩ <;> rw [e] at hs <;> cases hs
  | hire hi hs=>
   rcases k2 _ hi with ⟨rfl,e⟩ | ⟨h,e⟩
   ·rw [e] at hs;cases hs;refine Wl.good (k0:=N.n) (n:=n) (ok:=ok) (λe=>hu (.inr e)) _ false _ rfl ⟨hn,rfl,?_,λj h1 h2=>⟨?_,?_⟩,?_,λe=>(by cases e),if_pos rfl,?_⟩
    ·rw [Wf (λe=>by have:0=N.n:=e;omega)]
    ·rw [LL (λe=>by have:j=N.n:=e;omega) aA,Wj aA,Wj aA];exact (hr j h1 h2).1
    ·exact L7 (λe=>by have:0=N.n:=e;omega) (λe=>by have:j=N.n:=e;omega) (hr j h1 h2).2
    ·exact PZ
    ·show (if co=cj then false else if co=co then false else N.cl co)=false;rw [if_neg (λe=>hu (.inr e.symm)),if_pos rfl]
   ·rw [e] at hs;cases hs
 ·rcases k2 i hi with ⟨rfl,e⟩ | ⟨h,e⟩ <;> rw [e] at hs <;> cases hs
end
end Go.Ns
namespace Go.Ns
def Ec(s:ByteArray):Array Value:=#[.string s]
structure AB where
 a:Int
 b:Int
 low:Int
 high:Int
structure AK where
 place:Int
 low:Int
 high:Int
 due:Int
 pv:Value
 parts:List Int
structure AE where
 wv:Value
 ways:List Int
 low:Int
 high:Int
def Cr(x:AB):Array Value:=#[.int .i64 x.a,.int .i64 x.b,.int .i64 x.low,.int .i64 x.high]
def Co(x:AK):Array Value:=#[.int .i64 x.place,.int .i64 x.low,.int .i64 x.high,.int .i64 x.due,x.pv]
def B6(x:AE):Array Value:=#[x.wv,.int .i64 x.low,.int .i64 x.high]
def AB.z:AB:=⟨0,0,0,0⟩
def AK.z:AK:=⟨0,0,0,0,.slice none 0 0,[]⟩
def AE.z:AE:=⟨.slice none 0 0,[],0,0⟩
def Bm(h:GH)(js:List AK):Prop:=∀k,AL h (js.getD k AK.z).pv 1 eI (js.getD k AK.z).parts
def Ao(h:GH)(ns:List AE):Prop:=∀k,AL h (ns.getD k AE.z).wv 1 eI (ns.getD k AE.z).ways
theorem Bm.le{h h':GH}{js:List AK}(x:Bm h js)(l:h.Le h'):Bm h' js:=λk=>(x k).le l
theorem Ao.le{h h':GH}{ns:List AE}(x:Ao h ns)(l:h.Le h'):Ao h' ns:=λk=>(x k).le l
theorem Bm.nil(h:GH):Bm h []:=λk=>by simpa [AK.z] using AL.nil h 1 eI
theorem Ao.nil(h:GH):Ao h []:=λk=>by simpa [AE.z] using AL.nil h 1 eI
def K3(l h top many:Int):Prop:=((0<=l/\l<=h)/\h<=top)/\h-l<many
instance (l h top many:Int):Decidable (K3 l h top many):=inferInstanceAs (Decidable (_/\_))
def Gl(bag kinds:Int):Int:=if¬(0<=bag/\bag<=9)\/¬(0<=kinds/\kinds<=3) then 1 else 0
def E6(ps:List ByteArray)(k:Nat):Int:=if Ej (ps.getD k ⟨#[]⟩)=false then 4 else if (ps.take k).any (λx=>(ps.getD k ⟨#[]⟩).toList==x.toList) then 5 else 0
def BM(ps:List ByteArray):Int:=if¬(1<=(ps.length:Int)/\(ps.length:Int)<=4) then 2 else Cv (E6 ps) 0 ps.length
def EV(np:Nat)(l:List Int)(k:Nat):Int:=if¬(0<=l.getD k 0/\l.getD k 0<=(np:Int)-1) then 6 else 0
def Br(np:Nat)(l:List Int):Int:=Cv (EV np l) 0 l.length
def Cn(np:Nat)(ws:List AB)(k:Nat):Int:=
 if¬Br np [(ws.getD k AB.z).a,(ws.getD k AB.z).b]=0 then Br np [(ws.getD k AB.z).a,(ws.getD k AB.z).b]
 else if (ws.getD k AB.z).b<=(ws.getD k AB.z).a then 7
 else if (ws.take k).any (λy=>decide (y.a=(ws.getD k AB.z).a/\y.b=(ws.getD k AB.z).b)) then 5
 else if¬K3 (ws.getD k AB.z).low (ws.getD k AB.z).high 30 2 then 1 else 0
abbrev GJ:=Nat->Bool
def F3(c:GJ):Array Value:=#[.bool (c 0),.bool (c 1),.bool (c 2),.bool (c 3)]
def GJ.none:GJ:=λ_=>false
def GJ.set(c:GJ)(i:Nat)(b:Bool):GJ:=λk=>if k=i then b else c k
theorem Ju{c:GJ}{i:Nat}(h:i<4):(F3 c)[0+i*1]? =some (.bool (c i)):=by
 match i,h with
 | 0,_=>rfl
 | 1,_=>rfl
 | 2,_=>rfl
 | 3,_=>rfl
theorem Pb{c:GJ}{i:Nat}{b:Bool}(h:i<4):Bq (F3 c) (0+i*1) [.bool b]=F3 (c.set i b):=by
 match i,h with
 | 0,_=>rfl
 | 1,_=>rfl
 | 2,_=>rfl
 | 3,_=>rfl
def F4(c:GJ)(x:AB):GJ:=(c.set x.a.toNat (c x.a.toNat || c x.b.toNat)).set x.b.toNat ((c.set x.a.toNat (c x.a.toNat || c x.b.toNat)) x.b.toNat || (c.set x.a.toNat (c x.a.toNat || c x.b.toNat)) x.a.toNat)
def Gv(ws:List AB)(c:GJ):GJ:=ws.foldl F4 c
def D7(ws:List AB):Nat->GJ->GJ
 | 0,c=>c
 | n+1,c=>D7 ws n (Gv ws c)
def Mx(c:GJ)(n:Nat):List Bool:=(List.range n).map c
def E7(np:Nat)(ws:List AB):Int:=if (Mx (D7 ws np (GJ.none.set 0 true)) np).any (λx=>(false==x)) then 8 else 0
def Ek(np:Nat)(ws:List AB):Int:=if (5:Int)<ws.length then 2 else if¬Cv (Cn np ws) 0 ws.length=0 then Cv (Cn np ws) 0 ws.length else E7 np ws
def FJ(np:Nat)(kinds:Int)(js:List AK)(k:Nat):Int:=
 if¬Br np [(js.getD k AK.z).place]=0 then Br np [(js.getD k AK.z).place]
 else if¬K3 (js.getD k AK.z).low (js.getD k AK.z).high 30 2\/¬(0<=(js.getD k AK.z).due/\(js.getD k AK.z).due<=200) then 1
 else if¬((js.getD k AK.z).parts.length:Int)=kinds then 2
 else if (js.getD k AK.z).parts.any (λn=>decide (¬(0<=n/\n<=5))) then 1 else 0
def B4(np:Nat)(kinds:Int)(js:List AK):Int:=if (4:Int)<js.length then 2 else Cv (FJ np kinds js) 0 js.length
def Cq(nw:Nat)(ns:List AE)(k:Nat):Int:=
 if (5:Int)<(ns.getD k AE.z).ways.length then 2
 else if (ns.getD k AE.z).ways.any (λn=>decide (¬(0<=n/\n<=(nw:Int)-1))) then 6
 else if¬K3 (ns.getD k AE.z).low (ns.getD k AE.z).high 200 201 then 1 else 0
def CW(nw:Nat)(ns:List AE):Int:=if (4:Int)<ns.length then 2 else Cv (Cq nw ns) 0 ns.length
def I7(bag kinds:Int)(ps:List ByteArray)(ws:List AB)(js:List AK)(ns:List AE):Nat->Int
 | 0=>Gl bag kinds
 | 1=>BM ps
 | 2=>Ek ps.length ws
 | 3=>B4 ps.length kinds js
 | _=>CW ws.length ns
def A0(bag kinds:Int)(ps:List ByteArray)(ws:List AB)(js:List AK)(ns:List AE):Int:=Cv (I7 bag kinds ps ws js ns) 0 5
theorem FS{np:Nat}:∀{l:List Int},Br np l=0->∀x ∈ l,0<=x/\x<=(np:Int)-1:=by
 intro l h x hx;obtain ⟨k,hk,rfl⟩:=List.mem_iff_getElem.1 hx;have h1:=DM h k (Nat.zero_le _) aA;unfold EV at h1;rw [CQ 0 hk] at h1;by_cases e:0<=l[k]/\l[k]<=(np:Int)-1
 ·exact e
 ·rw [if_pos e] at h1;cases h1
structure WayOK(np:Nat)(x:AB):Prop where
 a:0<=x.a/\x.a<=(np:Int)-1
 b:0<=x.b/\x.b<=(np:Int)-1
 lt:x.a<x.b
 time:0<=x.low/\x.low<=x.high/\x.high<=30/\x.high-x.low<2
theorem ZW{np:Nat}{ws:List AB}{k:Nat}(h:Cn np ws k=0):WayOK np (ws.getD k AB.z):=by
 unfold Cn at h;split at h
 ·rename_i e;exact absurd h e
 ·rename_i e
  have e':=Decidable.not_not.1 e;have h1:=FS e' _ (List.mem_cons_self);have h2:=FS e' _ (List.mem_cons_of_mem _ List.mem_cons_self);split at h
  ·cases h
  ·split at h
   ·cases h
   ·split at h
    ·cases h
    ·rename_i e2
     have e2':=Decidable.not_not.1 e2;unfold K3 at e2';exact ⟨h1,h2,aA,aA⟩
theorem L9{np:Nat}{ws:List AB}(h:∀k,k<ws.length->Cn np ws k=0)(k:Nat)(hk:k<ws.length):WayOK np (ws.getD k AB.z):=ZW (h k hk)
theorem Yg{np:Nat}{ws:List AB}(h:∀k,k<ws.length->Cn np ws k=0)(hnp:np<=4)(k:Nat):0<=(ws.getD k AB.z).a/\(ws.getD k AB.z).a<4/\0<=(ws.getD k AB.z).b/\(ws.getD k AB.z).b<4:=by
 rcases Nat.lt_or_ge k ws.length with hk | hk
 ·have x:=L9 h k hk;have h1:=x.a;have h2:=x.b;omega
 ·rw [BZ hk];exact ⟨Int.le_refl _,aC,Int.le_refl _,aC⟩
theorem HV{np:Nat}{ws:List AB}{k:Nat}{c:Int}(h5:¬(5:Int)<ws.length)(hs:∀j,j<k->Cn np ws j=0)(hk:k<ws.length)(e:Cn np ws k=c)(hc:c≠0):Ek np ws=c:=by
 have h1:=BK hs hk e hc;rw [Ek,if_neg h5,h1,if_pos hc]
theorem MA{np:Nat}{ws:List AB}{k:Nat}(h5:¬(5:Int)<ws.length)(hs:∀j,j<k->Cn np ws j=0)(hk:ws.length<=k):Ek np ws=E7 np ws:=by
 rw [Ek,if_neg h5,Bj hs hk,if_neg aD]
theorem Pc{ps:List ByteArray}(h:BM ps=0):ps.length<=4:=by
 unfold BM at h;split at h
 ·cases h
 ·rename_i e;have:=Decidable.not_not.1 e;omega
theorem T3{np:Nat}{l:List Int}{k:Nat}(h:∀j,j<k->EV np l j=0)(hk:k<l.length)(e:¬(0<=l.getD k 0/\l.getD k 0<=(np:Int)-1)):Br np l=6:=
 BK h hk (by unfold EV;rw [if_pos e]) aC
theorem Uy{np:Nat}{l:List Int}{k:Nat}(h:∀j,j<k->EV np l j=0)(hk:l.length<=k):Br np l=0:=Bj h hk
structure Ap(bag kinds:Int)(ps:List ByteArray)(ws:List AB)(js:List AK)(ns:List AE):Prop where
 hbag:0<=bag/\bag<=9
 hkin:0<=kinds/\kinds<=3
 plen:1<=ps.length/\ps.length<=4
 place:∀k,k<ps.length->E6 ps k=0
 wlen:ws.length<=5
 way:∀k,k<ws.length->Cn ps.length ws k=0
 led:E7 ps.length ws=0
 jlen:js.length<=4
 job:∀k,k<js.length->FJ ps.length kinds js k=0
 nlen:ns.length<=4
 note:∀k,k<ns.length->Cq ws.length ns k=0
theorem B2{bag kinds:Int}{ps:List ByteArray}{ws:List AB}{js:List AK}{ns:List AE}(h:A0 bag kinds ps ws js ns=0):Ap bag kinds ps ws js ns:=by
 have hz:=DM h;have h0:Gl bag kinds=0:=hz 0 aA aA;have h1:BM ps=0:=hz 1 aA aA;have h2:Ek ps.length ws=0:=hz 2 aA aA;have h3:B4 ps.length kinds js=0:=hz 3 aA aA;have h4:CW ws.length ns=0:=hz 4 aA aA;unfold Gl at h0;unfold BM at h1;unfold Ek at h2;unfold B4 at h3;unfold CW at h4;split at h0
 ·cases h0
 rename_i a0
 split at h1
 ·cases h1
 rename_i a1
 split at h2
 ·cases h2
 rename_i a2
 split at h2
 ·rename_i a3;exact absurd h2 a3
 rename_i a3
 split at h3
 ·cases h3
 rename_i a4
 split at h4
 ·cases h4
 rename_i a5
 have b0:(0<=bag/\bag<=9)/\(0<=kinds/\kinds<=3):=aA
 have e1:=DM h1;have e2:=DM (Decidable.not_not.1 a3);have e3:=DM h3;have e4:=DM h4;exact ⟨b0.1,b0.2,aA,λk hk=>e1 k (Nat.zero_le _) aA,aA,λk hk=>e2 k (Nat.zero_le _) aA,h2,aA,λk hk=>e3 k (Nat.zero_le _) aA,aA,λk hk=>e4 k (Nat.zero_le _) aA⟩
structure JobOK(np:Nat)(kinds:Int)(x:AK):Prop where
 place:0<=x.place/\x.place<=(np:Int)-1
 time:0<=x.low/\x.low<=x.high/\x.high<=30/\x.high-x.low<2
 due:0<=x.due/\x.due<=200
 len:(x.parts.length:Int)=kinds
 part:∀q,0<=x.parts.getD q 0/\x.parts.getD q 0<=5
theorem MB{np:Nat}{kinds:Int}{js:List AK}{k:Nat}(h:FJ np kinds js k=0):JobOK np kinds (js.getD k AK.z):=by
 unfold FJ at h;split at h
 ·rename_i e;exact absurd h e
 rename_i e
 have h1:=FS (Decidable.not_not.1 e) _ (List.mem_cons_self);split at h
 ·cases h
 rename_i e2
 split at h
 ·cases h
 rename_i e3
 split at h
 ·cases h
 rename_i e4
 unfold K3 at e2;refine ⟨h1,aA,aA,Decidable.not_not.1 e3,λq=>?_⟩;rcases Nat.lt_or_ge q (js.getD k AK.z).parts.length with hq | hq
 ·have h7:¬∃x ∈ (js.getD k AK.z).parts,¬(0<=x/\x<=5):=by simpa [List.any_eq_true] using e4
  exact Classical.byContradiction λz=>h7 ⟨_,BO hq,z⟩
 ·rw [BZ hq];decide
end Go.Ns
namespace Go.Ns
open Go.Conc
section
variable {P:Program} {E:GE P} {O:Nat->Value} {ds:List Deferred} {h:GH} {T:(Nat->Value)->List Deferred->GH->Prop} {dst:Option Nat} {ty:TypeId} {pos:String} {af:Array Edge} {gd:Option (Nat×Bool)}
theorem Yh{xt yt:TypeId}{x y:Operand}{a b:Bool}(hx:AN O x=.bool a)(hy:AN O y=.bool b)(he:O5 P 1 xt (.bool a) (.bool b)=some (a==b))(k:T (putS O dst (.bool (a==b))) ds h):BU E ⟨dst,.binOp .eql xt x y yt,ty,pos,af,gd⟩ O ds h T:=by
 unfold BU execOp;simp only [hx,hy];refine Fu (AD _ _ ?_);have hg:∀(Q:Unit->GH->Prop),Q () h->(eqGuard .eql xt x y (.bool a) (.bool b)).gh P h Q:=λQ q=>q;refine hg _ ?_;show Sem.gh P (do pure (Value.bool (<-Op.equal xt (.bool a) (.bool b))):Sem Value) h _;refine AD _ _ ?_;exact I2 1 _ _ _ _ (a==b) h _ aC he k
theorem RZ{t:TypeId}{x o:Operand}{m n b off hi:Nat}(ht:Nh P t=some (m,n))(hx:AN O x=.pointer (some ⟨b,off,none⟩))(ho:∃kd,AN O o=.int kd hi)(h2:hi<=m)(k:T (putS O dst (.slice (some ⟨b,off,none⟩) hi m)) ds h) :
  BU E ⟨dst,.slice t x none (some o) none,ty,pos,af,gd⟩ O ds h T:=by
 obtain ⟨kd,e⟩:=ho;unfold BU execOp;simp only [hx];refine Fu ?_;unfold Nh at ht;unfold Instr.sliceAt;cases hu:P.underlying t with
 | none=>rw [hu] at ht;cases ht
 | some d=>
  rw [hu] at ht;cases d <;> first | (cases ht;done) | skip
  rename_i el
  simp only [Option.map_eq_some_iff,Prod.mk.injEq] at ht;obtain ⟨x0,hx0,rfl,rfl⟩:=ht;refine AD _ _ (Ai hu ?_);dsimp only;refine AD _ _ (Aq ?_);unfold Instr.sliceBounds;simp only [Option.map_some,Option.map_none,e,Bool.false_eq_true,↓reduceIte];refine AD _ _ (AD _ _ (Aq (AD _ _ (DJ aA aA (AD _ _ (Aq (Aq ?_)))))));refine AD _ _ (D5 hx0 (Aq ?_));simp only [Nat.sub_zero,Nat.zero_mul,Ix,Nat.add_zero,ite_self,Int.toNat_natCast];exact k
end
def eBo(b:Bool):Array Value:=#[.bool b]
theorem can_sl{h:GH}{r n:Nat}{p:Bool}{c:GJ}{t:TypeId}{f:Nat×Nat}(hb:h r=some (p,.cells (F3 c) t f))(hn:n<=4):AL h (.slice (some ⟨r,0,none⟩) n 4) 1 eBo (Mx c n):=by
 refine ⟨some ⟨r,0,none⟩,4,by simp [Mx],by simpa [Mx] using hn,by simp [Mx];omega,λi hi=>⟨r,0,rfl,p,_,t,f,hb,?_,?_⟩⟩
 ·have:i<n:=by simpa [Mx] using hi
  show 0+i*1+1<=4;omega
 ·have hi':i<n:=by simpa [Mx] using hi
  have h4:i<4:=aA
  have e:(Mx c n)[i]=c i:=by simp [Mx]
  rw [e]
  match i,h4 with
  | 0,_=>rfl
  | 1,_=>rfl
  | 2,_=>rfl
  | 3,_=>rfl
theorem Pd{ws:List AB}{c c':GJ}{np k:Nat}(h:D7 ws (np-k) c=c')(hk:np<=k):c=c':=by
 rw [Nat.sub_eq_zero_of_le hk] at h;exact h
theorem Uz{ws:List AB}{c c':GJ}{np k:Nat}(h:D7 ws (np-k) c=c')(hk:k<np):D7 ws (np-(k+1)) (Gv ws c)=c':=by
 rw [show np-k=(np-(k+1))+1 by omega] at h;exact h
def BB(ws:List AB)(c:GJ)(k:Nat):GJ:=(ws.take k).foldl F4 c
theorem Wm{ws:List AB}{c:GJ}{k:Nat}(hk:k<ws.length):BB ws c (k+1)=F4 (BB ws c k) (ws.getD k AB.z):=by
 unfold BB;rw [Dd AB.z hk,List.foldl_append];rfl
theorem ZX{ws:List AB}{c:GJ}{k:Nat}(hk:ws.length<=k):BB ws c k=Gv ws c:=by
 unfold BB Gv;rw [List.take_of_length_le hk]
structure AC where
 ways:Nat->Int
 works:Nat->Int
def AC.zero:AC:=⟨λ_=>0,λ_=>0⟩
def Ab(p:AC):Array Value:=#[.int .i64 (p.ways 0),.int .i64 (p.ways 1),.int .i64 (p.ways 2),.int .i64 (p.ways 3),.int .i64 (p.ways 4),
 .int .i64 (p.works 0),.int .i64 (p.works 1),.int .i64 (p.works 2),.int .i64 (p.works 3)]
theorem Fi(p:AC):(Value.agg (Ab p)).cells.size=9:=rfl
theorem Fj(p:AC):Value.fine (.agg (Ab p))=true:=rfl
theorem GU(p:AC):0+9<=(Ab p).size:=Nat.le_refl 9
theorem GV(p q:AC):Bq (Ab p) 0 (Value.agg (Ab q)).cells.toList=Ab q:=by
 simp [Value.cells,Ab,Bq]
def AC.setWay(p:AC)(i:Nat)(n:Int):AC:={ p with ways:=λk=>if k=i then n else p.ways k }
def AC.setWork(p:AC)(i:Nat)(n:Int):AC:={ p with works:=λk=>if k=i then n else p.works k }
theorem GW{p:AC}{i:Nat}(h:i<5):(Ab p)[0+i*1]? =some (.int .i64 (p.ways i)):=by
 match i,h with
 | 0,_=>rfl
 | 1,_=>rfl
 | 2,_=>rfl
 | 3,_=>rfl
 | 4,_=>rfl
theorem Jv{p:AC}{i:Nat}(h:i<4):(Ab p)[5+i*1]? =some (.int .i64 (p.works i)):=by
 match i,h with
 | 0,_=>rfl
 | 1,_=>rfl
 | 2,_=>rfl
 | 3,_=>rfl
theorem Ra{p:AC}{i:Nat}{n:Int}(h:i<5):Bq (Ab p) (0+i*1) [.int .i64 n]=Ab (p.setWay i n):=by
 match i,h with
 | 0,_=>rfl
 | 1,_=>rfl
 | 2,_=>rfl
 | 3,_=>rfl
 | 4,_=>rfl
theorem Pe{p:AC}{i:Nat}{n:Int}(h:i<4):Bq (Ab p) (5+i*1) [.int .i64 n]=Ab (p.setWork i n):=by
 match i,h with
 | 0,_=>rfl
 | 1,_=>rfl
 | 2,_=>rfl
 | 3,_=>rfl
def AC.put(p:AC)(nw i:Nat)(n:Int):AC:=if i<nw then p.setWay i n else p.setWork (i-nw) n
theorem AC.put_put(p:AC)(nw i:Nat)(n m:Int):(p.put nw i n).put nw i m=p.put nw i m:=by
 unfold AC.put;split
 ·unfold AC.setWay;congr 1;funext k;simp only [];split <;> rfl
 ·unfold AC.setWork;congr 1;funext k;simp only [];split <;> rfl
def Dv(p:AC)(l:List Int):Int:=(l.map λk=>p.ways k.toNat).sum
def Bc(ns:List AE)(p:AC):Bool:=ns.all λx=>decide (x.low<=Dv p x.ways/\Dv p x.ways<=x.high)
structure BH(p:AC):Prop where
 ways:∀k,0<=p.ways k/\p.ways k<=30
 works:∀k,0<=p.works k/\p.works k<=30
def Od(ns:List AE)(p:AC)(k:Nat):Bool:=decide ((ns.getD k AE.z).low<=Dv p (ns.getD k AE.z).ways/\Dv p (ns.getD k AE.z).ways<=(ns.getD k AE.z).high)
theorem T4{p:AC}{l:List Int}{q:Nat}(h:q<l.length):Dv p (l.take (q+1))=Dv p (l.take q)+p.ways (l.getD q 0).toNat:=by
 unfold Dv;rw [Dd 0 h];simp
theorem Nx{p:AC}{l:List Int}{q:Nat}(h:l.length<=q):Dv p (l.take q)=Dv p l:=by rw [List.take_of_length_le h]
theorem U0{p:AC}{ns:List AE}{k q:Nat}{s:Int}(hs:s=Dv p ((ns.getD k AE.z).ways.take q))(hq:(ns.getD k AE.z).ways.length<=q)(h:(ns.getD k AE.z).low<=s/\s<=(ns.getD k AE.z).high):Od ns p k=true:=by
 rw [Nx hq] at hs;subst hs;exact decide_eq_true h
theorem Wn{p:AC}{ns:List AE}{k:Nat}(h:∀j,j<k->Od ns p j=true)(hk:ns.length<=k):Bc ns p=true:=by
 unfold Bc;rw [List.all_eq_true];intro x hx;obtain ⟨i,hi,rfl⟩:=List.mem_iff_getElem.1 hx
 have:=h i aA
 unfold Od at this;rw [CQ AE.z hi] at this;exact this
theorem ZY{p:AC}{ns:List AE}{k q:Nat}{s:Int}(hk:k<ns.length)(hs:s=Dv p ((ns.getD k AE.z).ways.take q))(hq:(ns.getD k AE.z).ways.length<=q)(h:¬((ns.getD k AE.z).low<=s/\s<=(ns.getD k AE.z).high)):Bc ns p=false:=by
 rw [Nx hq] at hs;subst hs;rw [CQ AE.z hk] at h;unfold Bc;rw [List.all_eq_false];exact ⟨ns[k],List.getElem_mem hk,by simpa using h⟩
theorem Pf{f:Nat->Bool}{k:Nat}(h:∀j,j<k->f j=true)(e:f k=true):∀j,j<k+1->f j=true:=λj hj=>by
 rcases Nat.lt_succ_iff_lt_or_eq.1 hj with q | rfl
 ·exact h j q
 ·exact e
theorem LM{nw:Nat}{ns:List AE}(h:∀k,k<ns.length->Cq nw ns k=0)(k:Nat):(ns.getD k AE.z).ways.length<=5/\(∀q,0<=(ns.getD k AE.z).ways.getD q 0/\((ns.getD k AE.z).ways.getD q 0=0\/(ns.getD k AE.z).ways.getD q 0<=(nw:Int)-1)):=by
 rcases Nat.lt_or_ge k ns.length with hk | hk
 ·have e:=h k hk;unfold Cq at e;split at e
  ·cases e
  ·split at e
   ·cases e
   ·rename_i h5 h6
    refine ⟨aA,λq=>?_⟩;rcases Nat.lt_or_ge q (ns.getD k AE.z).ways.length with hq | hq
    ·have h7:¬∃x ∈ (ns.getD k AE.z).ways,¬(0<=x/\x<=(nw:Int)-1):=by simpa [List.any_eq_true] using h6
     have h8:0<=(ns.getD k AE.z).ways.getD q 0/\(ns.getD k AE.z).ways.getD q 0<=(nw:Int)-1:=Classical.byContradiction λz=>h7 ⟨_,BO hq,z⟩;exact ⟨h8.1,.inr h8.2⟩
    ·rw [BZ hq];exact ⟨Int.le_refl _,.inl rfl⟩
 ·rw [BZ hk];refine ⟨by simp [AE.z],λq=>?_⟩;simp [AE.z]
def CI(ws:List AB)(js:List AK)(i:Nat):Int:=if i<ws.length then (ws.getD i AB.z).low else (js.getD (i-ws.length) AK.z).low
def Fk(ws:List AB)(js:List AK)(i:Nat):Int:=if i<ws.length then (ws.getD i AB.z).high else (js.getD (i-ws.length) AK.z).high
def CE(ag:AC->Bool)(ws:List AB)(js:List AK):Nat->Nat->AC->List AC
 | 0,_,p=>[p]
 | f+1,i,p=>(ED (CI ws js i) (Fk ws js i)).flatMap λn=>if i+1=ws.length/\ag (p.put ws.length i n)=false then [] else CE ag ws js f (i+1) (p.put ws.length i n)
def B3(ag:AC->Bool)(ws:List AB)(js:List AK)(f i:Nat)(p:AC)(n:Int):List AC:=
 if i+1=ws.length/\ag (p.put ws.length i n)=false then [] else CE ag ws js f (i+1) (p.put ws.length i n)
theorem D0(ag:AC->Bool)(ws:List AB)(js:List AK)(f i:Nat)(p:AC) :
  CE ag ws js (f+1) i p=(ED (CI ws js i) (Fk ws js i)).flatMap (B3 ag ws js f i p):=rfl
def AA(ws:List AB)(js:List AK)(ns:List AE):List AC:=
 if 0<ws.length\/Bc ns AC.zero=true then CE (Bc ns) ws js (ws.length+js.length) 0 AC.zero else []
def HK(nw i:Nat):Nat:=if i<nw then 0+i*1 else 5+(i-nw)*1
theorem ZZ{nw i:Nat}(h:i<nw):HK nw i=0+i*1:=if_pos h
theorem Wo{nw i:Nat}(h:¬i<nw):HK nw i=5+(i-nw)*1:=if_neg h
theorem KW{p:AC}{nw nj i:Nat}{v:Int}(hw:nw<=5)(hj:nj<=4)(hi:i<nw+nj):(Ab (p.put nw i v))[HK nw i]? =some (.int .i64 v):=by
 unfold AC.put HK;split
 ·rw [GW aA];simp [AC.setWay]
 ·rw [Jv aA];simp [AC.setWork]
theorem F5{p:AC}{nw nj i:Nat}{v:Int}(hw:nw<=5)(hj:nj<=4)(hi:i<nw+nj):Bq (Ab p) (HK nw i) [.int .i64 v]=Ab (p.put nw i v):=by
 unfold AC.put HK;split
 ·exact Ra aA
 ·exact Pe aA
theorem Jw{nw nj i:Nat}(hw:nw<=5)(hj:nj<=4)(hi:i<nw+nj):HK nw i+1<=9:=by unfold HK;split <;> omega
def AC.zeros(p:AC)(nw i:Nat):Prop:=(∀k,i<=k->k<nw->p.ways k=0)/\∀k,i<=nw+k->p.works k=0
theorem AC.zeros_put{p:AC}{nw i:Nat}(h:p.zeros nw i):p.put nw i 0=p:=by
 obtain ⟨wy,wo⟩:=p;unfold AC.put AC.setWay AC.setWork;split
 ·rename_i hi
  congr 1;funext k;split
  ·rename_i e;subst e;exact (h.1 k (Nat.le_refl _) hi).symm
  ·rfl
 ·rename_i hi
  congr 1;funext k;split
  ·rename_i e;subst e;exact (h.2 (i-nw) aA).symm
  ·rfl
theorem AC.zeros_next{p:AC}{nw i:Nat}{v:Int}(h:p.zeros nw i):(p.put nw i v).zeros nw (i+1):=by
 unfold AC.put;split
 ·refine ⟨λk h1 h2=>?_,λk h1=>h.2 k aA⟩;show (if k=i then v else p.ways k)=0;rw [if_neg aA];exact h.1 k aA h2
 ·refine ⟨λk h1 h2=>h.1 k aA h2,λk h1=>?_⟩;show (if k=i-nw then v else p.works k)=0;rw [if_neg aA];exact h.2 k aA
theorem AC.zeros_zero(nw i:Nat):AC.zero.zeros nw i:=⟨λ_ _ _=>rfl,λ_ _=>rfl⟩
theorem BH.zero:BH AC.zero:=⟨λ_=>(aC:(0:Int)<=0/\(0:Int)<=30),λ_=>(aC:(0:Int)<=0/\(0:Int)<=30)⟩
theorem BH.put{p:AC}(h:BH p){nw i:Nat}{v:Int}(hv:0<=v/\v<=30):BH (p.put nw i v):=by
 unfold AC.put;split
 ·refine ⟨λk=>?_,h.works⟩;show 0<=(if k=i then v else p.ways k)/\(if k=i then v else p.ways k)<=30;split
  ·exact hv
  ·exact h.ways k
 ·refine ⟨h.ways,λk=>?_⟩;show 0<=(if k=i-nw then v else p.works k)/\(if k=i-nw then v else p.works k)<=30;split
  ·exact hv
  ·exact h.works k
section
variable {bag kinds:Int} {ps:List ByteArray} {ws:List AB} {js:List AK} {ns:List AE} {ag:AC->Bool} {p:AC} {all pre:List AC} {f i k:Nat}
theorem Ap.few(b:Ap bag kinds ps ws js ns)(hi:i<ws.length+js.length):0<=CI ws js i/\CI ws js i<=Fk ws js i/\Fk ws js i<=30/\Fk ws js i-CI ws js i<2:=by
 unfold CI Fk;by_cases h:i<ws.length
 ·rw [if_pos h,if_pos h];exact (L9 b.way i h).time
 ·rw [if_neg h,if_neg h];exact (MB (b.job (i-ws.length) aA)).time
theorem Za(e:i+1=ws.length)(h:ag (p.put ws.length i (CI ws js i+(k:Int)))=false) :
  pre++(Cd (CI ws js i) (k+1)).flatMap (B3 ag ws js f i p)=pre++(Cd (CI ws js i) k).flatMap (B3 ag ws js f i p):=by
 rw [Nr];unfold B3;rw [if_pos ⟨e,h⟩,List.append_nil]
theorem SF(h:¬(i+1=ws.length/\ag (p.put ws.length i (CI ws js i+(k:Int)))=false)) :
  pre++(Cd (CI ws js i) (k+1)).flatMap (B3 ag ws js f i p)=(pre++(Cd (CI ws js i) k).flatMap (B3 ag ws js f i p))++CE ag ws js f (i+1) (p.put ws.length i (CI ws js i+(k:Int))):=by
 rw [Nr,<-List.append_assoc];congr 1;unfold B3;rw [if_neg h]
theorem Ny(hw:CN all pre (CE ag ws js (f+1) i p))(hk:CI ws js i+(k:Int)<=Fk ws js i)(h:¬(i+1=ws.length/\ag (p.put ws.length i (CI ws js i+(k:Int)))=false)) :
  CN all (pre++(Cd (CI ws js i) k).flatMap (B3 ag ws js f i p)) (CE ag ws js f (i+1) (p.put ws.length i (CI ws js i+(k:Int)))):=by
 rw [D0] at hw
 have:=hw.round hk
 unfold B3 at this ⊢;rw [if_neg h] at this;exact this
end
theorem Wp{lo hi:Int}(h:hi-lo<2):(ED lo hi).length<=2:=by unfold ED Cd;simp;omega
theorem MC{bag kinds:Int}{ps:List ByteArray}{ws:List AB}{js:List AK}{ns:List AE}(b:Ap bag kinds ps ws js ns)(ag:AC->Bool):∀(f i:Nat)(p:AC),i+f=ws.length+js.length->(CE ag ws js f i p).length<=2 ^ f
 | 0,_,_,_=>Nat.le_refl _
 | f+1,i,p,h=>by
  rw [D0];have h1:=(b.few (i:=i) aA).2.2.2;have h2:=Up (f:=B3 ag ws js f i p) (c:=2 ^ f) (l:=ED (CI ws js i) (Fk ws js i)) λx _=>by
   unfold B3;split
   ·exact Nat.zero_le _
   ·exact MC b ag f (i+1) _ aA
  have h3:=Nat.mul_le_mul_right (2 ^ f) (Wp h1);rw [Nat.pow_succ];omega
theorem Fl{bag kinds:Int}{ps:List ByteArray}{ws:List AB}{js:List AK}{ns:List AE}(b:Ap bag kinds ps ws js ns):(AA ws js ns).length<=2000000:=by
 unfold AA;split
 ·have h1:=MC b (Bc ns) (ws.length+js.length) 0 AC.zero aA;have h2:2 ^ (ws.length+js.length)<=2 ^ 9:=Nat.pow_le_pow_right aA (by have:=b.wlen;have:=b.jlen;omega);omega
 ·exact Nat.zero_le _
def C3(bag kinds:Int)(ps:List ByteArray)(ws:List AB)(js:List AK)(ns:List AE):Int:=if A0 bag kinds ps ws js ns=0 then ((AA ws js ns).length:Int) else 0
section
variable {bag kinds:Int} {ps:List ByteArray} {ws:List AB} {js:List AK} {ns:List AE}
theorem Zb(h:¬A0 bag kinds ps ws js ns=0):(.tuple #[.int .i64 0,.int .i64 (A0 bag kinds ps ws js ns)]:Value)=.tuple #[.int .i64 (C3 bag kinds ps ws js ns),.int .i64 (A0 bag kinds ps ws js ns)]:=by
 unfold C3;rw [if_neg h]
theorem tHist_ok(h:¬¬A0 bag kinds ps ws js ns=0):(.tuple #[.int .i64 ((AA ws js ns).length:Int),.int .i64 0]:Value)=.tuple #[.int .i64 (C3 bag kinds ps ws js ns),.int .i64 (A0 bag kinds ps ws js ns)]:=by
 have e:=Decidable.not_not.1 h;unfold C3;rw [if_pos e,e]
end
section
variable {V:Type} {hB h hc h':GH} {I:List V->(Nat->Prop)->GH->Prop} {S:GH->Prop} {rp:Nat} {T:TypeId} {c c':Array Value} {X0 X:Nat->Prop} {pre l:List V} {v:Value}
theorem ET.stoppedI{I':List V->(Nat->Prop)->GH->Prop}{pre':List V}(hv:v=.bool false)(r:∀l',ET hB I S pre X0 h l' (.bool false) h'):ET hB I' S pre' X0 h l v h':=by
 obtain ⟨ok,X',e,hs,hk,hl,_,h2⟩:=r [];cases e;exact ⟨false,X',hv,hs,hk,hl,(λx=>by cases x),h2⟩
def DQ(I:List V->(Nat->Prop)->GH->Prop)(rp:Nat)(T:TypeId)(c:Array Value):List V->(Nat->Prop)->GH->Prop:=λpre X h=>
 ∃X',I pre X' h/\¬X' rp/\(∀b,X b↔X' b\/b=rp)/\h rp=some (true,.cells c T (0,0))
theorem DQ.prom(P:GF hB I):GF hB (DQ I rp T c):=by
 refine ⟨?_,?_⟩
 ·rintro pre X h b ⟨X',i,n,hX,hp⟩ hb;rcases (hX b).1 hb with q | rfl
  ·exact P.dom _ _ _ _ i q
  ·exact ⟨_,_,hp,rfl⟩
 ·rintro pre X h h' ⟨X',i,n,hX,hp⟩ same lB;exact ⟨X',P.stable _ _ _ _ i (λb hb=>same b ((hX b).2 (.inl hb))) lB,n,hX,by rw [same rp ((hX rp).2 (.inr rfl))];exact hp⟩
theorem DQ.box(x:DQ I rp T c pre X h):h rp=some (true,.cells c T (0,0)):=by obtain ⟨_,_,_,_,e⟩:=x;exact e
theorem DQ.mem(x:DQ I rp T c pre X h):X rp:=by obtain ⟨X',_,_,hX,_⟩:=x;exact (hX rp).2 (.inr rfl)
theorem EO.put(P:GF hB I)(y:EO hB (DQ I rp T c) X0 h pre X hc)(rB:hB rp=none)(nb:h' rp=some (true,.cells c' T (0,0)))(ho:∀b,b≠rp->h' b=hc b):EO hB (DQ I rp T c') X0 h pre X h':=by
 obtain ⟨⟨X',i,n,hX,hp⟩,sub,keep,base⟩:=y;exact ⟨⟨X',P.store i n ho (base.upd rB ho),n,hX,nb⟩,sub,keep.store' (sub rp ((hX rp).2 (.inr rfl))) ho,base.upd rB ho⟩
theorem DQ.call{P:Program}{W:Wk P}{yv:Value}{args:Array Value}(x:DQ I rp T c pre X hc)(k:∀X',I pre X' hc->Bw W yv args hc (ET hB I S pre X' hc l)):Bw W yv args hc (ET hB (DQ I rp T c) S pre X hc l):=by
 have x':=x;obtain ⟨X',i,n,hX,hp⟩:=x;refine (k X' i).mono λv h' r=>?_;obtain ⟨ok,X1,hv,hs,hk,hl,h1,h2⟩:=r;have n1:¬X1 rp:=λq=>(hs rp q).elim n λe=>by rw [hp] at e;cases e
 refine ⟨ok,λb=>X1 b\/b=rp,hv,?_,λb p o hb hn=>hk b p o hb λq=>hn ((hX b).2 (.inl q)),hl,λe=>⟨X1,h1 e,n1,λ_=>Iff.rfl,hk.box hp n rfl⟩,h2⟩;rintro b (q | rfl)
 ·exact (hs b q).imp (λq=>(hX b).2 (.inl q)) id
 ·exact .inl ((hX _).2 (.inr rfl))
theorem DQ.start(x:I pre X hc)(hp:hc rp=some (true,.cells c T (0,0)))(n:¬X rp):DQ I rp T c pre (λb=>X b\/b=rp) hc:=⟨X,x,n,λ_=>Iff.rfl,hp⟩
theorem DQ.final{X0:Nat->Prop}(y:EO hB I X0 h pre X hc)(hn:h rp=none)(r:ET hB (DQ I rp T c) S pre (λb=>X b\/b=rp) hc l v h'):ET hB I S pre X0 h l v h':=by
 obtain ⟨ok,X1,hv,hs,hk,hl,h1,h2⟩:=r;cases ok with
 | true=>
  obtain ⟨X2,i2,n2,hX2,hp2⟩:=h1 rfl;refine ⟨true,X2,hv,λb q=>?_,?_,hl,λ_=>i2,λe=>by cases e⟩
  ·rcases hs b ((hX2 b).2 (.inl q)) with (q1 | rfl) | q1
   ·exact y.sub b q1
   ·exact absurd q n2
   ·exact subX y.sub y.keep (X1:=λz=>z=b) (λz e=>.inr (by rw [e];exact q1)) b rfl
  ·intro b p o hb hX;obtain ⟨o',e1,e2⟩:=y.keep b p o hb hX;obtain ⟨o2,e3,e4⟩:=hk b p o' e1 (λq=>q.elim (λq=>(y.sub b q).elim hX λe=>by rw [e] at hb;cases hb) λe=>by rw [e,hn] at hb;cases hb);refine ⟨o2,e3,?_⟩;rcases e2 with rfl | e2
   ·exact e4
   ·rcases e4 with rfl | e4
    ·exact .inr e2
    ·exact .inr ⟨e2.1,e4.2⟩
 | false=>
  refine ⟨false,λb=>X0 b\/h b=none,hv,λb q=>q,?_,hl,(λe=>by cases e),λ_=>h2 rfl⟩;intro b p o hb hX;obtain ⟨o',e1,e2⟩:=y.keep b p o hb hX;obtain ⟨o2,e3,e4⟩:=hk b p o' e1 (λq=>q.elim (λq=>(y.sub b q).elim hX λe=>by rw [e] at hb;cases hb) λe=>by rw [e,hn] at hb;cases hb);refine ⟨o2,e3,?_⟩;rcases e2 with rfl | e2
  ·exact e4
  ·rcases e4 with rfl | e4
   ·exact .inr e2
   ·exact .inr ⟨e2.1,e4.2⟩
end
end Go.Ns
namespace Go.Ns
open Go.Conc
abbrev EH:=Nat->Nat->Int
def Kq(m:EH):Array Value:=#[.int .i64 (m 0 0),.int .i64 (m 0 1),.int .i64 (m 0 2),.int .i64 (m 0 3),.int .i64 (m 1 0),.int .i64 (m 1 1),.int .i64 (m 1 2),.int .i64 (m 1 3),
 .int .i64 (m 2 0),.int .i64 (m 2 1),.int .i64 (m 2 2),.int .i64 (m 2 3),.int .i64 (m 3 0),.int .i64 (m 3 1),.int .i64 (m 3 2),.int .i64 (m 3 3)]
def EH.zero:EH:=λ_ _=>0
def EH.set(m:EH)(i k:Nat)(v:Int):EH:=λa b=>if a=i/\b=k then v else m a b
theorem Jx{m:EH}{i k:Nat}(hi:i<4)(hk:k<4):(Kq m)[0+i*4+k*1]? =some (.int .i64 (m i k)):=by
 match i,hi with
 | 0,_=>match k,hk with
  | 0,_=>rfl
  | 1,_=>rfl
  | 2,_=>rfl
  | 3,_=>rfl
 | 1,_=>match k,hk with
  | 0,_=>rfl
  | 1,_=>rfl
  | 2,_=>rfl
  | 3,_=>rfl
 | 2,_=>match k,hk with
  | 0,_=>rfl
  | 1,_=>rfl
  | 2,_=>rfl
  | 3,_=>rfl
 | 3,_=>match k,hk with
  | 0,_=>rfl
  | 1,_=>rfl
  | 2,_=>rfl
  | 3,_=>rfl
theorem MD{m:EH}{i k:Nat}{v:Int}(hi:i<4)(hk:k<4):Bq (Kq m) (0+i*4+k*1) [.int .i64 v]=Kq (m.set i k v):=by
 match i,hi with
 | 0,_=>match k,hk with
  | 0,_=>rfl
  | 1,_=>rfl
  | 2,_=>rfl
  | 3,_=>rfl
 | 1,_=>match k,hk with
  | 0,_=>rfl
  | 1,_=>rfl
  | 2,_=>rfl
  | 3,_=>rfl
 | 2,_=>match k,hk with
  | 0,_=>rfl
  | 1,_=>rfl
  | 2,_=>rfl
  | 3,_=>rfl
 | 3,_=>match k,hk with
  | 0,_=>rfl
  | 1,_=>rfl
  | 2,_=>rfl
  | 3,_=>rfl
def LN(i:Nat)(m:EH)(k:Nat):EH:=if¬(i:Int)=(k:Int) then m.set i k 1048576 else m
def Gx(i:Nat)(m:EH)(n:Nat):EH:=(List.range n).foldl (LN i) m
def IW(n:Nat):EH:=(List.range n).foldl (λm i=>Gx i m 4) EH.zero
def Jy(p:AC)(ws:List AB)(m:EH)(k:Nat):EH:=(m.set (ws.getD k AB.z).a.toNat (ws.getD k AB.z).b.toNat (p.ways k)).set (ws.getD k AB.z).b.toNat (ws.getD k AB.z).a.toNat (p.ways k)
def At(p:AC)(ws:List AB)(n:Nat):EH:=(List.range n).foldl (Jy p ws) (IW 4)
def Oe(by_ i:Nat)(m:EH)(k:Nat):EH:=m.set i k (min (m i k) (m i by_+m by_ k))
def HW(by_ i:Nat)(m:EH)(n:Nat):EH:=(List.range n).foldl (Oe by_ i) m
def Nz(by_ np:Nat)(m:EH)(i:Nat):EH:=if m i by_=1048576 then m else HW by_ i m np
def EW(by_ np:Nat)(m:EH)(n:Nat):EH:=(List.range n).foldl (Nz by_ np) m
def Ca(np:Nat)(m:EH)(n:Nat):EH:=(List.range n).foldl (λm b=>EW b np m np) m
def AX(np:Nat)(ws:List AB)(p:AC):EH:=Ca np (At p ws ws.length) np
theorem Am{β:Type}(f:β->Nat->β)(b:β)(n:Nat):(List.range (n+1)).foldl f b=f ((List.range n).foldl f b) n:=by rw [List.range_succ,List.foldl_append];rfl
def EH.ok(m:EH):Prop:=∀i k,0<=m i k/\m i k<=1048576
theorem EH.ok_set{m:EH}(h:m.ok){i k:Nat}{v:Int}(hv:0<=v/\v<=1048576):(m.set i k v).ok:=λa b=>by
 unfold EH.set;split
 ·exact hv
 ·exact h a b
theorem EH.ok_zero:EH.zero.ok:=λ_ _=>⟨Int.le_refl 0,(aC:(0:Int)<=1048576)⟩
theorem Hy{β:Type}{Q:β->Prop}{f:β->Nat->β}(hf:∀b k,Q b->Q (f b k)):∀{l:List Nat}{b:β},Q b->Q (l.foldl f b)
 | [],_,h=>h
 | x ::l,b,h=>Hy hf (l:=l) (hf b x h)
theorem Zc{i:Nat}{m:EH}{k:Nat}(h:m.ok):(LN i m k).ok:=by
 unfold LN;split
 ·exact EH.ok_set h aC
 ·exact h
theorem far0K_ok{i:Nat}{m:EH}{n:Nat}(h:m.ok):(Gx i m n).ok:=Hy (λ_ _=>Zc) h
theorem Yi{n:Nat}:(IW n).ok:=Hy (λ_ _ h=>far0K_ok h) EH.ok_zero
theorem Zd{p:AC}{ws:List AB}{m:EH}{k:Nat}(hp:BH p)(h:m.ok):(Jy p ws m k).ok:=by
 have:=hp.ways k
 exact EH.ok_set (EH.ok_set h aA) aA
theorem LO{p:AC}{ws:List AB}{n:Nat}(hp:BH p):(At p ws n).ok:=Hy (λ_ _ h=>Zd hp h) Yi
theorem Wq{b i:Nat}{m:EH}{k:Nat}(h:m.ok):(Oe b i m k).ok:=by
 have h1:=h i k;have h2:=h i b;have h3:=h b k;exact EH.ok_set h aA
theorem Yj{b i:Nat}{m:EH}{n:Nat}(h:m.ok):(HW b i m n).ok:=Hy (λ_ _ h=>Wq h) h
theorem farI1_ok{b np:Nat}{m:EH}{i:Nat}(h:m.ok):(Nz b np m i).ok:=by
 unfold Nz;split
 ·exact h
 ·exact Yj h
theorem Of{b np:Nat}{m:EH}{n:Nat}(h:m.ok):(EW b np m n).ok:=Hy (λ_ _ h=>farI1_ok h) h
theorem U1{np:Nat}{m:EH}{n:Nat}(h:m.ok):(Ca np m n).ok:=Hy (λ_ _ h=>Of h) h
theorem B9{c c':Array Value}(h:c.size=c'.size):Bq c 0 c'.toList=c':=by
 apply Array.toList_inj.1;rw [EM _ _ _ (by simp [h])];simp [h]
theorem IX{b:Bool}(h:(!b)=true):b=false:=by cases b <;> simp_all
theorem IY{b:Bool}(h:(!b)=false):b=true:=by cases b <;> simp_all
abbrev E8:=(Int×Int×Int×Int×Int)×Int×Int
def El(a:E8):Value:=.agg #[.int .i64 a.1.1,.int .i64 a.1.2.1,.int .i64 a.1.2.2.1,.int .i64 a.1.2.2.2.1,.int .i64 a.1.2.2.2.2,.int .i64 a.2.1,.int .i64 a.2.2]
def U2:E8->Option Int:=λ_=>none
def AC.w5(p:AC):Int×Int×Int×Int×Int:=(p.ways 0,p.ways 1,p.ways 2,p.ways 3,p.ways 4)
theorem E8.eq_iff(a b:E8):((a.1.1==b.1.1 && (a.1.2.1==b.1.2.1 && (a.1.2.2.1==b.1.2.2.1 && (a.1.2.2.2.1==b.1.2.2.2.1 && (a.1.2.2.2.2==b.1.2.2.2.2 && true))))) && (a.2.1==b.2.1 && (a.2.2==b.2.2 && true)))=decide (a=b):=by
 obtain ⟨⟨a1,a2,a3,a4,a5⟩,a6,a7⟩:=a;obtain ⟨⟨b1,b2,b3,b4,b5⟩,b6,b7⟩:=b;rw [Bool.eq_iff_iff];simp [and_assoc]
theorem Rb(a:E8):Instr.sameBits 10000 (El a) (El a)=true:=by
 have hi:∀(n:Nat)(x:Int),Instr.sameBits n (.int .i64 x) (.int .i64 x)=true:=λn x=>by
  cases n <;> (unfold Instr.sameBits;simp)
 unfold El;show Instr.sameBits (9999+1) _ _=true;unfold Instr.sameBits;simp only [List.zip_cons_cons,List.zip_nil_left,List.all_cons,List.all_nil,hi];simp
def Wr(m:EH)(w:Int×Int×Int×Int×Int)(i:Nat)(M:E8->Option Int)(k:Nat):E8->Option Int:=λb=>if b=(w,(i:Int),(k:Int)) then some (m i k) else M b
def F6(m:EH)(w:Int×Int×Int×Int×Int)(i:Nat)(M:E8->Option Int)(n:Nat):E8->Option Int:=(List.range n).foldl (Wr m w i) M
def CH(m:EH)(w:Int×Int×Int×Int×Int)(np:Nat)(M:E8->Option Int)(n:Nat):E8->Option Int:=(List.range n).foldl (λM i=>F6 m w i M np) M
theorem N0{m:EH}{w:Int×Int×Int×Int×Int}{i k:Nat}{M:E8->Option Int}:∀{n:Nat},k<n->F6 m w i M n (w,(i:Int),(k:Int))=some (m i k)
 | 0,h=>absurd h (Nat.not_lt_zero _)
 | n+1,h=>by
  unfold F6;rw [Am];unfold Wr;by_cases e:k=n
  ·subst e;rw [if_pos rfl]
  ·rw [if_neg (λq=>e (by have h2:(k:Int)=(n:Int):=congrArg (λz:E8=>z.2.2) q;omega))];exact N0 (n:=n) aA
theorem I8{m:EH}{w:Int×Int×Int×Int×Int}{i:Nat}{M:E8->Option Int}{b:E8}(hb:b.1≠w\/b.2.1≠(i:Int)):∀{n:Nat},F6 m w i M n b=M b
 | 0=>rfl
 | n+1=>by
  unfold F6;rw [Am];unfold Wr;rw [if_neg (λq=>by subst q;rcases hb with h | h <;> exact h rfl)];exact I8 hb (n:=n)
theorem N1{m:EH}{w:Int×Int×Int×Int×Int}{np i k:Nat}{M:E8->Option Int}(hk:k<np):∀{n:Nat},i<n->CH m w np M n (w,(i:Int),(k:Int))=some (m i k)
 | 0,h=>absurd h (Nat.not_lt_zero _)
 | n+1,h=>by
  unfold CH;rw [Am];by_cases e:i=n
  ·subst e;exact N0 hk
  ·rw [I8 (.inr (by show (i:Int)≠(n:Int);omega))];exact N1 hk (n:=n) aA
theorem ME{m:EH}{w:Int×Int×Int×Int×Int}{np:Nat}{M:E8->Option Int}{b:E8}(hb:b.1≠w):∀{n:Nat},CH m w np M n b=M b
 | 0=>rfl
 | n+1=>by
  unfold CH;rw [Am,I8 (.inl hb)];exact ME hb (n:=n)
theorem w5_at{p q:AC}(e:q.w5=p.w5){k:Nat}(h:k<5):q.ways k=p.ways k:=by
 simp only [AC.w5,Prod.mk.injEq] at e;obtain ⟨e0,e1,e2,e3,e4⟩:=e
 match k,h with
 | 0,_=>exact e0
 | 1,_=>exact e1
 | 2,_=>exact e2
 | 3,_=>exact e3
 | 4,_=>exact e4
theorem Pg{p q:AC}{ws:List AB}(e:q.w5=p.w5):∀{n:Nat},n<=5->At q ws n=At p ws n
 | 0,_=>rfl
 | n+1,h=>by
  have h1:=Pg (ws:=ws) e (n:=n) aA;unfold At at h1 ⊢;rw [Am,Am,h1];unfold Jy;rw [w5_at e aA]
theorem SG{p q:AC}{ws:List AB}{np:Nat}(hw:ws.length<=5)(e:q.w5=p.w5):AX np ws q=AX np ws p:=by
 unfold AX;rw [Pg e hw]
def GK(np:Nat)(ws:List AB)(l:List AC)(M:E8->Option Int):Prop:=∀q ∈ l,∀i k:Nat,i<np->k<np->M (q.w5,(i:Int),(k:Int))=some (AX np ws q i k)
theorem GK.call{np:Nat}{ws:List AB}{pq:List AC}{k:Nat}{M:E8->Option Int}(h:GK np ws (pq.take k) M)(hk:k<pq.length)(hw:ws.length<=5) :
  GK np ws (pq.take (k+1)) (CH (AX np ws (pq.getD k AC.zero)) (pq.getD k AC.zero).w5 np M np):=by
 intro q hq i j hi hj;by_cases e:q.w5=(pq.getD k AC.zero).w5
 ·rw [e,N1 hj hi,SG hw e]
 ·rw [ME e];rw [Dd AC.zero hk] at hq;rcases List.mem_append.1 hq with h1 | h1
  ·exact h q h1 i j hi hj
  ·rw [List.mem_singleton.1 h1] at e;exact absurd rfl e
theorem GK.skip{np:Nat}{ws:List AB}{pq:List AC}{k:Nat}{M:E8->Option Int}(h:GK np ws (pq.take k) M)(hk:k<pq.length)(hw:ws.length<=5)(h0:¬(k:Int)=0)(e:(pq.getD k AC.zero).w5=(pq.getD (k-1) AC.zero).w5) :
  GK np ws (pq.take (k+1)) M:=by
 intro q hq i j hi hj;rw [Dd AC.zero hk] at hq;rcases List.mem_append.1 hq with h1 | h1
 ·exact h q h1 i j hi hj
 ·rw [List.mem_singleton.1 h1,e,SG hw e];refine h _ ?_ i j hi hj;rw [CQ AC.zero aA];exact List.mem_take_iff_getElem.2 ⟨k-1,aA,rfl⟩
def D8(h:GH)(r np:Nat)(ws:List AB)(pq:List AC):Prop:=∃pm M,MapAt h r pm El Dk M/\GK np ws pq M
theorem D8.le{h h':GH}{r np:Nat}{ws:List AB}{pq:List AC}(x:D8 h r np ws pq)(l:h.Le h'):D8 h' r np ws pq:=by
 obtain ⟨pm,M,⟨es,clk,hb,hl⟩,hM⟩:=x;exact ⟨pm,M,⟨es,clk,l.keep hb rfl,hl⟩,hM⟩
structure DT(hB:GH)(r:Nat)(M:E8->Option Int)(h hc:GH):Prop where
 ok:Cl hc r El Dk M
 keep:Bp (λb=>b=r) h hc
 base:hB.Le hc
def FRes(hB:GH)(r:Nat)(M:E8->Option Int)(h h':GH):Prop:=Cl h' r El Dk M/\Bp (λb=>b=r) h h'/\hB.Le h'
section
variable {hB h hc h':GH} {r:Nat} {M M':E8->Option Int}
theorem Cl.some(x:Cl h r El Dk M):∃o,h r=some (true,o)/\Jh o=false:=by obtain ⟨es,clk,hb,_⟩:=x;exact ⟨_,hb,rfl⟩
theorem DT.start(x:Cl h r El Dk M)(l:hB.Le h):DT hB r M h h:=⟨x,Bp.refl _ _,l⟩
theorem DT.le(y:DT hB r M h hc)(l:hc.Le h'):DT hB r M h h':=by
 obtain ⟨o,ho,_⟩:=y.ok.some;exact ⟨y.ok.le_other ((l.keep ho rfl).trans ho.symm),y.keep.trans (λ_ q=>.inl q) (l.keepX _),y.base.trans l⟩
theorem DT.store(y:DT hB r M h hc){q:Nat}(hq:h q=none)(qB:hB q=none)(hn:q≠r)(ho:∀b,b≠q->h' b=hc b):DT hB r M h h':=
 ⟨y.ok.le_other (ho r (Ne.symm hn)),y.keep.store hq ho,y.base.upd qB ho⟩
theorem DT.put(y:DT hB r M h hc)(rB:hB r=none)(x:Cl h' r El Dk M')(ho:∀b,b≠r->h' b=hc b):DT hB r M' h h':=⟨x,y.keep.store' (.inl rfl) ho,y.base.upd rB ho⟩
theorem DT.call(y:DT hB r M h hc)(m:FRes hB r M' hc h'):DT hB r M' h h':=⟨m.1,y.keep.trans (λ_ q=>.inl q) m.2.1,m.2.2⟩
theorem DT.ne(y:DT hB r M h hc){q:Nat}(hq:hc q=none):q≠r:=λe=>by
 obtain ⟨o,ho,_⟩:=y.ok.some;rw [e,ho] at hq;cases hq
theorem DT.nothing(y:DT hB r M h hc){q:Nat}(hq:hc q=none):h q=none:=by
 cases hx:h q with
 | none=>rfl
 | some x=>
  obtain ⟨o',h1,_⟩:=y.keep q x.1 x.2 hx (y.ne hq);rw [h1] at hq;cases hq
theorem N2(x:h r=some (true,.map #[] 0)):Cl h r El Dk U2:=Cl.empty x
theorem Cl.slDel{V:Type}(x:Cl h r El Dk M){v:Value}{n:Nat}{enc:V->Array Value}{xs:List V}(y:AL h v n enc xs):AL (h.del r) v n enc xs:=by
 obtain ⟨es,clk,hb,_⟩:=x;exact AL.slDel y hb
theorem Cl.leF(x:Cl h r El Dk M)(l:h.Le h'):Cl h' r El Dk M:=by
 obtain ⟨o,ho,e⟩:=x.some;exact x.le_other ((l.keep ho e).trans ho.symm)
theorem DT.res(y:DT hB r M h hc):FRes hB r M h hc:=⟨y.ok,y.keep,y.base⟩
end
theorem N3{bag kinds:Int}{ps:List ByteArray}{ws:List AB}{js:List AK}{ns:List AE}(b:Ap bag kinds ps ws js ns){ag:AC->Bool}:∀{f i:Nat}{p:AC},i+f=ws.length+js.length->BH p->∀q ∈ CE ag ws js f i p,BH q
 | 0,_,p,_,hp,q,hq=>by rw [List.mem_singleton.1 hq];exact hp
 | f+1,i,p,h,hp,q,hq=>by
  rw [D0] at hq;obtain ⟨n,hn,hq⟩:=List.mem_flatMap.1 hq;have h1:=b.few (i:=i) aA;have h2:=ZL.1 hn;unfold B3 at hq;split at hq
  ·cases hq
  ·exact N3 b (f:=f) aA (hp.put aA) q hq
section
variable {bag kinds:Int} {ps:List ByteArray} {ws:List AB} {js:List AK} {ns:List AE}
theorem Gy(b:Ap bag kinds ps ws js ns):∀q ∈ AA ws js ns,BH q:=by
 intro q hq;unfold AA at hq;split at hq
 ·exact N3 b aA BH.zero q hq
 ·cases hq
theorem Ph(b:Ap bag kinds ps ws js ns)(k:Nat):BH ((AA ws js ns).getD k AC.zero):=by
 rcases Nat.lt_or_ge k (AA ws js ns).length with h | h
 ·exact Gy b _ (BO h)
 ·rw [BZ h];exact BH.zero
def AH(bag kinds:Int)(ps:List ByteArray)(ws:List AB)(js:List AK)(ns:List AE)(s:Int):Int:=
 if¬A0 bag kinds ps ws js ns=0 then A0 bag kinds ps ws js ns else if¬s=0 then s else if (AA ws js ns).length=0 then 9 else 0
variable {s:Int}
theorem Yk(h:¬A0 bag kinds ps ws js ns=0):AH bag kinds ps ws js ns s=A0 bag kinds ps ws js ns:=if_pos h
theorem Yl(h:¬¬A0 bag kinds ps ws js ns=0)(h2:¬s=0):AH bag kinds ps ws js ns s=s:=by unfold AH;rw [if_neg h,if_pos h2]
theorem Ym(h:¬¬A0 bag kinds ps ws js ns=0)(h2:¬¬s=0)(h3:(AA ws js ns).length=0):AH bag kinds ps ws js ns s=9:=by unfold AH;rw [if_neg h,if_neg h2,if_pos h3]
theorem openB_4(h:¬¬A0 bag kinds ps ws js ns=0)(h2:¬¬s=0)(h3:¬(AA ws js ns).length=0):AH bag kinds ps ws js ns s=0:=by unfold AH;rw [if_neg h,if_neg h2,if_neg h3]
theorem Dj(h:AH bag kinds ps ws js ns s=0):Ap bag kinds ps ws js ns/\s=0/\0<(AA ws js ns).length:=by
 unfold AH at h;split at h
 ·rename_i a;exact absurd h a
 ·split at h
  ·rename_i a b;exact absurd h b
  ·split at h
   ·cases h
   ·rename_i a b c
    exact ⟨B2 (Decidable.not_not.1 a),Decidable.not_not.1 b,aA⟩
theorem w5_eq{p q:AC}(h:(!((p.ways 0==q.ways 0 && (p.ways 1==q.ways 1 && (p.ways 2==q.ways 2 && (p.ways 3==q.ways 3 && (p.ways 4==q.ways 4 && true)))))))=false):p.w5=q.w5:=by
 simp only [Bool.not_eq_false',Bool.and_eq_true,beq_iff_eq,and_true] at h;obtain ⟨e0,e1,e2,e3,e4⟩:=h;simp only [AC.w5,e0,e1,e2,e3,e4]
theorem GK.is{h:GH}{r np:Nat}{ws:List AB}{pq:List AC}{M:E8->Option Int}{k:Nat}(x:Cl h r El Dk M)(hM:GK np ws (pq.take k) M)(hk:pq.length<=k):D8 h r np ws pq:=by
 rw [List.take_of_length_le hk] at hM;exact ⟨true,M,x,hM⟩
theorem SH{a b c d e f w:Value}{r:Nat}(h:w.cells=#[w]):Instr.fill (λx=>#[(0,6),(6,1),(7,1)][x]?) #[.int .i64 0,.int .i64 0,.slice none 0 0,.slice none 0 0,.slice none 0 0,.slice none 0 0,.slice none 0 0,.map none] [(0,.agg #[a,b,c,d,e,f]),(1,w),(2,.map (some r))]=some #[a,b,c,d,e,f,w,.map (some r)]:=by
 have e1:∀cs,(Value.agg cs).cells=cs:=λ_=>rfl;have e2:∀q,(Value.map q).cells=#[.map q]:=λ_=>rfl;simp [Instr.fill,h,e1,e2]
end
end Go.Ns
