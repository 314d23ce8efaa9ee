/- Rules and walks, part 2 of 6. No conditions. -/
import Derived.Sort.AssemblyPlain
import Derived.Sort.LotD3
import Derived.Test.YtbikoccgloongaaGreatDoorPFA
set_option linter.unusedVariables false
set_option linter.unusedSimpArgs false
set_option linter.unnecessarySimpa false
set_option linter.unusedSectionVars false
namespace Go.Ns
open Go.Conc
section
variable {P:Program} {E:Gq P} {O:Nat->Value} {ds:List Deferred} {h:GH} {T:(Nat->Value)->List Deferred->GH->Prop}
variable {dst:Option Nat} {ty:TypeId} {pos:String} {af:Array Edge} {gd:Option (Nat×Bool)}
def UponV(W:Wk P)(R:Value->GH->Prop):Next->GH->Prop
 | .enter f args,h=>AV W f args h R
 | .round l f tmps a c,h=>BP W l f tmps a c h R
 | _,_=>False
def Bn(W:Wk P)(fv:Value)(args:Array Value)(h:GH)(R:Value->GH->Prop):Prop:=
 (do let d<-Deferred.ofValue fv args;invoke d.target d.args:Sem Next).gh P h (UponV W R)
theorem Bn.mono{W:Wk P}{fv:Value}{args:Array Value}{h:GH}{R R':Value->GH->Prop}(x:Bn W fv args h R)(hr:∀v h',R v h'->R' v h'):Bn W fv args h R':=by
 refine FS _ (λnx h' y=>?_) h x;cases nx <;> first | exact y | exact AV.mono y hr | exact BP.mono y hr
theorem Jb{f:Operand}{args:Array Operand}{tys:Array TypeId}{fv:Value}{vs:Array Value}(hv:AQ O f=fv)(ha:args.map (AQ O)=vs)(x:Bn E.wk fv vs h λv h'=>T (putS O dst v) ds h') :
  BQ E ⟨dst,.call ⟨.value f,args,tys⟩,ty,pos,af,gd⟩ O ds h T:=by
 unfold BQ execOp;simp only [];unfold resolve;simp only [hv,ha];refine FS _ (λnx h' y=>?_) h x;cases nx <;> first | exact y | exact y.elim
theorem Ds{f x:Operand}{tys:Array TypeId}{fv v1:Value}(hv:AQ O f=fv)(h1:AQ O x=v1)(y:Bn E.wk fv #[v1] h λv h'=>T (putS O dst v) ds h') :
  BQ E ⟨dst,.call ⟨.value f,#[x],tys⟩,ty,pos,af,gd⟩ O ds h T:=Jb hv (by simp [h1]) y
theorem BJ{W:Wk P}{g:FuncId}{fn:Func}{first cap args vs:Array Value}{R:Value->GH->Prop}(hf:P.funcs[g]? =some fn)(hc:AK fn=true)(ha:first++args++cap=vs)(x:AV W g vs h R):Bn W (.func (.func g) first cap) args h R:=by
 subst ha;unfold Bn;simp only [Deferred.ofValue];refine AD _ _ (Ar ?_);exact N0 hf hc x
theorem Jc{l:Nat}{p:Bool}{lo:Loop}{Q:Loop->GH->Prop}(hl:h l=some (p,.loop lo))(q:Q lo h):(Instr.getLoop l).gh P h Q:=by
 unfold Instr.getLoop;exact AD _ _ ⟨p,_,hl,rfl,rfl,q⟩
theorem PT{W:Wk P}{l:Nat}{p:Bool}{lo:Loop}{args:Array Value}{R:Value->GH->Prop}(hl:h l=some (p,.loop lo))(hn:args.size=lo.params.size)
  (x:BP W l lo.fn ((lo.params.zip args).foldl (λtmps x=>tmps.setIfInBounds x.1 x.2) lo.tmps) lo.assign lo.body h R):Bn W (.func (.yield l) #[] #[]) args h R:=by
 unfold Bn;simp only [Deferred.ofValue];refine AD _ _ (Ar ?_);unfold invoke;simp only [];unfold Instr.yield;refine AD _ _ (Jc hl ?_);have e:#[]++args=args:=aD
 rw [e,if_neg (by rw [hn];simp)];exact x
def Wq(Q:Post)(O:Nat->Value)(ds:List Deferred)(l:Nat)(h:GH):Prop:=
 ∃lo,h l=some (true,.loop lo)/\(lo.state==.busy)=false/\match lo.pending with
  | none=>Q .normal O ds (h.set l true (.loop { lo with state:=.exhausted }))
  | some (.exit id)=>Q (.exit id) O ds (h.set l true (.loop { lo with state:=.exhausted }))
  | some .ret=>Q .ret O ds (h.set l true (.loop { lo with state:=.exhausted }))
  | some _=>False
theorem MQ{f:Operand}{params:Array Tmp}{assign body:Code}{Q:Post}(hrd:E.rd=none)
  (x:∀(t:Array Value) d l,BX t E.N O->h d=none->h l=none->l≠d->
   Bn E.wk (AQ O f) #[.func (.yield l) #[] #[]] ((h.set d true (.deferred (some []))).set l true (.loop { state:=.ready,pending:=none,fn:=E.fn,tmps:=t,params,assign,body,defers:=d }))
    λ_ h'=>Wq Q O ({ target:=.collected d,args:=#[] } ::ds) l h'):Tr E (.rangeFunc f params assign body) O ds h Q:=by
 intro b k cs L t hb hr hl hs hq;refine E.wk.closed _ _ rfl λw fw=>?_;have e1:(Instr.enterLoop b.fn t params assign body b.roundOf).gh P h λr h'=>∃d l,h d=none/\h l=none/\l≠d/\r=(l,[{ target:=.collected d,args:=#[] }])/\
   h'=(h.set d true (.deferred (some []))).set l true (.loop { state:=.ready,pending:=none,fn:=b.fn,tmps:=t,params,assign,body,defers:=d }):=by
  rw [hr,hrd];unfold Instr.enterLoop;refine AD _ _ (λd hd=>?_);refine AD _ _ (Ar ?_);refine AD _ _ (λl hl'=>?_);have hne:l≠d:=λe=>by subst e;rw [GH.set_same] at hl';cases hl'
  rw [GH.set_ne _ _ _ hne] at hl';exact ⟨d,l,hd,hl',hne,rfl,rfl⟩
 obtain ⟨r,w1,h1,es1,r1,r2,d,l,hd,hl',hne,rfl,rfl⟩:=JR fw e1;have y:=x t d l hs hd hl' hne;rw [<-hb] at y;let mark:List Deferred:=[{ target:=.collected d,args:=#[] }];have hev:(Ci b t (mark++ds) (.inRangeFunc l ::k)).eval=AQ O:=funext λo=>by rw [MF hs]
 have y':(do let d<-resolve (Ci b t (mark++ds) (.inRangeFunc l ::k)).eval { callee:=.value f,args:=#[.const (.func (.yield l) #[] #[])],argTypes:=#[] } 0;invoke d.target d.args:Sem Next).gh P
   ((h.set d true (.deferred (some []))).set l true (.loop { state:=.ready,pending:=none,fn:=b.fn,tmps:=t,params,assign,body,defers:=d })) (UponV E.wk λ_ h'=>Wq Q O ({ target:=.collected d,args:=#[] } ::ds) l h'):=by
  rw [hev];unfold resolve;simpa [AQ,Bn] using y
 obtain ⟨nx,w2,h2,es2,q1,q2,q3⟩:=JR r2.fits y';have hstep:stepG P E.wk.main (G (Ci b t ds (.code (.rangeFunc f params assign body) ::k)) cs) w=
   GStep.after (seen P b.fn es1) (stepG.apply P true (Ci b t (mark++ds) (.inRangeFunc l ::k)) cs none
    (do let d<-resolve (Ci b t (mark++ds) (.inRangeFunc l ::k)).eval { callee:=.value f,args:=#[.const (.func (.yield l) #[] #[])],argTypes:=#[] } 0;invoke d.target d.args) w1):=by
  rw [A5];unfold stepG.exec;simp only [Ci,r1];rfl
 have sub2:∀q:Bool,∀e ∈ seen P b.fn (if q then #[] else es2),e ∈ es2:=λq e he=>by
  have:=mem_seen he
  cases q with
  | true=>simp at this
  | false=>simpa using this
 have hok:∀q:Bool,Bl h w (seen P b.fn es1++(seen P b.fn (if q then #[] else es2)++ #[])) h2 w2:=λq=>
  (r2.trans q2).sub λe he=>by
   rw [Array.append_empty,Array.mem_append] at he;rw [Array.mem_append];rcases he with he | he
   ·exact .inl (mem_seen he)
   ·exact .inr (sub2 q e he)
 have CW:∀(v:Value) h',Wq Q O ({ target:=.collected d,args:=#[] } ::ds) l h'->E.wk.K (G ((Ci b t (mark++ds) (.inRangeFunc l ::k)).finish v) cs) h':=by
  rintro v h' ⟨lo,hlo,hst,z⟩;show E.wk.K (G (Ci b t (mark++ds) (.endRangeFunc l ::k)) cs) h';refine E.wk.closed _ _ rfl λw fw=>?_;have e2:(Instr.endLoop l).gh P h' λjump h''=>jump=lo.pending/\h''=h'.set l true (.loop { lo with state:=.exhausted }):=by
   unfold Instr.endLoop;refine AD _ _ (Jc hlo ?_);rw [hst];refine AD _ _ ⟨_,hlo,rfl,rfl,rfl,?_⟩;exact ⟨rfl,rfl⟩
  obtain ⟨jump,w3,h3,es3,p1,p2,rfl,rfl⟩:=JR fw e2;refine ⟨G (Ci b t (mark++ds) ((lo.pending.map Item.code).toList++k)) cs,w3,_,_,?_,p2.sub (es':=seen P b.fn es3++ #[]) λe he=>?_,?_⟩
  ·rw [A5];unfold stepG.exec;simp only [Ci,p1];rfl
  ·rw [Array.append_empty] at he;exact mem_seen he
  ·cases hp:lo.pending with
   | none=>
    rw [hp] at z;exact hq _ _ _ _ z t hs
   | some c=>
    rw [hp] at z;cases c with
    | ret=>
     have:=hq _ _ _ _ z t hs
     exact hl.ret t _ _ k this
    | exit id=>
     have:=hq _ _ _ _ z t hs
     show E.wk.K (G (Ci b t (mark++ds) (.code (.exit id) ::k)) cs) _;cases hx:exitTo id k with
     | none=>simp only [DJ,hx] at this;exact hl.exit id t _ _ k hx this
     | some k'=>
      simp only [DJ,hx] at this;exact Wk.go (Ci b t (mark++ds) k') (λw=>by rw [A5];simp [stepG.exec,Ci,G,hx]) this
    | _=>exact z.elim
 cases nx with
 | enter f' args=>
  refine ⟨_,w2,_,h2,?_,hok (b.kind==.early),q3 (Ci b t (mark++ds) (.inRangeFunc l ::k)) cs CW⟩;rw [hstep];simp only [stepG.apply,q1,if_true];rfl
 | round l' f' tmps a c=>
  refine ⟨_,w2,_,h2,?_,hok (b.kind==.early),q3 (Ci b t (mark++ds) (.inRangeFunc l ::k)) cs CW⟩;rw [hstep];simp only [stepG.apply,q1,if_true];rfl
 | _=>exact q3.elim
theorem N4{W:Wk P}{l:Nat}{f:FuncId}{tmps:Array Value}{N:Nat}{assign body:Code}{R:Value->GH->Prop}(hN:tmps.size=N)
  (x:Tr ⟨W,f,some l,N⟩ assign (λi=>tmps.getD i undef) [] h λe O ds h'=>e=.normal/\∃lo,h' l=some (true,.loop lo)/\lo.state=.ready/\
   Tr ⟨W,f,some l,N⟩ body O ds (h'.set l true (.loop { lo with state:=.busy })) λe _ _ h''=>∃lo',h'' l=some (true,.loop lo')/\match e with
    | .normal=>R (.bool true) (h''.set l true (.loop { lo' with state:=.ready,pending:=none }))
    | .exit id=>R (.bool false) (h''.set l true (.loop { lo' with state:=.done,pending:=some (.exit id) }))
    | .ret=>R (.bool false) (h''.set l true (.loop { lo' with state:=.done,pending:=some .ret }))
    | _=>False):BP W l f tmps assign body h R:=by
 intro c cs hc;let b:Frame:=Frame.round l f tmps assign body .normal;show W.K (G (Ci b tmps [] [.code assign,.beginRound,.code body]) (c ::cs)) h;have leave:∀(jump:Option Code)(v:Value)(t:Array Value)(ds:List Deferred)(k:List Item)(h'':GH)(lo':Loop),h'' l=some (true,.loop lo')->
   (∀w,stepG P W.main (G (Ci b t ds k) (c ::cs)) w=GStep.after (seen P f ((Instr.endRound l jump).runT P w #[]).2) (match ((Instr.endRound l jump).runT P w #[]).1 with
    | .ok v w=>doReturn P W.main (Ci b t ds k) (c ::cs) none v w
    | .halt _ w=>.ended (.stuck "range over a function: no such loop" ((Ci b t ds k).pos P)) w))->v=.bool jump.isNone->
   R v (h''.set l true (.loop { lo' with state:=if jump.isNone then .ready else .done,pending:=jump }))->W.K (G (Ci b t ds k) (c ::cs)) h'':=by
  rintro jump v t ds k h'' lo' hlo hstep rfl hR;refine W.closed _ _ rfl λw fw=>?_;have e2:(Instr.endRound l jump).gh P h'' λv h3=>v=.bool jump.isNone/\h3=h''.set l true (.loop { lo' with state:=if jump.isNone then .ready else .done,pending:=jump }):=by
   unfold Instr.endRound;refine AD _ _ (Jc hlo ?_);refine AD _ _ ⟨_,hlo,rfl,rfl,rfl,?_⟩;exact ⟨rfl,rfl⟩
  obtain ⟨v,w3,h3,es3,p1,p2,rfl,rfl⟩:=JR fw e2;refine ⟨G (c.finish (.bool jump.isNone)) cs,w3,_,_,?_,p2.sub (es':=seen P f es3++ #[]) λe he=>?_,hc _ _ hR⟩
  ·rw [hstep,p1];rfl
  ·rw [Array.append_empty] at he;exact mem_seen he
 let L:Lv:=λj t ds h''=>∃lo',h'' l=some (true,.loop lo')/\match j with
  | none=>R (.bool true) (h''.set l true (.loop { lo' with state:=.ready,pending:=none }))
  | some (.exit id)=>R (.bool false) (h''.set l true (.loop { lo' with state:=.done,pending:=some (.exit id) }))
  | some .ret=>R (.bool false) (h''.set l true (.loop { lo' with state:=.done,pending:=some .ret }))
  | some _=>False
 have hL:MG W b (c ::cs) L:=by
  refine ⟨?_,?_,?_⟩
  ·rintro t ds h'' ⟨lo',h1,h2⟩;exact leave none _ t ds [] h'' lo' h1 (λw=>by rw [A5];rfl) rfl (by simpa using h2)
  ·rintro t ds h'' k ⟨lo',h1,h2⟩;exact leave (some .ret) _ t ds (.code .ret ::k) h'' lo' h1 (λw=>by rw [A5];rfl) rfl (by simpa using h2)
  ·rintro id t ds h'' k hk ⟨lo',h1,h2⟩;exact leave (some (.exit id)) _ t ds (.code (.exit id) ::k) h'' lo' h1 (λw=>by rw [A5];simp only [stepG.exec,Ci,hk,Option.elim];rfl) rfl (by simpa using h2)
 refine x b [.beginRound,.code body] (c ::cs) L tmps rfl rfl hL ⟨hN,λi=>rfl⟩ ?_;rintro e O ds h' ⟨rfl,lo,h1,h2,h3⟩ t' ht';show W.K (G (Ci b t' ds [.beginRound,.code body]) (c ::cs)) h';refine W.closed _ _ rfl λw fw=>?_;have e3:(do (some l).elim (stuck "beginRound: no round") Instr.beginRound;pure Next.skip:Sem Next).gh P h' λnx h''=>nx=.skip/\h''=h'.set l true (.loop { lo with state:=.busy }):=by
  show Sem.gh P (do Instr.beginRound l;pure Next.skip:Sem Next) h' _;unfold Instr.beginRound;refine AD _ _ (AD _ _ (Jc h1 ?_));refine AD _ _ ⟨_,h1,rfl,rfl,rfl,?_⟩;rw [h2];exact ⟨rfl,rfl⟩
 obtain ⟨nx,w3,h4,es3,p1,p2,rfl,rfl⟩:=JR fw e3;refine ⟨G (Ci b t' ds [.code body]) (c ::cs),w3,_,_,?_,p2.sub (es':=seen P f es3++ #[]) λe he=>?_,?_⟩
 ·rw [A5];unfold stepG.exec;simp only [Ci];unfold stepG.apply;have hb:b.roundOf=some l:=rfl;simp only [hb,p1,if_true];rfl
 ·rw [Array.append_empty] at he;exact mem_seen he
 ·refine h3 b [] (c ::cs) L t' rfl rfl hL ht' ?_;rintro e σ' ds' h'' ⟨lo',g1,g2⟩ t2 ht2;cases e with
  | normal=>
   exact hL.stop t2 ds' h'' ⟨lo',g1,g2⟩
  | exit id=>exact ⟨lo',g1,g2⟩
  | ret=>exact ⟨lo',g1,g2⟩
  | _=>exact g2.elim
end
end Go.Ns
namespace Go.Ns
open Go.Conc
section
variable {P:Program} {E:Gq P} {O:Nat->Value} {ds:List Deferred} {h:GH} {T:(Nat->Value)->List Deferred->GH->Prop}
variable {dst:Option Nat} {ty:TypeId} {pos:String} {af:Array Edge} {gd:Option (Nat×Bool)}
variable {V:Type}
def GW(R:GH->GH->Prop):List SP->Prop
 | []=>True
 | φ ::l=>(∀v h h',R h h'->φ v h->φ v h')/\GW R l
theorem GW.mono{R:GH->GH->Prop}:∀{Φ:List SP},GW R Φ->∀k v h h',R h h'->MN Φ k v h->MN Φ k v h'
 | [],_,k,v,h,h',_,x=>by cases k <;> exact x
 | φ ::l,ok,0,v,h,h',r,x=>ok.1 v h h' r x
 | φ ::l,ok,k+1,v,h,h',r,x=>GW.mono ok.2 k v h h' r x
theorem tr_drawn{R:GH->GH->Prop}(rr:∀h,R h h)(rt:∀a b c,R a b->R b c->R a c){id:Nat}{l:List Oper}{Q:Post}(n:Nat)(cls:List (List Nat))(Φ:List SP)
  (hm:P.follows .mixedOrders=true) (ok:Ts E.N l n cls=true) (mono:GW R Φ) (x:N1 R E l n Φ O ds h Q n 0 l cls):Tr E (.region id l.toArray true) O ds h Q:=
 tr_draw R n cls Φ hm ok rr rt mono.mono x
theorem PU{id:Nat}{l:List Oper}{Q:Post}(n:Nat)(cls:List (List Nat))(Φ:List SP)
  (hm:P.follows .mixedOrders=true) (ok:Ts E.N l n cls=true) (mono:GW GH.Le Φ) (x:N1 GH.Le E l n Φ O ds h Q n 0 l cls):Tr E (.region id l.toArray true) O ds h Q:=
 tr_drawn GH.Le.refl (λ_ _ _=>GH.Le.trans) n cls Φ hm ok mono x
theorem trL_opg{ops:Array Oper}{o:Oper}{l:List Oper}{Q:Post}{j d:Nat}{want:Bool}{oj:Oper}(hg:o.guard=some (j,want))(hj:ops[j]? =some oj)(hjd:oj.dst=some d)(hv:O d=.bool want)(hdj:Nat.blt d E.N=true)
  (hdf:E.rd=none\/C6 o.op=false) (hd:C3 o.dst E.N=true) (x:BQ E o O ds h λσ' ds' h'=>DL E ops l σ' ds' h' Q):DL E ops (o ::l) O ds h Q:=Tk hg hj hjd hv hdj hdf hd x
theorem Ap{ops:Array Oper}{o:Oper}{l:List Oper}{Q:Post}{j d:Nat}{want:Bool}{oj:Oper}(hg:o.guard=some (j,want))(hj:ops[j]? =some oj)(hjd:oj.dst=some d)(hv:O d=undef)(hdj:Nat.blt d E.N=true)
  (hd:C3 o.dst E.N=true) (x:DL E ops l (putS O o.dst undef) ds h Q):DL E ops (o ::l) O ds h Q:=by
 intro i b k cs L t hi hb hr hl hs hc;have ho:ops[i]? =some o:=by simpa using (hi 0).symm
 have hy:yielded ops t j=none:=by
  have hlt:d<t.size:=by rw [hs.1];exact Nat.blt_eq▸hdj
  have h2:=hs.2 d;rw [hv] at h2;have h3:t[d]? =some undef:=by
   simp only [Array.getD_eq_getD_getElem?,Array.getElem?_eq_getElem hlt,Option.getD_some] at h2;rw [Array.getElem?_eq_getElem hlt,h2]
  simp [yielded,hj,hjd,h3,undef]
 refine Wk.go (Ci b (Wf t o.dst undef) ds (.inRegion ops (List.range' (i+1) l.length) ::k)) (λw=>?_) ?_
 ·have hw':((ops[i]?).map (Region.wanted · (yielded ops t))).getD false=false:=by
   simp only [ho,Option.map_some,Option.getD_some,Region.wanted,hg,hy];cases want <;> rfl
  rw [<-C7 ho (rest:=List.range' (i+1) l.length),List.length_cons,List.range'_succ,A5];unfold stepG.exec;simp only [Ci,hw',Bool.false_eq_true,↓reduceIte];rfl
 ·exact x (i+1) b k cs L _ (λj=>by have:=hi (j+1);simpa [Nat.add_assoc,Nat.add_comm 1 j] using this) hb hr hl (hs.putS hd undef) hc
theorem Ae{ops:Array Oper}{l:List Oper}{Q:Post}{p:Prop}[Decidable p](a:p->DL E ops l O ds h Q)(a':¬p->DL E ops l O ds h Q):DL E ops l O ds h Q:=if h:p then a h else a' h
theorem Gy{ops:Array Oper}{l:List Oper}{Q:Post}{b:Bool}(a:b=true->DL E ops l O ds h Q)(a':b=false->DL E ops l O ds h Q):DL E ops l O ds h Q:=by
 cases b with
 | true=>exact a rfl
 | false=>exact a' rfl
theorem ED{f:Fn}{x1:Operand}{v1:Value}(h1:AQ O x1=v1)(k:T (putS O dst (.func f #[] #[v1])) ds h):BQ E ⟨dst,.makeFunc f #[] #[x1],ty,pos,af,gd⟩ O ds h T:=Ef (by simp [h1]) k
theorem GX{f:Fn}{x1 x2:Operand}{v1 v2:Value}(h1:AQ O x1=v1)(h2:AQ O x2=v2)(k:T (putS O dst (.func f #[] #[v1,v2])) ds h):BQ E ⟨dst,.makeFunc f #[] #[x1,x2],ty,pos,af,gd⟩ O ds h T:=Ef (by simp [h1,h2]) k
theorem Jd{f:Fn}{x1 x2 x3:Operand}{v1 v2 v3:Value}(h1:AQ O x1=v1)(h2:AQ O x2=v2)(h3:AQ O x3=v3)(k:T (putS O dst (.func f #[] #[v1,v2,v3])) ds h):BQ E ⟨dst,.makeFunc f #[] #[x1,x2,x3],ty,pos,af,gd⟩ O ds h T:=Ef (by simp [h1,h2,h3]) k
theorem Tu{f:Fn}{x1 x2 x3 x4:Operand}{v1 v2 v3 v4:Value}(h1:AQ O x1=v1)(h2:AQ O x2=v2)(h3:AQ O x3=v3)(h4:AQ O x4=v4)(k:T (putS O dst (.func f #[] #[v1,v2,v3,v4])) ds h):BQ E ⟨dst,.makeFunc f #[] #[x1,x2,x3,x4],ty,pos,af,gd⟩ O ds h T:=Ef (by simp [h1,h2,h3,h4]) k
theorem Tv{f:Fn}{x1 x2 x3 x4 x5:Operand}{v1 v2 v3 v4 v5:Value}(h1:AQ O x1=v1)(h2:AQ O x2=v2)(h3:AQ O x3=v3)(h4:AQ O x4=v4)(h5:AQ O x5=v5)(k:T (putS O dst (.func f #[] #[v1,v2,v3,v4,v5])) ds h):BQ E ⟨dst,.makeFunc f #[] #[x1,x2,x3,x4,x5],ty,pos,af,gd⟩ O ds h T:=Ef (by simp [h1,h2,h3,h4,h5]) k
theorem EQ{v:Value}{p:Prop}[Decidable p](e:v=.bool (decide p))(g:v=.bool false):¬p:=by
 rw [e] at g;simpa using g
theorem AO.fresh{h0 h:GH}{v:Value}{t:TypeId}{n:Nat}{enc:V->Array Value}{xs:List V}(x:AO h0 h v t n enc xs):∀b,CW v=some b->h0 b=none:=by
 intro b hb;rcases x with ⟨rfl,_⟩ | ⟨b',cap,c,rfl,h1,_⟩
 ·cases hb
 ·simp [CW] at hb;subst hb;exact h1
theorem AO.inDom{h0 h:GH}{v:Value}{t:TypeId}{n:Nat}{enc:V->Array Value}{xs:List V}(x:AO h0 h v t n enc xs):∀b,CW v=some b->∃o,h b=some o:=by
 intro b hb;rcases x with ⟨rfl,_⟩ | ⟨b',cap,c,rfl,h1,h2,_⟩
 ·cases hb
 ·simp [CW] at hb;subst hb;exact ⟨_,h2⟩
def Ay(v:Value)(b:Nat):Prop:=CW v≠some b
def Apart(v w:Value):Prop:=∀b,CW v=some b->CW w≠some b
theorem Apart.symm{v w:Value}(a:Apart v w):Apart w v:=λb h h'=>a b h' h
theorem Ay.nil{b:Nat}:Ay (.slice none 0 0) b:=by intro h;cases h
theorem Apart.nil{w:Value}:Apart (.slice none 0 0) w:=by intro b h;cases h
theorem Ay.old{h0 h:GH}{v:Value}{t:TypeId}{n:Nat}{enc:V->Array Value}{xs:List V}(x:AO h0 h v t n enc xs){b:Nat}{o:Bool×Obj}(hb:h0 b=some o):Ay v b:=λe=>by
 rw [x.fresh b e] at hb;cases hb
theorem Ay.new{h0 h:GH}{v:Value}{t:TypeId}{n:Nat}{enc:V->Array Value}{xs:List V}(x:AO h0 h v t n enc xs){b:Nat}(hb:h b=none):Ay v b:=λe=>by
 obtain ⟨o,ho⟩:=x.inDom b e;rw [hb] at ho;cases ho
def Gr(h h':GH)(v v':Value):Prop:=(∀b o,h b=some o->CW v≠some b->h' b=some o)/\(CW v'=CW v\/((∃r,CW v'=some r/\h r=none)/\∀b o,h b=some o->h' b=some o))
theorem Ay.grown{h h':GH}{v v':Value}(g:Gr h h' v v'){b:Nat}{o:Bool×Obj}(hb:h b=some o)(x:Ay v b):Ay v' b:=λe=>by
 rcases g.2 with q | ⟨⟨r,q1,q2⟩,_⟩
 ·exact x (q▸e)
 ·rw [q1] at e;cases e;rw [q2] at hb;cases hb
theorem Apart.grown{h h' h0:GH}{v v' w:Value}(g:Gr h h' v v'){t:TypeId}{n:Nat}{enc:V->Array Value}{xs:List V}(y:AO h0 h w t n enc xs)(x:Apart v w):Apart v' w:=λb e e'=>by
 obtain ⟨o,ho⟩:=y.inDom b e';rcases g.2 with q | ⟨⟨r,q1,q2⟩,_⟩
 ·exact x b (q▸e) e'
 ·rw [q1] at e;cases e;rw [q2] at ho;cases ho
theorem AO.grown{h h' h0:GH}{v v' w:Value}(g:Gr h h' v v'){t:TypeId}{n:Nat}{enc:V->Array Value}{xs:List V}(y:AO h0 h w t n enc xs)(x:Apart v w):AO h0 h' w t n enc xs:=
 y.keep λb o hb ho=>g.1 b o ho λe=>x b e hb
theorem GH.Le.grown{h1 h h':GH}{v v':Value}(g:Gr h h' v v')(l:h1.Le h)(f:∀b,CW v=some b->h1 b=none):h1.Le h':=λb p o hb=>by
 obtain ⟨o',h2,h3⟩:=l b p o hb;exact ⟨o',g.1 b _ h2 λe=>(by rw [f b e] at hb;cases hb),h3⟩
theorem CD{h h':GH}{v v':Value}(g:Gr h h' v v'){b:Nat}{o:Bool×Obj}(hb:h b=some o)(x:Ay v b):h' b=some o:=g.1 b o hb x
theorem AO.stored{h0 h h':GH}{v:Value}{t:TypeId}{n:Nat}{enc:V->Array Value}{xs:List V}(y:AO h0 h v t n enc xs){r:Nat}(x:Ay v r)(ho:∀b,b≠r->h' b=h b):AO h0 h' v t n enc xs:=
 y.keep λb o hb hb'=>by rw [ho b λe=>by subst e;exact x hb];exact hb'
theorem A7{s x:TypeId}{o1 o2:Operand}{h0:GH}{v w:Value}{e n bytes:Nat}{enc:V->Array Value}{xs ys:List V}(ht:JG P s x=some (e,n,bytes))(h1:AQ O o1=v)(h2:AQ O o2=w)
  (hv:AO h0 h v e n enc xs) (hw:AH h w n enc ys) (l0:∀r,h r=none->h0 r=none) (hb:(2*(xs.length+ys.length)+512)*bytes<=2 ^ 48) (hfine:∀y ∈ ys,(enc y).toList.all (·.oneCell')=true)
  (k:∀v' h',AO h0 h' v' e n enc (xs++ys)->Gr h h' v v'->T (putS O dst v') ds h') :
  BQ E ⟨dst,.call ⟨.builtin .append,#[o1,o2],#[s,x]⟩,ty,pos,af,gd⟩ O ds h T:=
 Zy ht h1 h2 hv hw l0 hb hfine λv' h' a b c=>k v' h' a ⟨b,c⟩
theorem AW{h0:GH}{t:TypeId}{x ix:Operand}{n:Nat}{enc:V->Array Value}{xs:List V}{v:Value}{kd:IntKind}{i:Int}(ht:EB P t=some n)(hs:AH h0 v n enc xs)(hx:AQ O x=v)(hi:AQ O ix=.int kd i)(h0':0<=i)(h1:i<xs.length)
  (k:∀b off,AT h0 b off n (enc (xs[i.toNat]' aA))->T (putS O dst (.pointer (some ⟨b,off,none⟩))) ds h):BQ E ⟨dst,.indexAddr t x ix,ty,pos,af,gd⟩ O ds h T:=by
 obtain ⟨a,cap,rfl,_,_,he⟩:=hs;obtain ⟨b,off,rfl,hb⟩:=he i.toNat aA;exact Bf ht hx hi h0' h1 (k b _ hb)
theorem AO.built{h h':GH}{r:Nat}{t:TypeId}{n:Nat}{enc:V->Array Value}{xs:List V}{c:Array Value}{m:Nat}(hr:h r=none)(hb:h' r=some (true,.cells c t (0,0)))(hm:xs.length=m)(hml:Nat.ble m 16777216=true)(hn:∀x ∈ xs,(enc x).size=n)(hc:c.toList=DS enc xs) :
  AO h h' (.slice (some ⟨r,0,none⟩) m m) t n enc xs:=by
 subst hm
 have:=Nat.le_of_ble_eq_true hml
 refine .inr ⟨r,_,c,rfl,hr,hb,?_,Nat.le_refl _,aA,?_,hn⟩
 ·rw [<-Eg hn,<-hc,Array.length_toList]
 ·rw [hc,<-Eg hn,List.take_length]
theorem AX{t:TypeId}{len n:Nat}{z cells:Array Value}{e:TypeId}{parts:Array (Nat×Operand)}(hs:Da P t=some (n,z,e))(hl:len*n<=2 ^ 24)(hn:(len*n=0)=False)
  (hf:Instr.fill (λi=>some (i*n,n)) ((Array.range (len*n)).map (z[·%z.size]!)) (parts.map λ(i,x)=>(i,AQ O x)).toList=some cells)
  (k:∀r h',h r=none->h.Le h'->h' r=some (true,.cells cells e (0,0))->(∀b,b≠r->h' b=h b)->T (putS O dst (.slice (some ⟨r,0,none⟩) len len)) ds h'):BQ E ⟨dst,.buildSlice t len parts,ty,pos,af,gd⟩ O ds h T:=
 Rr hs hl hn hf λr hr=>k r _ hr (GH.Le.new hr _ _) (GH.set_same _ _ _ _) λb hb=>GH.set_ne _ _ _ hb
theorem ok_copy'{s x:TypeId}{o1 o2:Operand}{b off dl cap n:Nat}{e:TypeId}{enc:V->Array Value}{ys:List V}{w:Value}{c c':Array Value}(ht:EB P s=some n)(h1:AQ O o1=.slice (some ⟨b,off,none⟩) dl cap)(h2:AQ O o2=w)
  (hb:h b=some (true,.cells c e (0,0))) (hn:off+dl*n<=c.size) (hw:AH h w n enc ys) (hl:ys.length<=dl) (hfine:∀y ∈ ys,(enc y).toList.all (·.oneCell')=true) (hsz:∀y ∈ ys,(enc y).size=n) (hc:BZ c off (DS enc ys)=c')
  (k:∀h',h' b=some (true,.cells c' e (0,0))->(∀x,x≠b->h' x=h x)->T (putS O dst (.int .i64 ys.length)) ds h') :
  BQ E ⟨dst,.call ⟨.builtin .copy,#[o1,o2],#[s,x]⟩,ty,pos,af,gd⟩ O ds h T:=
 ok_copy ht h1 h2 hb hn hw hl hfine hsz (k _ (by rw [hc];exact GH.set_same _ _ _ _) λx hx=>GH.set_ne _ _ _ hx)
theorem CN{t:TypeId}{n:Nat}{z:Array Value}{e:TypeId}(hs:Da P t=some (n,z,e))(k:∀r h',h r=none->h.Le h'->h' r=some (true,.cells #[] e (0,0))->(∀b,b≠r->h' b=h b)->T (putS O dst (.slice (some ⟨r,0,none⟩) 0 0)) ds h') :
  BQ E ⟨dst,.buildSlice t 0 #[],ty,pos,af,gd⟩ O ds h T:=by
 unfold BQ execOp;refine F7 ?_;unfold Da at hs;unfold Instr.buildSlice;cases hu:P.underlying t with
 | none=>rw [hu] at hs;cases hs
 | some d=>
  rw [hu] at hs;cases d <;> first | (cases hs;done) | skip
  rename_i e'
  simp only at hs;cases ht:CL P e' with
  | none=>rw [ht] at hs;cases hs
  | some x=>
   cases hz:Bm P e' with
   | none=>rw [ht,hz] at hs;cases hs
   | some z'=>
    rw [ht,hz] at hs;simp only [Option.some.injEq,Prod.mk.injEq] at hs;obtain ⟨rfl,rfl,rfl⟩:=hs;refine AD _ _ (Al hu ?_);refine AD _ _ (F8 (by rw [ht];rfl) ?_);rw [Nat.zero_mul,if_neg aC];dsimp only;rw [if_pos rfl];refine AD _ _ (Ar ?_);have e0:Instr.fill (λi=>some (i*x.snd,x.snd)) (Array.map (λy=>(#[]:Array Value)[y%(#[]:Array Value).size]!) (Array.range 0)) (Array.map (λy:Nat×Operand=>(y.fst,AQ O y.snd)) #[]).toList=some #[]:=by
     simp [Instr.fill]
    rw [e0];dsimp only;refine AD _ _ ?_;unfold newRow;refine AD _ _ (λr hr=>?_);exact k r _ hr (GH.Le.new hr _ _) (GH.set_same _ _ _ _) λb hb=>GH.set_ne _ _ _ hb
end
end Go.Ns
namespace Go.Ns
open Go.Conc
section
variable {P:Program} {E:Gq P}
def Hx:Op->Option (List Operand)
 | .move x | .assign x | .box _ x | .unOp _ _ x | .convert _ _ x | .load _ x | .fieldAddr _ x _ | .field _ x _ | .nilCheck x | .extract x _ | .makeInterface _ x | .makeChan _ x | .typeAssert x _ _ _=>some [x]
 | .pick c a b=>some [c,a,b]
 | .alloc _=>some []
 | .build _ ps | .buildSlice _ _ ps=>some (ps.toList.map (·.2))
 | .store _ a x | .binOp _ _ a x _ | .indexAddr _ a x | .index _ a x | .lookup _ a x _ | .makeSlice _ a x=>some [a,x]
 | .makeFunc _ f c=>some (f.toList++c.toList)
 | .makeMap _ r=>some r.toList
 | .slice _ x lo hi mx=>some (x ::(lo.toList++(hi.toList++mx.toList)))
 | .mapUpdate _ m k x=>some [m,k,x]
 | .call c=>some (c.args.toList++match c.callee with | .value f=>[f] | .invoke r _=>[r] | .builtin _=>[])
 | _=>none
theorem PW{ρ ρ':Operand->Value}{a:Array Operand}(e:∀x ∈ a.toList,ρ x=ρ' x):a.map ρ=a.map ρ':=by
 apply Array.toList_inj.1;rw [Array.toList_map,Array.toList_map];exact List.map_congr_left e
theorem U9{ρ ρ':Operand->Value}{a:Array (Nat×Operand)}(e:∀x ∈ a.toList.map (·.2),ρ x=ρ' x):(a.map λ(i,x)=>(i,ρ x))=a.map λ(i,x)=>(i,ρ' x):=by
 apply Array.toList_inj.1;rw [Array.toList_map,Array.toList_map];exact List.map_congr_left λx hx=>by
  have:=e x.2 (List.mem_map.2 ⟨x,hx,rfl⟩)
  obtain ⟨i,y⟩:=x;exact congrArg (Prod.mk i) this
theorem ZM{ρ ρ':Operand->Value}{a:Option Operand}(e:∀x ∈ a.toList,ρ x=ρ' x):a.map ρ=a.map ρ':=by
 cases a with
 | none=>rfl
 | some x=>simp [e x aD]
theorem MR{ρ ρ':Operand->Value}{o:Oper}{xs:List Operand}(hx:Hx o.op=some xs)(e:∀x ∈ xs,ρ x=ρ' x):execOp ρ o=execOp ρ' o:=by
 obtain ⟨dst,op,ty,pos,af,gd⟩:=o;cases op <;> simp only [Hx,Option.some.injEq,reduceCtorEq] at hx
 case call c=>
  subst hx;have e1:=PW (a:=c.args) λx hx=>e x (List.mem_append_left _ hx);simp only [execOp,resolve,e1];cases hc:c.callee with
  | builtin b=>rfl
  | value f=>simp only [];rw [e f (List.mem_append_right _ (by rw [hc];simp))]
  | invoke r m=>simp only [];rw [e r (List.mem_append_right _ (by rw [hc];simp))]
 case makeFunc f a b=>
  subst hx;simp only [execOp];rw [PW (a:=a) λx hx=>e x (List.mem_append_left _ hx),PW (a:=b) λx hx=>e x (List.mem_append_right _ hx)]
 case slice t x lo hi mx=>
  subst hx;simp only [execOp];rw [e x aD,ZM (a:=lo) λy hy=>e y aE,ZM (a:=hi) λy hy=>e y aE,ZM (a:=mx) λy hy=>e y aE]
 case build t ps=>subst hx;simp only [execOp];rw [U9 e]
 case buildSlice t n ps=>subst hx;simp only [execOp];rw [U9 e]
 case makeMap t r=>subst hx;simp only [execOp];rw [ZM e]
 all_goals
  subst hx;simp only [List.mem_cons,or_false,forall_eq_or_imp,forall_eq,List.not_mem_nil,false_implies,implies_true] at e;simp [execOp,e]
def Il(xs:List Operand):List Nat:=xs.filterMap λx=>match x with | .tmp t=>some t | _=>none
theorem N5{O σ':Nat->Value}{xs:List Operand}(e:∀t ∈ Il xs,O t=σ' t):∀x ∈ xs,AQ O x=AQ σ' x:=λx hx=>by
 cases x with
 | tmp t=>exact e t (List.mem_filterMap.2 ⟨_,hx,rfl⟩)
 | const v=>rfl
 | global g=>rfl
 | func f=>rfl
def LU:Op->Bool
 | .call c=>match c.callee with
  | .builtin b=>b==.len || b==.cap || b==.min || b==.max
  | _=>false
 | .move _ | .assign _ | .nilCheck _ | .pick .. | .build .. | .load .. | .binOp .. | .unOp .. | .convert .. | .makeFunc .. | .fieldAddr .. | .field .. | .indexAddr .. | .index .. | .extract .. | .lookup .. | .slice .. | .makeInterface .. | .typeAssert .. =>true
 | _=>false
theorem K6{β:Type}{s:Sem β}{f:β->Value}{h:GH}{Q:Next->GH->Prop}:(s.bind λx=>(Sem.pure (Next.value (f x)):Sem Next)).gh P h Q->(s.bind λx=>(Sem.pure (Next.value (f x)):Sem Next)).gh P h λa h'=>Q a h'/\∃v,a=.value v:=by
 induction s generalizing h with
 | pure a=>intro x;exact ⟨x,_,rfl⟩
 | load m a k ih=>rintro ⟨x1,x2,p,c,t,f,v,y1,y2,z⟩;exact ⟨x1,x2,p,c,t,f,v,y1,y2,ih v z⟩
 | store m a v k ih=>rintro ⟨x1,x2,x3,c,t,f,y1,y2,y3,z⟩;exact ⟨x1,x2,x3,c,t,f,y1,y2,y3,ih z⟩
 | new o k ih=>intro x r hr;exact ih r (x r hr)
 | shape r k ih=>rintro ⟨p,c,t,f,y,z⟩;exact ⟨p,c,t,f,y,ih _ z⟩
 | freeze a n k ih=>
  rintro (⟨y,z⟩ | ⟨y,c,t,f,y2,z⟩)
  ·exact .inl ⟨y,ih z⟩
  ·exact .inr ⟨y,c,t,f,y2,ih z⟩
 | frozen a k ih=>rintro ⟨p,c,t,f,y,z⟩;exact ⟨p,c,t,f,y,ih _ z⟩
 | getObj r k ih=>rintro ⟨p,o,y1,y2,y3,z⟩;exact ⟨p,o,y1,y2,y3,ih _ z⟩
 | setObj r o k ih=>rintro ⟨o',y1,y2,y2',y3,z⟩;exact ⟨o',y1,y2,y2',y3,ih z⟩
 | choose q k ih=>rintro ⟨y,z⟩;exact ⟨λx=>ih _ (y x),λx t=>ih _ (z x t)⟩
 | sys c k ih=>intro x;exact x.elim
 | program k ih=>intro x;exact ih _ x
 | mark m k ih=>rintro ⟨y,z⟩;exact ⟨y,ih z⟩
 | halt x=>intro y;exact y.elim
def IM(P:Program)(e:Sem Next):Prop:=∀(h:GH)(Q:Next->GH->Prop),e.gh P h Q->e.gh P h λa h'=>Q a h'/\∃v,a=.value v
theorem IM.bind{β:Type}{s:Sem β}{f:β->Sem Next}(hf:∀a,IM P (f a)):IM P (s.bind f):=by
 induction s with
 | pure a=>exact hf a
 | load m a k ih=>rintro h Q ⟨x1,x2,p,c,t,f,v,y1,y2,z⟩;exact ⟨x1,x2,p,c,t,f,v,y1,y2,ih v _ _ z⟩
 | store m a v k ih=>rintro h Q ⟨x1,x2,x3,c,t,f,y1,y2,y3,z⟩;exact ⟨x1,x2,x3,c,t,f,y1,y2,y3,ih _ _ z⟩
 | new o k ih=>intro h Q x r hr;exact ih r _ _ (x r hr)
 | shape r k ih=>rintro h Q ⟨p,c,t,f,y,z⟩;exact ⟨p,c,t,f,y,ih _ _ _ z⟩
 | freeze a n k ih=>
  rintro h Q (⟨y,z⟩ | ⟨y,c,t,f,y2,z⟩)
  ·exact .inl ⟨y,ih _ _ z⟩
  ·exact .inr ⟨y,c,t,f,y2,ih _ _ z⟩
 | frozen a k ih=>rintro h Q ⟨p,c,t,f,y,z⟩;exact ⟨p,c,t,f,y,ih _ _ _ z⟩
 | getObj r k ih=>rintro h Q ⟨p,o,y1,y2,y3,z⟩;exact ⟨p,o,y1,y2,y3,ih _ _ _ z⟩
 | setObj r o k ih=>rintro h Q ⟨o',y1,y2,y2',y3,z⟩;exact ⟨o',y1,y2,y2',y3,ih _ _ z⟩
 | choose q k ih=>rintro h Q ⟨y,z⟩;exact ⟨λx=>ih _ _ _ (y x),λx t=>ih _ _ _ (z x t)⟩
 | sys c k ih=>intro h Q x;exact x.elim
 | program k ih=>intro h Q x;exact ih _ _ _ x
 | mark m k ih=>rintro h Q ⟨y,z⟩;exact ⟨y,ih _ _ z⟩
 | halt x=>intro h Q y;exact y.elim
theorem IM.value(v:Value):IM P (pure (.value v)):=λ_ _ x=>⟨x,v,rfl⟩
theorem leaf_val{ρ:Operand->Value}{o:Oper}(hv:LU o.op=true){h:GH}{Q:Next->GH->Prop}(x:(execOp ρ o).gh P h Q):(execOp ρ o).gh P h λa h'=>Q a h'/\∃v,a=.value v:=by
 obtain ⟨dst,op,ty,pos,af,gd⟩:=o;cases op
 case nilCheck a=>
  have hp:IM P (runtimePanic .nilDeref:Sem Next):=λ_ _ y=>by first | exact y.elim | exact IM.bind (λ_=>λ_ _ z=>z.elim) _ _ y
  have key:IM P (execOp ρ ⟨dst,.nilCheck a,ty,pos,af,gd⟩):=by
   unfold execOp;dsimp only;split
   ·exact hp
   ·exact hp
   ·exact hp
   ·split
    ·exact hp
    ·refine IM.bind λp=>IM.bind λr=>?_;split
     ·exact IM.bind λ_=>IM.value _
     ·exact IM.value _
    ·exact IM.value _
   ·exact IM.value _
  exact key _ _ x
 case call c=>
  simp only [LU] at hv;have e:∀s:Sem Value,execOp ρ ⟨dst,.call c,ty,pos,af,gd⟩=s.bind (λx=>Sem.pure (Next.value x))->(execOp ρ ⟨dst,.call c,ty,pos,af,gd⟩).gh P h λa h'=>Q a h'/\∃v,a=.value v:=λs q=>by
   rw [q] at x ⊢;exact K6 (f:=λx=>x) x
  cases hc:c.callee with
  | value f=>rw [hc] at hv;cases hv
  | invoke r m=>rw [hc] at hv;cases hv
  | builtin b=>
   rw [hc] at hv;have q:execOp ρ ⟨dst,.call c,ty,pos,af,gd⟩=builtin b c.argTypes ty (c.args.map fun | .const _=>true | _=>false) (c.args.map ρ):=by
    show (resolve ρ c ty).bind _=_;unfold resolve;rw [hc];rfl
   cases b <;> first | (simp at hv;done) | exact e _ q
 all_goals first | (simp [LU] at hv;done) | skip
 all_goals first | exact K6 (s:=Sem.pure _) (f:=λ_=>_) x | exact K6 (f:=λx=>x) x | exact K6 (β:=Bool) x
theorem GH.Le.get{h h':GH}(l:h.Le h'){b:Nat}{x:Bool×Obj}(hb:h b=some x):h' b=some x:=l.keep (p:=x.1) (o:=x.2) hb rfl
theorem GH.Le.of{h h':GH}(x:∀b y,h b=some y->h' b=some y):h.Le h':=λb p o hb=>⟨o,x b _ hb,.inl rfl⟩
def over(h' h2:GH):GH:=λb=>match h' b with
 | some x=>some x
 | none=>h2 b
theorem SU{h h2:GH}(l:h.Le h2):over h h2=h2:=funext λb=>by
 unfold over;split
 ·rename_i x hb;exact (l.get hb).symm
 ·rfl
theorem GH.Le.set2{h h2:GH}(l:h.Le h2)(r:Nat)(p:Bool)(o:Obj):(h.set r p o).Le (h2.set r p o):=.of λb y hb=>by
 by_cases e:b=r
 ·subst e;rw [GH.set_same] at hb ⊢;exact hb
 ·rw [GH.set_ne h p o e] at hb;rw [GH.set_ne h2 p o e];exact l.get hb
def VA(h h':GH):Prop:=∀b,(∃x,h b=some x)->∃x,h' b=some x
theorem MS{h h' h2:GH}{r:Nat}{p:Bool}{o:Obj}(d:VA (h.set r p o) h'):over h' (h2.set r p o)=over h' h2:=funext λb=>by
 unfold over;by_cases e:b=r
 ·subst e;obtain ⟨x,hx⟩:=d b ⟨_,GH.set_same h b p o⟩;rw [hx]
 ·rw [GH.set_ne h2 p o e]
theorem VA.set{h h':GH}{r:Nat}{p:Bool}{o:Obj}(d:VA (h.set r p o) h'):VA h h':=λb ⟨x,hx⟩=>by
 by_cases e:b=r
 ·subst e;exact d b ⟨_,GH.set_same h b p o⟩
 ·exact d b ⟨x,by rw [GH.set_ne h p o e];exact hx⟩
theorem gh_over{V:Type}(e:Sem V){Q:V->GH->Prop}:∀{h h2:GH},h.Le h2->e.gh P h Q->e.gh P h2 λa h3=>∃h',VA h h'/\Q a h'/\h3=over h' h2:=by
 induction e with
 | pure a=>intro h h2 l x;exact ⟨h,λ_ y=>y,x,(SU l).symm⟩
 | load m a k ih=>rintro h h2 l ⟨x1,x2,p,c,t,f,v,y1,y2,z⟩;exact ⟨x1,x2,p,c,t,f,v,l.get y1,y2,ih v l z⟩
 | store m a v k ih=>
  rintro h h2 l ⟨x1,x2,x3,c,t,f,y1,y2,y3,z⟩;exact ⟨x1,x2,x3,c,t,f,l.get y1,y2,y3,FS _ (λ_ _ ⟨h',d,q,r⟩=>⟨h',d.set,q,r.trans (MS d)⟩) _ (ih (l.set2 _ _ _) z)⟩
 | new o k ih=>
  intro h h2 l x r hr;have hr0:h r=none:=by
   cases hb:h r with
   | none=>rfl
   | some y=>rw [l.get hb] at hr;cases hr
  exact FS _ (λ_ _ ⟨h',d,q,r⟩=>⟨h',d.set,q,r.trans (MS d)⟩) _ (ih r (l.set2 _ _ _) (x r hr0))
 | shape r k ih=>rintro h h2 l ⟨p,c,t,f,y,z⟩;exact ⟨p,c,t,f,l.get y,ih _ l z⟩
 | freeze a n k ih=>
  rintro h h2 l (⟨y,z⟩ | ⟨y,c,t,f,y2,z⟩)
  ·exact .inl ⟨y,ih l z⟩
  ·exact .inr ⟨y,c,t,f,l.get y2,FS _ (λ_ _ ⟨h',d,q,r⟩=>⟨h',d.set,q,r.trans (MS d)⟩) _ (ih (l.set2 _ _ _) z)⟩
 | frozen a k ih=>rintro h h2 l ⟨p,c,t,f,y,z⟩;exact ⟨p,c,t,f,l.get y,ih _ l z⟩
 | getObj r k ih=>rintro h h2 l ⟨p,o,y1,y2,y3,z⟩;exact ⟨p,o,l.get y1,y2,y3,ih _ l z⟩
 | setObj r o k ih=>
  rintro h h2 l ⟨o',y1,y2,y2',y3,z⟩;exact ⟨o',l.get y1,y2,y2',y3,FS _ (λ_ _ ⟨h',d,q,r⟩=>⟨h',d.set,q,r.trans (MS d)⟩) _ (ih (l.set2 _ _ _) z)⟩
 | choose q k ih=>rintro h h2 l ⟨y,z⟩;exact ⟨λx=>ih _ l (y x),λx t=>ih _ l (z x t)⟩
 | sys c k ih=>intro h h2 l x;exact x.elim
 | program k ih=>intro h h2 l x;exact ih _ l x
 | mark m k ih=>rintro h h2 l ⟨y,z⟩;exact ⟨y,ih l z⟩
 | halt x=>intro h h2 l y;exact y.elim
def Tw(E:Gq P)(o:Oper)(O:Nat->Value)(ds:List Deferred)(h:GH)(v:Value):Prop:=BQ E o O ds h λσ' ds' h'=>σ'=putS O o.dst v/\ds'=ds/\h'=h
theorem Tw.move{o:Oper}{xs:List Operand}{O σ2:Nat->Value}{ds:List Deferred}{h h2:GH}{v:Value}(hv:LU o.op=true)(hx:Hx o.op=some xs)(e:∀t ∈ Il xs,O t=σ2 t)(l:h.Le h2)
  (y:Tw E o O ds h v):Tw E o σ2 ds h2 v:=by
 unfold Tw BQ at y ⊢;rw [<-MR hx (N5 e)];refine FS _ ?_ _ (gh_over _ l (leaf_val hv y));rintro a h3 ⟨h',_,⟨q,v',rfl⟩,rfl⟩;obtain ⟨q1,_,rfl⟩:=q;refine ⟨?_,rfl,SU l⟩;cases hd:o.dst with
 | none=>rfl
 | some d=>
  have:=congrFun q1 d
  simp only [hd,putS,upd_same] at this;rw [this]
theorem BQ.move{o:Oper}{xs:List Operand}{O σ2:Nat->Value}{ds:List Deferred}{h:GH}{T T2:(Nat->Value)->List Deferred->GH->Prop}(hx:Hx o.op=some xs)(e:∀t ∈ Il xs,O t=σ2 t)
  (ht:∀x ds' h',T (putS O o.dst x) ds' h'->T2 (putS σ2 o.dst x) ds' h') (y:BQ E o O ds h T):BQ E o σ2 ds h T2:=by
 unfold BQ at y ⊢;rw [<-MR hx (N5 e)];refine FS _ (λnx h' q=>?_) _ y;cases nx <;> first | exact ht _ _ _ q | exact AV.mono q λv h'' r=>ht _ _ _ r | exact BP.mono q λv h'' r=>ht _ _ _ r | exact q
inductive Kd where
 | p | r | e | w | a | l | b
 deriving DecidableEq
def Kd.fix:Kd->Bool
 | .a | .l | .b=>false
 | _=>true
def isB:Value->Bool->Bool
 | .bool is,w=>is==w
 | _,_=>false
def Gd(l:List Oper)(o:Oper)(O:Nat->Value)(b:Bool):Prop:=match o.guard with
 | none=>b=true
 | some (g,w)=>∃og d is,l[g]? =some og/\og.dst=some d/\O d=is/\b=isB is w
theorem Gd.iff{l:List Oper}{o:Oper}{O:Nat->Value}{b:Bool}(x:Gd l o O b):DR l o O↔b=true:=by
 unfold Gd at x;unfold DR;cases hg:o.guard with
 | none=>rw [hg] at x;simp only at x;simp [x]
 | some y=>
  obtain ⟨g,w⟩:=y;rw [hg] at x;obtain ⟨og,d,is,h1,h2,h3,rfl⟩:=x;simp only [h1,h2,h3];cases is <;> simp [isB]
def Gw(fl:Bool)(h hx:GH):Prop:=h.Le hx/\(fl=false->hx=h)
theorem Gw.refl(fl:Bool)(h:GH):Gw fl h h:=⟨GH.Le.refl h,λ_=>rfl⟩
def zOf(P:Program)(t:TypeId):Array Value:=(Bm P t).getD #[]
def skS:Kd->(Nat->Value)->Option Nat->Nat->Value
 | .l,O,_=>O
 | _,O,d=>putS O d undef
def TD(E:Gq P)(l:List Oper)(n:Nat)(fl:Bool)(hs:GH)(ds:List Deferred)(Lw:Nat->Value->GH->Prop)(F:(Nat->Value)->GH->Prop):List (Kd×Nat)->(Nat->Value)->GH->Prop
 | [],O,h=>∀hx,Gw fl h hx->F O hx
 | (kd,k) ::π,O,h=>∃o b,l[k]? =some o/\Gd l o O b/\(b=false->TD E l n fl hs ds Lw F π (skS kd O o.dst) h)/\(b=true->match kd with
  | .p=>∃v,(∀hx,Lw n undef hx->Tw E o O ds hx v)/\TD E l n fl hs ds Lw F π (putS O o.dst v) h
  | .r=>∃v,Tw E o O ds h v/\TD E l n fl hs ds Lw F π (putS O o.dst v) h
  | .e=>∀hx,Gw fl h hx->BQ E o O ds hx λσ' ds' h'=>ds'=ds/\∃v,σ'=putS O o.dst v/\hx.Le h'/\TD E l n fl hs ds Lw F π (putS O o.dst v) h'
  | .w=>∀hx,Gw fl h hx->BQ E o O ds hx λσ' ds' h'=>ds'=ds/\∃v,σ'=putS O o.dst v/\Lw n undef h'/\TD E l n false hs ds Lw F π (putS O o.dst v) h'
  | .a=>∀t r hx,o.op=.alloc t->h.Le hx->hs r=none->hx r=some (true,.cells (zOf P t) t (0,0))->TD E l n fl hs ds Lw F π (putS O o.dst (.pointer (some ⟨r,0,none⟩))) hx
  | .l=>(∀hx,h.Le hx->BQ E o O ds hx λσ' ds' h'=>ds'=ds/\∃v,σ'=putS O o.dst v/\hx.Le h'/\Lw k v h')/\TD E l n fl hs ds Lw F π O h
  | .b=>∀v hx,h.Le hx->Lw k v hx->TD E l n fl hs ds Lw F π (putS O o.dst v) hx)
def Hn(l:List Oper)(n:Nat)(cl seen:List Nat)(t:Nat):Bool:= !(Df l n).contains t || seen.any λj=>cl.contains j && match l[j]? with
 | some oj=>oj.dst==some t
 | none=>false
def I3(l:List Oper)(n:Nat)(cls:List (List Nat))(seen:List Nat)(k t:Nat):Bool:=(List.range n).any λj=> !seen.contains j && (cls.getD j []).contains k && match l[j]? with
 | some oj=>oj.dst==some t
 | none=>false
def Tx(P:Program):Op->Bool
 | .alloc t=>(Bm P t).isSome
 | _=>false
def GY(P:Program)(l:List Oper)(n:Nat)(cls:List (List Nat))(fl:Bool):List (Kd×Nat)->List Nat->List Nat->List Nat->Bool->Bool
 | [],seen,_,_,_=>(List.range n).all seen.contains
 | (kd,k) ::π,seen,effs,rds,wr=>match l[k]? with
  | none=>false
  | some o=>(match Hx o.op with
    | none=>false
    | some xs=>Nat.blt k n && !seen.contains k && (Il xs).all λt=>Hn l n (cls.getD k []) seen t || (kd.fix && I3 l n cls seen k t)) &&
   (match o.guard with
    | none=>true
    | some (g,_)=>seen.contains g && (cls.getD k []).contains g) &&
   (match kd with
    | .p=>LU o.op && effs.all (cls.getD k []).contains && GY P l n cls fl π (k ::seen) effs rds wr
    | .r=>LU o.op && effs.all (cls.getD k []).contains && GY P l n cls fl π (k ::seen) effs (k ::rds) wr
    | .e=>effs.all (cls.getD k []).contains && GY P l n cls fl π (k ::seen) (k ::effs) rds wr
    | .w=>effs.all (cls.getD k []).contains && rds.all (cls.getD k []).contains && GY P l n cls fl π (k ::seen) (k ::effs) rds true
    | .a=>fl && !wr && Tx P o.op && o.dst.isSome && o.guard.isNone && GY P l n cls fl π (k ::seen) (k ::effs) rds wr
    | .l=>fl && o.dst.isSome && effs.all (cls.getD k []).contains && GY P l n cls fl π seen effs rds wr
    | .b=>fl && !wr && o.dst.isSome && GY P l n cls fl π (k ::seen) (k ::effs) rds wr)
structure PF(E:Gq P)(l:List Oper)(n:Nat)(cls:List (List Nat))(ds:List Deferred)(Lw:Nat->Value->GH->Prop)(σ0:Nat->Value)(seen rds:List Nat)(σr:Nat->Value)(h':GH)(k:Nat)(o:Oper)(xs:List Operand)(b:Bool)(v:Value):Prop where
 at':l[k]? =some o
 op:Hx o.op=some xs
 val:LU o.op=true
 gfix:∀g w,o.guard=some (g,w)->g ∈ seen/\g ∈ cls.getD k []
 gd:Gd l o σr b
 vop:b=true->∃σk,(∀t ∈ Il xs,(Hn l n (cls.getD k []) seen t=true/\σk t=σr t)\/(I3 l n cls [] k t=true/\σk t=σ0 t))/\Tw E o σk ds h' v/\(k ∈ rds\/∀hx,Lw n undef hx->Tw E o σk ds hx v)
 is:∀d,o.dst=some d->σr d=if b=true then v else undef
def Zz(E:Gq P)(l:List Oper)(n:Nat)(cls:List (List Nat))(ds:List Deferred)(Lw:Nat->Value->GH->Prop)(seen:List Nat)(σr:Nat->Value)(h':GH)(k:Nat):Prop:=
 ∃o xs b,l[k]? =some o/\Hx o.op=some xs/\(∀t ∈ Il xs,Hn l n (cls.getD k []) seen t=true)/\(∀g w,o.guard=some (g,w)->g ∈ seen/\g ∈ cls.getD k [])/\Gd l o σr b/\(b=true->
  ∀σ2 hx,(∀t ∈ Il xs,σr t=σ2 t)->h'.Le hx->BQ E o σ2 ds hx λσ'' ds' h2=>ds'=ds/\∃v,σ''=putS σ2 o.dst v/\hx.Le h2/\Lw k v h2)
structure Hy(E:Gq P)(l:List Oper)(n:Nat)(cls:List (List Nat))(fl:Bool)(hs:GH)(ds:List Deferred)(Lw:Nat->Value->GH->Prop)(F:(Nat->Value)->GH->Prop)(σ0:Nat->Value)(seen effs rds:List Nat)(wr:Bool)(π:List (Kd×Nat))(σr:Nat->Value)(hr:GH)
  (D:Nat->Bool) (σ':Nat->Value) (h':GH):Prop where
 td:TD E l n (fl && !wr) hs ds Lw F π σr hr
 ok:GY P l n cls fl π seen effs rds wr=true
 gw:Gw (fl && !wr) hr h'
 base:∀t,(Df l n).contains t=false->σ' t=σr t
 lt:∀k ∈ seen,k<n
 eff:∀k ∈ effs,D k=true
 rest:∀kd k,(kd,k) ∈ π->kd.fix=true->D k=false
 done:∀k ∈ seen,D k=true->∀o d,l[k]? =some o->o.dst=some d->σ' d=σr d
 pend:∀k ∈ seen,D k=false->∃o xs b v,PF E l n cls ds Lw σ0 seen rds σr h' k o xs b v
 flo:∀k,(Kd.a,k) ∈ π->D k=true->∀o t d,l[k]? =some o->o.op=.alloc t->o.dst=some d->∃r,σ' d=.pointer (some ⟨r,0,none⟩)/\hs r=none/\h' r=some (true,.cells (zOf P t) t (0,0))
 flb:∀k,(Kd.b,k) ∈ π->D k=false->(Kd.l,k) ∈ π\/Zz E l n cls ds Lw seen σr h' k
 fld:∀k,(Kd.b,k) ∈ π->D k=true->∀o d,l[k]? =some o->o.dst=some d->∃b,Gd l o σ' b/\(b=true->Lw k (σ' d) h')/\(b=false->σ' d=undef)
 mono:∀k v h1 h2,GH.Le h1 h2->Lw k v h1->Lw k v h2
 frm:Lw n undef h'
 pre:wr=false->hs.Le h'
 clos:∀k,k<n->D k=true->∀q ∈ cls.getD k [],D q=true
 iniR:∀j,j<n->j ∉ seen->∀o t,l[j]? =some o->o.dst=some t->σr t=σ0 t
 iniS:∀j,j<n->D j=false->∀o t,l[j]? =some o->o.dst=some t->σ' t=σ0 t
theorem Lm{l:List Oper}{n:Nat}{cls:List (List Nat)}{seen:List Nat}{k t:Nat}(x:I3 l n cls seen k t=true):∃j o,j<n/\j ∉ seen/\k ∈ cls.getD j []/\l[j]? =some o/\o.dst=some t:=by
 unfold I3 at x;obtain ⟨j,hj,y⟩:=List.any_eq_true.1 x;rw [Bool.and_eq_true,Bool.and_eq_true] at y;cases ho:l[j]? with
 | none=>rw [ho] at y;simp at y
 | some oj=>
  rw [ho] at y;exact ⟨j,oj,List.mem_range.1 hj,(λhm=>by rw [List.contains_iff_mem.2 hm] at y;simp at y),List.contains_iff_mem.1 y.1.2,ho,by simpa using y.2⟩
theorem PX{l:List Oper}{n:Nat}{cls:List (List Nat)}{seen:List Nat}{k t:Nat}(x:I3 l n cls seen k t=true):I3 l n cls [] k t=true:=by
 unfold I3 at x ⊢;obtain ⟨j,hj,y⟩:=List.any_eq_true.1 x;rw [Bool.and_eq_true,Bool.and_eq_true] at y;exact List.any_eq_true.2 ⟨j,hj,by rw [Bool.and_eq_true,Bool.and_eq_true];exact ⟨⟨rfl,y.1.2⟩,y.2⟩⟩
theorem KJ{l:List Oper}{n:Nat}{cl seen:List Nat}{k t:Nat}(x:Hn l n cl seen t=true):Hn l n cl (k ::seen) t=true:=by
 unfold Hn at x ⊢;rw [Bool.or_eq_true] at x ⊢;rcases x with x | x
 ·exact .inl x
 ·exact .inr (by rw [List.any_cons,x];simp)
theorem NH{l:List Oper}{n:Nat}{cl seen:List Nat}{k t d:Nat}{o:Oper}(nd:(Df l n).Nodup)(hlt:∀k ∈ seen,k<n)(hk:k<n)(hs:k ∉ seen)(ho:l[k]? =some o)(hd:o.dst=some d)(x:Hn l n cl seen t=true):t≠d:=by
 intro e;subst e;unfold Hn at x;rw [Bool.or_eq_true] at x;rcases x with x | x
 ·have:t ∈ Df l n:=by
   simp only [Df,List.mem_filterMap];refine ⟨o,?_,hd⟩
   have:(l.take n)[k]? =some o:=by rw [List.getElem?_take];simp [hk,ho]
   exact List.mem_of_getElem? this
  simp [this] at x
 ·rw [List.any_eq_true] at x;obtain ⟨j,hj,y⟩:=x;rw [Bool.and_eq_true] at y;cases hoj:l[j]? with
  | none=>rw [hoj] at y;simp at y
  | some oj=>
   rw [hoj] at y;have y2:oj.dst=some t:=by simpa using y.2
   exact EK nd hk (hlt j hj) (λe=>hs (e▸hj)) ho hoj hd y2 rfl
theorem Cx{O:Nat->Value}{o:Oper}{v:Value}{t:Nat}(h:∀d,o.dst=some d->t≠d):putS O o.dst v t=O t:=by
 cases hd:o.dst with
 | none=>rfl
 | some d=>exact upd_ne O v (Tt (h d hd))
theorem Hz{l:List Oper}{n k t:Nat}{o:Oper}(hk:k<n)(ho:l[k]? =some o)(ht:(Df l n).contains t=false):∀d,o.dst=some d->t≠d:=λd hd e=>by
 subst e;rw [U2 hk ho hd] at ht;cases ht
section
variable {l:List Oper} {n:Nat} {cls:List (List Nat)} {fl:Bool} {hs:GH} {ds:List Deferred} {Lw:Nat->Value->GH->Prop} {F:(Nat->Value)->GH->Prop} {seen effs rds:List Nat} {wr:Bool} {π:List (Kd×Nat)} {σ0 σr σ':Nat->Value} {hr h':GH} {D:Nat->Bool}
theorem Gd.put{o ok:Oper}{k:Nat}{b:Bool}{v:Value}(nd:(Df l n).Nodup)(hlt:∀k ∈ seen,k<n)(hk:k<n)(hks:k ∉ seen)(hok:l[k]? =some ok)(hg:∀g w,o.guard=some (g,w)->g ∈ seen)(x:Gd l o σr b):Gd l o (putS σr ok.dst v) b:=by
 unfold Gd at x ⊢;cases hgd:o.guard with
 | none=>rw [hgd] at x;exact x
 | some y=>
  obtain ⟨g,w⟩:=y;rw [hgd] at x;obtain ⟨og,d,is,h1,h2,h3,h4⟩:=x;have hgs:=hg g w hgd;exact ⟨og,d,is,h1,h2,by rw [Cx λd' hd'=>EK nd hk (hlt g hgs) (λe=>hks (e▸hgs)) hok h1 hd' h2];exact h3,h4⟩
theorem PF.put{k j:Nat}{o ok:Oper}{xs:List Operand}{b:Bool}{v w:Value}(nd:(Df l n).Nodup)(hlt:∀k ∈ seen,k<n)(hk:k<n)(hks:k ∉ seen)(hok:l[k]? =some ok)(hj:j ∈ seen)(l2:hr.Le h')
  (x:PF E l n cls ds Lw σ0 seen rds σr hr j o xs b v):PF E l n cls ds Lw σ0 (k ::seen) rds (putS σr ok.dst w) h' j o xs b v where
 at':=x.at'
 op:=x.op
 val:=x.val
 gfix:=λg w' hg=>⟨List.mem_cons_of_mem _ (x.gfix g w' hg).1,(x.gfix g w' hg).2⟩
 gd:=x.gd.put nd hlt hk hks hok λg w' hg=>(x.gfix g w' hg).1
 vop:=λhb=>by
  obtain ⟨σk,y0,y1,y2⟩:=x.vop hb;exact ⟨σk,λt ht=>(y0 t ht).imp (λq=>⟨KJ q.1,q.2.trans (Cx λd hd=>NH nd hlt hk hks hok hd q.1).symm⟩) id,y1.move x.val x.op (λ_ _=>rfl) l2,y2⟩
 is:=λd hd=>by rw [Cx λd' hd'=>EK nd hk (hlt j hj) (λe=>hks (e▸hj)) hok x.at' hd' hd];exact x.is d hd
theorem PF.more{j:Nat}{o:Oper}{xs:List Operand}{b:Bool}{v:Value}{k:Nat}(x:PF E l n cls ds Lw σ0 seen rds σr h' j o xs b v):PF E l n cls ds Lw σ0 seen (k ::rds) σr h' j o xs b v:=
 { x with vop:=λhb=>by obtain ⟨σk,y0,y1,y2⟩:=x.vop hb;exact ⟨σk,y0,y1,y2.imp (List.mem_cons_of_mem _) id⟩ }
theorem Zz.put{k j:Nat}{ok:Oper}{w:Value}(nd:(Df l n).Nodup)(hlt:∀k ∈ seen,k<n)(hk:k<n)(hks:k ∉ seen)(hok:l[k]? =some ok)(x:Zz E l n cls ds Lw seen σr h' j):Zz E l n cls ds Lw (k ::seen) (putS σr ok.dst w) h' j:=by
 obtain ⟨o,xs,b,h1,h2,h3,hg,hgd,h4⟩:=x;exact ⟨o,xs,b,h1,h2,λt ht=>KJ (h3 t ht),λg w' e=>⟨List.mem_cons_of_mem _ (hg g w' e).1,(hg g w' e).2⟩,hgd.put nd hlt hk hks hok λg w' e=>(hg g w' e).1,
  λhb σ2 hx e l2=>h4 hb σ2 hx (λt ht=>(Cx λd hd=>NH nd hlt hk hks hok hd (h3 t ht)).symm.trans (e t ht)) l2⟩
theorem Zz.le{j:Nat}{h2:GH}(l2:h'.Le h2)(x:Zz E l n cls ds Lw seen σr h' j):Zz E l n cls ds Lw seen σr h2 j:=by
 obtain ⟨o,xs,b,h1,h3,h4,hg,hgd,h5⟩:=x;exact ⟨o,xs,b,h1,h3,h4,hg,hgd,λhb σ2 hx e l3=>h5 hb σ2 hx e (l2.trans l3)⟩
theorem GZ{kd kd2:Kd}{k j:Nat}(h:(kd2,j) ∈ (kd,k) ::π)(ne:kd2≠kd):(kd2,j) ∈ π:=by
 rcases List.mem_cons.1 h with e | h
 ·cases e;exact absurd rfl ne
 ·exact h
def headOK(P:Program)(l:List Oper)(n:Nat)(cls:List (List Nat))(fl:Bool)(π:List (Kd×Nat))(seen effs rds:List Nat)(wr:Bool)(k:Nat)(o:Oper):Kd->Prop
 | .p=>LU o.op=true/\(∀q ∈ effs,q ∈ cls.getD k [])/\GY P l n cls fl π (k ::seen) effs rds wr=true
 | .r=>LU o.op=true/\(∀q ∈ effs,q ∈ cls.getD k [])/\GY P l n cls fl π (k ::seen) effs (k ::rds) wr=true
 | .e=>(∀q ∈ effs,q ∈ cls.getD k [])/\GY P l n cls fl π (k ::seen) (k ::effs) rds wr=true
 | .w=>(∀q ∈ effs,q ∈ cls.getD k [])/\(∀q ∈ rds,q ∈ cls.getD k [])/\GY P l n cls fl π (k ::seen) (k ::effs) rds true=true
 | .a=>fl=true/\wr=false/\Tx P o.op=true/\o.dst.isSome=true/\o.guard=none/\GY P l n cls fl π (k ::seen) (k ::effs) rds wr=true
 | .l=>fl=true/\o.dst.isSome=true/\(∀q ∈ effs,q ∈ cls.getD k [])/\GY P l n cls fl π seen effs rds wr=true
 | .b=>fl=true/\wr=false/\o.dst.isSome=true/\GY P l n cls fl π (k ::seen) (k ::effs) rds wr=true
theorem Ew{kd:Kd}{k:Nat}(x:GY P l n cls fl ((kd,k) ::π) seen effs rds wr=true) :
  ∃o xs,l[k]? =some o/\Hx o.op=some xs/\k<n/\k ∉ seen/\(∀t ∈ Il xs,Hn l n (cls.getD k []) seen t=true\/(kd.fix=true/\I3 l n cls seen k t=true))/\(∀g w,o.guard=some (g,w)->g ∈ seen/\g ∈ cls.getD k [])/\
  headOK P l n cls fl π seen effs rds wr k o kd:=by
 unfold GY at x;cases ho:l[k]? with
 | none=>rw [ho] at x;cases x
 | some o=>
  rw [ho] at x;simp only [Bool.and_eq_true] at x;obtain ⟨⟨x1,x2⟩,x3⟩:=x;cases hx:Hx o.op with
  | none=>rw [hx] at x1;cases x1
  | some xs=>
   rw [hx] at x1;simp only [Bool.and_eq_true,Bool.or_eq_true,Bool.not_eq_true',List.all_eq_true] at x1;obtain ⟨⟨y1,y2⟩,y3⟩:=x1;refine ⟨o,xs,rfl,hx,Nat.blt_eq▸y1,(λhm=>by rw [List.contains_iff_mem.2 hm] at y2;cases y2),y3,λg w hg=>?_,?_⟩
   ·rw [hg] at x2;simp only [Bool.and_eq_true] at x2;exact ⟨List.contains_iff_mem.1 x2.1,List.contains_iff_mem.1 x2.2⟩
   ·cases kd <;> unfold headOK <;> simp only [Bool.and_eq_true,List.all_eq_true,List.contains_iff_mem,Bool.not_eq_true',Option.isNone_iff_eq_none] at x3 ⊢
    ·exact ⟨x3.1.1,x3.1.2,x3.2⟩
    ·exact ⟨x3.1.1,x3.1.2,x3.2⟩
    ·exact x3
    ·exact ⟨x3.1.1,x3.1.2,x3.2⟩
    ·exact ⟨x3.1.1.1.1.1,x3.1.1.1.1.2,x3.1.1.1.2,x3.1.1.2,x3.1.2,x3.2⟩
    ·exact ⟨x3.1.1.1,x3.1.1.2,x3.1.2,x3.2⟩
    ·exact ⟨x3.1.1.1,x3.1.1.2,x3.1.2,x3.2⟩
theorem Gz{kd:Kd}{k:Nat}(x:GY P l n cls fl ((kd,k) ::π) seen effs rds wr=true):∃seen' effs' rds' wr',GY P l n cls fl π seen' effs' rds' wr'=true/\(∀q ∈ seen,q ∈ seen')/\(kd≠.l->seen'=k ::seen)/\(kd=.l->seen'=seen)/\(∀q ∈ effs,q ∈ effs')/\(kd=.e\/kd=.w\/kd=.a\/kd=.b->k ∈ effs'):=by
 obtain ⟨o,xs,_,_,_,_,_,_,y⟩:=Ew x;cases kd with
 | p=>exact ⟨_,_,_,_,y.2.2,λ_ q=>List.mem_cons_of_mem _ q,λ_=>rfl,(λe=>by cases e),λ_ q=>q,λe=>by rcases e with e | e | e | e <;> cases e⟩
 | r=>exact ⟨_,_,_,_,y.2.2,λ_ q=>List.mem_cons_of_mem _ q,λ_=>rfl,(λe=>by cases e),λ_ q=>q,λe=>by rcases e with e | e | e | e <;> cases e⟩
 | e=>exact ⟨_,_,_,_,y.2,λ_ q=>List.mem_cons_of_mem _ q,λ_=>rfl,(λe=>by cases e),λ_ q=>List.mem_cons_of_mem _ q,λ_=>List.mem_cons_self⟩
 | w=>exact ⟨_,_,_,_,y.2.2,λ_ q=>List.mem_cons_of_mem _ q,λ_=>rfl,(λe=>by cases e),λ_ q=>List.mem_cons_of_mem _ q,λ_=>List.mem_cons_self⟩
 | a=>exact ⟨_,_,_,_,y.2.2.2.2.2,λ_ q=>List.mem_cons_of_mem _ q,λ_=>rfl,(λe=>by cases e),λ_ q=>List.mem_cons_of_mem _ q,λ_=>List.mem_cons_self⟩
 | l=>exact ⟨_,_,_,_,y.2.2.2,λ_ q=>q,(λe=>absurd rfl e),λ_=>rfl,λ_ q=>q,λe=>by rcases e with e | e | e | e <;> cases e⟩
 | b=>exact ⟨_,_,_,_,y.2.2.2,λ_ q=>List.mem_cons_of_mem _ q,λ_=>rfl,(λe=>by cases e),λ_ q=>List.mem_cons_of_mem _ q,λ_=>List.mem_cons_self⟩
theorem Dk:∀{π:List (Kd×Nat)} {seen effs rds:List Nat} {wr:Bool},GY P l n cls fl π seen effs rds wr=true->∀kd k,(kd,k) ∈ π->k ∉ seen/\k<n
 | [],_,_,_,_,_,kd,k,h=>by cases h
 | (kd',k') ::π,seen,effs,rds,wr,x,kd,k,h=>by
  obtain ⟨o,xs,_,_,h1,h2,_⟩:=Ew x;rcases List.mem_cons.1 h with e | h
  ·cases e;exact ⟨h2,h1⟩
  ·obtain ⟨seen',effs',rds',wr',y,z,_⟩:=Gz x
   have:=Dk y kd k h
   exact ⟨λq=>this.1 (z _ q),this.2⟩
theorem PY:∀{π:List (Kd×Nat)} {seen effs rds:List Nat} {wr:Bool},GY P l n cls fl π seen effs rds wr=true->∀i,i<n->i ∈ seen\/∃kd,(kd,i) ∈ π/\kd≠.l
 | [],seen,_,_,_,x,i,hi=>by
  unfold GY at x;exact .inl (List.contains_iff_mem.1 (List.all_eq_true.1 x i (List.mem_range.2 hi)))
 | (kd',k') ::π,seen,effs,rds,wr,x,i,hi=>by
  obtain ⟨seen',effs',rds',wr',y,_,z1,z2,_⟩:=Gz x;rcases PY y i hi with h | ⟨kd,h,hne⟩
  ·by_cases e:kd'=.l
   ·rw [z2 e] at h;exact .inl h
   ·rw [z1 e] at h;rcases List.mem_cons.1 h with rfl | h
    ·exact .inr ⟨kd',List.mem_cons_self,e⟩
    ·exact .inl h
  ·exact .inr ⟨kd,List.mem_cons_of_mem _ h,hne⟩
theorem PZ:∀{π:List (Kd×Nat)} {seen effs rds:List Nat} {wr:Bool},GY P l n cls fl π seen effs rds wr=true->∀kd k,(kd,k) ∈ π->kd≠.a->kd≠.b->∀q ∈ effs,q ∈ cls.getD k []
 | [],_,_,_,_,_,kd,k,h=>by cases h
 | (kd',k') ::π,seen,effs,rds,wr,x,kd,k,h=>by
  intro hne hnb q hq;rcases List.mem_cons.1 h with e | h
  ·cases e;obtain ⟨o,xs,_,_,_,_,_,_,y⟩:=Ew x;cases kd' with
   | p=>exact y.2.1 q hq
   | r=>exact y.2.1 q hq
   | e=>exact y.1 q hq
   | w=>exact y.1 q hq
   | a=>exact absurd rfl hne
   | l=>exact y.2.2.1 q hq
   | b=>exact absurd rfl hnb
  ·obtain ⟨seen',effs',rds',wr',y,_,_,_,z,_⟩:=Gz x;exact PZ y kd k h hne hnb q (z q hq)
theorem H0{n k:Nat}{seen:List Nat}(h:∀q ∈ seen,q<n)(hk:k<n):∀q ∈ k ::seen,q<n:=λq hq=>by
 rcases List.mem_cons.1 hq with rfl | hq
 ·exact hk
 ·exact h q hq
theorem DM:∀{π:List (Kd×Nat)} {seen effs rds:List Nat} {wr:Bool},GY P l n cls fl π seen effs rds wr=true->(∀q ∈ seen,q<n)->∀kd k,(kd,k) ∈ π->kd=.a\/kd=.b->fl=true/\wr=false/\k<n/\∃o,l[k]? =some o/\(kd=.a->Tx P o.op=true/\o.guard=none)/\o.dst.isSome=true/\∀g w,o.guard=some (g,w)->g<n/\g ∈ cls.getD k []
 | [],_,_,_,_,_,_,kd,k,h=>by cases h
 | (kd',k') ::π,seen,effs,rds,wr,x,hlt,kd,k,h=>by
  intro hkd;obtain ⟨o,xs,ho,hx,h1,h2,h3,h4,hh⟩:=Ew x;rcases List.mem_cons.1 h with e | h6
  ·cases e;rcases hkd with rfl | rfl
   ·exact ⟨hh.1,hh.2.1,h1,o,ho,λ_=>⟨hh.2.2.1,hh.2.2.2.2.1⟩,hh.2.2.2.1,λg w hg=>⟨hlt g (h4 g w hg).1,(h4 g w hg).2⟩⟩
   ·exact ⟨hh.1,hh.2.1,h1,o,ho,(λe=>by cases e),hh.2.2.1,λg w hg=>⟨hlt g (h4 g w hg).1,(h4 g w hg).2⟩⟩
  ·cases kd' with
   | p=>exact DM hh.2.2 (H0 hlt h1) kd k h6 hkd
   | r=>exact DM hh.2.2 (H0 hlt h1) kd k h6 hkd
   | e=>exact DM hh.2 (H0 hlt h1) kd k h6 hkd
   | w=>have:=(DM hh.2.2 (H0 hlt h1) kd k h6 hkd).2.1;cases this
   | a=>exact DM hh.2.2.2.2.2 (H0 hlt h1) kd k h6 hkd
   | l=>exact DM hh.2.2.2 hlt kd k h6 hkd
   | b=>exact DM hh.2.2.2 (H0 hlt h1) kd k h6 hkd
theorem Gd.other{o ok:Oper}{k:Nat}{b:Bool}{v:Value}{O:Nat->Value}(nd:(Df l n).Nodup)(hk:k<n)(hok:l[k]? =some ok)(hg:∀g w,o.guard=some (g,w)->g<n/\g≠k)(x:Gd l o O b):Gd l o (putS O ok.dst v) b:=by
 unfold Gd at x ⊢;cases hgd:o.guard with
 | none=>rw [hgd] at x;exact x
 | some y=>
  obtain ⟨g,w⟩:=y;rw [hgd] at x;obtain ⟨og,d,is,h1,h2,h3,h4⟩:=x;obtain ⟨hgn,hne⟩:=hg g w hgd;exact ⟨og,d,is,h1,h2,by rw [Cx λd' hd'=>EK nd hk hgn (λe=>hne e.symm) hok h1 hd' h2];exact h3,h4⟩
theorem Gd.uniq{o:Oper}{O:Nat->Value}{b b':Bool}(x:Gd l o O b)(y:Gd l o O b'):b=b':=by
 have h1:=x.iff;have h2:=y.iff;rw [h1] at h2;cases b <;> cases b' <;> simp_all
theorem JH{k:Nat}:Hm D k k=true:=by simp [Hm]
theorem Bi{k j:Nat}(h:j≠k):Hm D k j=D j:=by unfold Hm;rw [if_neg (λe=>h e.symm)]
theorem F2{k j:Nat}(h:D j=true):Hm D k j=true:=by unfold Hm;split <;> simp [h]
theorem Hy.agree(x:Hy E l n cls fl hs ds Lw F σ0 seen effs rds wr π σr hr D σ' h'){cl:List Nat}(hcl:∀q ∈ cl,D q=true){t:Nat}(y:Hn l n cl seen t=true):σr t=σ' t:=by
 unfold Hn at y;rw [Bool.or_eq_true] at y;rcases y with y | y
 ·exact (x.base t (by simpa using y)).symm
 ·rw [List.any_eq_true] at y;obtain ⟨j,hj,z⟩:=y;rw [Bool.and_eq_true] at z;cases hoj:l[j]? with
  | none=>rw [hoj] at z;simp at z
  | some oj=>
   rw [hoj] at z;exact (x.done j hj (hcl j (List.contains_iff_mem.1 z.1)) oj t hoj (by simpa using z.2)).symm
theorem Hy.late(x:Hy E l n cls fl hs ds Lw F σ0 seen effs rds wr π σr hr D σ' h'){k t:Nat}(hkD:D k=false)(y:I3 l n cls [] k t=true):σ' t=σ0 t:=by
 obtain ⟨j,o,hj,_,hk,ho,hd⟩:=Lm y;refine x.iniS j hj ?_ o t ho hd;cases hD:D j with
 | false=>rfl
 | true=>have:=x.clos j hj hD k hk;rw [hkD] at this;cases this
theorem Hy.agree2(x:Hy E l n cls fl hs ds Lw F σ0 seen effs rds wr π σr hr D σ' h'){k:Nat}{kd:Kd}(hcl:∀q ∈ cls.getD k [],D q=true)(hkD:D k=false){t:Nat}(y:Hn l n (cls.getD k []) seen t=true\/(kd.fix=true/\I3 l n cls seen k t=true)):σr t=σ' t:=by
 rcases y with y | ⟨_,y⟩
 ·exact x.agree hcl y
 ·obtain ⟨j,o,hj,hns,_,ho,hd⟩:=Lm y;rw [x.iniR j hj hns o t ho hd,x.late hkD (PX y)]
theorem Hy.iniR'(x:Hy E l n cls fl hs ds Lw F σ0 seen effs rds wr π σr hr D σ' h')(nd:(Df l n).Nodup){k:Nat}{o:Oper}{v:Value}(hkn:k<n)(ho:l[k]? =some o):∀j,j<n->j ∉ k ::seen->∀o' t,l[j]? =some o'->o'.dst=some t->putS σr o.dst v t=σ0 t:=λj hj hjn o' t ho' hd'=>by
 rw [Cx λd hd=>EK nd hkn hj (λe=>hjn (by rw [e];exact List.mem_cons_self)) ho ho' hd hd'];exact x.iniR j hj (λq=>hjn (List.mem_cons_of_mem _ q)) o' t ho' hd'
theorem Hy.iniS'(x:Hy E l n cls fl hs ds Lw F σ0 seen effs rds wr π σr hr D σ' h')(nd:(Df l n).Nodup){k:Nat}{o:Oper}{v:Value}(hkn:k<n)(ho:l[k]? =some o):∀j,j<n->Hm D k j=false->∀o' t,l[j]? =some o'->o'.dst=some t->putS σ' o.dst v t=σ0 t:=λj hj hD o' t ho' hd'=>by
 have e:k≠j:=λe=>by subst e;rw [JH] at hD;cases hD
 rw [Cx λd hd=>EK nd hkn hj e ho ho' hd hd'];rw [Bi e.symm] at hD;exact x.iniS j hj hD o' t ho' hd'
theorem Hy.guard(x:Hy E l n cls fl hs ds Lw F σ0 seen effs rds wr π σr hr D σ' h'){cl:List Nat}(hcl:∀q ∈ cl,D q=true){o:Oper}{b:Bool}(hg:∀g w,o.guard=some (g,w)->g ∈ seen/\g ∈ cl)(y:Gd l o σr b):Gd l o σ' b:=by
 unfold Gd at y ⊢;cases hgd:o.guard with
 | none=>rw [hgd] at y;exact y
 | some z=>
  obtain ⟨g,w⟩:=z;rw [hgd] at y;obtain ⟨og,d,is,h1,h2,h3,h4⟩:=y;exact ⟨og,d,is,h1,h2,by rw [x.done g (hg g w hgd).1 (hcl g (hg g w hgd).2) og d h1 h2];exact h3,h4⟩
theorem Hy.unfoldV{kd:Kd}{k:Nat}(nd:(Df l n).Nodup)(hkd:kd=.p\/kd=.r)(x:Hy E l n cls fl hs ds Lw F σ0 seen effs rds wr ((kd,k) ::π) σr hr D σ' h') :
  ∃rds' σr',Hy E l n cls fl hs ds Lw F σ0 (k ::seen) effs rds' wr π σr' hr D σ' h':=by
 obtain ⟨o,xs,ho,hx,hkn,hks,hfix,hg,hh⟩:=Ew x.ok;obtain ⟨o2,b,ho2,hgd,hF,hT⟩:=x.td;obtain rfl:o2=o:=Option.some.inj (ho2.symm.trans ho);have hkD:D k=false:=x.rest kd k List.mem_cons_self (by rcases hkd with e | e <;> rw [e] <;> rfl);have hval:LU o2.op=true:=by rcases hkd with rfl | rfl <;> exact hh.1
 have key:∀(v:Value)(rds':List Nat),(rds'=rds\/rds'=k ::rds)->GY P l n cls fl π (k ::seen) effs rds' wr=true->TD E l n (fl && !wr) hs ds Lw F π (putS σr o2.dst (if b=true then v else undef)) hr->
   (b=true->Tw E o2 σr ds h' v/\(k ∈ rds'\/∀hx,Lw n undef hx->Tw E o2 σr ds hx v))->Hy E l n cls fl hs ds Lw F σ0 (k ::seen) effs rds' wr π (putS σr o2.dst (if b=true then v else undef)) hr D σ' h':=by
  intro v rds' hrds ok' td' hv;refine ⟨td',ok',x.gw,λt ht=>?_,λj hj=>?_,x.eff,λkd' j hj hne=>x.rest kd' j (List.mem_cons_of_mem _ hj) hne,λj hj hDj o' d ho' hd=>?_,λj hj hDj=>?_,λj hj=>x.flo j (List.mem_cons_of_mem _ hj),λj hj hDj=>(x.flb j (List.mem_cons_of_mem _ hj) hDj).imp (λq=>GZ q (by rcases hkd with e | e <;> rw [e] <;> decide)) (Zz.put nd x.lt hkn hks ho),λj hj=>x.fld j (List.mem_cons_of_mem _ hj),x.mono,x.frm,x.pre,x.clos,x.iniR' nd hkn ho,x.iniS⟩
  ·rw [Cx (Hz hkn ho ht)];exact x.base t ht
  ·rcases List.mem_cons.1 hj with rfl | hj
   ·exact hkn
   ·exact x.lt j hj
  ·rcases List.mem_cons.1 hj with rfl | hj
   ·rw [hkD] at hDj;cases hDj
   ·rw [Cx λd' hd'=>EK nd hkn (x.lt j hj) (λe=>hks (e▸hj)) ho ho' hd' hd];exact x.done j hj hDj o' d ho' hd
  ·rcases List.mem_cons.1 hj with rfl | hj
   ·refine ⟨o2,xs,b,v,ho,hx,hval,λg w hgg=>⟨List.mem_cons_of_mem _ (hg g w hgg).1,(hg g w hgg).2⟩,hgd.put nd x.lt hkn hks ho λg w hgg=>(hg g w hgg).1,λhb=>?_,λd hd=>?_⟩
    ·obtain ⟨y1,y2⟩:=hv hb;refine ⟨σr,λt ht=>?_,y1,y2⟩;rcases hfix t ht with q | ⟨_,q⟩
     ·exact .inl ⟨KJ q,(Cx λd hd=>NH nd x.lt hkn hks ho hd q).symm⟩
     ·obtain ⟨j',o',hj',hns,_,ho',hd'⟩:=Lm q;exact .inr ⟨PX q,x.iniR j' hj' hns o' t ho' hd'⟩
    ·rw [hd];exact upd_same _ _ _
   ·obtain ⟨o',xs',b',v',pf⟩:=x.pend j hj hDj
    have:=pf.put (w:=if b=true then v else undef) nd x.lt hkn hks ho hj (GH.Le.refl _)
    rcases hrds with rfl | rfl
    ·exact ⟨o',xs',b',v',this⟩
    ·exact ⟨o',xs',b',v',this.more⟩
 cases b with
 | false=>
  rcases hkd with rfl | rfl
  ·exact ⟨_,_,key undef _ (.inl rfl) hh.2.2 (hF rfl) (λe=>by cases e)⟩
  ·exact ⟨_,_,key undef _ (.inr rfl) hh.2.2 (hF rfl) (λe=>by cases e)⟩
 | true=>
  rcases hkd with rfl | rfl
  ·obtain ⟨v,h1,h2⟩:=hT rfl;exact ⟨_,_,key v _ (.inl rfl) hh.2.2 h2 (λ_=>⟨h1 _ x.frm,.inr h1⟩)⟩
  ·obtain ⟨v,h1,h2⟩:=hT rfl;exact ⟨_,_,key v _ (.inr rfl) hh.2.2 h2 (λ_=>⟨h1.move hval hx (λ_ _=>rfl) x.gw.1,.inl List.mem_cons_self⟩)⟩
theorem Hy.unfoldA{k:Nat}(nd:(Df l n).Nodup)(hD:D k=true)(x:Hy E l n cls fl hs ds Lw F σ0 seen effs rds wr ((Kd.a,k) ::π) σr hr D σ' h') :
  ∃σr',Hy E l n cls fl hs ds Lw F σ0 (k ::seen) (k ::effs) rds wr π σr' h' D σ' h':=by
 obtain ⟨o,xs,ho,hx,hkn,hks,hfix,hg,hh⟩:=Ew x.ok;obtain ⟨o2,b,ho2,hgd,hF,hT⟩:=x.td;obtain rfl:o2=o:=Option.some.inj (ho2.symm.trans ho);obtain ⟨hfl,hwr,hal,hds,hgn,ok'⟩:=hh;obtain rfl:b=true:=by unfold Gd at hgd;rw [hgn] at hgd;exact hgd
 obtain ⟨t,hop⟩:∃t,o2.op=.alloc t:=by
  cases hq:o2.op <;> rw [hq] at hal <;> first | exact ⟨_,rfl⟩ | cases hal
 obtain ⟨d,hd⟩:=Option.isSome_iff_exists.1 hds;obtain ⟨r,h1,h2,h3⟩:=x.flo k List.mem_cons_self hD o2 t d ho hop hd;refine ⟨putS σr o2.dst (.pointer (some ⟨r,0,none⟩)),hT rfl t r h' hop x.gw.1 h2 h3,ok',Gw.refl _ _,λt ht=>?_,λj hj=>?_,λj hj=>?_,λkd' j hj hne=>x.rest kd' j (List.mem_cons_of_mem _ hj) hne,λj hj hDj o' d' ho' hd'=>?_,λj hj hDj=>?_,
  λj hj=>x.flo j (List.mem_cons_of_mem _ hj),λj hj hDj=>(x.flb j (List.mem_cons_of_mem _ hj) hDj).imp (λq=>GZ q aC) (Zz.put nd x.lt hkn hks ho),λj hj=>x.fld j (List.mem_cons_of_mem _ hj),x.mono,x.frm,x.pre,x.clos,x.iniR' nd hkn ho,x.iniS⟩
 ·rw [Cx (Hz hkn ho ht)];exact x.base t ht
 ·rcases List.mem_cons.1 hj with rfl | hj
  ·exact hkn
  ·exact x.lt j hj
 ·rcases List.mem_cons.1 hj with rfl | hj
  ·exact hD
  ·exact x.eff j hj
 ·rcases List.mem_cons.1 hj with rfl | hj
  ·obtain rfl:o'=o2:=Option.some.inj (ho'.symm.trans ho);obtain rfl:d'=d:=Option.some.inj (hd'.symm.trans hd);rw [h1,hd];exact (upd_same _ _ _).symm
  ·rw [Cx λe he=>EK nd hkn (x.lt j hj) (λe=>hks (e▸hj)) ho ho' he hd'];exact x.done j hj hDj o' d' ho' hd'
 ·rcases List.mem_cons.1 hj with rfl | hj
  ·rw [hD] at hDj;cases hDj
  ·obtain ⟨o',xs',b',v',pf⟩:=x.pend j hj hDj;exact ⟨o',xs',b',v',pf.put nd x.lt hkn hks ho hj (GH.Le.refl _)⟩
theorem Hy.unfoldB{k:Nat}(nd:(Df l n).Nodup)(hD:D k=true)(x:Hy E l n cls fl hs ds Lw F σ0 seen effs rds wr ((Kd.b,k) ::π) σr hr D σ' h') :
  ∃σr' hr',Hy E l n cls fl hs ds Lw F σ0 (k ::seen) (k ::effs) rds wr π σr' hr' D σ' h':=by
 obtain ⟨o,xs,ho,hx,hkn,hks,hfix,hg,hh⟩:=Ew x.ok;obtain ⟨o2,b,ho2,hgd,hF,hT⟩:=x.td;obtain rfl:o2=o:=Option.some.inj (ho2.symm.trans ho);obtain ⟨hfl,hwr,hds,ok'⟩:=hh;obtain ⟨d,hd⟩:=Option.isSome_iff_exists.1 hds;obtain ⟨b2,hb2,hL,hU⟩:=x.fld k List.mem_cons_self hD o2 d ho hd;obtain rfl:b=b2:=(x.guard (x.clos k hkn hD) hg hgd).uniq hb2;obtain ⟨hr',hgw,htd⟩:∃hr',Gw (fl && !wr) hr' h'/\TD E l n (fl && !wr) hs ds Lw F π (putS σr o2.dst (σ' d)) hr':=by
  cases b with
  | true=>exact ⟨h',Gw.refl _ _,hT rfl (σ' d) h' x.gw.1 (hL rfl)⟩
  | false=>exact ⟨hr,x.gw,by rw [hU rfl];exact hF rfl⟩
 refine ⟨putS σr o2.dst (σ' d),hr',htd,ok',hgw,λt ht=>?_,λj hj=>?_,λj hj=>?_,λkd' j hj hne=>x.rest kd' j (List.mem_cons_of_mem _ hj) hne,λj hj hDj o' d' ho' hd'=>?_,λj hj hDj=>?_,
  λj hj=>x.flo j (List.mem_cons_of_mem _ hj),λj hj hDj=>(x.flb j (List.mem_cons_of_mem _ hj) hDj).imp (λq=>GZ q aC) (Zz.put nd x.lt hkn hks ho),λj hj=>x.fld j (List.mem_cons_of_mem _ hj),x.mono,x.frm,x.pre,x.clos,x.iniR' nd hkn ho,x.iniS⟩
 ·rw [Cx (Hz hkn ho ht)];exact x.base t ht
 ·rcases List.mem_cons.1 hj with rfl | hj
  ·exact hkn
  ·exact x.lt j hj
 ·rcases List.mem_cons.1 hj with rfl | hj
  ·exact hD
  ·exact x.eff j hj
 ·rcases List.mem_cons.1 hj with rfl | hj
  ·obtain rfl:o'=o2:=Option.some.inj (ho'.symm.trans ho);obtain rfl:d'=d:=Option.some.inj (hd'.symm.trans hd);rw [hd];exact (upd_same _ _ _).symm
  ·rw [Cx λe he=>EK nd hkn (x.lt j hj) (λe=>hks (e▸hj)) ho ho' he hd'];exact x.done j hj hDj o' d' ho' hd'
 ·rcases List.mem_cons.1 hj with rfl | hj
  ·rw [hD] at hDj;cases hDj
  ·obtain ⟨o',xs',b',v',pf⟩:=x.pend j hj hDj;exact ⟨o',xs',b',v',pf.put nd x.lt hkn hks ho hj (GH.Le.refl _)⟩
theorem Hy.unfoldL{k:Nat}(x:Hy E l n cls fl hs ds Lw F σ0 seen effs rds wr ((Kd.l,k) ::π) σr hr D σ' h') :
  Hy E l n cls fl hs ds Lw F σ0 seen effs rds wr π σr hr D σ' h':=by
 obtain ⟨o,xs,ho,hx,hkn,hks,hfix,hg,hh⟩:=Ew x.ok;obtain ⟨o2,b,ho2,hgd,hF,hT⟩:=x.td;obtain rfl:o2=o:=Option.some.inj (ho2.symm.trans ho);obtain ⟨hfl,hds,heff,ok'⟩:=hh;obtain ⟨d,hd⟩:=Option.isSome_iff_exists.1 hds;have td:TD E l n (fl && !wr) hs ds Lw F π σr hr:=by
  cases b with
  | true=>exact (hT rfl).2
  | false=>exact hF rfl
 refine ⟨td,ok',x.gw,x.base,x.lt,x.eff,λkd' j hj hne=>x.rest kd' j (List.mem_cons_of_mem _ hj) hne,x.done,x.pend,λj hj=>x.flo j (List.mem_cons_of_mem _ hj),λj hj hDj=>?_,λj hj=>x.fld j (List.mem_cons_of_mem _ hj),x.mono,x.frm,x.pre,x.clos,x.iniR,x.iniS⟩;by_cases e:j=k
 ·subst e;refine .inr ⟨o2,xs,b,ho,hx,λt ht=>(hfix t ht).resolve_right (λq=>by cases q.1),hg,hgd,λhb σ2 hx2 e l2=>?_⟩;have hp:=(hT hb).1;refine BQ.move hx e (λz ds' h2 q=>?_) (hp hx2 (x.gw.1.trans l2));obtain ⟨rfl,v,hv,l3,hL⟩:=q;have hz:z=v:=by
   have:=congrFun hv d
   simp only [hd,putS,upd_same] at this;exact this
  exact ⟨rfl,v,by rw [hz],l3,hL⟩
 ·refine (x.flb j (List.mem_cons_of_mem _ hj) hDj).imp (λq=>?_) id;rcases List.mem_cons.1 q with e2 | q
  ·cases e2;exact absurd rfl e
  ·exact q
theorem Hy.fldPut(x:Hy E l n cls fl hs ds Lw F σ0 seen effs rds wr π σr hr D σ' h')(nd:(Df l n).Nodup){k:Nat}{o:Oper}{v:Value}{h2:GH}(hkn:k<n)(ho:l[k]? =some o)(hkD:D k=false)(l2:h'.Le h2){j:Nat}(hj:(Kd.b,j) ∈ π)(hjk:j≠k)(hDj:D j=true)
  {o':Oper} {d':Nat} (ho':l[j]? =some o') (hd':o'.dst=some d'):∃b,Gd l o' (putS σ' o.dst v) b/\(b=true->Lw j (putS σ' o.dst v d') h2)/\(b=false->putS σ' o.dst v d'=undef):=by
 obtain ⟨_,_,hjn,o3,ho3,_,_,hg⟩:=DM x.ok x.lt _ j hj (.inr rfl);obtain rfl:o3=o':=Option.some.inj (ho3.symm.trans ho');obtain ⟨b,hb,hL,hU⟩:=x.fld j hj hDj o3 d' ho' hd';have e:putS σ' o.dst v d'=σ' d':=Cx λe he=>EK nd hkn hjn (λq=>hjk q.symm) ho ho' he hd';refine ⟨b,hb.other nd hkn ho λg w hgw=>⟨(hg g w hgw).1,λq=>?_⟩,λhb'=>by rw [e];exact x.mono _ _ _ _ l2 (hL hb'),λhb'=>by rw [e];exact hU hb'⟩
 have:=x.clos j hjn hDj g (hg g w hgw).2
 rw [q,hkD] at this;cases this
theorem Hy.ran{kd:Kd}{k:Nat}{o:Oper}{xs:List Operand}{v:Value}{hr2 h2:GH}{wr':Bool}(nd:(Df l n).Nodup)(hkD:D k=false)(hkl:kd≠.l)(ho:l[k]? =some o)(hkn:k<n)(hks:k ∉ seen)(hcl:∀q ∈ cls.getD k [],D q=true)
  (x:Hy E l n cls fl hs ds Lw F σ0 seen effs rds wr ((kd,k) ::π) σr hr D σ' h') (td:TD E l n (fl && !wr') hs ds Lw F π (putS σr o.dst v) hr2) (ok':GY P l n cls fl π (k ::seen) (k ::effs) rds wr'=true) (gw:Gw (fl && !wr') hr2 h2)
  (how:(wr'=wr/\h'.Le h2)\/(wr'=true/\(∀q ∈ rds,D q=true)/\Lw n undef h2)) :
  Hy E l n cls fl hs ds Lw F σ0 (k ::seen) (k ::effs) rds wr' π (putS σr o.dst v) hr2 (Hm D k) (putS σ' o.dst v) h2:=by
 refine ⟨td,ok',gw,λt ht=>?_,λj hj=>?_,λj hj=>?_,λkd' j hj hne=>?_,λj hj hDj o' d' ho' hd'=>?_,λj hj hDj=>?_,λj hj hDj o' t d' ho' hop hd'=>?_,λj hj hDj=>?_,λj hj hDj o' d' ho' hd'=>?_,x.mono,(by rcases how with ⟨_,l2⟩ | ⟨_,_,hf⟩;exact x.mono _ _ _ _ l2 x.frm;exact hf),λhw=>?_,λj hjn hDj q hq=>?_,x.iniR' nd hkn ho,x.iniS' nd hkn ho⟩
 ·rw [Cx (Hz hkn ho ht),Cx (Hz hkn ho ht)];exact x.base t ht
 ·rcases List.mem_cons.1 hj with rfl | hj
  ·exact hkn
  ·exact x.lt j hj
 ·rcases List.mem_cons.1 hj with rfl | hj
  ·exact JH
  ·exact F2 (x.eff j hj)
 ·have hnew:=(Dk ok' kd' j hj).1;rw [Bi λe=>hnew (by rw [e];exact List.mem_cons_self)];exact x.rest kd' j (List.mem_cons_of_mem _ hj) hne
 ·rcases List.mem_cons.1 hj with rfl | hj
  ·obtain rfl:o'=o:=Option.some.inj (ho'.symm.trans ho);rw [hd'];exact (upd_same _ _ _).trans (upd_same _ _ _).symm
  ·have hjk:j≠k:=λe=>hks (e▸hj);rw [Bi hjk] at hDj;have hne:∀e,o.dst=some e->d'≠e:=λe he=>EK nd hkn (x.lt j hj) (λe=>hjk e.symm) ho ho' he hd';rw [Cx hne,Cx hne];exact x.done j hj hDj o' d' ho' hd'
 ·rcases List.mem_cons.1 hj with rfl | hj
  ·rw [JH] at hDj;cases hDj
  ·have hjk:j≠k:=λe=>hks (e▸hj);rw [Bi hjk] at hDj;obtain ⟨o',xs',b',v',pf⟩:=x.pend j hj hDj;rcases how with ⟨_,l2⟩ | ⟨_,hrd,hfr⟩
   ·exact ⟨o',xs',b',v',pf.put nd x.lt hkn hks ho hj l2⟩
   ·have pf2:PF E l n cls ds Lw σ0 seen rds σr h2 j o' xs' b' v':=⟨pf.at',pf.op,pf.val,pf.gfix,pf.gd,λhb=>by obtain ⟨σk,y0,y1,y2⟩:=pf.vop hb;exact ⟨σk,y0,y2.elim (λhm=>by rw [hrd j hm] at hDj;cases hDj) λhall=>⟨hall h2 hfr,.inr hall⟩⟩,pf.is⟩;exact ⟨o',xs',b',v',pf2.put nd x.lt hkn hks ho hj (GH.Le.refl _)⟩
 ·have hnew:=(Dk ok' _ j hj);have hjk:j≠k:=λe=>hnew.1 (by rw [e];exact List.mem_cons_self);rw [Bi hjk] at hDj;obtain ⟨r,h1,h3,h4⟩:=x.flo j (List.mem_cons_of_mem _ hj) hDj o' t d' ho' hop hd';rcases how with ⟨_,l2⟩ | ⟨hw,_⟩
  ·exact ⟨r,by rw [Cx λe he=>EK nd hkn hnew.2 (λe=>hjk e.symm) ho ho' he hd'];exact h1,h3,l2.get h4⟩
  ·have:=(DM ok' (H0 x.lt hkn) _ j hj (.inl rfl)).2.1;rw [hw] at this;cases this
 ·have hnew:=(Dk ok' _ j hj);have hjk:j≠k:=λe=>hnew.1 (by rw [e];exact List.mem_cons_self);rw [Bi hjk] at hDj;rcases how with ⟨_,l2⟩ | ⟨hw,_⟩
  ·exact (x.flb j (List.mem_cons_of_mem _ hj) hDj).imp (λq=>GZ q hkl.symm) λq=>(q.put nd x.lt hkn hks ho).le l2
  ·have:=(DM ok' (H0 x.lt hkn) _ j hj (.inr rfl)).2.1;rw [hw] at this;cases this
 ·have hnew:=(Dk ok' _ j hj);have hjk:j≠k:=λe=>hnew.1 (by rw [e];exact List.mem_cons_self);rw [Bi hjk] at hDj;rcases how with ⟨_,l2⟩ | ⟨hw,_⟩
  ·exact x.fldPut nd hkn ho hkD l2 (List.mem_cons_of_mem _ hj) hjk hDj ho' hd'
  ·have:=(DM ok' (H0 x.lt hkn) _ j hj (.inr rfl)).2.1;rw [hw] at this;cases this
 ·rcases how with ⟨e,l2⟩ | ⟨e,_⟩
  ·exact (x.pre (e▸hw)).trans l2
  ·rw [e] at hw;cases hw
 ·by_cases e:j=k
  ·subst e;exact F2 (hcl q hq)
  ·rw [Bi e] at hDj;exact F2 (x.clos j hjn hDj q hq)
def TdAt(E:Gq P)(l:List Oper)(n:Nat)(cls:List (List Nat))(fl:Bool)(hs:GH)(ds:List Deferred)(Lw:Nat->Value->GH->Prop)(F:(Nat->Value)->GH->Prop)(σ0:Nat->Value)(D:Nat->Bool)(σ':Nat->Value)(h':GH):Prop:=
 ∃seen effs rds wr π σr hr,Hy E l n cls fl hs ds Lw F σ0 seen effs rds wr π σr hr D σ' h'
abbrev RunK(E:Gq P)(l:List Oper)(n:Nat)(cls:List (List Nat))(fl:Bool)(hs:GH)(ds:List Deferred)(Lw:Nat->Value->GH->Prop)(F:(Nat->Value)->GH->Prop)(σ0:Nat->Value)(D:Nat->Bool)(σ':Nat->Value)(h':GH)(k:Nat)(o:Oper):Prop:=
 (DR l o σ'->BQ E o σ' ds h' λσ'' ds'' h''=>ds''=ds/\TdAt E l n cls fl hs ds Lw F σ0 (Hm D k) σ'' h'')/\(¬DR l o σ'->TdAt E l n cls fl hs ds Lw F σ0 (Hm D k) (putS σ' o.dst undef) h')
theorem Hy.runV{k:Nat}{o:Oper}(nd:(Df l n).Nodup)(ho:l[k]? =some o)(hks:k ∈ seen)(hkD:D k=false)(hcl:∀q ∈ cls.getD k [],D q=true)(x:Hy E l n cls fl hs ds Lw F σ0 seen effs rds wr π σr hr D σ' h') :
  RunK E l n cls fl hs ds Lw F σ0 D σ' h' k o:=by
 obtain ⟨o2,xs,b,v,pf⟩:=x.pend k hks hkD;obtain rfl:o2=o:=Option.some.inj (pf.at'.symm.trans ho);have hkn:=x.lt k hks;have hgi:=(x.guard hcl pf.gfix pf.gd).iff;have key:Hy E l n cls fl hs ds Lw F σ0 seen effs rds wr π σr hr (Hm D k) (putS σ' o2.dst (if b=true then v else undef)) h':=by
  refine ⟨x.td,x.ok,x.gw,λt ht=>?_,x.lt,λj hj=>F2 (x.eff j hj),λkd' j hj hne=>?_,λj hj hDj o' d' ho' hd'=>?_,λj hj hDj=>?_,λj hj hDj o' t d' ho' hop hd'=>?_,λj hj hDj=>?_,λj hj hDj o' d' ho' hd'=>?_,x.mono,x.frm,x.pre,λj hjn hDj q hq=>?_,x.iniR,x.iniS' nd hkn ho⟩
  ·rw [Cx (Hz hkn ho ht)];exact x.base t ht
  ·have hnew:=(Dk x.ok kd' j hj).1;rw [Bi λ(e:j=k)=>hnew (by rw [e];exact hks)];exact x.rest kd' j hj hne
  ·by_cases hjk:j=k
   ·subst hjk;obtain rfl:o'=o2:=Option.some.inj (ho'.symm.trans ho);rw [pf.is d' hd',hd'];exact upd_same _ _ _
   ·rw [Bi hjk] at hDj;rw [Cx λe he=>EK nd hkn (x.lt j hj) (λe=>hjk e.symm) ho ho' he hd'];exact x.done j hj hDj o' d' ho' hd'
  ·by_cases hjk:j=k
   ·subst hjk;rw [JH] at hDj;cases hDj
   ·rw [Bi hjk] at hDj;exact x.pend j hj hDj
  ·have hnew:=Dk x.ok _ j hj;have hjk:j≠k:=λe=>hnew.1 (by rw [e];exact hks);rw [Bi hjk] at hDj;obtain ⟨r,h1,h3⟩:=x.flo j hj hDj o' t d' ho' hop hd';exact ⟨r,by rw [Cx λe he=>EK nd hkn hnew.2 (λe=>hjk e.symm) ho ho' he hd'];exact h1,h3⟩
  ·have hnew:=Dk x.ok _ j hj;have hjk:j≠k:=λe=>hnew.1 (by rw [e];exact hks);rw [Bi hjk] at hDj;exact x.flb j hj hDj
  ·have hnew:=Dk x.ok _ j hj;have hjk:j≠k:=λe=>hnew.1 (by rw [e];exact hks);rw [Bi hjk] at hDj;exact x.fldPut nd hkn ho hkD (GH.Le.refl _) hj hjk hDj ho' hd'
  ·by_cases e:j=k
   ·subst e;exact F2 (hcl q hq)
   ·rw [Bi e] at hDj;exact F2 (x.clos j hjn hDj q hq)
 refine ⟨λhG=>?_,λhG=>?_⟩
 ·obtain rfl:=hgi.1 hG;obtain ⟨σk,y0,y1,_⟩:=pf.vop rfl;have y:=y1.move (σ2:=σ') pf.val pf.op (λt ht=>(y0 t ht).elim (λq=>q.2.trans (x.agree hcl q.1)) λq=>q.2.trans (x.late hkD q.1).symm) (GH.Le.refl _);refine BQ.move pf.op (λ_ _=>rfl) (λz ds' h'' q=>?_) y;obtain ⟨q1,rfl,rfl⟩:=q;exact ⟨rfl,_,_,_,_,_,_,_,by rw [q1];exact key⟩
 ·cases b with
  | true=>exact absurd (hgi.2 rfl) hG
  | false=>exact ⟨_,_,_,_,_,_,_,key⟩
theorem TD.grow{E:Gq P}{fl2:Bool}:∀{π:List (Kd×Nat)} {seen effs rds:List Nat} {wr fl:Bool} {O:Nat->Value} {h h':GH},GY P l n cls fl2 π seen effs rds wr=true->Gw fl h h'->TD E l n fl hs ds Lw F π O h->TD E l n false hs ds Lw F π O h'
 | [],_,_,_,_,fl,O,h,h',_,g,x=>λhx g2=>by rw [g2.2 rfl];exact x h' g
 | (kd,k) ::π,_,_,_,_,fl,O,h,h',ok,g,⟨o,b,ho,hgd,hF,hT⟩=>by
  obtain ⟨o2,xs,ho2,hx,_,_,_,_,hh⟩:=Ew ok;obtain rfl:o2=o:=Option.some.inj (ho2.symm.trans ho);obtain ⟨_,_,_,_,ok',_⟩:=Gz ok;refine ⟨o2,b,ho,hgd,λe=>TD.grow ok' g (hF e),λe=>?_⟩;have hT':=hT e;cases kd with
  | p=>obtain ⟨v,a,td⟩:=hT';exact ⟨v,a,TD.grow ok' g td⟩
  | r=>obtain ⟨v,a,td⟩:=hT';exact ⟨v,a.move hh.1 hx (λ_ _=>rfl) g.1,TD.grow ok' g td⟩
  | e=>intro hx2 g2;rw [g2.2 rfl];exact (hT' h' g).mono λ_ _ _ ⟨q1,v,q2,q3,td⟩=>⟨q1,v,q2,q3,TD.grow ok' (Gw.refl _ _) td⟩
  | w=>intro hx2 g2;rw [g2.2 rfl];exact hT' h' g
  | a=>intro t r hx2 e2 l2 hr hb;exact TD.grow ok' (Gw.refl _ _) (hT' t r hx2 e2 (g.1.trans l2) hr hb)
  | l=>exact ⟨λhx2 l2=>hT'.1 hx2 (g.1.trans l2),TD.grow ok' g hT'.2⟩
  | b=>intro v hx2 l2 q;exact TD.grow ok' (Gw.refl _ _) (hT' v hx2 (g.1.trans l2) q)
theorem Hy.runE{kd:Kd}{k:Nat}{o:Oper}(nd:(Df l n).Nodup)(hkd:kd=.e\/kd=.w)(ho:l[k]? =some o)(hcl:∀q ∈ cls.getD k [],D q=true)(x:Hy E l n cls fl hs ds Lw F σ0 seen effs rds wr ((kd,k) ::π) σr hr D σ' h') :
  RunK E l n cls fl hs ds Lw F σ0 D σ' h' k o:=by
 obtain ⟨o1,xs,ho1,hx,hkn,hks,hfix,hg,hh⟩:=Ew x.ok;obtain rfl:o1=o:=Option.some.inj (ho1.symm.trans ho);obtain ⟨o2,b,ho2,hgd,hF,hT⟩:=x.td;obtain rfl:o2=o1:=Option.some.inj (ho2.symm.trans ho);have hgi:=(x.guard hcl hg hgd).iff;have hkD:D k=false:=x.rest kd k List.mem_cons_self (by rcases hkd with e | e <;> rw [e] <;> rfl);refine ⟨λhG=>?_,λhG=>?_⟩
 ·obtain rfl:=hgi.1 hG;rcases hkd with rfl | rfl
  ·refine (hT rfl h' x.gw).move hx (λt ht=>x.agree2 hcl hkD (hfix t ht)) λz ds' h'' q=>?_;obtain ⟨rfl,v,hv,l2,td⟩:=q;refine ⟨rfl,?_⟩;have e:putS σ' o2.dst z=putS σ' o2.dst v:=by
    cases hd:o2.dst with
    | none=>rfl
    | some d=>
     have:=congrFun hv d
     simp only [hd,putS,upd_same] at this;rw [this]
   rw [e];exact ⟨_,_,_,_,_,_,_,x.ran (xs:=xs) nd hkD aC ho hkn hks hcl td hh.2 (Gw.refl _ _) (.inl ⟨rfl,l2⟩)⟩
  ·refine (hT rfl h' x.gw).move hx (λt ht=>x.agree2 hcl hkD (hfix t ht)) λz ds' h'' q=>?_;obtain ⟨rfl,v,hv,hfr,td⟩:=q;refine ⟨rfl,?_⟩;have e:putS σ' o2.dst z=putS σ' o2.dst v:=by
    cases hd:o2.dst with
    | none=>rfl
    | some d=>
     have:=congrFun hv d
     simp only [hd,putS,upd_same] at this;rw [this]
   rw [e];exact ⟨_,_,_,_,_,_,_,x.ran (xs:=xs) nd hkD aC ho hkn hks hcl (by rw [Bool.not_true,Bool.and_false];exact td) hh.2.2 (Gw.refl _ _) (.inr ⟨rfl,λq hq=>hcl q (hh.2.1 q hq),hfr⟩)⟩
 ·cases b with
  | true=>exact absurd (hgi.2 rfl) hG
  | false=>
   rcases hkd with rfl | rfl
   ·exact ⟨_,_,_,_,_,_,_,x.ran (xs:=xs) nd hkD aC ho hkn hks hcl (hF rfl) hh.2 x.gw (.inl ⟨rfl,GH.Le.refl _⟩)⟩
   ·exact ⟨_,_,_,_,_,_,_,x.ran (xs:=xs) nd hkD aC ho hkn hks hcl (by rw [Bool.not_true,Bool.and_false];exact TD.grow hh.2.2 x.gw (hF rfl)) hh.2.2 (Gw.refl _ _) (.inr ⟨rfl,λq hq=>hcl q (hh.2.1 q hq),x.frm⟩)⟩
theorem ID:∀{π:List (Kd×Nat)} {seen effs rds:List Nat} {wr:Bool},GY P l n cls fl π seen effs rds wr=true->∀{kd1 kd2:Kd}{j:Nat},(kd1,j) ∈ π->(kd2,j) ∈ π->kd1≠.l->kd2≠.l->kd1=kd2
 | [],_,_,_,_,_,_,_,_,h,_,_,_=>by cases h
 | (kd,k) ::π,seen,effs,rds,wr,x,kd1,kd2,j,h1,h2,n1,n2=>by
  obtain ⟨seen',e',r',w',ok2,_,z,_⟩:=Gz x;rcases List.mem_cons.1 h1 with e1 | h3 <;> rcases List.mem_cons.1 h2 with e2 | h4
  ·cases e1;cases e2;rfl
  ·cases e1;exact absurd (by rw [z n1];exact List.mem_cons_self) (Dk ok2 _ _ h4).1
  ·cases e2;exact absurd (by rw [z n2];exact List.mem_cons_self) (Dk ok2 _ _ h3).1
  ·exact ID ok2 h3 h4 n1 n2
theorem Hy.runA{k:Nat}{o:Oper}(nd:(Df l n).Nodup)(hk:(Kd.a,k) ∈ π)(hkD:D k=false)(ho:l[k]? =some o)(hcl:∀q ∈ cls.getD k [],D q=true)(x:Hy E l n cls fl hs ds Lw F σ0 seen effs rds wr π σr hr D σ' h') :
  RunK E l n cls fl hs ds Lw F σ0 D σ' h' k o:=by
 obtain ⟨hfl,hwr,hkn,o2,ho2,hal0,hds,_⟩:=DM x.ok x.lt _ k hk (.inl rfl);obtain ⟨hal,hgn⟩:=hal0 rfl;obtain rfl:o2=o:=Option.some.inj (ho2.symm.trans ho);have hks:=(Dk x.ok _ k hk).1;obtain ⟨t,hop⟩:∃t,o2.op=.alloc t:=by
  cases hq:o2.op <;> rw [hq] at hal <;> first | exact ⟨_,rfl⟩ | cases hal
 have hz:Bm P t=some (zOf P t):=by
  rw [hop] at hal;obtain ⟨z,hz⟩:=Option.isSome_iff_exists.1 (show (Bm P t).isSome=true from hal);unfold zOf;rw [hz];rfl
 refine ⟨λ_=>?_,λhG=>absurd (by unfold DR;rw [hgn];trivial) hG⟩;obtain ⟨dst,op,ty,pos,af,gd⟩:=o2;simp only at hop hds hgn;subst hop;obtain ⟨d,rfl⟩:=Option.isSome_iff_exists.1 hds;refine AU hz λr h2 hr0 l2 hnb hoth=>⟨rfl,seen,effs,rds,wr,π,σr,hr,x.td,x.ok,⟨x.gw.1.trans l2,λe=>by rw [hfl,hwr] at e;cases e⟩,λt' ht=>?_,x.lt,λj hj=>F2 (x.eff j hj),λkd' j hj hne=>?_,λj hj hDj o' d' ho' hd'=>?_,λj hj hDj=>?_,λj hj hDj o' t' d' ho' hop' hd'=>?_,λj hj hDj=>?_,λj hj hDj o' d' ho' hd'=>?_,x.mono,x.mono _ _ _ _ l2 x.frm,λhw=>(x.pre hw).trans l2,λj hjn hDj q hq=>?_,x.iniR,x.iniS' nd hkn ho⟩
 ·rw [Cx (Hz hkn ho ht)];exact x.base t' ht
 ·by_cases e:j=k
  ·subst e;rw [ID x.ok hj hk (by rintro rfl;cases hne) aC] at hne;cases hne
  ·rw [Bi e];exact x.rest kd' j hj hne
 ·have hjk:j≠k:=λe=>hks (e▸hj);rw [Bi hjk] at hDj;rw [Cx λe he=>EK nd hkn (x.lt j hj) (λe=>hjk e.symm) ho ho' he hd'];exact x.done j hj hDj o' d' ho' hd'
 ·have hjk:j≠k:=λe=>hks (e▸hj);rw [Bi hjk] at hDj;obtain ⟨o',xs',b',v',pf⟩:=x.pend j hj hDj;exact ⟨o',xs',b',v',pf.at',pf.op,pf.val,pf.gfix,pf.gd,λhb=>by obtain ⟨σk,y0,y1,y2⟩:=pf.vop hb;exact ⟨σk,y0,y1.move pf.val pf.op (λ_ _=>rfl) l2,y2⟩,pf.is⟩
 ·by_cases e:j=k
  ·subst e;cases ho'.symm.trans ho;cases hd';cases hop';have hb0:hs r=none:=by
    cases hb:hs r with
    | none=>rfl
    | some y=>rw [(x.pre hwr).get hb] at hr0;cases hr0
   exact ⟨r,upd_same _ _ _,hb0,hnb⟩
  ·rw [Bi e] at hDj;have hnew:=Dk x.ok _ j hj;obtain ⟨r',h1,h3,h4⟩:=x.flo j hj hDj o' t' d' ho' hop' hd';exact ⟨r',by rw [Cx λe' he=>EK nd hkn hnew.2 (λq=>e q.symm) ho ho' he hd'];exact h1,h3,l2.get h4⟩
 ·have e:j≠k:=λe=>by subst e;cases ID x.ok hj hk aC aC
  rw [Bi e] at hDj;exact (x.flb j hj hDj).imp id (Zz.le l2)
 ·have e:j≠k:=λe=>by subst e;cases ID x.ok hj hk aC aC
  rw [Bi e] at hDj;exact x.fldPut nd hkn ho hkD l2 hj e hDj ho' hd'
 ·by_cases e:j=k
  ·subst e;exact F2 (hcl q hq)
  ·rw [Bi e] at hDj;exact F2 (x.clos j hjn hDj q hq)
theorem Hy.reachB{k:Nat}(nd:(Df l n).Nodup)(hkD:D k=false)(hcl:∀q ∈ cls.getD k [],D q=true):∀{π:List (Kd×Nat)} {seen effs rds:List Nat} {wr:Bool} {σr:Nat->Value} {hr:GH},
  Hy E l n cls fl hs ds Lw F σ0 seen effs rds wr π σr hr D σ' h'->(Kd.b,k) ∈ π->∃seen effs rds wr π' σr hr,Hy E l n cls fl hs ds Lw F σ0 seen effs rds wr π' σr hr D σ' h'/\(Kd.b,k) ∈ π'/\Zz E l n cls ds Lw seen σr h' k:=by
 intro π
 induction π with
 | nil=>intro _ _ _ _ _ _ _ h;cases h
 | cons y π ih=>
  intro seen effs rds wr σr hr x hm;obtain ⟨kd2,k2⟩:=y;rcases x.flb k hm hkD with hl | hp
  ·by_cases hL:kd2=.l
   ·subst hL;exact ih x.unfoldL (GZ hm aC)
   ·have hl2:=GZ hl (Ne.symm hL);have heff:kd2=.e\/kd2=.w\/kd2=.a\/kd2=.b->D k2=true:=λhk=>by
     obtain ⟨s',e',r',w',ok2,_,_,_,_,z⟩:=Gz x.ok;exact hcl _ (PZ ok2 .l k hl2 aC aC k2 (z hk))
    cases kd2 with
    | p=>obtain ⟨rds',σr',x'⟩:=x.unfoldV nd (.inl rfl);exact ih x' (GZ hm aC)
    | r=>obtain ⟨rds',σr',x'⟩:=x.unfoldV nd (.inr rfl);exact ih x' (GZ hm aC)
    | e=>have:=x.rest _ _ List.mem_cons_self rfl;rw [heff (.inl rfl)] at this;cases this
    | w=>have:=x.rest _ _ List.mem_cons_self rfl;rw [heff (.inr (.inl rfl))] at this;cases this
    | a=>obtain ⟨σr',x'⟩:=x.unfoldA nd (heff (.inr (.inr (.inl rfl))));exact ih x' (GZ hm aC)
    | l=>exact absurd rfl hL
    | b=>
     have hD2:=heff (.inr (.inr (.inr rfl)));obtain ⟨σr',hr',x'⟩:=x.unfoldB nd hD2;rcases List.mem_cons.1 hm with e | hm2
     ·cases e;rw [hkD] at hD2;cases hD2
     ·exact ih x' hm2
  ·exact ⟨_,_,_,_,_,_,_,x,hm,hp⟩
theorem Hy.runB{k:Nat}{o:Oper}(nd:(Df l n).Nodup)(hk0:(Kd.b,k) ∈ π)(hkD:D k=false)(ho:l[k]? =some o)(hcl:∀q ∈ cls.getD k [],D q=true)(x0:Hy E l n cls fl hs ds Lw F σ0 seen effs rds wr π σr hr D σ' h') :
  RunK E l n cls fl hs ds Lw F σ0 D σ' h' k o:=by
 obtain ⟨seen,effs,rds,wr,π,σr,hr,x,hk,hp⟩:=x0.reachB nd hkD hcl hk0;obtain ⟨hfl,hwr,hkn,o2,ho2,_,hds,_⟩:=DM x.ok x.lt _ k hk (.inr rfl);obtain rfl:o2=o:=Option.some.inj (ho2.symm.trans ho);have hks:=(Dk x.ok _ k hk).1;obtain ⟨o3,xs,b,ho3,hx,hfix,hg,hgd,hrun⟩:=hp;obtain rfl:o3=o2:=Option.some.inj (ho3.symm.trans ho);obtain ⟨d,hd⟩:=Option.isSome_iff_exists.1 hds;have hgs:=x.guard hcl hg hgd;have hgo:∀v,Gd l o3 (putS σ' o3.dst v) b:=λv=>hgs.other nd hkn ho λg w e=>⟨x.lt g (hg g w e).1,λq=>hks (q▸(hg g w e).1)⟩;have key:∀(v:Value)(h2:GH),h'.Le h2->(b=true->Lw k v h2)->(b=false->v=undef)->TdAt E l n cls fl hs ds Lw F σ0 (Hm D k) (putS σ' o3.dst v) h2:=by
  intro v h2 l2 hL hU;refine ⟨seen,effs,rds,wr,π,σr,hr,x.td,x.ok,⟨x.gw.1.trans l2,λe=>by rw [hfl,hwr] at e;cases e⟩,λt' ht=>?_,x.lt,λj hj=>F2 (x.eff j hj),λkd' j hj hne=>?_,λj hj hDj o' d' ho' hd'=>?_,λj hj hDj=>?_,λj hj hDj o' t' d' ho' hop' hd'=>?_,λj hj hDj=>?_,λj hj hDj o' d' ho' hd'=>?_,x.mono,x.mono _ _ _ _ l2 x.frm,λhw=>(x.pre hw).trans l2,λj hjn hDj q hq=>?_,x.iniR,x.iniS' nd hkn ho⟩
  ·rw [Cx (Hz hkn ho ht)];exact x.base t' ht
  ·by_cases e:j=k
   ·subst e;rw [ID x.ok hj hk (by rintro rfl;cases hne) aC] at hne;cases hne
   ·rw [Bi e];exact x.rest kd' j hj hne
  ·have hjk:j≠k:=λe=>hks (e▸hj);rw [Bi hjk] at hDj;rw [Cx λe he=>EK nd hkn (x.lt j hj) (λe=>hjk e.symm) ho ho' he hd'];exact x.done j hj hDj o' d' ho' hd'
  ·have hjk:j≠k:=λe=>hks (e▸hj);rw [Bi hjk] at hDj;obtain ⟨o',xs',b',v',pf⟩:=x.pend j hj hDj;exact ⟨o',xs',b',v',pf.at',pf.op,pf.val,pf.gfix,pf.gd,λhb=>by obtain ⟨σk,y0,y1,y2⟩:=pf.vop hb;exact ⟨σk,y0,y1.move pf.val pf.op (λ_ _=>rfl) l2,y2⟩,pf.is⟩
  ·have e:j≠k:=λe=>by subst e;cases ID x.ok hj hk aC aC
   rw [Bi e] at hDj;have hnew:=Dk x.ok _ j hj;obtain ⟨r',h1,h3,h4⟩:=x.flo j hj hDj o' t' d' ho' hop' hd';exact ⟨r',by rw [Cx λe' he=>EK nd hkn hnew.2 (λq=>e q.symm) ho ho' he hd'];exact h1,h3,l2.get h4⟩
  ·have e:j≠k:=λe=>by subst e;rw [JH] at hDj;cases hDj
   rw [Bi e] at hDj;exact (x.flb j hj hDj).imp id (Zz.le l2)
  ·by_cases e:j=k
   ·subst e;obtain rfl:o'=o3:=Option.some.inj (ho'.symm.trans ho);refine ⟨b,hgo v,λhb=>?_,λhb=>?_⟩
    ·rw [hd',show putS σ' (some d') v d'=v from upd_same _ _ _];exact hL hb
    ·rw [hd',show putS σ' (some d') v d'=v from upd_same _ _ _];exact hU hb
   ·rw [Bi e] at hDj;exact x.fldPut nd hkn ho hkD l2 hj e hDj ho' hd'
  ·by_cases e:j=k
   ·subst e;exact F2 (hcl q hq)
   ·rw [Bi e] at hDj;exact F2 (x.clos j hjn hDj q hq)
 refine ⟨λhG=>?_,λhG=>?_⟩
 ·obtain rfl:=hgs.iff.1 hG;refine BQ.move hx (λ_ _=>rfl) (λz ds' h2 q=>?_) (hrun rfl σ' h' (λt ht=>x.agree hcl (hfix t ht)) (GH.Le.refl _));obtain ⟨rfl,v,hv,l2,hL⟩:=q;rw [hv];exact ⟨rfl,key v h2 l2 (λ_=>hL) (λe=>by cases e)⟩
 ·cases b with
  | true=>exact absurd (hgs.iff.2 rfl) hG
  | false=>exact key undef h' (GH.Le.refl _) (λe=>by cases e) (λ_=>rfl)
theorem Hy.reach{kd:Kd}{i:Nat}(nd:(Df l n).Nodup)(hne:kd.fix=true)(hcl:∀q ∈ cls.getD i [],D q=true):∀{π:List (Kd×Nat)} {seen effs rds:List Nat} {wr:Bool} {σr:Nat->Value} {hr:GH},
  Hy E l n cls fl hs ds Lw F σ0 seen effs rds wr π σr hr D σ' h'->(kd,i) ∈ π->∃seen effs rds wr π' σr hr,Hy E l n cls fl hs ds Lw F σ0 seen effs rds wr ((kd,i) ::π') σr hr D σ' h':=by
 intro π
 induction π with
 | nil=>intro _ _ _ _ _ _ _ h;cases h
 | cons y π ih=>
  intro seen effs rds wr σr hr x hm;obtain ⟨kd2,k2⟩:=y;rcases List.mem_cons.1 hm with e | hm2
  ·cases e;exact ⟨_,_,_,_,_,_,_,x⟩
  ·have hv:kd2=.p\/kd2=.r->∃seen effs rds wr π' σr hr,Hy E l n cls fl hs ds Lw F σ0 seen effs rds wr ((kd,i) ::π') σr hr D σ' h':=λhk=>by
    obtain ⟨rds',σr',x'⟩:=x.unfoldV nd hk;exact ih x' hm2
   have heff:kd2=.e\/kd2=.w\/kd2=.a\/kd2=.b->D k2=true:=λhk=>by
    obtain ⟨s',e',r',w',ok2,_,_,_,_,z⟩:=Gz x.ok;exact hcl _ (PZ ok2 kd i hm2 (by rintro rfl;cases hne) (by rintro rfl;cases hne) k2 (z hk))
   cases kd2 with
   | p=>exact hv (.inl rfl)
   | r=>exact hv (.inr rfl)
   | e=>have:=x.rest _ _ List.mem_cons_self rfl;rw [heff (.inl rfl)] at this;cases this
   | w=>have:=x.rest _ _ List.mem_cons_self rfl;rw [heff (.inr (.inl rfl))] at this;cases this
   | a=>
    obtain ⟨σr',x'⟩:=x.unfoldA nd (heff (.inr (.inr (.inl rfl))));exact ih x' hm2
   | l=>exact ih x.unfoldL hm2
   | b=>
    obtain ⟨σr',hr',x'⟩:=x.unfoldB nd (heff (.inr (.inr (.inr rfl))));exact ih x' hm2
theorem Hy.ends(nd:(Df l n).Nodup)(hall:∀i,i<n->D i=true):∀{π:List (Kd×Nat)} {seen effs rds:List Nat} {wr:Bool} {σr:Nat->Value} {hr:GH},
  Hy E l n cls fl hs ds Lw F σ0 seen effs rds wr π σr hr D σ' h'->F σ' h':=by
 intro π
 induction π with
 | nil=>
  intro seen effs rds wr σr hr x;have e:σ'=σr:=funext λt=>by
   cases hc:(Df l n).contains t with
   | false=>exact x.base t hc
   | true=>
    rw [List.contains_iff_mem] at hc;simp only [Df,List.mem_filterMap] at hc;obtain ⟨o,ho,hd⟩:=hc;obtain ⟨k,hk⟩:=List.mem_iff_getElem?.1 ho;have hkn:k<n:=by
     have:=(List.getElem?_eq_some_iff.1 hk).1
     simp at this;omega
    have hok:l[k]? =some o:=by rw [List.getElem?_take] at hk;simpa [hkn] using hk
    rcases PY x.ok k hkn with h | ⟨_,h,_⟩
    ·exact x.done k h (hall k hkn) o t hok hd
    ·cases h
  rw [e];exact x.td h' x.gw
 | cons y π ih=>
  intro seen effs rds wr σr hr x;obtain ⟨kd,k⟩:=y;have hk:=(Dk x.ok kd k List.mem_cons_self).2;cases kd with
  | a=>obtain ⟨σr',x'⟩:=x.unfoldA nd (hall k hk);exact ih x'
  | b=>obtain ⟨σr',hr',x'⟩:=x.unfoldB nd (hall k hk);exact ih x'
  | l=>exact ih x.unfoldL
  | p=>have:=x.rest _ k List.mem_cons_self rfl;rw [hall k hk] at this;cases this
  | r=>have:=x.rest _ k List.mem_cons_self rfl;rw [hall k hk] at this;cases this
  | e=>have:=x.rest _ k List.mem_cons_self rfl;rw [hall k hk] at this;cases this
  | w=>have:=x.rest _ k List.mem_cons_self rfl;rw [hall k hk] at this;cases this
end
def Tz(c:List Nat)(k:List Nat->Bool):Bool:=match c with
 | []=>k []
 | x ::xs=>Tz xs λxs'=>k (x ::xs')
theorem SV:∀(c:List Nat)(k:List Nat->Bool),Tz c k=k c
 | [],_=>rfl
 | x ::xs,k=>by unfold Tz;rw [SV xs]
def T0(cls:List (List Nat))(k:List (List Nat)->Bool):Bool:=match cls with
 | []=>k []
 | c ::cs=>T0 cs λcs'=>k (c ::cs')
theorem SW:∀(cls:List (List Nat))(k:List (List Nat)->Bool),T0 cls k=k cls
 | [],_=>rfl
 | c ::cs,k=>by unfold T0;exact SW cs _
def Pa(l:List Oper):List Oper->Nat->List (List Nat)->(List (List Nat)->Bool)->Bool
 | [],_,acc,c=>T0 acc.reverse c
 | o ::os,k,acc,c=>Tz ((List.range k).filter λj=>Ik o j || (List.range k).any λe=>Ik o e && (acc.getD (k-1-e) []).contains j) λx=>Pa l os (k+1) (x ::acc) c
theorem IN{l:List Oper}{c:List (List Nat)->Bool}:∀{os:List Oper}{k:Nat}{acc:List (List Nat)},Pa l os k acc c=true->∃cls,c cls=true
 | [],k,acc,h=>⟨acc.reverse,(SW acc.reverse c).symm.trans h⟩
 | o ::os,k,acc,h=>by unfold Pa at h;rw [SV] at h;exact IN h
def Pb(P:Program)(N:Nat)(l:List Oper)(n:Nat)(cls:List (List Nat))(fl:Bool)(π:List (Kd×Nat)):Bool:=GV N l n cls && GY P l n cls fl π [] [] [] false && π.all λx=>x.1 !=.b || π.contains (.l,x.2)
theorem ZN{Lw:Nat->Value->GH->Prop}{F:(Nat->Value)->GH->Prop}{id:Nat}{l:List Oper}{O:Nat->Value}{ds:List Deferred}{h:GH}(n:Nat)(cls:List (List Nat))(fl:Bool)(π:List (Kd×Nat))(hm:P.follows .mixedOrders=true)
  (hL:∀k v h1 h2,GH.Le h1 h2->Lw k v h1->Lw k v h2) (hF:Lw n undef h) (ok:Pb P E.N l n cls fl π=true) (x:TD E l n fl h ds Lw F π O h) {b:Frame} {k:List Item} {cs:List Frame} {t:Array Value} (hb:b.fn=E.fn) (hr:b.roundOf=E.rd) (hs:BX t E.N O)
  (y:∀σ' h',F σ' h'->∀t',BX t' E.N σ'->E.wk.K (G (Ci b t' ds (.inRegion l.toArray (List.range' n (l.drop n).length) ::k)) cs) h') :
  E.wk.K (G (Ci b t ds (.code (.region id l.toArray true) ::k)) cs) h:=by
 unfold Pb at ok;rw [Bool.and_eq_true,Bool.and_eq_true] at ok;obtain ⟨⟨ok1,ok2⟩,ok3⟩:=ok;have nd:(Df l n).Nodup:=by
  have:=ok1
  unfold GV at this;simp only [Bool.and_eq_true] at this;exact of_decide_eq_true this.1.2
 refine PM n cls (TdAt E l n cls fl h ds Lw F O) hm ok1 ?_ ?_ hb hr hs ?_
 ·exact ⟨[],[],[],false,π,O,h,by rw [Bool.not_false,Bool.and_true];exact x,ok2,Gw.refl _ _,λ_ _=>rfl,(λ_ hk=>by cases hk),(λ_ hk=>by cases hk),(λ_ _ _ _=>rfl),(λ_ hk=>by cases hk),(λ_ hk=>by cases hk),(λ_ _ hD=>by cases hD),(λk hk _=>.inl (by have:=List.all_eq_true.1 ok3 _ hk;simpa using this)),(λ_ _ hD=>by cases hD),hL,hF,(λ_=>GH.Le.refl _),(λ_ _ hD=>by cases hD),(λ_ _ _ _ _ _ _=>rfl),(λ_ _ _ _ _ _ _=>rfl)⟩
 ·rintro D σ' h' i o ⟨seen,effs,rds,wr,π',σr,hr,z0⟩ hin hiD ho hcl hgl;rcases PY z0.ok i hin with hs | ⟨kd,hk,hkl⟩
  ·exact z0.runV nd ho hs hiD hcl
  ·by_cases hne:kd.fix=false
   ·cases kd with
    | a=>exact z0.runA nd hk hiD ho hcl
    | b=>exact z0.runB nd hk hiD ho hcl
    | l=>exact absurd rfl hkl
    | p=>cases hne
    | r=>cases hne
    | e=>cases hne
    | w=>cases hne
   ·obtain ⟨seen,effs,rds,wr,π'',σr,hr,z⟩:=z0.reach nd (by simpa using hne) hcl hk;cases kd with
    | p=>
     obtain ⟨rds',σr',z'⟩:=z.unfoldV nd (.inl rfl);exact z'.runV nd ho List.mem_cons_self hiD hcl
    | r=>
     obtain ⟨rds',σr',z'⟩:=z.unfoldV nd (.inr rfl);exact z'.runV nd ho List.mem_cons_self hiD hcl
    | e=>exact z.runE nd (.inl rfl) ho hcl
    | w=>exact z.runE nd (.inr rfl) ho hcl
    | a=>exact absurd rfl hne
    | l=>exact absurd rfl hne
    | b=>exact absurd rfl hne
 ·rintro D σ' h' ⟨seen,effs,rds,wr,π',σr,hr,z0⟩ hall t' ht';exact y _ _ (z0.ends nd hall) t' ht'
theorem tr_td{Lw:Nat->Value->GH->Prop}{F:(Nat->Value)->GH->Prop}{id:Nat}{l:List Oper}{O:Nat->Value}{ds:List Deferred}{h:GH}{Q:Post}(n:Nat)(cls:List (List Nat))(fl:Bool)(π:List (Kd×Nat))(hm:P.follows .mixedOrders=true)
  (hL:∀k v h1 h2,GH.Le h1 h2->Lw k v h1->Lw k v h2) (hF:Lw n undef h) (ok:Pb P E.N l n cls fl π=true) (x:TD E l n fl h ds Lw F π O h) (y:∀σ' h',F σ' h'->DL E l.toArray (l.drop n) σ' ds h' Q):Tr E (.region id l.toArray true) O ds h Q:=λb k cs L t hb hr hl hs hq=>
 ZN n cls fl π hm hL hF ok x hb hr hs λσ' h' f t' ht'=>y σ' h' f n b k cs L t' (λj=>aD) hb hr hl ht' hq
def FrW(n:Nat)(Fr:GH->Prop)(k:Nat)(_:Value)(h:GH):Prop:=k=n->Fr h
theorem FrW.mono{n:Nat}{Fr:GH->Prop}(m:∀h1 h2,GH.Le h1 h2->Fr h1->Fr h2):∀k v h1 h2,GH.Le h1 h2->FrW n Fr k v h1->FrW n Fr k v h2:=λ_ _ _ _ l x e=>m _ _ l (x e)
abbrev LoIs(O:Nat->Value)(o:Option Operand)(lo d:Nat):Prop:=match o with
 | none=>lo=d
 | some o=>∃kd,AQ O o=.int kd lo
def LN(m:Nat):Kd×Nat:=if 1000<=m then (if m%2=0 then .l else .b,(m-1000) / 2) else (match m%5 with | 0=>.p | 1=>.r | 2=>.e | 3=>.w | _=>.a,m / 5)
def dK:List Nat->List (Kd×Nat)
 | []=>[]
 | m ::l=>LN m ::dK l
theorem By{id:Nat}{l:List Oper}{O:Nat->Value}{ds:List Deferred}{h:GH}{Q:Post}(n:Nat)(fl:Bool)(π:List Nat)(hm:P.follows .mixedOrders=true)
  (ok:Pa l (l.take n) 0 [] (λcls=>Pb P E.N l n cls fl (dK π))=true) (x:TD E l n fl h ds (λ_ _ _=>True) (λσ' h'=>DL E l.toArray (l.drop n) σ' ds h' Q) (dK π) O h):Tr E (.region id l.toArray true) O ds h Q:=
 let ⟨cls,h1⟩:=IN ok
 tr_td n cls fl (dK π) hm (λ_ _ _ _ _ y=>y) trivial h1 x λ_ _ y=>y
theorem KK{id:Nat}{l:List Oper}{O:Nat->Value}{ds:List Deferred}{h:GH}{Q:Post}(F:(Nat->Value)->GH->Prop)(n:Nat)(fl:Bool)(π:List Nat)(hm:P.follows .mixedOrders=true)
  (ok:Pa l (l.take n) 0 [] (λcls=>Pb P E.N l n cls fl (dK π))=true) (x:TD E l n fl h ds (λ_ _ _=>True) F (dK π) O h) (y:∀σ' h',F σ' h'->DL E l.toArray (l.drop n) σ' ds h' Q):Tr E (.region id l.toArray true) O ds h Q:=
 let ⟨cls,h1⟩:=IN ok
 tr_td n cls fl (dK π) hm (λ_ _ _ _ _ y=>y) trivial h1 x y
theorem IO{id:Nat}{l:List Oper}{O:Nat->Value}{ds:List Deferred}{h:GH}{Q:Post}(n:Nat)(Lw:Nat->Value->GH->Prop)(hL:∀k v h1 h2,GH.Le h1 h2->Lw k v h1->Lw k v h2)(hF:Lw n undef h)(fl:Bool)(π:List Nat)(hm:P.follows .mixedOrders=true)
  (ok:Pa l (l.take n) 0 [] (λcls=>Pb P E.N l n cls fl (dK π))=true) (x:TD E l n fl h ds Lw (λσ' h'=>DL E l.toArray (l.drop n) σ' ds h' Q) (dK π) O h):Tr E (.region id l.toArray true) O ds h Q:=
 let ⟨cls,h1⟩:=IN ok
 tr_td n cls fl (dK π) hm hL hF h1 x λ_ _ y=>y
section
variable {l:List Oper} {n:Nat} {fl:Bool} {hs:GH} {ds:List Deferred} {Lw:Nat->Value->GH->Prop} {F:(Nat->Value)->GH->Prop} {π:List Nat} {O:Nat->Value} {h:GH} {m k g d:Nat} {dst:Option Nat} {op:Op} {ty:TypeId} {pos:String} {af:Array Edge} {v:Value} {w is:Bool} {og:Oper}
theorem vz{V β γ:Type}{a:V}{b:β}{c:γ}:a=a/\b=b/\c=c:=⟨rfl,rfl,rfl⟩
theorem tP(hk:LN m=(.p,k))(ho:l[k]? =some ⟨dst,op,ty,pos,af,none⟩)(x:∀hx,Tw E ⟨dst,op,ty,pos,af,none⟩ O ds hx v)(y:TD E l n fl hs ds Lw F (dK π) (putS O dst v) h):TD E l n fl hs ds Lw F (dK (m ::π)) O h:=by
 unfold dK;rw [hk];exact ⟨_,true,ho,rfl,λe=>(by cases e),λ_=>⟨v,λhx _=>x hx,y⟩⟩
theorem tR(hk:LN m=(.r,k))(ho:l[k]? =some ⟨dst,op,ty,pos,af,none⟩)(x:Tw E ⟨dst,op,ty,pos,af,none⟩ O ds h v)(y:TD E l n fl hs ds Lw F (dK π) (putS O dst v) h):TD E l n fl hs ds Lw F (dK (m ::π)) O h:=by
 unfold dK;rw [hk];exact ⟨_,true,ho,rfl,λe=>(by cases e),λ_=>⟨v,x,y⟩⟩
theorem tE(hk:LN m=(.e,k))(ho:l[k]? =some ⟨dst,op,ty,pos,af,none⟩)
  (x:BQ E ⟨dst,op,ty,pos,af,none⟩ O ds h λσ' ds' h'=>ds'=ds/\∃v,σ'=putS O dst v/\h.Le h'/\TD E l n false hs ds Lw F (dK π) (putS O dst v) h'):TD E l n false hs ds Lw F (dK (m ::π)) O h:=by
 unfold dK;rw [hk];exact ⟨_,true,ho,rfl,λe=>(by cases e),λ_ hx hg=>by rw [hg.2 rfl];exact x⟩
theorem VB(hk:LN m=(.e,k))(ho:l[k]? =some ⟨dst,op,ty,pos,af,none⟩)
  (x:∀hx,h.Le hx->BQ E ⟨dst,op,ty,pos,af,none⟩ O ds hx λσ' ds' h'=>ds'=ds/\∃v,σ'=putS O dst v/\hx.Le h'/\TD E l n true hs ds Lw F (dK π) (putS O dst v) h'):TD E l n true hs ds Lw F (dK (m ::π)) O h:=by
 unfold dK;rw [hk];exact ⟨_,true,ho,rfl,λe=>(by cases e),λ_ hx hg=>x hx hg.1⟩
theorem tW(hk:LN m=(.w,k))(ho:l[k]? =some ⟨dst,op,ty,pos,af,none⟩)
  (x:BQ E ⟨dst,op,ty,pos,af,none⟩ O ds h λσ' ds' h'=>ds'=ds/\∃v,σ'=putS O dst v/\TD E l n false hs ds (λ_ _ _=>True) F (dK π) (putS O dst v) h'):TD E l n false hs ds (λ_ _ _=>True) F (dK (m ::π)) O h:=by
 unfold dK;rw [hk];exact ⟨_,true,ho,rfl,λe=>(by cases e),λ_ hx hg=>by rw [hg.2 rfl];exact x.mono λ_ _ _ q=>⟨q.1,by obtain ⟨v,e,y⟩:=q.2;exact ⟨v,e,trivial,y⟩⟩⟩
theorem tWL(hk:LN m=(.w,k))(ho:l[k]? =some ⟨dst,op,ty,pos,af,none⟩)
  (x:BQ E ⟨dst,op,ty,pos,af,none⟩ O ds h λσ' ds' h'=>ds'=ds/\∃v,σ'=putS O dst v/\Lw n undef h'/\TD E l n false hs ds Lw F (dK π) (putS O dst v) h'):TD E l n false hs ds Lw F (dK (m ::π)) O h:=by
 unfold dK;rw [hk];exact ⟨_,true,ho,rfl,λe=>(by cases e),λ_ hx hg=>by rw [hg.2 rfl];exact x⟩
theorem Z0(hk:LN m=(.w,k))(ho:l[k]? =some ⟨dst,op,ty,pos,af,none⟩)
  (x:∀hx,h.Le hx->BQ E ⟨dst,op,ty,pos,af,none⟩ O ds hx λσ' ds' h'=>ds'=ds/\∃v,σ'=putS O dst v/\Lw n undef h'/\TD E l n false hs ds Lw F (dK π) (putS O dst v) h'):TD E l n true hs ds Lw F (dK (m ::π)) O h:=by
 unfold dK;rw [hk];exact ⟨_,true,ho,rfl,λe=>(by cases e),λ_ hx hg=>x hx hg.1⟩
theorem tA{t:TypeId}{z:Array Value}(hk:LN m=(.a,k))(ho:l[k]? =some ⟨dst,.alloc t,ty,pos,af,none⟩)(hz:Bm P t=some z)
  (x:∀r hx,h.Le hx->hs r=none->hx r=some (true,.cells z t (0,0))->TD E l n true hs ds Lw F (dK π) (putS O dst (.pointer (some ⟨r,0,none⟩))) hx):TD E l n true hs ds Lw F (dK (m ::π)) O h:=by
 unfold dK;rw [hk];refine ⟨_,true,ho,rfl,λe=>(by cases e),λ_ t' r hx e l2 hr hb=>?_⟩;cases e;exact x r hx l2 hr (by rw [hb];unfold zOf;rw [hz];rfl)
theorem tF(hk:LN m=(.p,k))(ho:l[k]? =some ⟨dst,op,ty,pos,af,none⟩)(x:∀hx,Lw n undef hx->Tw E ⟨dst,op,ty,pos,af,none⟩ O ds hx v)(y:TD E l n fl hs ds Lw F (dK π) (putS O dst v) h):TD E l n fl hs ds Lw F (dK (m ::π)) O h:=by
 unfold dK;rw [hk];exact ⟨_,true,ho,rfl,λe=>(by cases e),λ_=>⟨v,x,y⟩⟩
theorem tL(hk:LN m=(.l,k))(ho:l[k]? =some ⟨dst,op,ty,pos,af,none⟩)
  (x:∀hx,h.Le hx->BQ E ⟨dst,op,ty,pos,af,none⟩ O ds hx λσ' ds' h'=>ds'=ds/\∃v,σ'=putS O dst v/\hx.Le h'/\Lw k v h') (y:TD E l n fl hs ds Lw F (dK π) O h):TD E l n fl hs ds Lw F (dK (m ::π)) O h:=by
 unfold dK;rw [hk];exact ⟨_,true,ho,rfl,λe=>(by cases e),λ_=>⟨x,y⟩⟩
theorem tB(hk:LN m=(.b,k))(ho:l[k]? =some ⟨dst,op,ty,pos,af,none⟩)(x:∀v hx,h.Le hx->Lw k v hx->TD E l n fl hs ds Lw F (dK π) (putS O dst v) hx):TD E l n fl hs ds Lw F (dK (m ::π)) O h:=by
 unfold dK;rw [hk];exact ⟨_,true,ho,rfl,λe=>(by cases e),λ_=>x⟩
theorem H1(h1:l[g]? =some og)(h2:og.dst=some d)(h3:O d=.bool w):Gd l ⟨dst,op,ty,pos,af,some (g,w)⟩ O true:=⟨og,d,.bool w,h1,h2,h3,by cases w <;> rfl⟩
theorem tPg(hk:LN m=(.p,k))(ho:l[k]? =some ⟨dst,op,ty,pos,af,some (g,w)⟩)(h1:l[g]? =some og)(h2:og.dst=some d)(h3:O d=.bool w)(x:∀hx,Tw E ⟨dst,op,ty,pos,af,some (g,w)⟩ O ds hx v)
  (y:TD E l n fl hs ds Lw F (dK π) (putS O dst v) h):TD E l n fl hs ds Lw F (dK (m ::π)) O h:=by
 unfold dK;rw [hk];exact ⟨_,true,ho,H1 h1 h2 h3,λe=>(by cases e),λ_=>⟨v,λhx _=>x hx,y⟩⟩
theorem tRg(hk:LN m=(.r,k))(ho:l[k]? =some ⟨dst,op,ty,pos,af,some (g,w)⟩)(h1:l[g]? =some og)(h2:og.dst=some d)(h3:O d=.bool w)(x:Tw E ⟨dst,op,ty,pos,af,some (g,w)⟩ O ds h v)
  (y:TD E l n fl hs ds Lw F (dK π) (putS O dst v) h):TD E l n fl hs ds Lw F (dK (m ::π)) O h:=by
 unfold dK;rw [hk];exact ⟨_,true,ho,H1 h1 h2 h3,λe=>(by cases e),λ_=>⟨v,x,y⟩⟩
theorem Ok(hk:LN m=(.e,k))(ho:l[k]? =some ⟨dst,op,ty,pos,af,some (g,w)⟩)(h1:l[g]? =some og)(h2:og.dst=some d)(h3:O d=.bool w)
  (x:BQ E ⟨dst,op,ty,pos,af,some (g,w)⟩ O ds h λσ' ds' h'=>ds'=ds/\∃v,σ'=putS O dst v/\h.Le h'/\TD E l n false hs ds Lw F (dK π) (putS O dst v) h'):TD E l n false hs ds Lw F (dK (m ::π)) O h:=by
 unfold dK;rw [hk];exact ⟨_,true,ho,H1 h1 h2 h3,λe=>(by cases e),λ_ hx hg=>by rw [hg.2 rfl];exact x⟩
theorem tS{kd:Kd}(hk:LN m=(kd,k))(ho:l[k]? =some ⟨dst,op,ty,pos,af,some (g,w)⟩)(h1:l[g]? =some og)(h2:og.dst=some d)(h3:O d=.bool is)(hne:(is==w)=false)
  (y:TD E l n fl hs ds Lw F (dK π) (putS O dst undef) h) (hl:(kd !=Kd.l)=true:=by rfl):TD E l n fl hs ds Lw F (dK (m ::π)) O h:=by
 unfold dK;rw [hk];exact ⟨_,false,ho,⟨og,d,.bool is,h1,h2,h3,hne.symm⟩,λ_=>(by cases kd <;> first | exact y | cases hl),λe=>(by cases e)⟩
theorem tSu{kd:Kd}(hk:LN m=(kd,k))(ho:l[k]? =some ⟨dst,op,ty,pos,af,some (g,w)⟩)(h1:l[g]? =some og)(h2:og.dst=some d)(h3:O d=undef)
  (y:TD E l n fl hs ds Lw F (dK π) (putS O dst undef) h) (hl:(kd !=Kd.l)=true:=by rfl):TD E l n fl hs ds Lw F (dK (m ::π)) O h:=by
 unfold dK;rw [hk];exact ⟨_,false,ho,⟨og,d,undef,h1,h2,h3,rfl⟩,λ_=>(by cases kd <;> first | exact y | cases hl),λe=>(by cases e)⟩
theorem tSL(hk:LN m=(.l,k))(ho:l[k]? =some ⟨dst,op,ty,pos,af,some (g,w)⟩)(h1:l[g]? =some og)(h2:og.dst=some d)(h3:O d=.bool is)(hne:(is==w)=false)
  (y:TD E l n fl hs ds Lw F (dK π) O h):TD E l n fl hs ds Lw F (dK (m ::π)) O h:=by
 unfold dK;rw [hk];exact ⟨_,false,ho,⟨og,d,.bool is,h1,h2,h3,hne.symm⟩,λ_=>y,λe=>(by cases e)⟩
theorem tEfg(hk:LN m=(.e,k))(ho:l[k]? =some ⟨dst,op,ty,pos,af,some (g,w)⟩)(h1:l[g]? =some og)(h2:og.dst=some d)(h3:O d=.bool w)
  (x:∀hx,h.Le hx->BQ E ⟨dst,op,ty,pos,af,some (g,w)⟩ O ds hx λσ' ds' h'=>ds'=ds/\∃v,σ'=putS O dst v/\hx.Le h'/\TD E l n true hs ds Lw F (dK π) (putS O dst v) h'):TD E l n true hs ds Lw F (dK (m ::π)) O h:=by
 unfold dK;rw [hk];exact ⟨_,true,ho,H1 h1 h2 h3,λe=>(by cases e),λ_ hx hg=>x hx hg.1⟩
theorem tWfLg(hk:LN m=(.w,k))(ho:l[k]? =some ⟨dst,op,ty,pos,af,some (g,w)⟩)(h1:l[g]? =some og)(h2:og.dst=some d)(h3:O d=.bool w)
  (x:∀hx,h.Le hx->BQ E ⟨dst,op,ty,pos,af,some (g,w)⟩ O ds hx λσ' ds' h'=>ds'=ds/\∃v,σ'=putS O dst v/\Lw n undef h'/\TD E l n false hs ds Lw F (dK π) (putS O dst v) h'):TD E l n true hs ds Lw F (dK (m ::π)) O h:=by
 unfold dK;rw [hk];exact ⟨_,true,ho,H1 h1 h2 h3,λe=>(by cases e),λ_ hx hg=>x hx hg.1⟩
theorem tLg(hk:LN m=(.l,k))(ho:l[k]? =some ⟨dst,op,ty,pos,af,some (g,w)⟩)(h1:l[g]? =some og)(h2:og.dst=some d)(h3:O d=.bool w)
  (x:∀hx,h.Le hx->BQ E ⟨dst,op,ty,pos,af,some (g,w)⟩ O ds hx λσ' ds' h'=>ds'=ds/\∃v,σ'=putS O dst v/\hx.Le h'/\Lw k v h') (y:TD E l n fl hs ds Lw F (dK π) O h):TD E l n fl hs ds Lw F (dK (m ::π)) O h:=by
 unfold dK;rw [hk];exact ⟨_,true,ho,H1 h1 h2 h3,λe=>(by cases e),λ_=>⟨x,y⟩⟩
theorem tBg(hk:LN m=(.b,k))(ho:l[k]? =some ⟨dst,op,ty,pos,af,some (g,w)⟩)(h1:l[g]? =some og)(h2:og.dst=some d)(h3:O d=.bool w)(x:∀v hx,h.Le hx->Lw k v hx->TD E l n fl hs ds Lw F (dK π) (putS O dst v) hx):TD E l n fl hs ds Lw F (dK (m ::π)) O h:=by
 unfold dK;rw [hk];exact ⟨_,true,ho,H1 h1 h2 h3,λe=>(by cases e),λ_=>x⟩
theorem tN(x:F O h):TD E l n false hs ds Lw F (dK []) O h:=λhx hg=>by rw [hg.2 rfl];exact x
theorem tNf(x:∀hx,h.Le hx->F O hx):TD E l n true hs ds Lw F (dK []) O h:=λhx hg=>x hx hg.1
section
variable {V:Type} {enc:V->Array Value} {xs:List V} {h0:GH} {t:TypeId} {a ix:Operand} {z:Nat} {sv:Value} {kd:IntKind} {i:Int}
theorem tI(hk:LN m=(.p,k))(ho:l[k]? =some ⟨dst,.indexAddr t a ix,ty,pos,af,none⟩)(ht:EB P t=some z)(hs':AH h0 sv z enc xs)(hx:AQ O a=sv)(hi:AQ O ix=.int kd i)(h0':0<=i)(h1:i<xs.length)
  (y:∀b off,AT h0 b off z (enc (xs[i.toNat]' aA))->TD E l n fl hs ds Lw F (dK π) (putS O dst (.pointer (some ⟨b,off,none⟩))) h):TD E l n fl hs ds Lw F (dK (m ::π)) O h:=by
 obtain ⟨p,cap,rfl,_,_,he⟩:=hs';obtain ⟨b,off,rfl,hb⟩:=he i.toNat aA;exact tP hk ho (λ_=>Bf ht hx hi h0' h1 vz) (y b _ hb)
theorem tSl{olo ohi:Option Operand}(lo hi:Nat)(hk:LN m=(.p,k))(ho:l[k]? =some ⟨dst,.slice t a olo ohi none,ty,pos,af,none⟩)(ht:EB P t=some z)(hs':AH h0 sv z enc xs)(hx:AQ O a=sv)
  (hlo:LoIs O olo lo 0) (hhi:LoIs O ohi hi xs.length) (h1:lo<=hi) (h2:hi<=xs.length)
  (y:∀v',AH h0 v' z enc ((xs.take hi).drop lo)->TD E l n fl hs ds Lw F (dK π) (putS O dst v') h):TD E l n fl hs ds Lw F (dK (m ::π)) O h:=by
 have h3:=hs';obtain ⟨p,cap,rfl,hc,_,_⟩:=hs';exact tP hk ho (λ_=>K3 lo hi ht hc hx hlo hhi h1 h2 vz) (y _ (h3.part h1 h2))
theorem tIg(hk:LN m=(.p,k))(ho:l[k]? =some ⟨dst,.indexAddr t a ix,ty,pos,af,some (g,w)⟩)(h1':l[g]? =some og)(h2':og.dst=some d)(h3':O d=.bool w)(ht:EB P t=some z)(hs':AH h0 sv z enc xs)(hx:AQ O a=sv)(hi:AQ O ix=.int kd i)(h0':0<=i)(h1:i<xs.length)
  (y:∀b off,AT h0 b off z (enc (xs[i.toNat]' aA))->TD E l n fl hs ds Lw F (dK π) (putS O dst (.pointer (some ⟨b,off,none⟩))) h):TD E l n fl hs ds Lw F (dK (m ::π)) O h:=by
 obtain ⟨p,cap,rfl,_,_,he⟩:=hs';obtain ⟨b,off,rfl,hb⟩:=he i.toNat aA;exact tPg hk ho h1' h2' h3' (λ_=>Bf ht hx hi h0' h1 vz) (y b _ hb)
end
theorem eT{h':GH}{π':List (Kd×Nat)}(l2:h.Le h')(y:TD E l n fl hs ds Lw F π' (putS O dst v) h'):ds=ds/\∃v',putS O dst v=putS O dst v'/\h.Le h'/\TD E l n fl hs ds Lw F π' (putS O dst v') h':=⟨rfl,v,rfl,l2,y⟩
theorem wTL{h':GH}{π':List (Kd×Nat)}(fr:Lw n undef h')(y:TD E l n fl hs ds Lw F π' (putS O dst v) h'):ds=ds/\∃v',putS O dst v=putS O dst v'/\Lw n undef h'/\TD E l n fl hs ds Lw F π' (putS O dst v') h':=⟨rfl,v,rfl,fr,y⟩
theorem wT{h':GH}{π':List (Kd×Nat)}(y:TD E l n fl hs ds Lw F π' (putS O dst v) h'):ds=ds/\∃v',putS O dst v=putS O dst v'/\TD E l n fl hs ds Lw F π' (putS O dst v') h':=⟨rfl,v,rfl,y⟩
end
theorem HI{X:Prop}{p:Prop}[Decidable p](a:p->X)(b:¬p->X):X:=if h:p then a h else b h
theorem MT{X:Prop}{b:Bool}(x:b=true->X)(y:b=false->X):X:=by cases b with
 | true=>exact x rfl
 | false=>exact y rfl
end
end Go.Ns
namespace Go.Ns
def eI(i:Int):Array Value:=#[.int .i64 i]
def eB(i:Int):Array Value:=#[.int .u8 i]
structure Good where
 name:ByteArray
 cost:Int
 pack:Int
 low:Int
 high:Int
structure Ii where
 kind:Int
 good:Int
 day:Int
 low:Int
 high:Int
structure KB where
 good:Int
 day:Int
 low:Int
 high:Int
structure T1 where
 first:Nat->Int
 many:Nat->Int
 lies:Nat->Bool
def realOf(p:T1)(i:Nat):Int:=if p.lies i then 0 else p.many i
def Good.z:Good:=⟨⟨#[]⟩,0,0,0,0⟩
def Ii.z:Ii:=⟨0,0,0,0,0⟩
def KB.z:KB:=⟨0,0,0,0⟩
theorem EE{V:Type}{xs:List V}{i:Nat}(d:V)(hi:i<xs.length):xs.getD i d=xs[i]'hi:=by
 simp [List.getD_eq_getElem?_getD,List.getElem?_eq_getElem hi]
theorem AT.getD{V:Type}{h:GH}{b off n:Nat}{enc:V->Array Value}{xs:List V}{i:Nat}{hi:i<xs.length}(d:V)(x:AT h b off n (enc (xs[i]'hi))):AT h b off n (enc (xs.getD i d)):=by
 rw [EE d hi];exact x
theorem Ey{V:Type}{a:List V}{k:Nat}(d:V)(ha:k<a.length):a.take (k+1)=a.take k++[a.getD k d]:=by
 rw [List.take_succ_eq_append_getElem ha,EE d ha]
theorem Pc{V:Type}{a b:List V}{k:Nat}(d:V)(h:a.take k=b.take k)(ha:k<a.length)(hb:k<b.length)(e:a.getD k d=b.getD k d):a.take (k+1)=b.take (k+1):=by
 rw [Ey d ha,Ey d hb,h,e]
theorem T3{a b:List Int}{k:Nat}(h:a.take k=b.take k)(hk:k<=a.length)(hk':¬(k:Int)<a.length)(hl:(a.length:Int)=b.length):a=b:=by
 have h1:k=a.length:=aA
 have h2:b.length=a.length:=aA
 rw [h1,List.take_length,<-h2,List.take_length] at h;exact h
theorem ne_len{V:Type}{a b:List V}(h:¬(a.length:Int)=b.length):¬a=b:=λe=>h (by rw [e])
theorem ne_getD{V:Type}{a b:List V}{k:Nat}{d:V}(e:¬a.getD k d=b.getD k d):¬a=b:=λh=>e (by rw [h])
theorem has_hit{a:List Int}{k:Nat}{n:Int}(hk:(k:Int)<a.length)(e:a.getD k 0=n):n ∈ a:=by
 have hk':k<a.length:=aA
 rw [EE 0 hk'] at e;exact e▸List.getElem_mem hk'
theorem has_next{a:List Int}{k:Nat}{n:Int}(hk:(k:Int)<a.length)(h:¬n ∈ a.take k)(e:¬a.getD k 0=n):¬n ∈ a.take (k+1):=by
 rw [Ey 0 aA];simp only [List.mem_append,List.mem_singleton,not_or];exact ⟨h,λq=>e q.symm⟩
theorem has_end{a:List Int}{k:Nat}{n:Int}(hk:¬(k:Int)<a.length)(h:¬n ∈ a.take k):¬n ∈ a:=by
 rwa [List.take_of_length_le aA] at h
def EU(c:Int):Prop:=97<=c/\c<=122
def Ej(c:Int):Prop:=48<=c/\c<=57
instance (c:Int):Decidable (EU c):=inferInstanceAs (Decidable (_/\_))
instance (c:Int):Decidable (Ej c):=inferInstanceAs (Decidable (_/\_))
def idxOf{V:Type}(p:V->Bool):List V->Int
 | []=> -1
 | x ::l=>if p x then 0 else if idxOf p l<0 then-1 else idxOf p l+1
theorem Pd{V:Type}(p:V->Bool):∀l:List V,-1<=idxOf p l
 | []=>by simp [idxOf]
 | x ::l=>by have:=Pd p l;unfold idxOf;split <;> (try split) <;> omega
theorem EV{V:Type}(p:V->Bool):∀l:List V,(0<=idxOf p l)↔l.any p=true
 | []=>by simp [idxOf]
 | x ::l=>by
  have:=EV p l
  have h2:=Pd p l;unfold idxOf;cases hp:p x with
  | true=>simp [hp]
  | false=>
   simp only [Bool.false_eq_true,if_false,List.any_cons,hp,Bool.false_or];rw [<-this];split <;> omega
theorem GI{V:Type}{p:V->Bool}{l:List V}{k:Nat}{d:V}(hk:(k:Int)<l.length)(h:(l.take k).any p=false)(e:p (l.getD k d)=true):idxOf p l=k:=by
 induction l generalizing k with
 | nil=>simp at hk;omega
 | cons x l ih=>
  unfold idxOf;cases k with
  | zero=>simp at e;simp [e]
  | succ k=>
   simp only [List.take_succ_cons,List.any_cons,Bool.or_eq_false_iff] at h;rw [h.1]
   have:=ih (k:=k) (by simp at hk;omega) h.2 (by simpa using e)
   rw [this];simp only [Bool.false_eq_true,if_false];rw [if_neg aA];omega
theorem E8{V:Type}{p:V->Bool}{l:List V}{k:Nat}(hk:¬(k:Int)<l.length)(h:(l.take k).any p=false):idxOf p l= -1:=by
 rw [List.take_of_length_le aA] at h
 have:=EV p l
 have h2:=Pd p l;rw [h] at this;simp at this;omega
theorem DY{V:Type}{p:V->Bool}{l:List V}{k:Nat}{d:V}(hk:(k:Int)<l.length)(h:(l.take k).any p=false)(e:p (l.getD k d)=false):(l.take (k+1)).any p=false:=by
 rw [Ey d aA,List.any_append,h];simp only [Bool.false_or,List.any_cons,List.any_nil,Bool.or_false,e]
theorem Ba{V:Type}{l:List V}{k:Nat}{d:V}(hk:k<l.length):l.getD k d ∈ l:=by
 rw [EE d hk];exact List.getElem_mem hk
def C2(f:Nat->Int):Nat->Nat->Int
 | _,0=>0
 | i,n+1=>if f i=0 then C2 f (i+1) n else f i
theorem Pe{f:Nat->Int}{c:Int}:∀{n i k:Nat},(∀j,i<=j->j<i+k->f j=0)->k<n->f (i+k)=c->c≠0->C2 f i n=c
 | 0,i,k,_,hk,_,_=>aA
 | n+1,i,0,_,_,e,hc=>by unfold C2;rw [Nat.add_zero] at e;rw [e,if_neg hc]
 | n+1,i,k+1,h,hk,e,hc=>by
  unfold C2;rw [if_pos (h i (Nat.le_refl _) aA)];exact Pe (k:=k) (λj h1 h2=>h j aA aA) aA (by rw [<-e];congr 1;omega) hc
theorem N6{f:Nat->Int}:∀{n i:Nat},(∀j,i<=j->j<i+n->f j=0)->C2 f i n=0
 | 0,_,_=>rfl
 | n+1,i,h=>by
  unfold C2;rw [if_pos (h i (Nat.le_refl _) aA)];exact N6 λj h1 h2=>h j aA aA
theorem Db{f:Nat->Int}{k:Nat}(h:∀j,j<k->f j=0)(e:f k=0):∀j,j<k+1->f j=0:=λj hj=>by
 rcases Nat.lt_or_ge j k with q | q
 ·exact h j q
 ·rw [show j=k by omega];exact e
theorem BL{f:Nat->Int}{c:Int}{n k:Nat}(h:∀j,j<k->f j=0)(hk:k<n)(e:f k=c)(hc:c≠0):C2 f 0 n=c:=
 Pe (i:=0) (k:=k) (λj _ hj=>h j aA) hk (by rw [Nat.zero_add];exact e) hc
theorem BS{f:Nat->Int}{n k:Nat}(h:∀j,j<k->f j=0)(hk:n<=k):C2 f 0 n=0:=N6 λj _ hj=>h j aA
def G0(s:ByteArray)(k:Nat):Int:=if¬EU ((bytesOf s).getD k 0)/\(k=0\/¬Ej ((bytesOf s).getD k 0)) then 1 else 0
def Dm(s:ByteArray):Bool:=decide (C2 (G0 s) 0 s.size=0) && decide (1<=(s.size:Int)/\(s.size:Int)<=10)
theorem I4(s:ByteArray)(k:Nat):0<=(bytesOf s).getD k 0/\(bytesOf s).getD k 0<=255:=by
 by_cases h:k<(bytesOf s).length
 ·rw [EE 0 h];have h2:k<s.data.toList.length:=by rw [Cr] at h;rw [Array.length_toList];exact h
  have e:(bytesOf s)[k]'h=((s.data.toList[k]'h2).toNat:Int):=List.getElem_map _;rw [e]
  have:=(s.data.toList[k]'h2).toNat_lt
  omega
 ·simp only [List.getD_eq_getElem?_getD];rw [List.getElem?_eq_none aA];decide
theorem Lp{s:ByteArray}{k:Nat}(h:∀j,j<k->G0 s j=0)(hk:k<s.size)(e:G0 s k=1):Dm s=false:=by
 unfold Dm;rw [BL h hk e aC];simp
theorem Lq{s:ByteArray}{k:Nat}(h:∀j,j<k->G0 s j=0)(hk:s.size<=k):Dm s=decide (1<=(s.size:Int)/\(s.size:Int)<=10):=by
 unfold Dm;rw [BS h hk];simp
theorem GJ{q:Nat->Prop}{k:Nat}(h:∀j,j<k->q j)(e:q k):∀j,j<k+1->q j:=λj hj=>by
 rcases Nat.lt_or_ge j k with r | r
 ·exact h j r
 ·rw [show j=k by omega];exact e
end Go.Ns
namespace Go.Ns
open Go.Conc
def Cj(lo:Int)(k:Nat):List Int:=(List.range k).map λ(j:Nat)=>lo+(j:Int)
def JI(lo hi:Int):List Int:=Cj lo (hi-lo+1).toNat
theorem N7(lo:Int)(k:Nat):Cj lo (k+1)=Cj lo k++[lo+(k:Int)]:=by
 simp [Cj,List.range_succ]
theorem Wr{lo n:Int}{k:Nat}:n ∈ Cj lo k↔lo<=n/\n<lo+k:=by
 simp only [Cj,List.mem_map,List.mem_range];constructor
 ·rintro ⟨j,hj,rfl⟩;omega
 ·rintro ⟨h1,h2⟩;exact ⟨(n-lo).toNat,aA,aA⟩
theorem Z1{lo hi n:Int}:n ∈ JI lo hi↔lo<=n/\n<=hi:=by
 unfold JI;rw [Wr];omega
theorem Ws{β:Type}{f:Int->List β}{lo hi:Int}{k:Nat}(h:¬lo+(k:Int)<=hi)(hk:(k:Int)<=hi-lo+1\/k=0):(Cj lo k).flatMap f=(JI lo hi).flatMap f:=by
 unfold JI;congr 2;omega
theorem N8{β:Type}{f:Int->List β}{lo:Int}{k:Nat}:(Cj lo (k+1)).flatMap f=(Cj lo k).flatMap f++f (lo+k):=by
 rw [N7,List.flatMap_append];simp
def Bs(X:Nat->Prop)(h h':GH):Prop:=∀b p o,h b=some (p,o)->¬X b->∃o',h' b=some (p,o')/\(o'=o\/(KE o=true/\KE o'=true))
theorem Bs.refl(X:Nat->Prop)(h:GH):Bs X h h:=λ_ _ o x _=>⟨o,x,.inl rfl⟩
theorem GH.Le.keepX{h h':GH}(l:h.Le h')(X:Nat->Prop):Bs X h h':=λb p o x _=>l b p o x
theorem Bs.trans{X X1:Nat->Prop}{a b c:GH}(x:Bs X a b)(hX:∀r,X1 r->X r\/a r=none)(y:Bs X1 b c):Bs X a c:=λr p o hr hn=>by
 obtain ⟨o1,h1,h2⟩:=x r p o hr hn;obtain ⟨o2,h3,h4⟩:=y r p o1 h1 λq=>(hX r q).elim hn λe=>by rw [e] at hr;cases hr
 refine ⟨o2,h3,?_⟩;rcases h2 with rfl | h2
 ·exact h4
 ·rcases h4 with rfl | h4
  ·exact .inr h2
  ·exact .inr ⟨h2.1,h4.2⟩
theorem Bs.box{X:Nat->Prop}{h h':GH}(x:Bs X h h'){b:Nat}{p:Bool}{o:Obj}(hb:h b=some (p,o))(hX:¬X b)(ho:KE o=false):h' b=some (p,o):=by
 obtain ⟨o',h1,rfl | ⟨h2,_⟩⟩:=x b p o hb hX
 ·exact h1
 ·rw [ho] at h2;cases h2
theorem Bs.store{X:Nat->Prop}{h h1 h2:GH}(x:Bs X h h1){r:Nat}(hr:h r=none)(ho:∀b,b≠r->h2 b=h1 b):Bs X h h2:=λb p o hb hn=>by
 rw [ho b λe=>by subst e;rw [hr] at hb;cases hb];exact x b p o hb hn
structure Gm{V:Type}(hB:GH)(I:List V->(Nat->Prop)->GH->Prop):Prop where
 dom:∀pre X h b,I pre X h->X b->∃p o,h b=some (p,o)/\KE o=false
 stable:∀pre X h h',I pre X h->(∀b,X b->h' b=h b)->hB.Le h'->I pre X h'
theorem Gm.le{V:Type}{hB:GH}{I:List V->(Nat->Prop)->GH->Prop}(P:Gm hB I){pre:List V}{X:Nat->Prop}{h h':GH}(x:I pre X h)(l:h.Le h')(lB:hB.Le h'):I pre X h':=
 P.stable pre X h h' x (λb hb=>by
  obtain ⟨p,o,h1,h2⟩:=P.dom pre X h b x hb;rw [l.keep h1 h2,h1]) lB
theorem Gm.store{V:Type}{hB:GH}{I:List V->(Nat->Prop)->GH->Prop}(P:Gm hB I){pre:List V}{X:Nat->Prop}{h h':GH}(x:I pre X h){r:Nat}(hr:¬X r)(ho:∀b,b≠r->h' b=h b)(lB:hB.Le h'):I pre X h':=
 P.stable pre X h h' x (λb hb=>ho b λe=>hr (e▸hb)) lB
theorem Gm.off{V:Type}{hB:GH}{I:List V->(Nat->Prop)->GH->Prop}(P:Gm hB I){pre:List V}{X:Nat->Prop}{h:GH}(x:I pre X h){r:Nat}(hr:h r=none):¬X r:=λq=>by
 obtain ⟨p,o,h1,_⟩:=P.dom pre X h r x q;rw [hr] at h1;cases h1
theorem Ol{X X1:Nat->Prop}{h:GH}(hX:∀r,X1 r->X r\/h r=none){r:Nat}{o:Bool×Obj}(hr:h r=some o)(n:¬X r):¬X1 r:=λq=>(hX r q).elim n λe=>by rw [e] at hr;cases hr
def E3{V:Type}(hB:GH)(I:List V->(Nat->Prop)->GH->Prop)(S:GH->Prop)(pre:List V)(X:Nat->Prop)(h:GH)(l:List V)(v:Value)(h':GH):Prop:=
 ∃ok X',v=.bool ok/\(∀b,X' b->X b\/h b=none)/\Bs X h h'/\hB.Le h'/\(ok=true->I (pre++l) X' h')/\(ok=false->S h')
structure Pf{V:Type}{P:Program}(W:Wk P)(hB:GH)(yv:Value)(enc:V->Array Value)(I:List V->(Nat->Prop)->GH->Prop)(S:GH->Prop)(all:List V):Prop where
 prom:Gm hB I
 one:yv.cells=#[yv]
 call:∀pre p post X h,all=pre++p ::post->I pre X h->hB.Le h->Bn W yv #[.agg (enc p)] h (E3 hB I S pre X h [p])
structure Er{V:Type}(hB:GH)(I:List V->(Nat->Prop)->GH->Prop)(X0:Nat->Prop)(h:GH)(pre:List V)(X:Nat->Prop)(hc:GH):Prop where
 inv:I pre X hc
 sub:∀b,X b->X0 b\/h b=none
 keep:Bs X0 h hc
 base:hB.Le hc
section
variable {V:Type} {hB:GH} {I:List V->(Nat->Prop)->GH->Prop} {S:GH->Prop} {X0 X X1:Nat->Prop} {h hc h':GH} {pre l:List V}
theorem Er.start(x:I pre X h)(lB:hB.Le h):Er hB I X h pre X h:=⟨x,λ_ q=>.inl q,Bs.refl _ _,lB⟩
theorem Er.le(P:Gm hB I)(y:Er hB I X0 h pre X hc)(l:hc.Le h'):Er hB I X0 h pre X h':=
 ⟨P.le y.inv l (y.base.trans l),y.sub,y.keep.trans (λ_ q=>.inl q) (l.keepX X0),y.base.trans l⟩
theorem Er.store(P:Gm hB I)(y:Er hB I X0 h pre X hc){r:Nat}(hr:h r=none)(rB:hB r=none)(hn:¬X r)(ho:∀b,b≠r->h' b=hc b):Er hB I X0 h pre X h':=
 ⟨P.store y.inv hn ho (y.base.upd rB ho),y.sub,y.keep.store hr ho,y.base.upd rB ho⟩
theorem subX(s:∀b,X b->X0 b\/h b=none)(k:Bs X0 h hc)(s':∀b,X1 b->X b\/hc b=none):∀b,X1 b->X0 b\/h b=none:=λb q=>by
 rcases s' b q with q | q
 ·exact s b q
 ·by_cases q0:X0 b
  ·exact .inl q0
  ·refine .inr ?_;cases hb:h b with
   | none=>rfl
   | some x=>
    obtain ⟨o',h1,_⟩:=k b x.1 x.2 hb q0;rw [h1] at q;cases q
theorem Er.call(y:Er hB I X0 h pre X hc){v:Value}(r:E3 hB I S pre X hc l v h') :
  ∃ok X',v=.bool ok/\(∀b,X' b->X b\/hc b=none)/\Bs X hc h'/\(ok=true->Er hB I X0 h (pre++l) X' h')/\(ok=false->∀l',E3 hB I S pre X0 h l' (.bool false) h'):=by
 obtain ⟨ok,X',hv,hs,hk,hl,h1,h2⟩:=r;have kk:Bs X0 h h':=y.keep.trans y.sub hk;have ss:=subX y.sub y.keep hs;exact ⟨ok,X',hv,hs,hk,λe=>⟨h1 e,ss,kk,hl⟩,λe l'=>⟨false,X',rfl,ss,kk,hl,(λx=>by cases x),λ_=>h2 e⟩⟩
theorem Er.done(y:Er hB I X0 h (pre++l) X hc):E3 hB I S pre X0 h l (.bool true) hc:=⟨true,X,rfl,y.sub,y.keep,y.base,λ_=>y.inv,λx=>by cases x⟩
theorem Er.pass{V:Type}{hB:GH}{I:List V->(Nat->Prop)->GH->Prop}{S:GH->Prop}{X0 X:Nat->Prop}{h hc h':GH}{pre:List V}{l:List V}{v:Value}(y:Er hB I X0 h pre X hc)(r:E3 hB I S pre X hc l v h'):E3 hB I S pre X0 h l v h':=by
 obtain ⟨ok,X',hv,hs,hk,hl,h1,h2⟩:=r;exact ⟨ok,X',hv,subX y.sub y.keep hs,y.keep.trans y.sub hk,hl,h1,h2⟩
theorem E3.stopped{pre':List V}{v:Value}(hv:v=.bool false)(r:∀l',E3 hB I S pre X0 h l' (.bool false) h'):E3 hB I S pre' X0 h l v h':=by
 obtain ⟨ok,X',e,hs,hk,hl,_,h2⟩:=r [];cases e;exact ⟨false,X',hv,hs,hk,hl,(λx=>by cases x),h2⟩
end
def CS{V:Type}(all pre l:List V):Prop:=∃post,all=pre++l++post
section
variable {V:Type} {all pre a b:List V}
theorem CS.left(w:CS all pre (a++b)):CS all pre a:=by
 obtain ⟨post,h⟩:=w;exact ⟨b++post,by rw [h];simp⟩
theorem CS.right(w:CS all pre (a++b)):CS all (pre++a) b:=by
 obtain ⟨post,h⟩:=w;exact ⟨post,by rw [h];simp⟩
theorem CS.one{p:V}(w:CS all pre [p]):∃post,all=pre++p ::post:=by
 obtain ⟨post,h⟩:=w;exact ⟨post,by rw [h];simp⟩
theorem Wt(lo:Int)(i j:Nat):Cj lo (i+j)=Cj lo i++Cj (lo+i) j:=by
 unfold Cj;rw [List.range_add,List.map_append,List.map_map];congr 1;apply List.map_congr_left;intro x _;simp only [Function.comp];omega
theorem CS.round{lo hi:Int}{k:Nat}{F:Int->List V}(w:CS all pre ((JI lo hi).flatMap F))(hk:lo+(k:Int)<=hi):CS all (pre++(Cj lo k).flatMap F) (F (lo+k)):=by
 have e:JI lo hi=Cj lo k++([lo+(k:Int)]++Cj (lo+((k+1:Nat):Int)) ((hi-lo+1).toNat-(k+1))):=by
  unfold JI;rw [<-List.append_assoc,<-N7,<-Wt];congr 1;omega
 rw [e,List.flatMap_append,List.flatMap_append] at w;have w2:=w.right.left;simpa using w2
theorem CS.roundEnd{lo hi:Int}{k:Nat}{F:Int->List V}(h:¬lo+(k:Int)<=hi)(hk:(k:Int)<=hi-lo+1\/k=0):(JI lo hi).flatMap F=(Cj lo k).flatMap F:=(Ws h hk).symm
end
section
variable {ag:T1->Bool} {gs:List Good} {ms:List Ii} {mo:Int} {f i k:Nat} {p pc:T1} {all pre:List T1} {lo hi x:Int}
end
theorem Cy{f:Nat->Int}:∀{n i:Nat},C2 f i n=0->∀j,i<=j->j<i+n->f j=0
 | 0,i,_,j,h1,h2=>aA
 | n+1,i,h,j,h1,h2=>by
  unfold C2 at h;split at h
  ·rename_i e
   rcases Nat.eq_or_lt_of_le h1 with rfl | h3
   ·exact e
   ·exact Cy h j h3 aA
  ·rename_i e;exact absurd h e
section
variable {d m:Int} {gs:List Good} {ms:List Ii} {cs:List KB}
theorem Be{V:Type}{l:List V}{k:Nat}{z:V}(h:l.length<=k):l.getD k z=z:=by
 simp [List.getD_eq_getElem?_getD,List.getElem?_eq_none h]
variable {f y l:List Int}
end
section
variable {d m:Int} {gs:List Good} {ms:List Ii} {cs:List KB} {f y l:List Int}
end
theorem VC{V β:Type}{f:V->List β}{c:Nat}:∀{l:List V},(∀x ∈ l,(f x).length<=c)->(l.flatMap f).length<=l.length*c
 | [],_=>aD
 | x ::l,h=>by
  rw [List.flatMap_cons,List.length_append,List.length_cons,Nat.succ_mul];have h1:=h x aD;have h2:=VC (l:=l) λy hy=>h y (by simp [hy]);omega
theorem pre_len{V:Type}{all pre post:List V}{p:V}(h:all=pre++p ::post){n:Nat}(hn:all.length<=n):pre.length+1<=n:=by
 rw [h,List.length_append,List.length_cons] at hn;omega
theorem AH.one{V:Type}{h:GH}{v:Value}{n:Nat}{enc:V->Array Value}{xs:List V}(x:AH h v n enc xs):v.cells=#[v]/\v.oneCell'=true:=by
 obtain ⟨a,cap,rfl,_⟩:=x;exact ⟨rfl,rfl⟩
theorem FW{v:Value}(h:v.cells=#[v]/\v.oneCell'=true):Value.fine v=true:=by unfold Value.fine;rw [h.1];simp [h.2]
theorem FX{v:Value}(h:v.cells=#[v]/\v.oneCell'=true):v.cells.size=1:=by rw [h.1];rfl
theorem G1{v:Value}(h:v.cells=#[v]/\v.oneCell'=true){c c':Array Value}{o:Nat}(e:BZ c o [v]=c'):BZ c o v.cells.toList=c':=by rw [h.1];exact e
end Go.Ns
namespace Go.Ns
open Go.Conc
section
variable {P:Program} {E:Gq P} {O:Nat->Value} {ds:List Deferred} {V:Type}
def VD(hB:GH)(J:List V->(Nat->Prop)->GH->Prop)(Stop:Code->GH->Prop)(pre:List V)(Y:Nat->Prop)(h:GH)(l:Nat)(lo:Loop):Post:=λe _ _ h3=>
 h3 l=some (true,.loop { lo with state:=.busy })/\∃Y',(∀b,Y' b->Y b\/h b=none)/\Bs (λb=>Y b\/b=l) h h3/\hB.Le h3/\match e with
  | .normal=>J pre Y' h3
  | .exit id=>Stop (.exit id) h3
  | .ret=>Stop .ret h3
  | _=>False
def N9(J:List V->(Nat->Prop)->GH->Prop)(l d:Nat)(lo:Loop)(pre:List V)(X:Nat->Prop)(h:GH):Prop:=
 ∃Y,J pre Y h/\(∀b,X b↔Y b\/b=l\/b=d)/\¬Y l/\¬Y d/\h l=some (true,.loop lo)/\h d=some (true,.deferred (some []))
def SX(Stop:Code->GH->Prop)(l d:Nat)(lo:Loop)(h:GH):Prop:=
 ∃c,Stop c h/\h l=some (true,.loop { lo with state:=.done,pending:=some c })/\h d=some (true,.deferred (some []))
def YEnd(hB:GH)(I:List V->(Nat->Prop)->GH->Prop)(Sp:GH->Prop)(all:List V)(X:Nat->Prop)(h h':GH):Prop:=
 ∃X',(∀b,X' b->X b\/h b=none)/\Bs X h h'/\hB.Le h'/\(I all X' h'\/Sp h')
theorem E3.final{hB:GH}{I:List V->(Nat->Prop)->GH->Prop}{Sp:GH->Prop}{all:List V}{X:Nat->Prop}{h h':GH}{v:Value}(r:E3 hB I Sp [] X h all v h'):YEnd hB I Sp all X h h':=by
 obtain ⟨ok,X',hv,hs,hk,hl,h1,h2⟩:=r;cases ok with
 | true=>exact ⟨X',hs,hk,hl,.inl (h1 rfl)⟩
 | false=>exact ⟨X',hs,hk,hl,.inr (h2 rfl)⟩
theorem tr_range{enc:V->Array Value}{all:List V}{hB hc:GH}{J:List V->(Nat->Prop)->GH->Prop}{Stop:Code->GH->Prop}{Y0:Nat->Prop}{par:Tmp}{f:Operand}{assign body:Code}{Q:Post}
  (hrd:E.rd=none) (hpar:Nat.blt par E.N=true) (hJ:Gm hB J) (hB0:hB.Le hc) (j0:J [] Y0 hc)
  (hS:∀c (h h':GH) l lo,Stop c h->h l=some (true,.loop lo)->(∀b,b≠l->h' b=h b)->Stop c h')
  (src:∀(yv:Value)(I:List V->(Nat->Prop)->GH->Prop)(Sp:GH->Prop)(X:Nat->Prop)(h:GH),Pf E.wk hB yv enc I Sp all->hB.Le h->I [] X h->Bn E.wk (AQ O f) #[yv] h λ_ h'=>YEnd hB I Sp all X h h')
  (round:∀(l d:Nat)(lo:Loop)(pre:List V)(p:V)(post:List V)(Y:Nat->Prop)(h:GH),all=pre++p ::post->J pre Y h->hB.Le h->hB l=none->¬Y l->h l=some (true,.loop lo)->
   Tr ⟨E.wk,E.fn,some l,E.N⟩ assign (upd O par (.agg (enc p))) [] h λe σ' ds' h1=>e=.normal/\h1 l=some (true,.loop lo)/\∀h2,h2 l=some (true,.loop { lo with state:=.busy })->(∀b,b≠l->h2 b=h1 b)->
    Tr ⟨E.wk,E.fn,some l,E.N⟩ body σ' ds' h2 (VD hB J Stop (pre++[p]) Y h l lo))
  (fin:∀(d l:Nat)(h':GH),hB.Le h'->hB d=none->hB l=none->hc d=none->h' d=some (true,.deferred (some []))->
   (∀Y,J all Y h'->(∀b,Y b->b≠d)->Q .normal O ({ target:=.collected d,args:=#[] } ::ds) h')/\
   (∀c,Stop c h'->match c with
    | .exit id=>Q (.exit id) O ({ target:=.collected d,args:=#[] } ::ds) h'
    | .ret=>Q .ret O ({ target:=.collected d,args:=#[] } ::ds) h'
    | _=>False)):Tr E (.rangeFunc f #[par] assign body) O ds hc Q:=by
 refine MQ hrd λt d l hs hd hl hne=>?_;have hl':hB l=none:=hB0.nothing hl;have hd':hB d=none:=hB0.nothing hd;let lo:Loop:={ state:=.ready,pending:=none,fn:=E.fn,tmps:=t,params:=#[par],assign,body,defers:=d };have nYl:¬Y0 l:=hJ.off j0 hl;have nYd:¬Y0 d:=hJ.off j0 hd;have hL1:((hc.set d true (.deferred (some []))).set l true (.loop lo)) l=some (true,.loop lo):=GH.set_same _ _ _ _;have hL2:((hc.set d true (.deferred (some []))).set l true (.loop lo)) d=some (true,.deferred (some [])):=by rw [GH.set_ne _ _ _ (Ne.symm hne)];exact GH.set_same _ _ _ _
 have hL3:∀b,b≠l->b≠d->((hc.set d true (.deferred (some []))).set l true (.loop lo)) b=hc b:=λb h1 h2=>by rw [GH.set_ne _ _ _ h1,GH.set_ne _ _ _ h2]
 have hLB:hB.Le ((hc.set d true (.deferred (some []))).set l true (.loop lo)):=(hB0.trans (GH.Le.new hd _ _)).trans (GH.Le.new (by rw [GH.set_ne _ _ _ hne];exact hl) _ _);have hI0:N9 J l d lo [] (λb=>Y0 b\/b=l\/b=d) ((hc.set d true (.deferred (some []))).set l true (.loop lo)):=by
  refine ⟨Y0,hJ.stable _ _ hc _ j0 (λb hb=>hL3 b (λe=>nYl (e▸hb)) (λe=>nYd (e▸hb))) hLB,λb=>Iff.rfl,nYl,nYd,hL1,hL2⟩
 have prom:Gm hB (N9 J l d lo):=by
  refine ⟨?_,?_⟩
  ·rintro pre X h b ⟨Y,j,hX,_,_,h1,h2⟩ hb;rcases (hX b).1 hb with h3 | rfl | rfl
   ·exact hJ.dom _ _ _ _ j h3
   ·exact ⟨_,_,h1,rfl⟩
   ·exact ⟨_,_,h2,rfl⟩
  ·rintro pre X h h' ⟨Y,j,hX,n1,n2,h1,h2⟩ same lB;refine ⟨Y,hJ.stable _ _ h h' j (λb hb=>same b ((hX b).2 (.inl hb))) lB,hX,n1,n2,?_,?_⟩
   ·rw [same l ((hX l).2 (.inr (.inl rfl)))];exact h1
   ·rw [same d ((hX d).2 (.inr (.inr rfl)))];exact h2
 have yk:Pf E.wk hB (.func (.yield l) #[] #[]) enc (N9 J l d lo) (SX Stop l d lo) all:=by
  refine ⟨prom,rfl,?_⟩;rintro pre p post X h hall ⟨Y,j,hX,n1,n2,h1,h2⟩ lB;refine PT h1 rfl ?_;have ef:(lo.params.zip #[Value.agg (enc p)]).foldl (λtmps x=>tmps.setIfInBounds x.1 x.2) lo.tmps=t.setIfInBounds par (.agg (enc p)):=by simp [lo]
  rw [ef];show BP E.wk l E.fn (t.setIfInBounds par (.agg (enc p))) assign body h _;have hs':=hs.put hpar (.agg (enc p));refine N4 (N:=E.N) hs'.1 ?_;have e0:(λi=>(t.setIfInBounds par (.agg (enc p))).getD i undef)=upd O par (.agg (enc p)):=funext hs'.2;rw [e0];refine Kx ?_ (round l d lo pre p post Y h hall j lB hl' n1 h1);rintro e σ' ds' ha ⟨rfl,ha1,hb⟩;refine ⟨rfl,lo,ha1,rfl,?_⟩;refine Kx ?_ (hb _ (GH.set_same _ _ _ _) λb hb=>GH.set_ne _ _ _ hb);rintro e σ2 ds2 h3 ⟨g1,Y',g2,g3,g4,g5⟩;have hd3:h3 d=some (true,.deferred (some [])):=g3.box h2 (λq=>q.elim n2 (λe=>hne e.symm)) rfl;have nl:¬Y' l:=λq=>(g2 l q).elim n1 λe=>by rw [h1] at e;cases e
  have nd:¬Y' d:=λq=>(g2 d q).elim n2 λe=>by rw [h2] at e;cases e
  have key:∀(lo2:Loop)(ok:Bool),(if ok then J (pre++[p]) Y' (h3.set l true (.loop lo2))/\lo2=lo else SX Stop l d lo (h3.set l true (.loop lo2)))->E3 hB (N9 J l d lo) (SX Stop l d lo) pre X h [p] (.bool ok) (h3.set l true (.loop lo2)):=by
   intro lo2 ok hok;refine ⟨ok,λb=>Y' b\/b=l\/b=d,rfl,?_,?_,?_,?_,?_⟩
   ·rintro b (hb | rfl | rfl)
    ·exact (g2 b hb).imp (λq=>(hX b).2 (.inl q)) id
    ·exact .inl ((hX _).2 (.inr (.inl rfl)))
    ·exact .inl ((hX _).2 (.inr (.inr rfl)))
   ·intro b q o hb hn;have nb:b≠l:=λe=>hn ((hX b).2 (.inr (.inl e)));rw [GH.set_ne _ _ _ nb];exact g3 b q o hb λq=>q.elim (λz=>hn ((hX b).2 (.inl z))) nb
   ·exact g4.upd hl' λb hb=>GH.set_ne _ _ _ hb
   ·rintro rfl;simp only [if_true] at hok;obtain ⟨hj,rfl⟩:=hok;exact ⟨Y',hj,λb=>Iff.rfl,nl,nd,GH.set_same _ _ _ _,by rw [GH.set_ne _ _ _ (Ne.symm hne)];exact hd3⟩
   ·rintro rfl;simpa using hok
  have js:∀(lo2:Loop),J (pre++[p]) Y' h3->J (pre++[p]) Y' (h3.set l true (.loop lo2)):=λlo2 hj=>hJ.store hj nl (λb hb=>GH.set_ne _ _ _ hb) (g4.upd hl' λb hb=>GH.set_ne _ _ _ hb);have ss:∀c (lo2:Loop),Stop c h3->Stop c (h3.set l true (.loop lo2)):=λc lo2 hc=>hS c h3 _ l _ hc g1 λb hb=>GH.set_ne _ _ _ hb;refine ⟨_,g1,?_⟩;cases e with
  | normal=>exact key _ true (by simp only [if_true];exact ⟨js _ g5,rfl⟩)
  | exit id=>exact key _ false (by simp only [Bool.false_eq_true,if_false];exact ⟨_,ss _ _ g5,GH.set_same _ _ _ _,by rw [GH.set_ne _ _ _ (Ne.symm hne)];exact hd3⟩)
  | ret=>exact key _ false (by simp only [Bool.false_eq_true,if_false];exact ⟨_,ss _ _ g5,GH.set_same _ _ _ _,by rw [GH.set_ne _ _ _ (Ne.symm hne)];exact hd3⟩)
  | goto _=>exact g5.elim
  | panic _=>exact g5.elim
  | outgrown=>exact g5.elim
 refine (src _ _ _ _ _ yk hLB hI0).mono ?_;rintro v h' ⟨X',hs',hk,hl2,hor⟩;rcases hor with ⟨Y,j,hX,n1,n2,h1,h2⟩ | ⟨c,hst,h1,h2⟩
 ·refine ⟨lo,h1,rfl,?_⟩;show Q .normal O _ _;have hB':=hl2.upd hl' (λb hb=>GH.set_ne h' true (.loop { lo with state:=.exhausted }) hb);refine (fin d l _ hB' hd' hl' hd (by rw [GH.set_ne _ _ _ (Ne.symm hne)];exact h2)).1 Y (hJ.store j n1 (λb hb=>GH.set_ne _ _ _ hb) hB') λb hb e=>n2 (e▸hb)
 ·refine ⟨_,h1,rfl,?_⟩;have hB':=hl2.upd hl' (λb hb=>GH.set_ne h' true (.loop { { lo with state:=.done,pending:=some c } with state:=.exhausted }) hb)
  have:=(fin d l _ hB' hd' hl' hd (by rw [GH.set_ne _ _ _ (Ne.symm hne)];exact h2)).2 c (hS c h' _ l _ hst h1 λb hb=>GH.set_ne _ _ _ hb)
  cases c with
  | exit id=>exact this
  | ret=>exact this
  | _=>exact this.elim
structure O4(hB:GH)(X:Nat->Prop)(h hc:GH):Prop where
 keep:Bs X h hc
 base:hB.Le hc
 dom:∀b,X b->∃o,hc b=some o
section
variable {hB h hc h':GH} {X:Nat->Prop}
theorem GH.Le.someOf{h h':GH}(l:h.Le h'){b:Nat}(x:∃o,h b=some o):∃o,h' b=some o:=by
 obtain ⟨o,hb⟩:=x;obtain ⟨o',h1,_⟩:=l b o.1 o.2 hb;exact ⟨_,h1⟩
theorem O4.start(lB:hB.Le h)(d:∀b,X b->∃o,h b=some o):O4 hB X h h:=⟨Bs.refl _ _,lB,d⟩
theorem O4.le(r:O4 hB X h hc)(l:hc.Le h'):O4 hB X h h':=⟨r.keep.trans (λ_ q=>.inl q) (l.keepX X),r.base.trans l,λb hb=>l.someOf (r.dom b hb)⟩
theorem O4.nothing(r:O4 hB X h hc){q:Nat}(hq:hc q=none):h q=none:=by
 cases hx:h q with
 | none=>rfl
 | some x=>
  by_cases hX:X q
  ·obtain ⟨o,ho⟩:=r.dom q hX;rw [hq] at ho;cases ho
  ·obtain ⟨o',h1,_⟩:=r.keep q x.1 x.2 hx hX;rw [hq] at h1;cases h1
theorem O4.store(r:O4 hB X h hc){q:Nat}(hq:X q\/h q=none)(rB:hB q=none)(ho:∀b,b≠q->h' b=hc b)(hn:∃o,h' q=some o):O4 hB X h h':=
 ⟨λb p o hb hX=>by
   have nb:b≠q:=λe=>by
    subst e;rcases hq with hq | hq
    ·exact hX hq
    ·rw [hq] at hb;cases hb
   rw [ho b nb];exact r.keep b p o hb hX,
  r.base.upd rB ho,λb hb=>by
   by_cases e:b=q
   ·subst e;exact hn
   ·rw [ho b e];exact r.dom b hb⟩
theorem Bs.app{v v':Value}(k:Bs X h hc)(g:Gr hc h' v v')(hv:∀b,CW v=some b->X b):Bs X h h':=λb p o hb hX=>by
 obtain ⟨o',h1,h2⟩:=k b p o hb hX;exact ⟨o',g.1 b _ h1 λe=>hX (hv b e),h2⟩
theorem Bs.store'{q:Nat}(k:Bs X h hc)(hq:X q\/h q=none)(ho:∀b,b≠q->h' b=hc b):Bs X h h':=λb p o hb hX=>by
 have nb:b≠q:=λe=>by
  subst e;rcases hq with hq | hq
  ·exact hX hq
  ·rw [hq] at hb;cases hb
 rw [ho b nb];exact k b p o hb hX
end
def GH.del(h:GH)(r:Nat):GH:=λb=>if b=r then none else h b
theorem GH.del_le(h:GH)(r:Nat):(h.del r).Le h:=λb p o hb=>by
 unfold GH.del at hb;split at hb
 ·cases hb
 ·exact ⟨o,hb,.inl rfl⟩
theorem GH.del_none(h:GH)(r:Nat):h.del r r=none:=if_pos rfl
theorem GH.del_ne{h:GH}{r b:Nat}(e:b≠r):h.del r b=h b:=if_neg e
theorem GH.Le.del{h0 h:GH}(l:h0.Le h){r:Nat}(hr:h0 r=none):h0.Le (h.del r):=λb p o hb=>by
 rw [GH.del_ne (GH.ne_of hb hr)];exact l b p o hb
theorem AT.del{h:GH}{r b off n:Nat}{vs:Array Value}(x:AT h b off n vs)(e:b≠r):AT (h.del r) b off n vs:=x.same (GH.del_ne e)
theorem T4{W:Wk P}{x v:Value}{args:Array Value}{h:GH}{R:Value->GH->Prop}(e:x=v)(k:Bn W v args h R):Bn W x args h R:=e▸k
def JCol{V:Type}(hB:GH)(r:Nat)(T t:TypeId)(n:Nat)(enc:V->Array Value)(pre:List V)(Y:Nat->Prop)(h:GH):Prop:=
 ∃w,h r=some (true,.cells #[w] T (0,0))/\AO hB h w t n enc pre/\Ay w r/\hB r=none/\∀b,Y b↔b=r\/CW w=some b
theorem AO.cellsAt{V:Type}{h0 h:GH}{v:Value}{t:TypeId}{n:Nat}{enc:V->Array Value}{xs:List V}(x:AO h0 h v t n enc xs):∀b,CW v=some b->∃c,h b=some (true,.cells c t (0,0)):=by
 intro b hb;rcases x with ⟨rfl,_⟩ | ⟨b',cap,c,rfl,h1,h2,_⟩
 ·cases hb
 ·simp [CW] at hb;subst hb;exact ⟨_,h2⟩
theorem SY{V:Type}(hB:GH)(r:Nat)(T t:TypeId)(n:Nat)(enc:V->Array Value):Gm hB (JCol hB r T t n enc):=by
 refine ⟨?_,?_⟩
 ·rintro pre Y h b ⟨w,h1,h2,h3,h0,h4⟩ hb;rcases (h4 b).1 hb with rfl | h5
  ·exact ⟨_,_,h1,rfl⟩
  ·obtain ⟨c,hc⟩:=h2.cellsAt b h5;exact ⟨_,_,hc,rfl⟩
 ·rintro pre Y h h' ⟨w,h1,h2,h3,h0,h4⟩ same lB;refine ⟨w,by rw [same r ((h4 r).2 (.inl rfl))];exact h1,h2.keep λb o hb ho=>by rw [same b ((h4 b).2 (.inr hb))];exact ho,h3,h0,h4⟩
theorem Wu{V:Type}{hB h:GH}{r:Nat}{T t:TypeId}{n:Nat}{enc:V->Array Value}(x:h r=some (true,.cells #[.slice none 0 0] T (0,0)))(h0:hB r=none):JCol hB r T t n enc [] (λb=>b=r) h:=
 ⟨_,x,AO.nil _ _ _ _ _,Ay.nil,h0,λ_=>⟨.inl,λq=>q.elim id λe=>by cases e⟩⟩
theorem jcol_end{V:Type}{hB h h' ha hb:GH}{r:Nat}{T t:TypeId}{n:Nat}{enc:V->Array Value}{pre:List V}{w w':Value}{Y:Nat->Prop}(hY:∀b,Y b↔b=r\/CW w=some b)(g:Gr ha hb w w')(hn:∀q,ha q=none->h q=none)
  (x:h' r=some (true,.cells #[w'] T (0,0))) (o:AO hB h' w' t n enc pre) (f:Ay w' r) (h0:hB r=none) :
  ∃Y',(∀b,Y' b->Y b\/h b=none)/\JCol hB r T t n enc pre Y' h':=by
 refine ⟨λb=>b=r\/CW w'=some b,?_,w',x,o,f,h0,λ_=>Iff.rfl⟩;rintro b (rfl | hb)
 ·exact .inl ((hY _).2 (.inl rfl))
 ·rcases g.2 with e | ⟨⟨q,e1,e2⟩,_⟩
  ·exact .inl ((hY _).2 (.inr (by rw [<-e];exact hb)))
  ·rw [e1] at hb;cases hb;exact .inr (hn _ e2)
theorem NI{fn:Func}{O:Nat->Value}{R:Value->GH->Prop}{d:Nat}{ds:List Deferred}{h:GH}(hd:h d=some (true,.deferred (some [])))(x:∀h',(∀b,b≠d->h' b=h b)->GU P fn O R ds h') :
  GU P fn O R ({ target:=.collected d,args:=#[] } ::ds) h:=⟨d,rfl,_,hd,rfl,x _ λb hb=>GH.set_ne _ _ _ hb⟩
end
end Go.Ns
namespace Go.Ns
open Go.Conc
section
variable {P:Program} {E:Gq P}
abbrev Law2:=(Nat->Value)->Value->GH->Prop
def KeepD(S:Nat->Prop)(h h':GH):Prop:=Bs S h h'/\∀b,(∃o,h b=some o)->∃o,h' b=some o
section
variable {Pre:Nat->GH->Prop} {Φ:List Law2} {S:Nat->Prop} {k:Nat} {cl:List Nat} {h h':GH}
end
theorem AO.apartTy{V β:Type}{h0 h1 h:GH}{v w:Value}{t t':TypeId}{n n':Nat}{enc:V->Array Value}{enc':β->Array Value}{xs:List V}{ys:List β}(x:AO h0 h v t n enc xs)(y:AO h1 h w t' n' enc' ys)(ne:t≠t'):Apart v w:=λb e e'=>by
 rcases x with ⟨rfl,_⟩ | ⟨b1,_,c1,rfl,_,h2,_⟩
 ·cases e
 ·rcases y with ⟨rfl,_⟩ | ⟨b2,_,c2,rfl,_,h3,_⟩
  ·cases e'
  ·simp only [CW,Option.some.injEq] at e e';subst e;subst e';rw [h2] at h3;simp only [Option.some.injEq,Prod.mk.injEq,Obj.cells.injEq] at h3;exact ne h3.2.2.1
end
end Go.Ns
namespace Go.Ns
open Go.Conc
section
variable {P:Program} {E:Gq P} {O:Nat->Value} {ds:List Deferred} {h:GH} {T:(Nat->Value)->List Deferred->GH->Prop}
variable {dst:Option Nat} {ty:TypeId} {pos:String} {af:Array Edge} {gd:Option (Nat×Bool)}
def Wv:Value->Bool
 | .slice none _ _=>true
 | _=>false
theorem Z2{xt yt:TypeId}{x y:Operand}{a:Option Addr}{l c:Nat}(ht:JU P xt=true)(hx:AQ O x=.slice a l c)(hy:AQ O y=.slice none 0 0)(k:T (putS O dst (.bool (Wv (.slice a l c)))) ds h) :
  BQ E ⟨dst,.binOp .eql xt x y yt,ty,pos,af,gd⟩ O ds h T:=by
 unfold BQ execOp;simp only [hx,hy];refine F7 (AD _ _ ?_);show Sem.gh P (do pure (Value.bool (<-Op.equal xt (.slice a l c) (.slice none 0 0))):Sem Value) h _;refine AD _ _ ?_;unfold Op.equal Op.maxDepth;show (Op.equalIn (9999+1) xt (.slice a l c) (.slice none 0 0)).gh P h _;unfold Op.equalIn;unfold JU at ht;cases hu:P.underlying xt with
 | none=>rw [hu] at ht;cases ht
 | some d=>
  rw [hu] at ht;refine AD _ _ (Al hu ?_);cases d <;> first | (cases ht;done) | skip
  cases a with
  | none=>exact k
  | some a=>exact k
theorem IP{V:Type}{xt yt:TypeId}{x y:Operand}{v:Value}{n:Nat}{enc:V->Array Value}{xs:List V}(ht:JU P xt=true)(s:AH h v n enc xs)(hx:AQ O x=v)(hy:AQ O y=.slice none 0 0)(k:T (putS O dst (.bool (Wv v))) ds h) :
  BQ E ⟨dst,.binOp .eql xt x y yt,ty,pos,af,gd⟩ O ds h T:=by
 obtain ⟨a,cap,rfl,_⟩:=s;exact Z2 ht hx hy k
theorem IQ{V:Type}{v:Value}{n:Nat}{enc:V->Array Value}{xs:List V}(s:AH h v n enc xs)(e:Wv v=true):xs=[]:=by
 obtain ⟨a,cap,rfl,_,_,q⟩:=s;cases a with
 | some a=>cases e
 | none=>
  cases xs with
  | nil=>rfl
  | cons x xs=>obtain ⟨b,off,h1,_⟩:=q 0 aD;cases h1
theorem shr_eq{a:Int}{k:Nat}(h:k<=63):a.fdiv (2 ^ (min ((k:Int)).toNat IntKind.i64.bits))=a.fdiv (2 ^ k):=by
 have:min ((k:Int)).toNat IntKind.i64.bits=k:=by
  show min ((k:Int)).toNat 64=k;omega
 rw [this]
theorem shl_eq{k:Nat}(h:k<=60):IntKind.i64.wrap (1*2 ^ (min ((k:Int)).toNat IntKind.i64.bits))=2 ^ k:=by
 have:min ((k:Int)).toNat IntKind.i64.bits=k:=by
  show min ((k:Int)).toNat 64=k;omega
 rw [this,Int.one_mul];have h1:(2:Int) ^ k<=2 ^ 60:=by
  have:=Nat.pow_le_pow_right (show 0<2 by decide) h
  exact_mod_cast this
 have h2:(0:Int)<=2 ^ k:=by
  have:=Nat.zero_le (2 ^ k)
  exact_mod_cast this
 exact IntWalk.i64_in _ aA
end
theorem Pg{a:Int}(h:0<=a/\a<=65535)(k:Nat):0<=a.fdiv (2 ^ k)/\a.fdiv (2 ^ k)<=65535:=by
 have hp:(0:Int)<2 ^ k:=by
  have:=Nat.pow_pos (n:=k) (show 0<2 by decide)
  exact_mod_cast this
 rw [Int.fdiv_eq_ediv_of_nonneg _ (Int.le_of_lt hp)];refine ⟨Int.ediv_nonneg h.1 (Int.le_of_lt hp),Int.le_trans (Int.ediv_le_self _ h.1) h.2⟩
def OA(mask:Int)(k:Nat):Bool:=decide (mask.fdiv (2 ^ k)%2=1)
def D2(mask:Int)(k:Nat):List Int:=((List.range k).filter (OA mask)).map λ(i:Nat)=>(i:Int)
theorem KL{p:Nat->Bool}{k:Nat}(h:p k=true):(List.range (k+1)).filter p=(List.range k).filter p++[k]:=by
 rw [List.range_succ,List.filter_append];simp [h]
theorem KM{p:Nat->Bool}{k:Nat}(h:p k=false):(List.range (k+1)).filter p=(List.range k).filter p:=by
 rw [List.range_succ,List.filter_append];simp [h]
theorem pickI_t{mask:Int}{k:Nat}(h:mask.fdiv (2 ^ k)%2=1):D2 mask (k+1)=D2 mask k++[(k:Int)]:=by
 unfold D2;rw [KL (by unfold OA;rw [decide_eq_true h]),List.map_append];rfl
theorem pickI_f{mask:Int}{k:Nat}(h:¬mask.fdiv (2 ^ k)%2=1):D2 mask (k+1)=D2 mask k:=by
 unfold D2;rw [KM (by unfold OA;rw [decide_eq_false h])]
theorem SZ(mask:Int)(k:Nat):(D2 mask k).length<=k:=by
 unfold D2;rw [List.length_map]
 have:=List.length_filter_le (OA mask) (List.range k)
 rwa [List.length_range] at this
def T5(a b:Int):Int:=if a<b then-1 else if b<a then 1 else 0
def K7(a b:List Int):Nat->Nat->Int
 | 0,_=>if (a.length:Int)<b.length then-1 else 0
 | f+1,k=>if (b.length:Int)<=k then 1 else if¬T5 (a.getD k 0) (b.getD k 0)=0 then T5 (a.getD k 0) (b.getD k 0) else K7 a b f (k+1)
def VE(a b:List Int):Int:=K7 a b a.length 0
theorem OB{a b:List Int}{k:Nat}(hk:¬(k:Int)<a.length):K7 a b (a.length-k) k=if (a.length:Int)<b.length then-1 else 0:=by
 rw [show a.length-k=0 by omega];rfl
theorem Ls{a b:List Int}{k:Nat}(hk:k<a.length):K7 a b (a.length-k) k=if (b.length:Int)<=k then 1 else if¬T5 (a.getD k 0) (b.getD k 0)=0 then T5 (a.getD k 0) (b.getD k 0) else K7 a b (a.length-(k+1)) (k+1):=by
 rw [show a.length-k=(a.length-(k+1))+1 by omega];rfl
abbrev Sl:=Value×List Int
def Sl.z:Sl:=(.slice none 0 0,[])
def H2(x:Sl):Array Value:=#[x.1]
def Hr(h:GH)(l:List Sl):Prop:=∀k,AH h (l.getD k Sl.z).1 1 eI (l.getD k Sl.z).2
theorem Hr.le{h h':GH}{l:List Sl}(x:Hr h l)(e:h.Le h'):Hr h' l:=λk=>(x k).le e
def A4(l:List Sl):List (List Int):=l.map (·.2)
theorem GA{l:List Sl}{k:Nat}(hk:k<l.length):(A4 l).getD k []=(l.getD k Sl.z).2:=by
 unfold A4;rw [EE [] (by simpa using hk),EE Sl.z hk];simp
end Go.Ns
namespace Go.Ns
open Go.Conc
def D1(n:Int):Value:=.int .i64 n
section
variable {hB h hc h':GH} {ms:List Ii} {pasts:List T1} {r:Nat}
end
section
variable {P:Program} {E:Gq P} {O:Nat->Value} {ds:List Deferred} {h:GH} {T:(Nat->Value)->List Deferred->GH->Prop}
variable {dst:Option Nat} {ty:TypeId} {pos:String} {af:Array Edge} {gd:Option (Nat×Bool)}
end
section
variable {hB h hc h':GH} {ms:List Ii} {pasts:List T1} {r:Nat}
theorem AO.keepX{V:Type}{X:Nat->Prop}{h0:GH}{v:Value}{t:TypeId}{n:Nat}{enc:V->Array Value}{xs:List V}(x:AO h0 h v t n enc xs)(k:Bs X h h')(hS:∀b,CW v=some b->¬X b):AO h0 h' v t n enc xs:=by
 rcases x with x | ⟨b,cap,c,rfl,h2,h3,h4⟩
 ·exact .inl x
 ·exact .inr ⟨b,cap,c,rfl,h2,k.box h3 (hS b rfl) rfl,h4⟩
theorem AH.slDel{V:Type}{v:Value}{n:Nat}{enc:V->Array Value}{xs:List V}(x:AH h v n enc xs){p:Bool}{es:Array MapEntry}{clk:Nat}(hr:h r=some (p,.map es clk)):AH (h.del r) v n enc xs:=by
 obtain ⟨a,cap,hv,hc,hm,he⟩:=x;refine ⟨a,cap,hv,hc,hm,λi hi=>?_⟩;obtain ⟨b,off,h1,h2⟩:=he i hi;refine ⟨b,off,h1,h2.del λe=>?_⟩;obtain ⟨p',c,t,f,hb,_⟩:=h2;rw [e,hr] at hb;cases hb
end
section
variable {P:Program} {E:Gq P} {O:Nat->Value} {ds:List Deferred} {h:GH}
end
section
variable {d m:Int} {gs:List Good} {ms:List Ii} {cs:List KB} {o:List Int}
end
end Go.Ns
namespace Go.Ns
open Go.Conc Go.Sort
def E4(rest:List Value)(d:Array Int):Array Value:=(d.toList.map (λx=>Value.int .i64 x)++rest).toArray
theorem IE(rest:List Value)(d:Array Int):(E4 rest d).size=d.size+rest.length:=by simp [E4]
theorem IR{rest:List Value}{d:Array Int}{i:Nat}(h:i<d.size):(E4 rest d)[0+i*1]? =some (.int .i64 d[i]!):=by
 have h1:i<(d.toList.map (λx=>Value.int .i64 x)).length:=by simpa using h
 rw [Nat.zero_add,Nat.mul_one];unfold E4;rw [List.getElem?_toArray,List.getElem?_append_left h1,List.getElem?_map];simp [h,getElem!_pos]
theorem Ph{rest:List Value}{d:Array Int}{i:Nat}{v:Int}(h:i<d.size):BZ (E4 rest d) (0+i*1) [.int .i64 v]=E4 rest (d.setIfInBounds i v):=by
 rw [Nat.zero_add,Nat.mul_one];show (E4 rest d).setIfInBounds i (.int .i64 v)=_;unfold E4;apply Array.toList_inj.1;have h1:i<(d.toList.map (λx=>Value.int .i64 x)).length:=by simpa using h
 rw [Array.toList_setIfInBounds];simp only [];rw [List.set_append_left _ _ h1,Array.toList_setIfInBounds,List.map_set]
structure D3(b:Nat)(h hc:GH):Prop where
 keep:Bs (λx=>x=b) h hc
 dom:∃o,hc b=some o
section
variable {b:Nat} {h hc h':GH}
theorem D3.start(x:∃o,h b=some o):D3 b h h:=⟨Bs.refl _ _,x⟩
theorem D3.put(y:D3 b h hc)(ho:∀x,x≠b->h' x=hc x)(x:∃o,h' b=some o):D3 b h h':=⟨y.keep.store' (.inl rfl) ho,x⟩
theorem D3.call(y:D3 b h hc)(k:Bs (λx=>x=b) hc h')(x:∃o,h' b=some o):D3 b h h':=⟨y.keep.trans (λ_ q=>.inl q) k,x⟩
end
def HW(d:Array Int)(off:Nat):Array Int:=(d.toList.take off++List.replicate (d.size-off) 0).toArray
theorem Rs(d:Array Int)(off:Nat):(HW d off).size=d.size:=by simp [HW];omega
theorem Z3{a j:Nat}{dd:Array Int}(h:(a:Int)<(j:Int)/\dd[j]! <dd[((j:Int)-1).toNat]!) :
  insInner ltInt a j dd=insInner ltInt a (j-1) ((dd.setIfInBounds j dd[((j:Int)-1).toNat]!).setIfInBounds ((j:Int)-1).toNat dd[j]!):=by
 obtain ⟨h1,h2⟩:=h;cases j with
 | zero=>omega
 | succ j=>
  have e:(((j+1:Nat):Int)-1).toNat=j:=aA
  rw [e] at h2 ⊢
  conv=>lhs;unfold insInner
  rw [if_pos (by unfold ltInt;simp;exact ⟨aA,h2⟩)];rfl
theorem ins_stop{a j:Nat}{dd:Array Int}(h:¬((a:Int)<(j:Int)/\dd[j]! <dd[((j:Int)-1).toNat]!)):insInner ltInt a j dd=dd:=by
 cases j with
 | zero=>rfl
 | succ j=>
  have e:(((j+1:Nat):Int)-1).toNat=j:=aA
  rw [e] at h;unfold insInner;rw [if_neg (by unfold ltInt;simp;intro q;exact Int.not_lt.1 λr=>h ⟨aA,r⟩)]
theorem Ru{a b i:Nat}{dd:Array Int}(h:i<b):insOuter ltInt a b i dd=insOuter ltInt a b (i+1) (insInner ltInt a i dd):=by
 conv=>lhs;unfold insOuter
 rw [if_pos h]
theorem T6{a b i:Nat}{dd:Array Int}(h:¬(i:Int)<b):insOuter ltInt a b i dd=dd:=by
 unfold insOuter;rw [if_neg aA]
def DK(l:List Int):List Int:=(Go.Sort.sort ltInt l.toArray).toList
theorem Z4{d:Array Int}{a b limit:Nat}{x y:Bool}(h:b-a<=12):pdq ltInt d a b limit x y=insertionSort ltInt d a b:=by
 unfold pdq;rw [if_pos h]
theorem Je{a r:Int}{k:Nat}(h:k<=63)(e:a / 2 ^ k=r):a.fdiv (2 ^ (min ((k:Int)).toNat IntKind.u64.bits))=r:=by
 have:min ((k:Int)).toNat IntKind.u64.bits=k:=by
  show min ((k:Int)).toNat 64=k;omega
 have hp:(0:Int)<=2 ^ k:=by
  have:=Nat.zero_le (2 ^ k)
  exact_mod_cast this
 rw [this,Int.fdiv_eq_ediv_of_nonneg _ hp,e]
section
variable {P:Program} {E:Gq P} {O:Nat->Value} {ds:List Deferred} {h:GH} {T:(Nat->Value)->List Deferred->GH->Prop}
variable {dst:Option Nat} {ty:TypeId} {pos:String} {af:Array Edge} {gd:Option (Nat×Bool)}
theorem GK{t:TypeId}{x ix:Operand}{s:ByteArray}{kd:IntKind}{i:Int}(ht:PK P t=true)(hx:AQ O x=.string s)(hi:AQ O ix=.int kd i)(h0:0<=i)(h1:i<((256:Nat):Int))(hs:s.size=256)
  (k:∀n:Int,0<=n->n<=255->T (putS O dst (.int .u8 n)) ds h):BQ E ⟨dst,.index t x ix,ty,pos,af,gd⟩ O ds h T:=
 SR ht hx hi h0 aA (k _ aA (by have:=(s[i.toNat]' aA).toNat_lt;omega))
end
theorem LV(lt:Int->Int->Bool)(a:Nat):∀(j:Nat)(d:Array Int),(insInner lt a j d).size=d.size
 | 0,d=>rfl
 | j+1,d=>by
  unfold insInner;split
  ·rw [LV lt a j];simp [swp]
  ·rfl
theorem LW(lt:Int->Int->Bool)(a b:Nat):∀(n i:Nat)(d:Array Int),b-i<=n->(insOuter lt a b i d).size=d.size
 | 0,i,d,h=>by unfold insOuter;rw [if_neg aA]
 | n+1,i,d,h=>by
  unfold insOuter;split
  ·rw [LW lt a b n (i+1) _ aA,LV]
  ·rfl
theorem Lt(d:Array Int)(a b:Nat):(insertionSort ltInt d a b).size=d.size:=LW _ _ _ _ _ _ (Nat.le_refl _)
theorem VF{l:List Int}(h:l.length<=12):DK l=(insertionSort ltInt l.toArray 0 l.toArray.size).toList:=by
 unfold DK Go.Sort.sort;rw [Z4 (by simpa using h)]
theorem ZO(l:List Int):DS eI l=l.map (λx=>Value.int .i64 x):=by
 induction l with
 | nil=>rfl
 | cons x l ih=>show (eI x).toList++DS eI l=_;rw [ih];rfl
theorem AO.row{h0 h:GH}{v:Value}{xs:List Int}(x:AO h0 h v 3 1 eI xs)(hne:xs≠[]) :
  ∃b cap rest,v=.slice (some ⟨b,0,none⟩) xs.toArray.size cap/\h b=some (true,.cells (E4 rest xs.toArray) 3 (0,0)):=by
 rcases x with ⟨_,e⟩ | ⟨b,cap,c,rfl,h1,h2,h3,h4,h5,h6,h7⟩
 ·exact absurd e hne
 ·refine ⟨b,cap,c.toList.drop xs.length,aD,?_⟩;have e:c=E4 (c.toList.drop xs.length) xs.toArray:=by
   apply Array.toList_inj.1;unfold E4;simp only [];rw [<-ZO,<-h6,Nat.mul_one,List.take_append_drop]
  rw [<-e];exact h2
theorem AO.ofRow{h0 h h':GH}{b cap:Nat}{rest:List Value}{xs:List Int}{D:Array Int}(x:AO h0 h (.slice (some ⟨b,0,none⟩) xs.toArray.size cap) 3 1 eI xs)(hne:xs≠[])(hD:D.size=xs.length)(hb:h b=some (true,.cells (E4 rest xs.toArray) 3 (0,0)))(hb':h' b=some (true,.cells (E4 rest D) 3 (0,0))) :
  AO h0 h' (.slice (some ⟨b,0,none⟩) xs.toArray.size cap) 3 1 eI D.toList:=by
 rcases x with ⟨e,_⟩ | ⟨b1,cap1,c,e,h1,h2,h3,h4,h5,h6,h7⟩
 ·cases e
 ·simp only [Value.slice.injEq,Option.some.injEq,Addr.mk.injEq] at e;obtain ⟨⟨rfl,_⟩,_,rfl⟩:=e;rw [hb] at h2;simp only [Option.some.injEq,Prod.mk.injEq,Obj.cells.injEq,true_and,and_true] at h2;subst h2;have hDl:D.toList.length=xs.length:=by rw [Array.length_toList];exact hD
  refine .inr ⟨b,cap,_,by rw [hDl];simp,h1,hb',?_,aA,aA,?_,λy _=>rfl⟩
  ·rw [IE] at h3 ⊢;rw [hD];simpa using h3
  ·unfold E4;simp only [Nat.mul_one];rw [ZO,<-List.length_map (f:=λx=>Value.int .i64 x),List.take_append_of_le_length (Nat.le_refl _),List.take_length]
theorem Bs.grownSame{h h':GH}{b cap n:Nat}(k:Bs (λx=>x=b) h h'):Gr h h' (.slice (some ⟨b,0,none⟩) n cap) (.slice (some ⟨b,0,none⟩) n cap):=
 ⟨λr o hr hn=>(by
  obtain ⟨o',h1,rfl | ⟨h2,_⟩⟩:=k r o.1 o.2 hr (λe=>hn (by rw [e];rfl))
  ·exact h1
  ·cases h2),.inl rfl⟩
section
variable {P:Program} {E:Gq P} {O:Nat->Value} {ds:List Deferred} {h:GH} {T:(Nat->Value)->List Deferred->GH->Prop}
variable {dst:Option Nat} {ty:TypeId} {pos:String} {af:Array Edge} {gd:Option (Nat×Bool)}
theorem Ww{t:TypeId}{x o:Operand}{b len cap hi:Nat}(ht:EB P t=some 1)(hc:len<=cap)(hx:AQ O x=.slice (some ⟨b,0,none⟩) len cap)(ho:∃kd,AQ O o=.int kd hi)(h2:hi<=len)(k:T (putS O dst (.slice (some ⟨b,0,none⟩) hi cap)) ds h) :
  BQ E ⟨dst,.slice t x none (some o) none,ty,pos,af,gd⟩ O ds h T:=by
 refine K3 (olo:=none) (ohi:=some o) 0 hi ht hc hx rfl ho (Nat.zero_le _) h2 ?_;have e:(if cap=0 then (some ⟨b,0,none⟩:Option Addr) else (some ⟨b,0,none⟩:Option Addr).map (·.add (0*1)))=some ⟨b,0,none⟩:=by
  split
  ·rfl
  ·simp [Iz]
 rw [e];exact k
theorem MU{t:TypeId}{x o:Operand}{b len cap lo:Nat}(ht:EB P t=some 1)(hc:len<=cap)(hx:AQ O x=.slice (some ⟨b,0,none⟩) len cap)(ho:∃kd,AQ O o=.int kd lo)(h2:lo<len)(k:T (putS O dst (.slice (some ⟨b,lo,none⟩) (len-lo) (cap-lo))) ds h) :
  BQ E ⟨dst,.slice t x (some o) none none,ty,pos,af,gd⟩ O ds h T:=by
 refine K3 (olo:=some o) (ohi:=none) lo len ht hc hx ho rfl (Nat.le_of_lt h2) (Nat.le_refl _) ?_;have e:(if cap=lo then (some ⟨b,0,none⟩:Option Addr) else (some ⟨b,0,none⟩:Option Addr).map (·.add (lo*1)))=some ⟨b,lo,none⟩:=by
  rw [if_neg aA];simp [Iz]
 rw [e];exact k
theorem VG{t e:TypeId}{x:Operand}{b off len cap:Nat}{rest:List Value}{d:Array Int}{z:Nat}(ht:Da P t=some (1,#[.int .i64 0],e))(hx:AQ O x=.slice (some ⟨b,off,none⟩) len cap)(hb:h b=some (true,.cells (E4 rest d) z (0,0)))(hn:off+len=d.size)(hl:0<len)
  (k:∀h',h' b=some (true,.cells (E4 rest (HW d off)) z (0,0))->(∀x,x≠b->h' x=h x)->T (putS O dst (.tuple #[])) ds h') :
  BQ E ⟨dst,.call ⟨.builtin .clear,#[x],#[t]⟩,ty,pos,af,gd⟩ O ds h T:=by
 refine F9 (vs:=#[.slice (some ⟨b,off,none⟩) len cap]) (s:=Builtin.clear_ #[t] ty #[.slice (some ⟨b,off,none⟩) len cap]) (by simp [hx]) (λ_=>rfl) ?_;unfold Da at ht;cases hu:P.underlying t with
 | none=>rw [hu] at ht;cases ht
 | some dd=>
 rw [hu] at ht;cases dd <;> first | (cases ht;done) | skip
 rename_i el
 simp only at ht;cases hty:CL P el with
 | none=>rw [hty] at ht;cases ht
 | some g=>
 cases hz:Bm P el with
 | none=>rw [hty,hz] at ht;cases ht
 | some z'=>
 rw [hty,hz] at ht;simp only [Option.some.injEq,Prod.mk.injEq] at ht;obtain ⟨_,rfl,rfl⟩:=ht;unfold Builtin.clear_;simp only [List.getElem?_toArray,List.getElem?_cons_zero];refine AD _ _ (Al hu ?_);obtain ⟨len,rfl⟩:∃m,len=m+1:=⟨len-1,aA⟩;have hzero:∀{Q:Value->GH->Prop}{h:GH},(∀v,v.cells=#[.int .i64 0]->Q v h)->(zeroValue el).gh P h Q:=λ{Q h} q=>by
  unfold Bm at hz;unfold zeroValue;cases hi:P.info? el with
  | none=>rw [hi] at hz;cases hz
  | some i=>
   rw [hi] at hz;simp only [Option.map_eq_some_iff] at hz;obtain ⟨v,hv,e⟩:=hz;refine AD _ _ (Cl hi ?_);rw [hv];exact q v e
 refine AD _ _ (hzero λvz hvz=>?_);rw [hvz];have hcells:(Builtin.zeroCells #[.int .i64 0] (len+1)).toList=List.replicate (len+1) (.int .i64 0):=by
  unfold Builtin.zeroCells;apply List.ext_getElem
  ·simp
  ·intro i h1 h2;simp [Nat.mod_one]
 rw [hcells];have hsz:d.size=d.toList.length:=aD
 refine AD _ _ (HG (a:=⟨b,off,none⟩) rfl _ 0 (E4 rest d) h ?_ hb ?_ ?_)
 ·intro y hy;rw [List.eq_of_mem_replicate hy];rfl
 ·rw [IE,List.length_replicate];show off+0+(len+1)<=_;omega
 ·refine Ar (k _ ?_ λx hx=>GH.set_ne _ _ _ hx);have e:BZ (E4 rest d) (off+0) (List.replicate (len+1) (.int .i64 0))=E4 rest (HW d off):=by
   apply Array.toList_inj.1;rw [Ep _ _ _ (by rw [IE,List.length_replicate];omega)];unfold E4 HW;simp only [List.length_replicate,Nat.add_zero,List.map_append,List.map_take,List.map_replicate];have h1:off<=(d.toList.map (λx=>Value.int .i64 x)).length:=by simp;omega
   rw [List.take_append_of_le_length h1,show d.size-off=len+1 by omega];congr 1;rw [show off+(len+1)=(d.toList.map (λx=>Value.int .i64 x)).length by simp;omega,List.drop_left]
  rw [<-e];exact GH.set_same _ _ _ _
end
def KN(acc:List Int)(x:Int):List Int:=if acc.getLast? =some x then acc else acc++[x]
def CI(l:List Int):List Int:=l.foldl KN []
theorem Wx(acc:List Int)(x:Int):(KN acc x).getLast? =some x:=by
 unfold KN;split
 ·assumption
 ·simp
theorem IS{d:Array Int}{j:Nat}(hj:j<d.size):CI (d.toList.take (j+1))=KN (CI (d.toList.take j)) d[j]! :=by
 have e:d.toList.take (j+1)=d.toList.take j++[d[j]!]:=by
  rw [List.take_succ_eq_append_getElem (by simpa using hj)];simp [getElem!_pos,hj]
 rw [e];unfold CI;rw [List.foldl_append];rfl
theorem Wy{d:Array Int}{j:Nat}(hj:j<d.size):(CI (d.toList.take (j+1))).getLast? =some d[j]! :=by
 rw [IS hj];exact Wx _ _
theorem NJ{rest:List Value}{d:Array Int}{o i:Nat}(h:o+i<d.size):(E4 rest d)[o+i*1]? =some (.int .i64 d[o+i]!):=by
 have:=IR (rest:=rest) h
 rw [Nat.zero_add,Nat.mul_one] at this;rw [Nat.mul_one];exact this
theorem LX{d:Array Int}{j:Nat}(hj:j<d.size):d.toList.take (j+1)=d.toList.take j++[d[j]!]:=by
 rw [List.take_succ_eq_append_getElem (by simpa using hj)];simp [getElem!_pos,hj]
theorem Jf{d:Array Int}{j:Nat}(h1:1<=j)(hj:j<=d.size):(CI (d.toList.take j)).getLast? =some d[j-1]! :=by
 obtain ⟨i,rfl⟩:∃i,j=i+1:=⟨j-1,aA⟩;exact Wy aA
theorem T7{d:Array Int}{k:Nat}(h1:1<=k)(hk:k<d.size)(h:¬d[k]! =d[((k:Int)-1).toNat]!)(hs:CI (d.toList.take k)=d.toList.take k):CI (d.toList.take (k+1))=d.toList.take (k+1):=by
 rw [IS hk,LX hk];unfold KN;rw [Jf h1 aA,if_neg (by rw [show ((k:Int)-1).toNat=k-1 by omega] at h;simpa using λe=>h e.symm),hs]
theorem T8{d:Array Int}{k:Nat}(h1:1<=k)(hk:k<d.size)(h:d[k]! =d[((k:Int)-1).toNat]!)(hs:CI (d.toList.take k)=d.toList.take k):d.toList.take k=CI (d.toList.take (k+1)):=by
 rw [IS hk];unfold KN;rw [Jf h1 aA,if_pos (by rw [show ((k:Int)-1).toNat=k-1 by omega] at h;rw [h]),hs]
theorem Wz{d dd:Array Int}{k q kk:Nat}(hq:1<=q/\k+q<d.size)(hkk:k<=kk/\kk+1<=k+q)(hsz:dd.size=d.size)(hd:∀j,kk<=j->dd[j]! =d[j]!)(hdd:dd.toList.take kk=CI (d.toList.take (k+q)))(h:¬dd[k+q]! =dd[k+((q:Int)-1).toNat]!) :
  (dd.setIfInBounds kk dd[k+q]!).toList.take (kk+1)=CI (d.toList.take (k+(q+1))):=by
 have e1:((q:Int)-1).toNat=q-1:=aA
 rw [e1,hd _ aA,hd _ aA] at h;rw [show k+(q+1)=(k+q)+1 by omega,IS hq.2];unfold KN;rw [Jf aA aA,if_neg (by rw [show k+q-1=k+(q-1) by omega];simpa using λe=>h e.symm),<-hdd,hd _ aA,Array.toList_setIfInBounds];rw [List.take_succ_eq_append_getElem (by simp;omega),List.take_set_of_le aA];simp
theorem W0{d dd:Array Int}{k q kk:Nat}(hq:1<=q/\k+q<d.size)(hkk:k<=kk/\kk+1<=k+q)(hd:∀j,kk<=j->dd[j]! =d[j]!)(hdd:dd.toList.take kk=CI (d.toList.take (k+q)))(h:dd[k+q]! =dd[k+((q:Int)-1).toNat]!) :
  dd.toList.take kk=CI (d.toList.take (k+(q+1))):=by
 have e1:((q:Int)-1).toNat=q-1:=aA
 rw [e1,hd _ aA,hd _ aA] at h;rw [show k+(q+1)=(k+q)+1 by omega,IS hq.2];unfold KN;rw [Jf aA aA,if_pos (by rw [show k+q-1=k+(q-1) by omega,h]),hdd]
theorem Z5{d dd:Array Int}{kk:Nat}{x:Int}(hd:∀j,kk<=j->dd[j]! =d[j]!):∀j,kk+1<=j->(dd.setIfInBounds kk x)[j]! =d[j]! :=λj hj=>by
 rw [<-hd j aA];simp only [getElem!_def,Array.getElem?_setIfInBounds_ne (show kk≠j by omega)]
theorem Rv{d:Array Int}{k:Nat}(h:k<=d.size):(HW d k).toList.take k=d.toList.take k:=by
 unfold HW;simp only [];rw [List.take_append_of_le_length (by simp;omega),List.take_take];simp
theorem VH{d:Array Int}(h:2<=d.size):CI (d.toList.take 1)=d.toList.take 1:=by
 have e:=LX (d:=d) (j:=0) aA;rw [Nat.zero_add] at e;rw [e];rfl
theorem VI{d:Array Int}{k:Nat}(hs:CI (d.toList.take k)=d.toList.take k)(h1:k<=d.size)(h2:d.size<=k):d.toList.take d.size=CI d.toList:=by
 rw [show k=d.toList.length by simp;omega,List.take_length] at hs;rw [hs,<-Array.length_toList,List.take_length]
theorem VJ{d:Array Int}(h:d.size<2):d.toList.take d.size=CI d.toList:=by
 rw [<-Array.length_toList,List.take_length]
 have:d.toList.length<2:=by simpa using h
 match hd:d.toList,this with
 | [],_=>rfl
 | [x],_=>rfl
 | _ ::_ ::_,h=>simp at h;omega
theorem MV(l:List Int):DK l=l.mergeSort (λx y=>decide (x<=y)):=sortInt l
theorem EF(l:List Int):(DK l).length=l.length:=by rw [MV,List.length_mergeSort]
theorem VK{l:List Int}(h:l≠[]):DK l≠[]:=λe=>by
 have:=congrArg List.length e
 rw [EF] at this;exact h (List.length_eq_zero_iff.1 this)
end Go.Ns
namespace Go.Ns
open Go.Conc Go.Sort
section
variable {d dd:Array Int} {a z p i j i0 j0:Nat}
variable {de df:Array Int} {s i2:Nat} {J:Int}
end
section
variable {P:Program} {E:Gq P} {O:Nat->Value} {ds:List Deferred} {h:GH} {T:(Nat->Value)->List Deferred->GH->Prop} {dst:Option Nat} {ty:TypeId} {pos:String} {af:Array Edge} {gd:Option (Nat×Bool)} {xt yt:TypeId} {x y:Operand} {a b:Int}
end
section
variable {d dd D D' R:Array Int} {a z a0 z0 p mid:Nat} {ap:Bool}
end
end Go.Ns
namespace Go.Ns
open Go.Conc
section
variable (d m:Int) (gs:List Good) (ms:List Ii) (cs:List KB)
end
def lostTo(ms:List Ii)(p:T1)(g a b:Int):Nat->Int
 | 0=>0
 | k+1=>lostTo ms p g a b k+(if ((ms.getD k Ii.z).kind=2/\(ms.getD k Ii.z).good=g)/\a<=(ms.getD k Ii.z).day/\(ms.getD k Ii.z).day<=b then realOf p k else 0)
section
variable (d m:Int) (gs:List Good) (ms:List Ii) (cs:List KB)
end
section
variable (d m:Int) (gs:List Good) (ms:List Ii) (cs:List KB)
end
section
variable (d m:Int) (gs:List Good) (ms:List Ii) (cs:List KB)
end
section
variable {P:Program} {E:Gq P} {O:Nat->Value} {ds:List Deferred} {h:GH} {T:(Nat->Value)->List Deferred->GH->Prop}
variable {dst:Option Nat} {ty:TypeId} {pos:String} {af:Array Edge} {gd:Option (Nat×Bool)}
def fieldP(P:Program)(s:TypeId)(f:Nat)(cs:Array Value):Option Value:=match P.underlying s with
 | some (.struct fields)=>match fields[f]? with
  | some fl=>IK P fl.type cs fl.offset
  | none=>none
 | _=>none
theorem Sa{t:TypeId}{x:Operand}{f:Nat}{cs:Array Value}{v:Value}(hx:AQ O x=.agg cs)(hp:fieldP P t f cs=some v)(k:T (putS O dst v) ds h):BQ E ⟨dst,.field t x f,ty,pos,af,gd⟩ O ds h T:=by
 refine ok_field (v:=v) ?_ k;rw [hx];unfold fieldP at hp;unfold Instr.field;cases hu:P.underlying t with
 | none=>rw [hu] at hp;cases hp
 | some d=>
  rw [hu] at hp;cases d <;> first | (cases hp;done) | skip
  rename_i fields
  refine AD _ _ (Al hu ?_);simp only at hp ⊢;cases hf:fields[f]? with
  | none=>rw [hf] at hp;cases hp
  | some fl=>
   rw [hf] at hp;simp only at hp ⊢;exact IL hp ⟨rfl,rfl⟩
end
section
variable {hB h hc h':GH} {ms:List Ii} {pasts:List T1} {r:Nat}
end
section
variable {P:Program} {E:Gq P} {O:Nat->Value} {ds:List Deferred} {h hB:GH} {ms:List Ii} {pasts:List T1} {r:Nat}
end
theorem KeepD.leOf{h0 h:GH}(k:KeepD (λb=>h0 b=none) h0 h):h0.Le h:=λb p o hb=>k.1 b p o hb λ(e:h0 b=none)=>by rw [hb] at e;cases e
theorem AO.offTy{V:Type}{h0 h:GH}{v:Value}{t T:TypeId}{n:Nat}{enc:V->Array Value}{xs:List V}(x:AO h0 h v t n enc xs){r:Nat}{p:Bool}{c:Array Value}{f:Nat×Nat}(hr:h r=some (p,.cells c T f))(ne:t≠T):Ay v r:=λe=>by
 obtain ⟨c',h1⟩:=x.cellsAt r e;rw [h1] at hr;simp only [Option.some.injEq,Prod.mk.injEq,Obj.cells.injEq] at hr;exact ne hr.2.2.1
section
variable {P:Program} {E:Gq P} {O:Nat->Value} {ds:List Deferred} {h:GH} {T:(Nat->Value)->List Deferred->GH->Prop}
variable {dst:Option Nat} {ty:TypeId} {pos:String} {af:Array Edge} {gd:Option (Nat×Bool)}
end
section
variable {h h':GH} {q r:Nat} {M:Int->Option Int}
theorem Cs.leNum(x:Cs h q D1 D1 M)(l:h.Le h'):Cs h' q D1 D1 M:=by
 obtain ⟨es,clk,h1,y⟩:=x;exact ⟨es,clk,l.keep h1 rfl,y⟩
end
section
variable {P:Program} {E:Gq P} {O:Nat->Value} {ds:List Deferred} {h:GH} {T:(Nat->Value)->List Deferred->GH->Prop}
variable {dst:Option Nat} {ty:TypeId} {pos:String} {af:Array Edge} {gd:Option (Nat×Bool)}
theorem Pi{t kt vt:TypeId}{x ix:Operand}{r d:Nat}{M:Int->Option Int}{a:Int}(ht:MO P t=some (kt,vt))(hx:AQ O x=.map (some r))(hk:AQ O ix=.int .i64 a)(hm:Cs h r D1 D1 M)(hd:Nat.ble (d+1) 10000=true)
  (hc:∀a,ckP P (d+1) kt (D1 a)=true) (he:∀a b,PQ P (d+1) kt (D1 a) (D1 b)=some (a==b)) (hz:(P.info? vt).bind (·.zero)=some (.int .i64 0))
  (k:T (putS O dst (.int .i64 ((M a).getD 0))) ds h):BQ E ⟨dst,.lookup t x ix false,ty,pos,af,gd⟩ O ds h T:=by
 refine ST (ek:=D1) (ev:=D1) (a:=a) (z:=.int .i64 0) ht hx hk hm hd (hc _) (λb=>he a b) hz ?_;cases hM:M a <;> (rw [hM] at k;exact k)
theorem Z6{t kt vt:TypeId}{om ok ox:Operand}{r d:Nat}{M:Int->Option Int}{a n:Int}(ht:MO P t=some (kt,vt))(hm':AQ O om=.map (some r))(hk:AQ O ok=.int .i64 a)(hv:AQ O ox=.int .i64 n)(hm:Cs h r D1 D1 M)(hd:Nat.ble (d+1) 10000=true)
  (hc:∀a,ckP P (d+1) kt (D1 a)=true) (he:∀a b,PQ P (d+1) kt (D1 a) (D1 b)=some (a==b)) (hs:∀a,Instr.sameBits 10000 (D1 a) (D1 a)=true)
  (k:∀h',Cs h' r D1 D1 (λb=>if b=a then some n else M b)->(∀b,b≠r->h' b=h b)->T (putS O dst undef) ds h'):BQ E ⟨dst,.mapUpdate t om ok ox,ty,pos,af,gd⟩ O ds h T:=
 MP (a:=a) (v:=n) (ek:=D1) (ev:=D1) ht hm' hk hv hm hd (hc _) (λb=>he a b) (hs _) k
end
theorem T9(a:Int):Instr.sameBits 10000 (D1 a) (D1 a)=true:=by
 show Instr.sameBits (9999+1) (Value.int .i64 a) (Value.int .i64 a)=true;unfold Instr.sameBits;simp
def IT(f:Nat->Int):Nat->Int->Option Int
 | 0=>λ_=>none
 | k+1=>λb=>if b=f k then some ((IT f k (f k)).getD 0+1) else IT f k b
theorem KO(f:Nat->Int):∀(k:Nat)(b:Int),0<=(IT f k b).getD 0/\(IT f k b).getD 0<=(k:Int)
 | 0,b=>by simp [IT]
 | k+1,b=>by
  have h1:=KO f k b;have h2:=KO f k (f k);unfold IT;split
  ·show 0<=(IT f k (f k)).getD 0+1/\(IT f k (f k)).getD 0+1<=((k+1:Nat):Int);omega
  ·omega
def LY(f:Nat->Int):Nat->Int
 | 0=>0
 | k+1=>max (LY f k) ((IT f (k+1) (f k)).getD 0)
def askTo(w:Nat->Int)(n:Int):Nat->Int×Int
 | 0=>(-1,n)
 | k+1=>if w k<(askTo w n k).2 then ((k:Int),w k) else askTo w n k
section
variable (d m:Int) (gs:List Good) (ms:List Ii) (cs:List KB)
end
end Go.Ns
namespace Go.Ns
open Go.Conc
section
variable {h h0 h':GH} {X:Nat->Prop}
end
theorem Pj{V:Type}{enc:V->Array Value}{n:Nat}:∀{xs:List V},(∀x ∈ xs,(enc x).size=n)->∀(i:Nat)(z:V),i<xs.length->DS enc xs=DS enc (xs.take i)++(enc (xs.getD i z)).toList++DS enc (xs.drop (i+1))
 | [],_,i,z,h=>by simp at h
 | y ::xs,hn,0,z,h=>by simp [DS]
 | y ::xs,hn,i+1,z,h=>by
  have:=Pj (λx hx=>hn x (List.mem_cons_of_mem _ hx)) i z (by simpa using h)
  show (enc y).toList++DS enc xs=((enc y).toList++DS enc (xs.take i))++(enc (xs.getD i z)).toList++DS enc (xs.drop (i+1));rw [this];simp only [List.append_assoc]
theorem VL{V:Type}{enc:V->Array Value}:∀{xs:List V}(i:Nat)(x:V),i<xs.length->DS enc (xs.set i x)=DS enc (xs.take i)++(enc x).toList++DS enc (xs.drop (i+1))
 | [],i,x,h=>by simp at h
 | y ::xs,0,x,h=>by simp [DS]
 | y ::xs,i+1,x,h=>by
  have:=VL (enc:=enc) (xs:=xs) i x (by simpa using h)
  show (enc y).toList++DS enc (xs.set i x)=((enc y).toList++DS enc (xs.take i))++(enc x).toList++DS enc (xs.drop (i+1));rw [this];simp only [List.append_assoc]
theorem AO.put{V:Type}{h0 h h':GH}{t:TypeId}{n cap b i dl:Nat}{enc:V->Array Value}{xs:List V}{c:Array Value}{vs:List Value}{x':V}(z:V)(x:AO h0 h (.slice (some ⟨b,0,none⟩) xs.length cap) t n enc xs)(hb:h b=some (true,.cells c t (0,0)))
  (hi:i<xs.length) (hz:dl+vs.length<=n) (heq:BZ (enc (xs.getD i z)) dl vs=enc x') (hb':h' b=some (true,.cells (BZ c (i*n+dl) vs) t (0,0))):AO h0 h' (.slice (some ⟨b,0,none⟩) xs.length cap) t n enc (xs.set i x'):=by
 rcases x with ⟨e,_⟩ | ⟨b1,cap1,c1,e,f0,f1,f2,f3,f4,f5,f6⟩
 ·cases e
 simp only [Value.slice.injEq,Option.some.injEq,Addr.mk.injEq] at e;obtain ⟨⟨rfl,_⟩,_,rfl⟩:=e;rw [hb] at f1;simp only [Option.some.injEq,Prod.mk.injEq,Obj.cells.injEq,true_and] at f1;obtain ⟨rfl,_⟩:=f1;have hx:(enc (xs.getD i z)).size=n:=f6 _ (Ba hi);have hx':(enc x').size=n:=by rw [<-heq,HF];exact hx
 refine .inr ⟨_,_,_,by rw [List.length_set],f0,hb',by rw [HF];exact f2,by rw [List.length_set];exact f3,by rw [List.length_set];exact f4,?_,λy hy=>?_⟩
 ·rw [List.length_set];have hA:(DS enc (xs.take i)).length=i*n:=by
   rw [Eg (n:=n) (λy hy=>f6 y (List.mem_of_mem_take hy)),List.length_take];congr 1;omega
  have hlen:(DS enc xs).length=xs.length*n:=Eg f6;have hmul:i*n+n<=xs.length*n:=by rw [<-Nat.succ_mul];exact Nat.mul_le_mul_right n hi
  have hcap:xs.length*n<=c.size:=by rw [f2];exact Nat.mul_le_mul_right n f3
  have hc:c.toList=DS enc xs++c.toList.drop (xs.length*n):=by rw [<-f5,List.take_append_drop]
  have hB:(enc x').toList=(enc (xs.getD i z)).toList.take dl++vs++(enc (xs.getD i z)).toList.drop (dl+vs.length):=by rw [<-heq,Ep _ _ _ aA]
  have hBl:(enc (xs.getD i z)).toList.length=n:=by rw [Array.length_toList];exact hx
  have hC:(DS enc (xs.take i)).length+n+(DS enc (xs.drop (i+1))).length=xs.length*n:=by
   rw [<-hlen];conv=>rhs;rw [Pj f6 i z hi]
   rw [List.length_append,List.length_append,hBl]
  rw [Ep _ _ _ aA,VL i x' hi,hB,hc,Pj f6 i z hi];generalize enc (xs.getD i z)=B at *;generalize DS enc (xs.take i)=A at *;generalize DS enc (xs.drop (i+1))=C at *;generalize c.toList.drop (xs.length*n)=R at *;have e1:(A++B.toList++C++R).take (i*n+dl)=A++B.toList.take dl:=by
   rw [List.append_assoc,List.append_assoc,<-hA,List.take_length_add_append,List.take_append_of_le_length aA]
  have e2:(A++B.toList++C++R).drop (i*n+dl+vs.length)=B.toList.drop (dl+vs.length)++C++R:=by
   rw [List.append_assoc,List.append_assoc,show i*n+dl+vs.length=A.length+(dl+vs.length) by omega,List.drop_length_add_append,List.drop_append_of_le_length aA,List.append_assoc]
  rw [e1,e2];have e3:A++B.toList.take dl++vs++(B.toList.drop (dl+vs.length)++C++R)=(A++(B.toList.take dl++vs++B.toList.drop (dl+vs.length))++C)++R:=by simp only [List.append_assoc]
  rw [e3,List.take_left' ?_];simp only [List.length_append,List.length_take,List.length_drop,hBl];omega
 ·rcases List.mem_or_eq_of_mem_set hy with h | rfl
  ·exact f6 y h
  ·exact hx'
theorem AO.opened{V:Type}{h0 h:GH}{v:Value}{t:TypeId}{n k:Nat}{enc:V->Array Value}{xs:List V}(x:AO h0 h v t n enc xs)(hk:k<xs.length):∃b cap c,v=.slice (some ⟨b,0,none⟩) xs.length cap/\h b=some (true,.cells c t (0,0)):=by
 rcases x with ⟨_,rfl⟩ | ⟨b,cap,c,h1,_,h2,_⟩
 ·simp at hk
 ·exact ⟨b,cap,c,h1,h2⟩
theorem AO.room{V:Type}{h0 h:GH}{t:TypeId}{n cap b k:Nat}{enc:V->Array Value}{xs:List V}{c:Array Value}(x:AO h0 h (.slice (some ⟨b,0,none⟩) xs.length cap) t n enc xs)(hb:h b=some (true,.cells c t (0,0)))(hk:k<xs.length):k*n+n<=c.size:=by
 rcases x with ⟨e,_⟩ | ⟨b1,cap1,c1,e,f0,f1,f2,f3,_⟩
 ·cases e
 simp only [Value.slice.injEq,Option.some.injEq,Addr.mk.injEq] at e;obtain ⟨⟨rfl,_⟩,_,rfl⟩:=e;rw [hb] at f1;simp only [Option.some.injEq,Prod.mk.injEq,Obj.cells.injEq,true_and] at f1;obtain ⟨rfl,_⟩:=f1;rw [f2,<-Nat.succ_mul];exact Nat.mul_le_mul_right n aA
section
variable (d m:Int) (gs:List Good) (ms:List Ii) (cs:List KB)
end
section
variable {d m:Int} {gs:List Good} {ms:List Ii} {cs:List KB} {fl:List Sl} {k:Nat}
theorem CA(l:List Sl):(A4 l).length=l.length:=by unfold A4;simp
end
theorem HX{v:Value}(h:v.cells=#[v]):Instr.fill (λi=>some (i*1,1)) ((Array.range (1*1)).map (#[Value.slice none 0 0][·% #[Value.slice none 0 0].size]!)) [(0,v)]=some #[v]:=by
 have e:((Array.range (1*1)).map (#[Value.slice none 0 0][·% #[Value.slice none 0 0].size]!))=#[Value.slice none 0 0]:=aB
 rw [e];simp [Instr.fill,h]
end Go.Ns
namespace Go.Ns
open Go.Conc
section
variable {P:Program} {M:Type}
structure NK(P:Program)(M:Type) where
 W:Wk P
 Rep:Nat->M->Value->GH->Prop
 main:Bool
 fn:FuncId
 rd:Option Nat
 N:Nat
def NK.wk(F:NK P M):Option (Cp M)->Wk P
 | none=>F.W
 | some s=>⟨F.main,Ee P F.main (Ix P F.Rep F.W.K s F.main),MI _ _⟩
abbrev NK.env(F:NK P M)(i:Option (Cp M)):Gq P:=⟨F.wk i,F.fn,F.rd,F.N⟩
abbrev Pm(M:Type):=Option (Cp M)->Exit->(Nat->Value)->List Deferred->GH->Prop
def Om(F:NK P M)(c:Code)(i:Option (Cp M))(O:Nat->Value)(ds:List Deferred)(h:GH)(Q:Pm M):Prop:=
 ∀(b:Frame)(k:List Item)(cs:List Frame)(L:Option (Cp M)->Lv)(t:Array Value),b.fn=F.fn->b.roundOf=F.rd->(∀i,MG (F.wk i) b cs (L i))->BX t F.N O->
  (∀i e σ' ds' h',Q i e σ' ds' h'->∀t',BX t' F.N σ'->DJ (F.wk i) (L i) b k cs e t' ds' h')->(F.wk i).K (G (Ci b t ds (.code c ::k)) cs) h
def Gn(F:NK P M)(ops:Array Oper)(l:List Oper)(i:Option (Cp M))(O:Nat->Value)(ds:List Deferred)(h:GH)(Q:Pm M):Prop:=
 ∀(n:Nat)(b:Frame)(k:List Item)(cs:List Frame)(L:Option (Cp M)->Lv)(t:Array Value),(∀j,l[j]? =ops[n+j]?)->b.fn=F.fn->b.roundOf=F.rd->(∀i,MG (F.wk i) b cs (L i))->BX t F.N O->
  (∀i e σ' ds' h',Q i e σ' ds' h'->∀t',BX t' F.N σ'->DJ (F.wk i) (L i) b k cs e t' ds' h')->(F.wk i).K (G (Ci b t ds (.inRegion ops (List.range' n l.length) ::k)) cs) h
variable {F:NK P M} {i:Option (Cp M)} {O:Nat->Value} {ds:List Deferred} {h:GH} {Q:Pm M}
theorem JJ{c:Code}(x:Tr (F.env i) c O ds h (Q i)):Om F c i O ds h Q:=λb k cs L t hb hr hl hs hc=>x b k cs (L i) t hb hr (hl i) hs (hc i)
theorem HJ{x y:Code}(a:Om F x i O ds h (λi e σ' ds' h'=>match e with | .normal=>Om F y i σ' ds' h' Q | e=>Q i e σ' ds' h')):Om F (.seq x y) i O ds h Q:=by
 intro b k cs L t hb hr hl hs hc;refine Wk.go (Ci b t ds (.code x ::.code y ::k)) (λw=>by rw [A5];simp [stepG.exec,Ci,G]) ?_;refine a b (.code y ::k) cs L t hb hr hl hs λi e σ' ds' h' q t' ht'=>?_;cases e with
 | normal=>exact q b k cs L t' hb hr hl ht' hc
 | exit id=>exact DJ.push rfl aD (hc _ _ _ _ _ q t' ht')
 | ret=>exact DJ.push rfl aD (hc _ _ _ _ _ q t' ht')
 | goto l=>exact DJ.push rfl aD (hc _ _ _ _ _ q t' ht')
 | panic l=>exact DJ.push rfl aD (hc _ _ _ _ _ q t' ht')
 | outgrown=>exact DJ.push rfl aD (hc _ _ _ _ _ q t' ht')
theorem Bg{x y:Code}(a:Tr (F.env i) x O ds h (λe σ' ds' h'=>match e with | .normal=>Om F y i σ' ds' h' Q | e=>Q i e σ' ds' h')):Om F (.seq x y) i O ds h Q:=
 HJ (JJ (Q:=λi e σ' ds' h'=>match e with | .normal=>Om F y i σ' ds' h' Q | e=>Q i e σ' ds' h') a)
theorem Ez{id:Nat}{c:Code}(a:Om F c i O ds h (λi e σ' ds' h'=>match e with | .normal=>Q i .normal σ' ds' h' | .exit id'=>if id'=id then Q i .normal σ' ds' h' else Q i (.exit id') σ' ds' h' | e=>Q i e σ' ds' h')) :
  Om F (.block id c) i O ds h Q:=by
 intro b k cs L t hb hr hl hs hc;refine Wk.go (Ci b t ds (.code c ::.inBlock id ::k)) (λw=>by rw [A5];simp [stepG.exec,Ci,G]) ?_;refine a b (.inBlock id ::k) cs L t hb hr hl hs λi e σ' ds' h' q t' ht'=>?_;cases e with
 | normal=>exact Wk.go (Ci b t' ds' k) (λw=>by rw [A5];simp [stepG.exec,Ci,G]) (hc _ _ _ _ _ q t' ht')
 | exit id'=>
  by_cases hid:id'=id
  ·simp only [hid,if_true] at q
   have:=hc _ _ _ _ _ q t' ht'
   simp only [DJ,exitTo,hid,beq_self_eq_true,if_true];exact this
  ·simp only [hid,if_false] at q
   have:=hc _ _ _ _ _ q t' ht'
   have hne:(id==id')=false:=by simp;exact λh=>hid h.symm
   simp only [DJ,exitTo,hne] at this ⊢;exact this
 | ret=>exact hc _ _ _ _ _ q t' ht'
 | goto l=>exact hc _ _ _ _ _ q t' ht'
 | panic l=>exact hc _ _ _ _ _ q t' ht'
 | outgrown=>exact hc _ _ _ _ _ q t' ht'
theorem KP{c:Code}(I:Nat->Option (Cp M)->(Nat->Value)->List Deferred->GH->Prop){n:Nat}(i0:I n i O ds h)
  (round:∀n i O ds h,I n i O ds h->Om F c i O ds h (λi e σ' ds' h'=>match e with | .normal=>∃m,m<n/\I m i σ' ds' h' | e=>Q i e σ' ds' h')):Om F (.loop c) i O ds h Q:=by
 intro b k cs L t hb hr hl hs hc;refine Wk.go (Ci b t ds (.code c ::.inLoop c ::k)) (λw=>by rw [A5];simp [stepG.exec,Ci,G]) ?_;have key:∀n i O ds h t,I n i O ds h->BX t F.N O->(F.wk i).K (G (Ci b t ds (.code c ::.inLoop c ::k)) cs) h:=by
  intro n
  induction n using Nat.strongRecOn with
  | ind n ih=>
   intro i O ds h t hi hs;refine round n i O ds h hi b (.inLoop c ::k) cs L t hb hr hl hs λi e σ' ds' h' q t' ht'=>?_;cases e with
   | normal=>
    obtain ⟨m,hm,hi'⟩:=q;exact Wk.go (Ci b t' ds' (.code c ::.inLoop c ::k)) (λw=>by rw [A5];simp [stepG.exec,Ci,G]) (ih m hm _ _ _ _ _ hi' ht')
   | exit id=>exact DJ.push rfl aD (hc _ _ _ _ _ q t' ht')
   | ret=>exact DJ.push rfl aD (hc _ _ _ _ _ q t' ht')
   | goto l=>exact DJ.push rfl aD (hc _ _ _ _ _ q t' ht')
   | panic l=>exact DJ.push rfl aD (hc _ _ _ _ _ q t' ht')
   | outgrown=>exact DJ.push rfl aD (hc _ _ _ _ _ q t' ht')
 exact key n i O ds h t i0 hs
theorem GB{id:Nat}{l:List Oper}(a:Gn F l.toArray l i O ds h Q):Om F (.region id l.toArray false) i O ds h Q:=by
 intro b k cs L t hb hr hl hs hc;refine Wk.go (Ci b t ds (.inRegion l.toArray (List.range' 0 l.length) ::k)) (λw=>?_) (a 0 b k cs L t aD hb hr hl hs hc);rw [A5];simp [stepG.exec,Ci,G,List.range_eq_range']
theorem Fs{ops:Array Oper}(q:Q i .normal O ds h):Gn F ops [] i O ds h Q:=by
 intro n b k cs L t hi hb hr hl hs hc;exact Wk.go (Ci b t ds k) (λw=>by rw [A5];simp [stepG.exec,Ci,G]) (hc _ _ _ _ _ q t hs)
theorem EL{ops:Array Oper}{o:Oper}{l:List Oper}(hg:o.guard=none)(hdf:F.rd=none\/C6 o.op=false)(hd:C3 o.dst F.N=true)
  (x:BQ (F.env i) o O ds h λσ' ds' h'=>Gn F ops l i σ' ds' h' Q):Gn F ops (o ::l) i O ds h Q:=by
 intro n b k cs L t hi hb hr hl hs hc;have ho:ops[n]? =some o:=by simpa using (hi 0).symm
 refine Ky (E:=F.env i) (rest:=List.range' (n+1) l.length) ho (by simp [Region.wanted,hg]) (hr▸hdf) hd hs x λσ' ds' h' y t' ht'=>?_;exact y (n+1) b k cs L t' (λj=>by have:=hi (j+1);simpa [Nat.add_assoc,Nat.add_comm 1 j] using this) hb hr hl ht' hc
theorem Pn{main:Bool}{b:Frame}{t:Array Value}{ops:Array Oper}{n:Nat}{rest:List Nat}{k:List Item}{cs:List Frame}{o:Oper}{N:Nat}(hs:BX t N O)(ho:ops[n]? =some o)(hw:Region.wanted o (yielded ops t)=true)
  (hdf:b.roundOf=none\/C6 o.op=false) (w:World):stepG P main (G (Ci b t ds (.inRegion ops (n ::rest) ::k)) cs) w=stepG.apply P true (Ci b t ds (.inRegion ops (n ::rest) ::k)) cs none (execOp (AQ O) o) w:=by
 have hev:=MF (b:=b) (ds:=ds) (k:=.inRegion ops (n ::rest) ::k) hs;rw [<-hev];have hw':((ops[n]?).map (Region.wanted · (yielded ops t))).getD false=true:=by simp [ho,hw]
 rw [A5];unfold stepG.exec;simp only [Ci,hw',↓reduceIte];unfold stepG.oper;simp only [Frame.oper?,ho];rcases hdf with e | e
 ·simp only [e]
 ·cases hq:o.op <;> first | rfl | (rw [hq] at e;cases e;done) | (cases b.roundOf <;> rfl)
theorem UA{main:Bool}{b:Frame}{t:Array Value}{ops:Array Oper}{n:Nat}{rest:List Nat}{k:List Item}{cs:List Frame}{o:Oper}{N:Nat}{w:World}{cc:Array CommCase}{bl:Bool}{sh:CommShape}(hs:BX t N O)(ho:ops[n]? =some o)(hw:Region.wanted o (yielded ops t)=true)
  (hdf:b.roundOf=none\/C6 o.op=false) (hr:(execOp (AQ O) o).runT P w #[]=(.ok (.comm cc bl sh) w,#[])) :
  stepG P main (G (Ci b t ds (.inRegion ops (n ::rest) ::k)) cs) w=.comm (G (Ci b t ds (.inRegion ops (n ::rest) ::k)) cs) cc bl sh w #[]:=by
 rw [Pn hs ho hw hdf];simp only [stepG.apply,hr,if_true,ite_self,seen_none];rfl
theorem spawn_at{main:Bool}{b:Frame}{t:Array Value}{ops:Array Oper}{n:Nat}{rest:List Nat}{k:List Item}{cs:List Frame}{o:Oper}{N:Nat}{w:World}{f:Fn}{cap args:Array Value}(hs:BX t N O)(ho:ops[n]? =some o)(hw:Region.wanted o (yielded ops t)=true)
  (hdf:b.roundOf=none\/C6 o.op=false) (hr:(execOp (AQ O) o).runT P w #[]=(.ok (.spawn { target:=.fn f cap,args:=args }) w,#[])) :
  stepG P main (G (Ci b t ds (.inRegion ops (n ::rest) ::k)) cs) w=.spawn (G ((Ci b t ds (.inRegion ops (n ::rest) ::k)).finish undef) cs) (born P { target:=.fn f cap,args:=args }) w #[]:=by
 rw [Pn hs ho hw hdf];simp only [stepG.apply,hr,if_true,ite_self,seen_none];simp [GStep.after,G,born]
variable {ops:Array Oper} {o:Oper} {l:List Oper}
theorem Sb{c:Code}:Om F c (some .never) O ds h Q:=λb k cs L t hb hr _ hs hc=>Ee.stop rfl
theorem Z7{c:Nat}{m:M}{nx:Cp M}{v z:Value}{hm h1:GH}(hg:o.guard=none)(hdf:C6 o.op=false)(hd:C3 o.dst F.N=true)
  (hr:∀w,(execOp (AQ O) o).runT P w #[]=(.ok (.comm #[scase c v z] true .send) w,#[])) (hsp:GH.Split h h1 hm) (hrep:F.Rep c m v hm) (hnx:¬nx.isDone)
  (x:Gn F ops l (some nx) (putS O o.dst undef) ds h1 Q):Gn F ops (o ::l) (some (.send c m nx)) O ds h Q:=by
 intro n b k cs L t hi hb hrd hl hs hc;have ho:ops[n]? =some o:=by simpa using (hi 0).symm
 refine Ee.stop ⟨_,cs,v,z,hm,h1,rfl,⟨λw f=>?_,hsp,hrep,?_⟩⟩
 ·rw [List.length_cons,List.range'_succ];exact UA hs ho (by simp [Region.wanted,hg]) (.inr hdf) (hr w)
 ·rw [HT hnx,List.length_cons,List.range'_succ,C7 ho];exact x (n+1) b k cs L _ (λj=>by have:=hi (j+1);simpa [Nat.add_assoc,Nat.add_comm 1 j] using this) hb hrd hl (hs.putS hd undef) hc
theorem Z8{c:Nat}{f:Option M->Cp M}{z:Value}{ok:Bool}(hg:o.guard=none)(hdf:C6 o.op=false)(hd:C3 o.dst F.N=true)
  (hr:∀w,(execOp (AQ O) o).runT P w #[]=(.ok (.comm #[rcase c z] true (.recv ok)) w,#[])) (hnx:∀o,¬(f o).isDone)
  (x:∀m v hm,F.Rep c m v hm->h.Compat hm->Gn F ops l (some (f (some m))) (putS O o.dst (recvd ok v true)) ds (h.join hm) Q)
  (y:Gn F ops l (some (f none)) (putS O o.dst (recvd ok z false)) ds h Q):Gn F ops (o ::l) (some (.recv c f)) O ds h Q:=by
 intro n b k cs L t hi hb hrd hl hs hc;have ho:ops[n]? =some o:=by simpa using (hi 0).symm
 refine Ee.stop ⟨_,cs,z,ok,rfl,⟨λw fw=>?_,λm v hm hrep hcp=>?_,?_⟩⟩
 ·rw [List.length_cons,List.range'_succ];exact UA hs ho (by simp [Region.wanted,hg]) (.inr hdf) (hr w)
 ·show Fm P F.Rep F.W.K (f (some m)) F.main _ _;rw [HT (hnx _),List.length_cons,List.range'_succ,C7 ho];exact x m v hm hrep hcp (n+1) b k cs L _ (λj=>by have:=hi (j+1);simpa [Nat.add_assoc,Nat.add_comm 1 j] using this) hb hrd hl (hs.putS hd _) hc
 ·show Fm P F.Rep F.W.K (f none) F.main _ _;rw [HT (hnx _),List.length_cons,List.range'_succ,C7 ho];exact y (n+1) b k cs L _ (λj=>by have:=hi (j+1);simpa [Nat.add_assoc,Nat.add_comm 1 j] using this) hb hrd hl (hs.putS hd _) hc
theorem UB{ch nx:Cp M}{f:Fn}{cap args:Array Value}{hc h1:GH}(hg:o.guard=none)(hdf:C6 o.op=false)(hd:C3 o.dst F.N=true)
  (hr:∀w,(execOp (AQ O) o).runT P w #[]=(.ok (.spawn { target:=.fn f cap,args:=args }) w,#[])) (hsp:GH.Split h h1 hc) (hnx:¬nx.isDone)
  (child:Fm P F.Rep F.W.K ch false (born P { target:=.fn f cap,args:=args }) hc) (x:Gn F ops l (some nx) (putS O o.dst undef) ds h1 Q):Gn F ops (o ::l) (some (.spawn ch nx)) O ds h Q:=by
 intro n b k cs L t hi hb hrd hl hs hq;have ho:ops[n]? =some o:=by simpa using (hi 0).symm
 refine Ee.stop ⟨_,cs,(Ci b t ds (.inRegion ops (List.range' n (o ::l).length) ::k)).finish undef,_,hc,h1,rfl,⟨λw fw=>?_,hsp,?_,child⟩⟩
 ·rw [List.length_cons,List.range'_succ];exact spawn_at hs ho (by simp [Region.wanted,hg]) (.inr hdf) (hr w)
 ·rw [HT hnx,List.length_cons,List.range'_succ,C7 ho];exact x (n+1) b k cs L _ (λj=>by have:=hi (j+1);simpa [Nat.add_assoc,Nat.add_comm 1 j] using this) hb hrd hl (hs.putS hd undef) hq
theorem UC{f:FuncId}{fn:Func}{args:Array Value}(hf:P.funcs[f]? =some fn)(hc:AK fn=true)(w:World):(callFunc f args).runT P w #[]=(.ok (.enter f args) w,#[]):=by
 unfold AK at hc;simp only [Bool.and_eq_true,Bool.not_eq_true'] at hc;unfold callFunc;show (match P.funcs[f]? with | none=>_ | some fn=>_:Sem Next).runT P w #[]=_;rw [hf];simp only [];rw [if_neg (by rw [hc.1];simp),if_neg (by cases hb:fn.body with | none=>rw [hb] at hc;simp at hc | some c=>simp)];rfl
theorem W1{fn:FuncId}{ch:Nat}:seen P fn #[⟨.obj ch,false,true⟩,⟨.obj ch,true,true⟩]=#[⟨.obj ch,false,true⟩,⟨.obj ch,true,true⟩]:=by
 rw [seen_def];simp [seenStep]
end
section
variable {P:Program} {M:Type} {Post:Value->World->Prop}
def GH.Same(h h':GH):Prop:=∀b p o,h b=some (p,o)->∃p',h' b=some (p',o)
theorem Iw.flags{g:Goroutine}{h h':GH}{gs:Array Goroutine}{w:World}{q:Nat->Nat}{t:Trace}(B:Iw P g h gs w q t)(s:h'.Same h):Iw P g h' gs w q t:=
 { B with
  fits:=λb p o hb=>by obtain ⟨p',x⟩:=s b p o hb;exact B.fits b p' o x
  chn:=λb p o k a hb=>by obtain ⟨p',x⟩:=s b p o hb;exact B.chn b p' o k a x }
theorem EJ.flags{g:Goroutine}{h h':GH}(s:h'.Same h)(x:EJ P Post g h'):EJ P Post g h:=λgs w sl q t B=>x gs w sl q t (B.flags s)
def W3(s0:Cp M)(N:HU M):Prop:=0<N.n/\N.s 0=s0/\∀j,0<j->j<N.n->N.s j=.done/\N.kn 0 j
theorem Po{Rep:Nat->M->Value->GH->Prop}{g:Goroutine}{h:GH}{s0:Cp M}(good:∀N:HU M,W3 s0 N->Fp (λ_=>False) N)(d:Fm P Rep (EJ P Post) s0 true g h):EJ P Post g h:=by
 intro gs w sl q t B;let N:HU M:={ n:=gs.size,s:=λj=>if j=0 then s0 else .done,kn:=λi j=>i=0/\0<j,cl:=λ_=>false,ck:=λ_ _=>False };have hpos:0<gs.size:=B.lt;obtain ⟨r0,hsit⟩:=HV (cl:=N.cl) d;have hsits:∀i g',gs[i]? =some g'->O2 P Rep (EJ P Post) (N.s i) N.cl (i==0) g' (only h i) (if i=0 then r0 else .leave (q i)):=by
  intro i g' hi;rcases Nat.eq_zero_or_pos i with rfl | hp
  ·have:=B.here;rw [hi] at this;cases this
   simpa [N,only] using hsit
  ·have h0:¬i=0:=aA
   have hq:=B.old i g' hp hi;simp only [N,h0,if_false];exact .leave (q i) rfl hq
 have hparked:∀i (gi:Goroutine) cs sh,gs[i]? =some (parked gi cs sh)->i=0:=λi gi cs sh hi=>by
  rcases Nat.eq_zero_or_pos i with e | hp
  ·exact e
  ·rcases (B.old i _ hp hi).status with e | e <;> cases e
 refine net_runs (used:=λ_=>False) (N:=N) (good N ⟨hpos,rfl,λj hj hjn=>⟨if_neg aA,rfl,hj⟩⟩) (λi=>if i=0 then r0 else .leave (q i)) gs w sl t (only h)
  ⟨rfl,B.HS,B.TI,hsits,λ_ q=>q.elim,λ_ _ q=>q.elim,λ_ _ _ q=>q.elim,?_,?_,λ_ q=>q.elim⟩
 ·intro i j gi gj c' v z sh z' sh' h1 h2;obtain rfl:=hparked i _ _ _ h1;obtain rfl:=hparked j _ _ _ h2;rw [h1] at h2;exact IC (Option.some.inj h2).symm
 ·rintro i j hi hj ⟨rfl,hjp⟩;refine ⟨if_neg aA,λk a hk _=>B.known k a hk⟩
def Lu(W:Wk P):Prop:=∃Post:Value->World->Prop,W.K=EJ P Post
variable {F:NK P M} {i:Option (Cp M)} {O:Nat->Value} {ds:List Deferred} {h:GH} {Q:Pm M}
theorem trI_made{c:Code}{s0:Cp M}(hm:F.main=true)(hW:Lu F.W)(hs:¬s0.isDone)(good:∀N:HU M,W3 s0 N->Fp (λ_=>False) N)(x:Om F c (some s0) O ds h Q):Om F c none O ds h Q:=by
 intro b k cs L t hb hr hl ht hq
 have:=x b k cs L t hb hr hl ht hq
 obtain ⟨Post,hP⟩:=hW;show F.W.K _ _;rw [hP];refine Po (Rep:=F.Rep) good ?_;rw [HT hs];unfold NK.wk at this;simp only [hm,hP] at this;exact this
theorem Pp{c:Code}{f:Nat->Cp M}{ch:Nat}(hc:h ch=some (true,.chan 0 #[] false 0 0 false))(hs:¬(f ch).isDone)(x:Om F c (some (f ch)) O ds (h.cut ch) Q):Om F c (some (.make f)) O ds h Q:=by
 intro b k cs L t hb hr hl ht hq;refine Ee.stop ⟨rfl,ch,hc,?_⟩;rw [HT hs];exact x b k cs L t hb hr hl ht hq
theorem trI_out{c:Code}{h0:GH}(hW:Lu F.W)(hs:h0.Same h)(x:Om F c none O ds (h0.join h) Q):Om F c (some .stop) O ds h Q:=by
 intro b k cs L t hb hr hl ht hq
 have:=x b k cs L t hb hr hl ht hq
 obtain ⟨Post,hP⟩:=hW;refine Ee.stop ?_;show F.W.K _ _;have h2:F.W.K _ _:=this;rw [hP] at h2 ⊢;refine h2.flags λb p o hb=>?_;rcases hj:h0 b with _ | ⟨p0,o0⟩
 ·unfold GH.join at hb;rw [hj] at hb;exact ⟨p,hb⟩
 ·unfold GH.join at hb;rw [hj] at hb;cases hb;exact hs b p o hj
def GH.ro(h:GH):GH:=λb=>(h b).map λx=>(false,x.2)
theorem GH.ro_some{h:GH}{b:Nat}{p:Bool}{o:Obj}(hb:h b=some (p,o)):h.ro b=some (false,o):=by unfold GH.ro;rw [hb];rfl
theorem GH.ro_inv{h:GH}{b:Nat}{p:Bool}{o:Obj}(hb:h.ro b=some (p,o)):p=false/\∃p',h b=some (p',o):=by
 unfold GH.ro at hb;cases e:h b with
 | none=>rw [e] at hb;cases hb
 | some x=>rw [e] at hb;obtain ⟨p',o'⟩:=x;cases hb;exact ⟨rfl,p',rfl⟩
theorem GH.split_ro(h:GH):GH.Split h h.ro h.ro where
 left:=λb p o hb=>by obtain ⟨rfl,p',x⟩:=GH.ro_inv hb;exact ⟨p',x,λe=>by cases e⟩
 right:=λb p o hb=>by obtain ⟨rfl,p',x⟩:=GH.ro_inv hb;exact ⟨p',x,λe=>by cases e⟩
 one:=λr o x hb=>by cases (GH.ro_inv hb).1
 two:=λr o x hb=>by cases (GH.ro_inv hb).1
theorem GH.same_ro(h:GH):h.Same h.ro:=λ_ _ _ hb=>⟨false,GH.ro_some hb⟩
theorem GH.Same.trans{a b c:GH}(x:a.Same b)(y:b.Same c):a.Same c:=λr p o hr=>by obtain ⟨p',z⟩:=x r p o hr;exact y r p' o z
theorem GH.Le.same{a b:GH}(x:a.Le b):a.Same b:=λr p o hr=>⟨p,x.keep hr rfl⟩
theorem GH.le_join(a b:GH):a.Le (a.join b):=λr p o hr=>⟨o,by unfold GH.join;rw [hr],.inl rfl⟩
theorem GH.Same.join{a b:GH}(s:a.Same b):b.Same (a.join b):=λr p o hr=>by
 unfold GH.join;cases e:a r with
 | none=>exact ⟨p,hr⟩
 | some x=>obtain ⟨p0,o0⟩:=x;obtain ⟨p',y⟩:=s r p0 o0 e;rw [hr] at y;cases y;exact ⟨p0,rfl⟩
theorem AT.flags{h h':GH}(s:h.Same h'){b off n:Nat}{vs:Array Value}(x:AT h b off n vs):AT h' b off n vs:=by
 obtain ⟨p,c,t,f,y,z⟩:=x;obtain ⟨p',y'⟩:=s _ _ _ y;exact ⟨p',c,t,f,y',z⟩
theorem AH.flags{V:Type}{h h':GH}(s:h.Same h'){v:Value}{n:Nat}{enc:V->Array Value}{xs:List V}(x:AH h v n enc xs):AH h' v n enc xs:=by
 obtain ⟨a,cap,hv,hc,hm,he⟩:=x;refine ⟨a,cap,hv,hc,hm,λi hi=>?_⟩;obtain ⟨b,off,h1,h2⟩:=he i hi;exact ⟨b,off,h1,h2.flags s⟩
end
section
variable {M:Type} [DecidableEq M]
end
end Go.Ns
namespace Go.Ns
inductive Dv where
 | job (i:Nat)
 | res (i:Nat) (b:Bool)
 | tick
section
variable (cj co cd:Nat) (n:Nat) (ok:Nat->Bool)
def Hs:Nat->Nat->Cp Dv
 | 0,_=>.close cj .done
 | m+1,k=>.send cj (.job k) (Hs m (k+1))
def VM(W:Cp Dv):Option Dv->Cp Dv
 | none=>.send cd .tick .done
 | some (.job i)=>.send co (.res i (ok i)) W
 | some _=>.never
def Ft:Nat->Cp Dv
 | 0=>.never
 | m+1=>.recv cj (VM co cd ok (Ft m))
def NL(W:Cp Dv):Option Dv->Cp Dv
 | some .tick=>W
 | _=>.never
def EW:Nat->Cp Dv
 | 0=>.close co .done
 | t+1=>.recv cd (NL (EW t))
def Im(R:List Nat)(W:List Nat->Cp Dv):Option Dv->Cp Dv
 | none=>if R=[] then .stop else .never
 | some (.res i b)=>if i ∈ R/\b=ok i then W (R.erase i) else .never
 | some _=>.never
def Fu:Nat->List Nat->Cp Dv
 | 0,_=>.never
 | m+1,R=>.recv co (Im ok R (Fu m))
def IU:Nat->Cp Dv
 | 0=>.spawn (EW co cd 3) (Fu co ok (n+1) (List.range n))
 | m+1=>.spawn (Ft cj co cd ok (n+1)) (IU m)
def poolS:Cp Dv:=.make λco=>.make λcj=>.spawn (Hs cj n 0) (.make λcd=>IU cj co cd n ok 3)
inductive WS where
 | wait (m:Nat)
 | hold (m i:Nat)
 | tick
 | fin
def WS.scr:WS->Cp Dv
 | .wait m=>Ft cj co cd ok (m+1)
 | .hold m i=>.send co (.res i (ok i)) (Ft cj co cd ok (m+1))
 | .tick=>.send cd .tick .done
 | .fin=>.done
def WS.left:WS->Nat
 | .wait _=>3
 | .hold _ _=>4
 | .tick=>2
 | .fin=>0
def WS.finN:WS->Nat
 | .fin=>1
 | _=>0
def UD(a:Nat)(c5:Bool)(R:List Nat):Cp Dv:=if c5 then Fu co ok (R.length+1) R else IU cj co cd n ok (3-a)
end
structure Do(cj co cd n:Nat)(ok:Nat->Bool)(k0 a:Nat)(c5:Bool)(k:Nat)(bj bo:Bool)(w:Nat->WS)(R:List Nat)(N:HU Dv):Prop where
 pos:0<k0
 nn:N.n=k0+1+a+(if c5 then 1 else 0)
 ha:a<=3
 h5:c5=true->a=3
 main:N.s 0=UD cj co cd n ok a c5 R
 old:∀j,0<j->j<k0->N.s j=.done/\N.kn 0 j
 feed:N.s k0=if bj then .done else Hs cj (n-k) k
 hk:k<=n
 bjk:bj=true->k=n
 clj:N.cl cj=bj
 clo:N.cl co=bo
 cld:N.cl cd=false
 work:∀x,x<a->N.s (k0+1+x)=(w x).scr cj co cd ok
 out:∀x,a<=x->w x=.wait n
 wait:∀x m,w x=.wait m->n-k<=m
 hold:∀x m i,w x=.hold m i->n-k<=m/\i<k
 over:∀x,w x=.tick\/w x=.fin->bj=true
 closer:c5=true->N.s (k0+4)=if bo then .done else EW co cd (3-((w 0).finN+(w 1).finN+(w 2).finN))
 nofin:c5=false->(∀x,w x≠.fin)/\bo=false
 allfin:bo=true->∀x,x<3->w x=.fin
 nd:R.Nodup
 mem:∀i,i ∈ R↔(k<=i/\i<n)\/∃x m,w x=.hold m i
 uniq:∀x y m m' i,w x=.hold m i->w y=.hold m' i->x=y
 full:c5=false->R=List.range n
 ckj:bj=true->N.ck cj k0
 knw:∀x,x<a->w x=.tick\/w x=.fin->N.kn (k0+1+x) k0
 knc:∀x,x<a->w x=.fin->N.kn (k0+4) (k0+1+x)/\N.kn (k0+4) k0
 cko:bo=true->N.ck co (k0+4)/\N.ck co k0/\∀x,x<3->N.ck co (k0+1+x)
def LO(w:Nat->WS)(x:Nat)(v:WS):Nat->WS:=λy=>if y=x then v else w y
theorem Bj{w:Nat->WS}{x:Nat}{v:WS}:LO w x v x=v:=if_pos rfl
theorem BF{w:Nat->WS}{x y:Nat}{v:WS}(h:y≠x):LO w x v y=w y:=if_neg h
def MW(n a:Nat)(c5:Bool)(k:Nat)(bj bo:Bool)(w:Nat->WS):Nat:=
 (3-a)+(if c5 then 0 else 1)+3*(n-k)+(if bj then 0 else 1)+((w 0).left+(w 1).left+(w 2).left)+(if bo then 0 else 1)
section
variable {cj co cd n:Nat} {ok:Nat->Bool} {k0 a:Nat} {c5:Bool} {k:Nat} {bj bo:Bool} {w:Nat->WS} {R:List Nat} {N:HU Dv}
theorem Do.cases(I:Do cj co cd n ok k0 a c5 k bj bo w R N){i:Nat}(hi:i<N.n):i=0\/(0<i/\i<k0)\/i=k0\/(∃x,x<a/\i=k0+1+x)\/(c5=true/\i=k0+4):=by
 have h1:=I.nn;rcases Nat.eq_zero_or_pos i with e | h0
 ·exact .inl e
 rcases Nat.lt_trichotomy i k0 with h | h | h
 ·exact .inr (.inl ⟨h0,h⟩)
 ·exact .inr (.inr (.inl h))
 by_cases h2:i<k0+1+a
 ·exact .inr (.inr (.inr (.inl ⟨i-(k0+1),aA,aA⟩)))
 ·cases hc:c5 with
  | false=>rw [hc] at h1;simp at h1;omega
  | true=>have h3:=I.h5 hc;rw [hc] at h1;simp at h1;exact .inr (.inr (.inr (.inr ⟨rfl,aA⟩)))
theorem Do.mainC(I:Do cj co cd n ok k0 a c5 k bj bo w R N):(c5=true/\N.s 0=.recv co (Im ok R (Fu co ok R.length)))\/(c5=false/\((a<3/\N.s 0=.spawn (Ft cj co cd ok (n+1)) (IU cj co cd n ok (3-(a+1))))\/
  (a=3/\N.s 0=.spawn (EW co cd 3) (Fu co ok (n+1) (List.range n))))):=by
 have h:=I.main;unfold UD at h;cases hc:c5 with
 | true=>rw [hc] at h;exact .inl ⟨rfl,h⟩
 | false=>
  rw [hc] at h;refine .inr ⟨rfl,?_⟩;have ha:=I.ha;by_cases h3:a=3
  ·subst h3;exact .inr ⟨rfl,h⟩
  ·have e:3-a=(3-(a+1))+1:=aA
   rw [e] at h;exact .inl ⟨aA,h⟩
theorem Do.feedC(I:Do cj co cd n ok k0 a c5 k bj bo w R N):(bj=true/\N.s k0=.done)\/(bj=false/\k=n/\N.s k0=.close cj .done)\/(bj=false/\k<n/\N.s k0=.send cj (.job k) (Hs cj (n-(k+1)) (k+1))):=by
 have h:=I.feed;have hk:=I.hk;cases hb:bj with
 | true=>rw [hb] at h;exact .inl ⟨rfl,h⟩
 | false=>
  rw [hb] at h;by_cases e:k=n
  ·subst e;rw [Nat.sub_self] at h;exact .inr (.inl ⟨rfl,rfl,h⟩)
  ·have e2:n-k=(n-(k+1))+1:=aA
   rw [e2] at h;exact .inr (.inr ⟨rfl,aA,h⟩)
theorem Do.closeC(I:Do cj co cd n ok k0 a c5 k bj bo w R N)(hc:c5=true):(bo=true/\N.s (k0+4)=.done)\/(bo=false/\3<=(w 0).finN+(w 1).finN+(w 2).finN/\N.s (k0+4)=.close co .done)\/
  (bo=false/\∃t,3-((w 0).finN+(w 1).finN+(w 2).finN)=t+1/\N.s (k0+4)=.recv cd (NL (EW co cd t))):=by
 have h:=I.closer hc;cases hb:bo with
 | true=>rw [hb] at h;exact .inl ⟨rfl,h⟩
 | false=>
  rw [hb] at h;generalize (w 0).finN+(w 1).finN+(w 2).finN=q at h;cases e:3-q with
  | zero=>rw [e] at h;exact .inr (.inl ⟨rfl,aA,h⟩)
  | succ t=>rw [e] at h;exact .inr (.inr ⟨rfl,t,rfl,h⟩)
theorem Do.send(I:Do cj co cd n ok k0 a c5 k bj bo w R N){i c:Nat}{m:Dv}{nx:Cp Dv}(hi:i<N.n)(hs:N.s i=.send c m nx) :
  (i=k0/\bj=false/\k<n/\c=cj/\m=.job k/\nx=Hs cj (n-(k+1)) (k+1))\/(∃x,x<a/\i=k0+1+x/\∃f j,w x=.hold f j/\c=co/\m=.res j (ok j)/\nx=Ft cj co cd ok (f+1))\/
  (∃x,x<a/\i=k0+1+x/\w x=.tick/\c=cd/\m=.tick/\nx=.done):=by
 rcases I.cases hi with rfl | ⟨h1,h2⟩ | rfl | ⟨x,hx,rfl⟩ | ⟨hc,rfl⟩
 ·rcases I.mainC with ⟨_,e⟩ | ⟨_,⟨_,e⟩ | ⟨_,e⟩⟩ <;> rw [e] at hs <;> cases hs
 ·rw [(I.old i h1 h2).1] at hs;cases hs
 ·rcases I.feedC with ⟨_,e⟩ | ⟨_,_,e⟩ | ⟨h1,h2,e⟩
  ·rw [e] at hs;cases hs
  ·rw [e] at hs;cases hs
  ·rw [e] at hs;cases hs;exact .inl ⟨rfl,h1,h2,rfl,rfl,rfl⟩
 ·rw [I.work x hx] at hs;cases hw:w x with
  | wait f=>rw [hw] at hs;have h:Cp.recv _ _=Cp.send c m nx:=hs;cases h
  | hold f j=>rw [hw] at hs;have h:Cp.send co (.res j (ok j)) (Ft cj co cd ok (f+1))=Cp.send c m nx:=hs;cases h;exact .inr (.inl ⟨x,hx,rfl,f,j,hw,rfl,rfl,rfl⟩)
  | tick=>rw [hw] at hs;have h:Cp.send cd .tick .done=Cp.send c m nx:=hs;cases h;exact .inr (.inr ⟨x,hx,rfl,hw,rfl,rfl,rfl⟩)
  | fin=>rw [hw] at hs;have h:Cp.done=Cp.send c m nx:=hs;cases h
 ·rcases I.closeC hc with ⟨_,e⟩ | ⟨_,_,e⟩ | ⟨_,t,_,e⟩ <;> rw [e] at hs <;> cases hs
theorem Do.recv(I:Do cj co cd n ok k0 a c5 k bj bo w R N){i c:Nat}{f:Option Dv->Cp Dv}(hi:i<N.n)(hs:N.s i=.recv c f) :
  (i=0/\c5=true/\c=co/\f=Im ok R (Fu co ok R.length))\/(∃x,x<a/\i=k0+1+x/\∃m,w x=.wait m/\c=cj/\f=VM co cd ok (Ft cj co cd ok m))\/
  (c5=true/\i=k0+4/\bo=false/\∃t,3-((w 0).finN+(w 1).finN+(w 2).finN)=t+1/\c=cd/\f=NL (EW co cd t)):=by
 rcases I.cases hi with rfl | ⟨h1,h2⟩ | rfl | ⟨x,hx,rfl⟩ | ⟨hc,rfl⟩
 ·rcases I.mainC with ⟨h1,e⟩ | ⟨_,⟨_,e⟩ | ⟨_,e⟩⟩
  ·rw [e] at hs;cases hs;exact .inl ⟨rfl,h1,rfl,rfl⟩
  ·rw [e] at hs;cases hs
  ·rw [e] at hs;cases hs
 ·rw [(I.old i h1 h2).1] at hs;cases hs
 ·rcases I.feedC with ⟨_,e⟩ | ⟨_,_,e⟩ | ⟨h1,h2,e⟩ <;> rw [e] at hs <;> cases hs
 ·rw [I.work x hx] at hs;cases hw:w x with
  | wait m=>rw [hw] at hs;have h:Cp.recv cj (VM co cd ok (Ft cj co cd ok m))=Cp.recv c f:=hs;cases h;exact .inr (.inl ⟨x,hx,rfl,m,hw,rfl,rfl⟩)
  | hold m j=>rw [hw] at hs;have h:Cp.send _ _ _=Cp.recv c f:=hs;cases h
  | tick=>rw [hw] at hs;have h:Cp.send _ _ _=Cp.recv c f:=hs;cases h
  | fin=>rw [hw] at hs;have h:Cp.done=Cp.recv c f:=hs;cases h
 ·rcases I.closeC hc with ⟨_,e⟩ | ⟨_,_,e⟩ | ⟨h1,t,h2,e⟩
  ·rw [e] at hs;cases hs
  ·rw [e] at hs;cases hs
  ·rw [e] at hs;cases hs;exact .inr (.inr ⟨hc,rfl,h1,t,h2,rfl,rfl⟩)
theorem Do.close(I:Do cj co cd n ok k0 a c5 k bj bo w R N){i c:Nat}{nx:Cp Dv}(hi:i<N.n)(hs:N.s i=.close c nx) :
  (i=k0/\bj=false/\k=n/\c=cj/\nx=.done)\/(c5=true/\i=k0+4/\bo=false/\3<=(w 0).finN+(w 1).finN+(w 2).finN/\c=co/\nx=.done):=by
 rcases I.cases hi with rfl | ⟨h1,h2⟩ | rfl | ⟨x,hx,rfl⟩ | ⟨hc,rfl⟩
 ·rcases I.mainC with ⟨_,e⟩ | ⟨_,⟨_,e⟩ | ⟨_,e⟩⟩ <;> rw [e] at hs <;> cases hs
 ·rw [(I.old i h1 h2).1] at hs;cases hs
 ·rcases I.feedC with ⟨_,e⟩ | ⟨h1,h2,e⟩ | ⟨h1,h2,e⟩
  ·rw [e] at hs;cases hs
  ·rw [e] at hs;cases hs;exact .inl ⟨rfl,h1,h2,rfl,rfl⟩
  ·rw [e] at hs;cases hs
 ·rw [I.work x hx] at hs;cases hw:w x with
  | wait m=>rw [hw] at hs;have h:Cp.recv _ _=Cp.close c nx:=hs;cases h
  | hold m j=>rw [hw] at hs;have h:Cp.send _ _ _=Cp.close c nx:=hs;cases h
  | tick=>rw [hw] at hs;have h:Cp.send _ _ _=Cp.close c nx:=hs;cases h
  | fin=>rw [hw] at hs;have h:Cp.done=Cp.close c nx:=hs;cases h
 ·rcases I.closeC hc with ⟨_,e⟩ | ⟨h1,h2,e⟩ | ⟨h1,t,h2,e⟩
  ·rw [e] at hs;cases hs
  ·rw [e] at hs;cases hs;exact .inr ⟨hc,rfl,h1,h2,rfl,rfl⟩
  ·rw [e] at hs;cases hs
theorem Do.spawn(I:Do cj co cd n ok k0 a c5 k bj bo w R N){i:Nat}{ch nx:Cp Dv}(hi:i<N.n)(hs:N.s i=.spawn ch nx) :
  i=0/\c5=false/\((a<3/\ch=Ft cj co cd ok (n+1)/\nx=IU cj co cd n ok (3-(a+1)))\/(a=3/\ch=EW co cd 3/\nx=Fu co ok (n+1) (List.range n))):=by
 rcases I.cases hi with rfl | ⟨h1,h2⟩ | rfl | ⟨x,hx,rfl⟩ | ⟨hc,rfl⟩
 ·rcases I.mainC with ⟨h1,e⟩ | ⟨h1,⟨h2,e⟩ | ⟨h2,e⟩⟩
  ·rw [e] at hs;cases hs
  ·rw [e] at hs;cases hs;exact ⟨rfl,h1,.inl ⟨h2,rfl,rfl⟩⟩
  ·rw [e] at hs;cases hs;exact ⟨rfl,h1,.inr ⟨h2,rfl,rfl⟩⟩
 ·rw [(I.old i h1 h2).1] at hs;cases hs
 ·rcases I.feedC with ⟨_,e⟩ | ⟨_,_,e⟩ | ⟨h1,h2,e⟩ <;> rw [e] at hs <;> cases hs
 ·rw [I.work x hx] at hs;cases hw:w x with
  | wait m=>rw [hw] at hs;have h:Cp.recv _ _=Cp.spawn ch nx:=hs;cases h
  | hold m j=>rw [hw] at hs;have h:Cp.send _ _ _=Cp.spawn ch nx:=hs;cases h
  | tick=>rw [hw] at hs;have h:Cp.send _ _ _=Cp.spawn ch nx:=hs;cases h
  | fin=>rw [hw] at hs;have h:Cp.done=Cp.spawn ch nx:=hs;cases h
 ·rcases I.closeC hc with ⟨_,e⟩ | ⟨_,_,e⟩ | ⟨_,t,_,e⟩ <;> rw [e] at hs <;> cases hs
theorem Do.noMake(I:Do cj co cd n ok k0 a c5 k bj bo w R N){i:Nat}{f:Nat->Cp Dv}(hi:i<N.n):N.s i≠.make f:=by
 intro hs;rcases I.cases hi with rfl | ⟨h1,h2⟩ | rfl | ⟨x,hx,rfl⟩ | ⟨hc,rfl⟩
 ·rcases I.mainC with ⟨_,e⟩ | ⟨_,⟨_,e⟩ | ⟨_,e⟩⟩ <;> rw [e] at hs <;> cases hs
 ·rw [(I.old i h1 h2).1] at hs;cases hs
 ·rcases I.feedC with ⟨_,e⟩ | ⟨_,_,e⟩ | ⟨h1,h2,e⟩ <;> rw [e] at hs <;> cases hs
 ·rw [I.work x hx] at hs;cases hw:w x with
  | wait m=>rw [hw] at hs;have h:Cp.recv _ _=Cp.make f:=hs;cases h
  | hold m j=>rw [hw] at hs;have h:Cp.send _ _ _=Cp.make f:=hs;cases h
  | tick=>rw [hw] at hs;have h:Cp.send _ _ _=Cp.make f:=hs;cases h
  | fin=>rw [hw] at hs;have h:Cp.done=Cp.make f:=hs;cases h
 ·rcases I.closeC hc with ⟨_,e⟩ | ⟨_,_,e⟩ | ⟨_,t,_,e⟩ <;> rw [e] at hs <;> cases hs
theorem Do.fine(I:Do cj co cd n ok k0 a c5 k bj bo w R N){U:Nat->Prop}(u1:U cj)(u2:U co)(u3:U cd){i:Nat}(hi:i<N.n):KF U N.cl i (N.s i):=by
 have hp:=I.pos;rcases I.cases hi with rfl | ⟨h1,h2⟩ | rfl | ⟨x,hx,rfl⟩ | ⟨hc,rfl⟩
 ·rcases I.mainC with ⟨_,e⟩ | ⟨_,⟨_,e⟩ | ⟨_,e⟩⟩ <;> rw [e]
  ·exact u2
  ·trivial
  ·trivial
 ·rw [(I.old i h1 h2).1];show i≠0;omega
 ·rcases I.feedC with ⟨_,e⟩ | ⟨h1,_,e⟩ | ⟨h1,h2,e⟩ <;> rw [e]
  ·show _≠0;omega
  ·exact ⟨u1,by rw [I.clj,h1]⟩
  ·exact ⟨u1,by rw [I.clj,h1]⟩
 ·rw [I.work x hx];have hno:bo=false\/w x=.fin:=by
   cases hb:bo with
   | false=>exact .inl rfl
   | true=>exact .inr (I.allfin hb x (by have:=I.ha;omega))
  cases hw:w x with
  | wait m=>exact u1
  | hold m j=>exact ⟨u2,by rw [I.clo];exact hno.elim id λe=>by rw [hw] at e;cases e⟩
  | tick=>exact ⟨u3,I.cld⟩
  | fin=>show _≠0;omega
 ·rcases I.closeC hc with ⟨_,e⟩ | ⟨h1,_,e⟩ | ⟨_,t,_,e⟩ <;> rw [e]
  ·show _≠0;omega
  ·exact ⟨u2,by rw [I.clo,h1]⟩
  ·exact u3
theorem WS.finN_le(x:WS):x.finN<=1:=by cases x <;> simp [WS.finN]
theorem WS.finN_one{x:WS}(h:1<=x.finN):x=.fin:=by cases x <;> simp_all [WS.finN]
theorem WS.finN_zero{x:WS}(h:x≠.fin):x.finN=0:=by cases x <;> simp_all [WS.finN]
theorem Do.goes(I:Do cj co cd n ok k0 a c5 k bj bo w R N):∃N',JE N N':=by
 have hp:=I.pos;have hn:=I.nn;rcases I.mainC with ⟨hc,em⟩ | ⟨_,⟨_,e⟩ | ⟨_,e⟩⟩
 ·have ha:=I.h5 hc;subst ha;rw [hc] at hn;simp at hn;have key:∀x,x<3->w x≠.fin->∃N',JE N N':=by
   intro x hx hf;have hwx:=I.work x hx;cases hw:w x with
   | fin=>exact absurd hw hf
   | wait m=>
    rw [hw] at hwx;rcases I.feedC with ⟨hb,_⟩ | ⟨_,_,e⟩ | ⟨_,_,e⟩
    ·exact ⟨_,.hear (j:=k0+1+x) aA hwx (by rw [I.clj,hb])⟩
    ·exact ⟨_,.shut (i:=k0) aA e⟩
    ·exact ⟨_,.meet (i:=k0) (j:=k0+1+x) aA aA aA e hwx⟩
   | hold m j=>rw [hw] at hwx;exact ⟨_,.meet (i:=k0+1+x) (j:=0) aA aA aA hwx em⟩
   | tick=>
    rw [hw] at hwx;have h0:=(w 0).finN_le;have h1:=(w 1).finN_le;have h2:=(w 2).finN_le;have hz:=WS.finN_zero hf;rcases I.closeC hc with ⟨hb,_⟩ | ⟨_,hb,_⟩ | ⟨_,t,_,e⟩
    ·exact absurd (I.allfin hb x hx) hf
    ·obtain rfl | rfl | rfl:x=0\/x=1\/x=2:=aA
     all_goals omega
    ·exact ⟨_,.meet (i:=k0+1+x) (j:=k0+4) aA aA aA hwx e⟩
  by_cases h:∃x,x<3/\w x≠.fin
  ·obtain ⟨x,hx,hf⟩:=h;exact key x hx hf
  ·have hall:∀x,x<3->w x=.fin:=λx hx=>Classical.byContradiction λq=>h ⟨x,hx,q⟩;rcases I.closeC hc with ⟨hb,_⟩ | ⟨_,_,e⟩ | ⟨_,t,ht,e⟩
   ·exact ⟨_,.hear (j:=0) aA em (by rw [I.clo,hb])⟩
   ·exact ⟨_,.shut (i:=k0+4) aA e⟩
   ·rw [hall 0 aA,hall 1 aA,hall 2 aA] at ht;simp [WS.finN] at ht
 ·exact ⟨_,.hire (i:=0) aA e⟩
 ·exact ⟨_,.hire (i:=0) aA e⟩
end
end Go.Ns
namespace Go.Ns
section
variable {M:Type} {N:HU M} {i j x y c c':Nat} {si sj ch nx:Cp M}
theorem Lx(h1:y≠N.n)(h2:y≠i):(N.hire i ch nx).s y=N.s y:=by show (if y=N.n then _ else if y=i then _ else _)=_;rw [if_neg h1,if_neg h2]
theorem Pq:(N.hire i ch nx).s N.n=ch:=if_pos rfl
theorem W4(h:i≠N.n):(N.hire i ch nx).s i=nx:=by show (if i=N.n then _ else if i=i then _ else _)=_;rw [if_neg h,if_pos rfl]
theorem MX(h1:x≠N.n)(h2:y≠N.n)(k:N.kn x y):(N.hire i ch nx).kn x y:=by show if y=N.n then False else if x=N.n then _ else _;rw [if_neg h2,if_neg h1];exact k
theorem ZP(h2:y≠N.n)(k:N.ck c y):(N.hire i ch nx).ck c y:=by show if y=N.n then False else _;rw [if_neg h2];exact k
theorem Ho(h1:y≠i)(h2:y≠j):(N.meet i j si sj).s y=N.s y:=by show (if y=i then _ else if y=j then _ else _)=_;rw [if_neg h1,if_neg h2]
theorem W5:(N.meet i j si sj).s i=si:=if_pos rfl
theorem W6(h:j≠i):(N.meet i j si sj).s j=sj:=by show (if j=i then _ else if j=j then _ else _)=_;rw [if_neg h,if_pos rfl]
theorem FY(k:N.kn x y):(N.meet i j si sj).kn x y:=by
 show if x=i\/x=j then _ else _
 split
 ·rename_i h;rcases h with rfl | rfl
  ·exact .inl k
  ·exact .inr (.inl k)
 ·exact k
theorem meet_knj(k:N.kn i y):(N.meet i j si sj).kn j y:=by show if j=i\/j=j then _ else _;rw [if_pos (.inr rfl)];exact .inl k
theorem Z9(h:si.isDone):(N.meet i j si sj).kn j i:=by show if j=i\/j=j then _ else _;rw [if_pos (.inr rfl)];exact .inr (.inr (.inl ⟨rfl,h⟩))
theorem I5(h:y≠i):(N.shut i c nx).s y=N.s y:=if_neg h
theorem W7:(N.shut i c nx).s i=nx:=if_pos rfl
theorem UE:(N.shut i c nx).cl c=true:=if_pos rfl
theorem KQ(h:c'≠c):(N.shut i c nx).cl c'=N.cl c':=if_neg h
theorem ZQ(k:N.kn i y):(N.shut i c nx).ck c y:=by show if c=c then _ else _;rw [if_pos rfl];exact .inl k
theorem NM(h:nx.isDone):(N.shut i c nx).ck c i:=by show if c=c then _ else _;rw [if_pos rfl];exact .inr ⟨rfl,h⟩
theorem shut_ck'(h:c'≠c)(k:N.ck c' y):(N.shut i c nx).ck c' y:=by show if c'=c then _ else _;rw [if_neg h];exact k
theorem NN(h:y≠j):(N.hear j c nx).s y=N.s y:=if_neg h
theorem hear_j:(N.hear j c nx).s j=nx:=if_pos rfl
theorem MY(k:N.kn x y):(N.hear j c nx).kn x y:=by
 show if x=j then _ else _
 split
 ·rename_i h;subst h;exact .inl k
 ·exact k
theorem O5(k:N.ck c y):(N.hear j c nx).kn j y:=by show if j=j then _ else _;rw [if_pos rfl];exact .inr k
end
section
variable {cj co cd n:Nat} {ok:Nat->Bool} {k0 a:Nat} {c5:Bool} {k:Nat} {bj bo:Bool} {w:Nat->WS} {R:List Nat} {N:HU Dv}
theorem AAA{f k:Nat}:(WS.hold f k).left=4:=rfl
theorem Pr{v:WS}{x:Nat}(h:v.finN=(w x).finN)(y:Nat):(LO w x v y).finN=(w y).finN:=by
 by_cases e:y=x
 ·subst e;rw [Bj];exact h
 ·rw [BF e]
theorem Do.hire1(I:Do cj co cd n ok k0 a false k bj bo w R N)(h3:a<3):Do cj co cd n ok k0 (a+1) false k bj bo w R (N.hire 0 (Ft cj co cd ok (n+1)) (IU cj co cd n ok (3-(a+1)))):=by
 have hn:N.n=k0+1+a:=by simpa using I.nn
 have hp:=I.pos;obtain ⟨nf,nb⟩:=I.nofin rfl;refine ⟨hp,by show N.n+1=_;simp;omega,h3,λe=>(by cases e),?_,λj h1 h2=>⟨?_,?_⟩,?_,I.hk,I.bjk,I.clj,I.clo,I.cld,λx hx=>?_,λx hx=>I.out x aA,I.wait,I.hold,I.over,λe=>(by cases e),λ_=>⟨nf,nb⟩,I.allfin,I.nd,I.mem,I.uniq,I.full,λe=>ZP aA (I.ckj e),λx hx h=>?_,λx _ h=>absurd h (nf x),λe=>by rw [nb] at e;cases e⟩
 ·rw [W4 aA];rfl
 ·rw [Lx aA aA];exact (I.old j h1 h2).1
 ·exact MX aA aA (I.old j h1 h2).2
 ·rw [Lx aA aA];exact I.feed
 ·by_cases e:x=a
  ·subst e;rw [<-hn,Pq,I.out x (Nat.le_refl _)];rfl
  ·rw [Lx aA aA];exact I.work x aA
 ·have e:x≠a:=λe=>by subst e;rw [I.out x (Nat.le_refl _)] at h;rcases h with h | h <;> cases h
  exact MX aA aA (I.knw x aA h)
theorem Do.hire2(I:Do cj co cd n ok k0 3 false k bj bo w R N):Do cj co cd n ok k0 3 true k bj bo w R (N.hire 0 (EW co cd 3) (Fu co ok (n+1) (List.range n))):=by
 have hn:N.n=k0+4:=by have:=I.nn;simp at this;omega
 have hp:=I.pos;obtain ⟨nf,nb⟩:=I.nofin rfl;refine ⟨hp,by show N.n+1=_;simp;omega,I.ha,λ_=>rfl,?_,λj h1 h2=>⟨?_,?_⟩,?_,I.hk,I.bjk,I.clj,I.clo,I.cld,λx hx=>?_,I.out,I.wait,I.hold,I.over,λ_=>?_,λe=>(by cases e),I.allfin,I.nd,I.mem,I.uniq,λe=>(by cases e),λe=>ZP aA (I.ckj e),λx hx h=>?_,λx _ h=>absurd h (nf x),λe=>by rw [nb] at e;cases e⟩
 ·rw [W4 aA,I.full rfl];unfold UD;rw [List.length_range];rfl
 ·rw [Lx aA aA];exact (I.old j h1 h2).1
 ·exact MX aA aA (I.old j h1 h2).2
 ·rw [Lx aA aA];exact I.feed
 ·rw [Lx aA aA];exact I.work x hx
 ·rw [<-hn,Pq,nb,WS.finN_zero (nf 0),WS.finN_zero (nf 1),WS.finN_zero (nf 2)];rfl
 ·exact MX aA aA (I.knw x hx h)
theorem Do.job(I:Do cj co cd n ok k0 a c5 k false bo w R N)(hkn:k<n){x f:Nat}(hx:x<a)(hw:w x=.wait (f+1)) :
  Do cj co cd n ok k0 a c5 (k+1) false bo (LO w x (.hold f k)) R (N.meet k0 (k0+1+x) (Hs cj (n-(k+1)) (k+1)) (.send co (.res k (ok k)) (Ft cj co cd ok (f+1)))):=by
 have hp:=I.pos;have ha:=I.ha;have hf:=I.wait x _ hw;have F:=Pr (w:=w) (x:=x) (v:=.hold f k) (by rw [hw];rfl);have ne:∀{y:Nat}{v:WS},w y=v->v≠.wait (f+1)->y≠x:=λh h2 e=>h2 (by rw [<-h,e,hw]);refine ⟨hp,I.nn,ha,I.h5,?_,λj h1 h2=>⟨?_,FY (I.old j h1 h2).2⟩,?_,hkn,λe=>(by cases e),I.clj,I.clo,I.cld,λy hy=>?_,λy hy=>?_,λy m h=>?_,λy m i h=>?_,λy h=>?_,λe=>?_,λe=>⟨λy=>?_,(I.nofin e).2⟩,λe=>?_,I.nd,λi=>?_,λy z m m' i h1 h2=>?_,I.full,λe=>(by cases e),λy hy h=>?_,λy hy h=>?_,I.cko⟩
 ·rw [Ho aA aA];exact I.main
 ·rw [Ho aA aA];exact (I.old j h1 h2).1
 ·rw [W5];rfl
 ·by_cases e:y=x
  ·subst e;rw [W6 aA,Bj];rfl
  ·rw [Ho aA aA,BF e];exact I.work y hy
 ·rw [BF aA];exact I.out y hy
 ·by_cases e:y=x
  ·subst e;rw [Bj] at h;cases h
  ·rw [BF e] at h;have:=I.wait y m h;omega
 ·by_cases e:y=x
  ·subst e;rw [Bj] at h;cases h;exact ⟨aA,aA⟩
  ·rw [BF e] at h;have:=I.hold y m i h;omega
 ·by_cases e:y=x
  ·subst e;rw [Bj] at h;rcases h with h | h <;> cases h
  ·rw [BF e] at h;exact I.over y h
 ·have h5:=I.h5 e;rw [Ho aA aA,F,F,F];exact I.closer e
 ·by_cases e2:y=x
  ·subst e2;rw [Bj];intro q;cases q
  ·rw [BF e2];exact (I.nofin e).1 y
 ·have:=I.allfin e x aA;rw [hw] at this;cases this
 ·rw [I.mem i];constructor
  ·rintro (⟨h1,h2⟩ | ⟨y,m,h⟩)
   ·by_cases e:i=k
    ·subst e;exact .inr ⟨x,f,Bj⟩
    ·exact .inl ⟨aA,h2⟩
   ·exact .inr ⟨y,m,by rw [BF (ne h (by intro q;cases q))];exact h⟩
  ·rintro (⟨h1,h2⟩ | ⟨y,m,h⟩)
   ·exact .inl ⟨aA,h2⟩
   ·by_cases e:y=x
    ·subst e;rw [Bj] at h;cases h;exact .inl ⟨Nat.le_refl _,hkn⟩
    ·rw [BF e] at h;exact .inr ⟨y,m,h⟩
 ·by_cases e1:y=x
  ·by_cases e2:z=x
   ·rw [e1,e2]
   ·subst e1;rw [Bj] at h1;cases h1;rw [BF e2] at h2;have:=(I.hold z _ _ h2).2;omega
  ·rw [BF e1] at h1;by_cases e2:z=x
   ·subst e2;rw [Bj] at h2;cases h2;have:=(I.hold y _ _ h1).2;omega
   ·rw [BF e2] at h2;exact I.uniq y z m m' i h1 h2
 ·by_cases e:y=x
  ·subst e;rw [Bj] at h;rcases h with h | h <;> cases h
  ·rw [BF e] at h;exact FY (I.knw y hy h)
 ·by_cases e:y=x
  ·subst e;rw [Bj] at h;cases h
  ·rw [BF e] at h;exact ⟨FY (I.knc y hy h).1,FY (I.knc y hy h).2⟩
theorem Do.res(I:Do cj co cd n ok k0 a true k bj bo w R N){x f j:Nat}(hx:x<a)(hw:w x=.hold f j) :
  j ∈ R/\Do cj co cd n ok k0 a true k bj bo (LO w x (.wait f)) (R.erase j) (N.meet (k0+1+x) 0 (Ft cj co cd ok (f+1)) (Fu co ok R.length (R.erase j))):=by
 have hp:=I.pos;have ha:=I.h5 rfl;have hj:j ∈ R:=(I.mem j).2 (.inr ⟨x,f,hw⟩);have hl:=List.length_erase_of_mem hj;have hl2:=List.length_pos_of_mem hj;have hf:=I.hold x _ _ hw;have F:=Pr (w:=w) (x:=x) (v:=.wait f) (by rw [hw];rfl);refine ⟨hj,hp,I.nn,I.ha,I.h5,?_,λy h1 h2=>⟨?_,FY (I.old y h1 h2).2⟩,?_,I.hk,I.bjk,I.clj,I.clo,I.cld,λy hy=>?_,λy hy=>?_,λy m h=>?_,λy m i h=>?_,λy h=>?_,λe=>?_,λe=>(by cases e),λe=>?_,I.nd.erase j,λi=>?_,λy z m m' i h1 h2=>?_,λe=>(by cases e),I.ckj,λy hy h=>?_,λy hy h=>?_,I.cko⟩
 ·rw [W6 aA];unfold UD;rw [if_pos rfl,show (R.erase j).length+1=R.length by omega]
 ·rw [Ho aA aA];exact (I.old y h1 h2).1
 ·rw [Ho aA aA];exact I.feed
 ·by_cases e:y=x
  ·subst e;rw [W5,Bj];rfl
  ·rw [Ho aA aA,BF e];exact I.work y hy
 ·rw [BF aA];exact I.out y hy
 ·by_cases e:y=x
  ·subst e;rw [Bj] at h;cases h;exact hf.1
  ·rw [BF e] at h;exact I.wait y m h
 ·by_cases e:y=x
  ·subst e;rw [Bj] at h;cases h
  ·rw [BF e] at h;exact I.hold y m i h
 ·by_cases e:y=x
  ·subst e;rw [Bj] at h;rcases h with h | h <;> cases h
  ·rw [BF e] at h;exact I.over y h
 ·rw [Ho aA aA,F,F,F];exact I.closer e
 ·have:=I.allfin e x aA;rw [hw] at this;cases this
 ·rw [List.Nodup.mem_erase_iff I.nd,I.mem i];constructor
  ·rintro ⟨hne,h | ⟨y,m,h⟩⟩
   ·exact .inl h
   ·refine .inr ⟨y,m,?_⟩;rw [BF (λe=>by subst e;rw [hw] at h;cases h;exact hne rfl)];exact h
  ·rintro (h | ⟨y,m,h⟩)
   ·exact ⟨λe=>by subst e;omega,.inl h⟩
   ·by_cases e:y=x
    ·subst e;rw [Bj] at h;cases h
    ·rw [BF e] at h;exact ⟨λe2=>by subst e2;exact e (I.uniq y x m f i h hw),.inr ⟨y,m,h⟩⟩
 ·by_cases e1:y=x
  ·subst e1;rw [Bj] at h1;cases h1
  ·by_cases e2:z=x
   ·subst e2;rw [Bj] at h2;cases h2
   ·rw [BF e1] at h1;rw [BF e2] at h2;exact I.uniq y z m m' i h1 h2
 ·by_cases e:y=x
  ·subst e;rw [Bj] at h;rcases h with h | h <;> cases h
  ·rw [BF e] at h;exact FY (I.knw y hy h)
 ·by_cases e:y=x
  ·subst e;rw [Bj] at h;cases h
  ·rw [BF e] at h;exact ⟨FY (I.knc y hy h).1,FY (I.knc y hy h).2⟩
theorem Do.tick(I:Do cj co cd n ok k0 a true k bj false w R N){x t:Nat}(hx:x<a)(hw:w x=.tick)(ht:3-((w 0).finN+(w 1).finN+(w 2).finN)=t+1) :
  Do cj co cd n ok k0 a true k bj false (LO w x .fin) R (N.meet (k0+1+x) (k0+4) .done (EW co cd t)):=by
 have hp:=I.pos;have ha:=I.h5 rfl;have hb:=I.over x (.inl hw);refine ⟨hp,I.nn,I.ha,I.h5,?_,λy h1 h2=>⟨?_,FY (I.old y h1 h2).2⟩,?_,I.hk,I.bjk,I.clj,I.clo,I.cld,λy hy=>?_,λy hy=>?_,λy m h=>?_,λy m i h=>?_,λy h=>hb,λe=>?_,λe=>(by cases e),λe=>(by cases e),I.nd,λi=>?_,λy z m m' i h1 h2=>?_,λe=>(by cases e),I.ckj,λy hy h=>?_,λy hy h=>?_,I.cko⟩
 ·rw [Ho aA aA];exact I.main
 ·rw [Ho aA aA];exact (I.old y h1 h2).1
 ·rw [Ho aA aA];exact I.feed
 ·by_cases e:y=x
  ·subst e;rw [W5,Bj];rfl
  ·rw [Ho aA aA,BF e];exact I.work y hy
 ·rw [BF aA];exact I.out y hy
 ·by_cases e:y=x
  ·subst e;rw [Bj] at h;cases h
  ·rw [BF e] at h;exact I.wait y m h
 ·by_cases e:y=x
  ·subst e;rw [Bj] at h;cases h
  ·rw [BF e] at h;exact I.hold y m i h
 ·rw [W6 aA];have h0:(w x).finN=0:=by rw [hw];rfl
  have e1:(LO w x .fin 0).finN+(LO w x .fin 1).finN+(LO w x .fin 2).finN=(w 0).finN+(w 1).finN+(w 2).finN+1:=by
   obtain rfl | rfl | rfl:x=0\/x=1\/x=2:=aA
   ·rw [Bj,BF aA,BF aA,h0];simp only [WS.finN];omega
   ·rw [Bj,BF aA,BF aA,h0];simp only [WS.finN];omega
   ·rw [Bj,BF aA,BF aA,h0];simp only [WS.finN]
  rw [e1,show 3-((w 0).finN+(w 1).finN+(w 2).finN+1)=t by omega];rfl
 ·rw [I.mem i];refine or_congr Iff.rfl ⟨?_,?_⟩
  ·rintro ⟨y,m,h⟩;exact ⟨y,m,by rw [BF (λe=>by subst e;rw [hw] at h;cases h)];exact h⟩
  ·rintro ⟨y,m,h⟩;by_cases e:y=x
   ·subst e;rw [Bj] at h;cases h
   ·rw [BF e] at h;exact ⟨y,m,h⟩
 ·by_cases e1:y=x
  ·subst e1;rw [Bj] at h1;cases h1
  ·by_cases e2:z=x
   ·subst e2;rw [Bj] at h2;cases h2
   ·rw [BF e1] at h1;rw [BF e2] at h2;exact I.uniq y z m m' i h1 h2
 ·by_cases e:y=x
  ·subst e;exact FY (I.knw y hy (.inl hw))
  ·rw [BF e] at h;exact FY (I.knw y hy h)
 ·by_cases e:y=x
  ·subst e;exact ⟨Z9 trivial,meet_knj (I.knw y hy (.inl hw))⟩
  ·rw [BF e] at h;exact ⟨FY (I.knc y hy h).1,FY (I.knc y hy h).2⟩
theorem Do.fed(I:Do cj co cd n ok k0 a c5 n false bo w R N)(d1:cj≠co)(d2:cj≠cd):Do cj co cd n ok k0 a c5 n true bo w R (N.shut k0 cj .done):=by
 have hp:=I.pos;have ha:=I.ha;have hnb:∀x,¬(w x=.tick\/w x=.fin):=λx h=>by have:=I.over x h;cases this
 refine ⟨hp,I.nn,ha,I.h5,?_,λy h1 h2=>⟨?_,(I.old y h1 h2).2⟩,?_,I.hk,λ_=>rfl,UE,by rw [KQ d1.symm];exact I.clo,by rw [KQ d2.symm];exact I.cld,λy hy=>?_,I.out,I.wait,I.hold,λ_ _=>rfl,λe=>?_,I.nofin,I.allfin,I.nd,I.mem,I.uniq,I.full,λ_=>NM trivial,λy hy h=>absurd h (hnb y),λy hy h=>absurd (.inr h) (hnb y),λe=>absurd (.inr (I.allfin e 0 aA)) (hnb 0)⟩
 ·rw [I5 aA];exact I.main
 ·rw [I5 aA];exact (I.old y h1 h2).1
 ·rw [W7];rfl
 ·rw [I5 aA];exact I.work y hy
 ·rw [I5 aA];exact I.closer e
theorem Do.shut(I:Do cj co cd n ok k0 a true k bj false w R N)(d1:cj≠co)(d3:co≠cd)(h3:3<=(w 0).finN+(w 1).finN+(w 2).finN):Do cj co cd n ok k0 a true k bj true w R (N.shut (k0+4) co .done):=by
 have hp:=I.pos;have ha:=I.h5 rfl;have h0:=(w 0).finN_le;have h1:=(w 1).finN_le;have h2:=(w 2).finN_le;have hall:∀x,x<3->w x=.fin:=λx hx=>by
  obtain rfl | rfl | rfl:x=0\/x=1\/x=2:=aA
  all_goals exact WS.finN_one aA
 refine ⟨hp,I.nn,I.ha,I.h5,?_,λy h1 h2=>⟨?_,(I.old y h1 h2).2⟩,?_,I.hk,I.bjk,by rw [KQ d1];exact I.clj,UE,by rw [KQ d3.symm];exact I.cld,λy hy=>?_,I.out,I.wait,I.hold,I.over,λ_=>?_,λe=>(by cases e),λ_=>hall,I.nd,I.mem,I.uniq,λe=>(by cases e),λe=>shut_ck' d1 (I.ckj e),I.knw,I.knc,λ_=>⟨NM trivial,ZQ (I.knc 0 aA (hall 0 aA)).2,λx hx=>ZQ (I.knc x aA (hall x hx)).1⟩⟩
 ·rw [I5 aA];exact I.main
 ·rw [I5 aA];exact (I.old y h1 h2).1
 ·rw [I5 aA];exact I.feed
 ·rw [I5 aA];exact I.work y hy
 ·rw [W7];rfl
theorem Do.hears(I:Do cj co cd n ok k0 a c5 k true bo w R N){x m:Nat}(hx:x<a)(hw:w x=.wait m):Do cj co cd n ok k0 a c5 k true bo (LO w x .tick) R (N.hear (k0+1+x) cj (.send cd .tick .done)):=by
 have hp:=I.pos;have ha:=I.ha;have F:=Pr (w:=w) (x:=x) (v:=.tick) (by rw [hw];rfl);refine ⟨hp,I.nn,ha,I.h5,?_,λy h1 h2=>⟨?_,MY (I.old y h1 h2).2⟩,?_,I.hk,I.bjk,I.clj,I.clo,I.cld,λy hy=>?_,λy hy=>?_,λy m h=>?_,λy m i h=>?_,λy h=>rfl,λe=>?_,λe=>⟨λy=>?_,(I.nofin e).2⟩,λe=>?_,I.nd,λi=>?_,λy z m m' i h1 h2=>?_,I.full,I.ckj,λy hy h=>?_,λy hy h=>?_,I.cko⟩
 ·rw [NN aA];exact I.main
 ·rw [NN aA];exact (I.old y h1 h2).1
 ·rw [NN aA];exact I.feed
 ·by_cases e:y=x
  ·subst e;rw [hear_j,Bj];rfl
  ·rw [NN aA,BF e];exact I.work y hy
 ·rw [BF aA];exact I.out y hy
 ·by_cases e:y=x
  ·subst e;rw [Bj] at h;cases h
  ·rw [BF e] at h;exact I.wait y m h
 ·by_cases e:y=x
  ·subst e;rw [Bj] at h;cases h
  ·rw [BF e] at h;exact I.hold y m i h
 ·have h5:=I.h5 e;rw [NN aA,F,F,F];exact I.closer e
 ·by_cases e2:y=x
  ·subst e2;rw [Bj];intro q;cases q
  ·rw [BF e2];exact (I.nofin e).1 y
 ·have:=I.allfin e x aA;rw [hw] at this;cases this
 ·rw [I.mem i];refine or_congr Iff.rfl ⟨?_,?_⟩
  ·rintro ⟨y,m,h⟩;exact ⟨y,m,by rw [BF (λe=>by subst e;rw [hw] at h;cases h)];exact h⟩
  ·rintro ⟨y,m,h⟩;by_cases e:y=x
   ·subst e;rw [Bj] at h;cases h
   ·rw [BF e] at h;exact ⟨y,m,h⟩
 ·by_cases e1:y=x
  ·subst e1;rw [Bj] at h1;cases h1
  ·by_cases e2:z=x
   ·subst e2;rw [Bj] at h2;cases h2
   ·rw [BF e1] at h1;rw [BF e2] at h2;exact I.uniq y z m m' i h1 h2
 ·by_cases e:y=x
  ·subst e;exact O5 (I.ckj rfl)
  ·rw [BF e] at h;exact MY (I.knw y hy h)
 ·by_cases e:y=x
  ·subst e;rw [Bj] at h;cases h
  ·rw [BF e] at h;exact ⟨MY (I.knc y hy h).1,MY (I.knc y hy h).2⟩
theorem Do.ends(I:Do cj co cd n ok k0 a true k bj true w R N){U:Nat->Prop}{W:List Nat->Cp Dv}:Fp U (N.hear 0 co (Im ok R W none)):=by
 have hp:=I.pos;have ha:=I.h5 rfl;have hall:=I.allfin rfl;have hb:=I.over 0 (.inr (hall 0 aA));have hk:=I.bjk hb;have hR:R=[]:=List.eq_nil_iff_forall_not_mem.2 λi hi=>by
  rcases (I.mem i).1 hi with h | ⟨y,m,h⟩
  ·omega
  ·by_cases e:y<3
   ·rw [hall y e] at h;cases h
   ·rw [I.out y aA] at h;cases h
 have hN:(N.hear 0 co (Im ok R W none)).n=N.n:=rfl;refine .stop U _ (by rw [hN,I.nn];omega) (by rw [hear_j,hR];rfl) λj hj hjn=>?_;rw [NN aA];obtain ⟨c1,c2,c3⟩:=I.cko rfl;rcases I.cases hjn with rfl | ⟨h1,h2⟩ | rfl | ⟨x,hx,rfl⟩ | ⟨hc,rfl⟩
 ·omega
 ·exact ⟨(I.old j h1 h2).1,MY (I.old j h1 h2).2⟩
 ·refine ⟨?_,O5 c2⟩;rw [I.feed,hb];rfl
 ·refine ⟨?_,O5 (c3 x aA)⟩;rw [I.work x hx,hall x aA];rfl
 ·refine ⟨?_,O5 c1⟩;rw [I.closer rfl];rfl
theorem pool_on{U:Nat->Prop}(d1:cj≠co)(d2:cj≠cd)(d3:co≠cd)(u1:U cj)(u2:U co)(u3:U cd):∀(q a:Nat)(c5:Bool)(k:Nat)(bj bo:Bool)(w:Nat->WS)(R:List Nat)(N:HU Dv),MW n a c5 k bj bo w=q->Do cj co cd n ok k0 a c5 k bj bo w R N->Fp U N:=by
 intro q
 induction q using Nat.strongRecOn with
 | ind q ih=>
  intro a c5 k bj bo w R N hq I;have hp:=I.pos;have ha:=I.ha;have L:∀{x:Nat}{v:WS}(_:x<3)(_:v.left<(w x).left),(LO w x v 0).left+(LO w x v 1).left+(LO w x v 2).left<(w 0).left+(w 1).left+(w 2).left:=by
   intro x v hx hv;obtain rfl | rfl | rfl:x=0\/x=1\/x=2:=aA
   all_goals rw [Bj,BF aA,BF aA];omega
  refine .plain N (by rw [I.nn];omega) I.goes (λi hi=>I.fine u1 u2 u3 hi) (λN' st=>?_) (λi f hi=>I.noMake hi);cases st with
  | hire hi hs=>
   obtain ⟨rfl,rfl,⟨h3,rfl,rfl⟩ | ⟨rfl,rfl,rfl⟩⟩:=I.spawn hi hs
   ·exact ih _ (by rw [<-hq];unfold MW;omega) _ _ _ _ _ _ _ _ rfl (I.hire1 h3)
   ·exact ih _ (by rw [<-hq];unfold MW;simp) _ _ _ _ _ _ _ _ rfl I.hire2
  | shut hi hs=>
   rcases I.close hi hs with ⟨rfl,rfl,rfl,rfl,rfl⟩ | ⟨rfl,rfl,rfl,h3,rfl,rfl⟩
   ·exact ih _ (by rw [<-hq];unfold MW;simp) _ _ _ _ _ _ _ _ rfl (I.fed d1 d2)
   ·exact ih _ (by rw [<-hq];unfold MW;simp) _ _ _ _ _ _ _ _ rfl (I.shut d1 d3 h3)
  | hear hj hs hcl=>
   rcases I.recv hj hs with ⟨rfl,rfl,rfl,rfl⟩ | ⟨x,hx,rfl,m,hw,rfl,rfl⟩ | ⟨rfl,rfl,rfl,t,ht,rfl,rfl⟩
   ·rw [I.clo] at hcl;subst hcl;exact I.ends
   ·rw [I.clj] at hcl;subst hcl
    have:=L (x:=x) (v:=.tick) aA (by rw [hw];simp [WS.left])
    exact ih _ (by rw [<-hq];unfold MW;omega) _ _ _ _ _ _ _ _ rfl (I.hears hx hw)
   ·rw [I.cld] at hcl;cases hcl
  | meet hi hj hij hs hs'=>
   rcases I.send hi hs with ⟨rfl,rfl,hk,rfl,rfl,rfl⟩ | ⟨x,hx,rfl,f,j,hw,rfl,rfl,rfl⟩ | ⟨x,hx,rfl,hw,rfl,rfl,rfl⟩
   ·rcases I.recv hj hs' with ⟨rfl,rfl,e,rfl⟩ | ⟨x,hx,rfl,m,hw,_,rfl⟩ | ⟨rfl,rfl,_,t,ht,e,rfl⟩
    ·exact absurd e d1
    ·obtain ⟨f,rfl⟩:∃f,m=f+1:=⟨m-1,by have:=I.wait x m hw;omega⟩;have h1:(LO w x (.hold f k) 0).left+(LO w x (.hold f k) 1).left+(LO w x (.hold f k) 2).left<=(w 0).left+(w 1).left+(w 2).left+1:=by
      have h0:(w x).left=3:=by rw [hw];rfl
      obtain rfl | rfl | rfl:x=0\/x=1\/x=2:=aA
      all_goals rw [Bj,BF aA,BF aA];simp only [AAA];omega
     exact ih _ (by rw [<-hq];unfold MW;omega) _ _ _ _ _ _ _ _ rfl (I.job hk hx hw)
    ·exact absurd e d2
   ·rcases I.recv hj hs' with ⟨rfl,rfl,_,rfl⟩ | ⟨y,hy,rfl,m,hw2,e,rfl⟩ | ⟨rfl,rfl,_,t,ht,e,rfl⟩
    ·obtain ⟨hjR,I'⟩:=I.res hx hw
     have:=L (x:=x) (v:=.wait f) aA (by rw [hw];simp [WS.left])
     show Fp U (N.meet _ 0 _ (if j ∈ R/\ok j=ok j then _ else _));rw [if_pos ⟨hjR,rfl⟩];exact ih _ (by rw [<-hq];unfold MW;omega) _ _ _ _ _ _ _ _ rfl I'
    ·exact absurd e.symm d1
    ·exact absurd e d3
   ·rcases I.recv hj hs' with ⟨rfl,rfl,e,rfl⟩ | ⟨y,hy,rfl,m,hw2,e,rfl⟩ | ⟨rfl,rfl,rfl,t,ht,_,rfl⟩
    ·exact absurd e.symm d3
    ·exact absurd e.symm d2
    ·have:=L (x:=x) (v:=.fin) aA (by rw [hw];simp [WS.left])
     exact ih _ (by rw [<-hq];unfold MW;omega) _ _ _ _ _ _ _ _ rfl (I.tick hx hw ht)
theorem W8{M:Type}{N:HU M}{i y c:Nat}{nx:Cp M}(h:y≠i):(N.mk' i c nx).s y=N.s y:=if_neg h
theorem mk_i{M:Type}{N:HU M}{i c:Nat}{nx:Cp M}:(N.mk' i c nx).s i=nx:=if_pos rfl
theorem mk_cl{M:Type}{N:HU M}{i c:Nat}{nx:Cp M}:(N.mk' i c nx).cl c=false:=if_pos rfl
theorem mk_cl'{M:Type}{N:HU M}{i c c':Nat}{nx:Cp M}(h:c'≠c):(N.mk' i c nx).cl c'=N.cl c':=if_neg h
structure W9(cj co n:Nat)(ok:Nat->Bool)(k0:Nat)(bj:Bool)(N:HU Dv):Prop where
 pos:0<k0
 nn:N.n=k0+1
 main:N.s 0=.make λcd=>IU cj co cd n ok 3
 old:∀j,0<j->j<k0->N.s j=.done/\N.kn 0 j
 feed:N.s k0=if bj then .done else Hs cj n 0
 bjk:bj=true->0=n/\N.ck cj k0
 clj:N.cl cj=bj
 clo:N.cl co=false
theorem W9.cases{i:Nat}(I:W9 cj co n ok k0 bj N)(hi:i<N.n):i=0\/(0<i/\i<k0)\/i=k0:=by have:=I.nn;omega
theorem W9.feedC(I:W9 cj co n ok k0 bj N):N.s k0=.done\/(bj=false/\n=0/\N.s k0=.close cj .done)\/(bj=false/\∃m,N.s k0=.send cj (.job 0) m):=by
 have h:=I.feed;cases hb:bj with
 | true=>rw [hb] at h;exact .inl h
 | false=>
  rw [hb] at h;cases hn:n with
  | zero=>rw [hn] at h;exact .inr (.inl ⟨rfl,rfl,h⟩)
  | succ m=>rw [hn] at h;exact .inr (.inr ⟨rfl,_,h⟩)
theorem W9.good(d1:cj≠co):∀(q:Nat)(bj:Bool)(N:HU Dv),(if bj then 0 else 1)=q->W9 cj co n ok k0 bj N->Fp (λx=>(False\/x=co)\/x=cj) N:=by
 intro q
 induction q using Nat.strongRecOn with
 | ind q ih=>
 intro bj N hq I;have hp:=I.pos;have hn:=I.nn;refine .step _ N aA (.inr ⟨0,_,aA,I.main⟩) (λi hi=>?_) (λN' st=>?_) (λi f cd hi hs hu=>?_)
 ·rcases I.cases hi with rfl | ⟨h1,h2⟩ | rfl
  ·rw [I.main];trivial
  ·rw [(I.old i h1 h2).1];show i≠0;omega
  ·rcases I.feedC with e | ⟨hb,_,e⟩ | ⟨hb,m,e⟩ <;> rw [e]
   ·show _≠0;omega
   ·exact ⟨.inr rfl,by rw [I.clj,hb]⟩
   ·exact ⟨.inr rfl,by rw [I.clj,hb]⟩
 ·have nr:∀j c f,j<N.n->N.s j≠.recv c f:=by
   intro j c f hj hs;rcases I.cases hj with rfl | ⟨h1,h2⟩ | rfl
   ·rw [I.main] at hs;cases hs
   ·rw [(I.old j h1 h2).1] at hs;cases hs
   ·rcases I.feedC with e | ⟨_,_,e⟩ | ⟨_,m,e⟩ <;> rw [e] at hs <;> cases hs
  cases st with
  | hire hi hs=>
   rcases I.cases hi with rfl | ⟨h1,h2⟩ | rfl
   ·rw [I.main] at hs;cases hs
   ·rw [(I.old _ h1 h2).1] at hs;cases hs
   ·rcases I.feedC with e | ⟨_,_,e⟩ | ⟨_,m,e⟩ <;> rw [e] at hs <;> cases hs
  | meet _ hj _ _ hs'=>exact absurd hs' (nr _ _ _ hj)
  | hear hj hs _=>exact absurd hs (nr _ _ _ hj)
  | shut hi hs=>
   rcases I.cases hi with rfl | ⟨h1,h2⟩ | rfl
   ·rw [I.main] at hs;cases hs
   ·rw [(I.old _ h1 h2).1] at hs;cases hs
   ·rcases I.feedC with e | ⟨hb,hz,e⟩ | ⟨_,m,e⟩
    ·rw [e] at hs;cases hs
    ·rw [e] at hs;cases hs;refine ih 0 (by rw [<-hq,hb];simp) true _ rfl ⟨hp,hn,?_,λj h1 h2=>⟨?_,(I.old j h1 h2).2⟩,?_,λ_=>⟨hz.symm,NM trivial⟩,UE,by rw [KQ d1.symm];exact I.clo⟩
     ·rw [I5 aA];exact I.main
     ·rw [I5 aA];exact (I.old j h1 h2).1
     ·rw [W7];rfl
    ·rw [e] at hs;cases hs
 ·rcases I.cases hi with rfl | ⟨h1,h2⟩ | rfl
  ·rw [I.main] at hs;cases hs;refine pool_on d1 (λe=>hu (.inr e.symm)) (λe=>hu (.inl (.inr e.symm))) (.inl (.inr rfl)) (.inl (.inl (.inr rfl))) (.inr rfl) _ 0 false 0 bj false (λ_=>.wait n) (List.range n) _ rfl
    ⟨hp,by show N.n=_;simp;omega,aA,λe=>(by cases e),by rw [mk_i];rfl,λj h1 h2=>⟨by rw [W8 aA];exact (I.old j h1 h2).1,(I.old j h1 h2).2⟩,by rw [W8 aA];exact I.feed,Nat.zero_le _,λe=>(I.bjk e).1,?_,?_,mk_cl,
     λx hx=>absurd hx aA,λ_ _=>rfl,λx m h=>by cases h;omega,λx m i h=>(by cases h),λx h=>(by rcases h with h | h <;> cases h),λe=>(by cases e),λ_=>⟨λx h=>(by cases h),rfl⟩,λe=>(by cases e),List.nodup_range,λi=>?_,λx y m m' i h=>(by cases h),λ_=>rfl,λe=>(I.bjk e).2,
     λx hx=>absurd hx aA,λx hx=>absurd hx aA,λe=>(by cases e)⟩
   ·rw [mk_cl' (λe=>hu (.inr e.symm))];exact I.clj
   ·rw [mk_cl' (λe=>hu (.inl (.inr e.symm)))];exact I.clo
   ·rw [List.mem_range];constructor
    ·exact λh=>.inl ⟨Nat.zero_le _,h⟩
    ·rintro (h | ⟨x,m,h⟩)
     ·exact h.2
     ·cases h
  ·rw [(I.old _ h1 h2).1] at hs;cases hs
  ·rcases I.feedC with e | ⟨_,_,e⟩ | ⟨_,m,e⟩ <;> rw [e] at hs <;> cases hs
theorem AAB{N:HU Dv}(S:W3 (poolS n ok) N):Fp (λ_=>False) N:=by
 obtain ⟨hn,h0,hr⟩:=S;have key:∀{N:HU Dv}{s0:Cp Dv},N.s 0=s0->(∀j,0<j->j<N.n->N.s j=.done/\N.kn 0 j)->∀i,i<N.n->(i=0/\N.s i=s0)\/(i≠0/\N.s i=.done):=by
  intro N s0 h1 h2 i hi;rcases Nat.eq_zero_or_pos i with rfl | hp
  ·exact .inl ⟨rfl,h1⟩
  ·exact .inr ⟨aA,(h2 i hp hi).1⟩
 have made:∀{U:Nat->Prop}{N:HU Dv}{f:Nat->Cp Dv},0<N.n->N.s 0=.make f->(∀j,0<j->j<N.n->N.s j=.done/\N.kn 0 j)->
   (∀c,¬U c->Fp (λx=>U x\/x=c) (N.mk' 0 c (f c)))->Fp U N:=by
  intro U N f hn h0 hr hm;have k1:=key h0 hr;refine .step _ N hn (.inr ⟨0,f,hn,h0⟩) (λi hi=>?_) (λN' st=>?_) (λi g c hi hs hu=>?_)
  ·rcases k1 i hi with ⟨rfl,e⟩ | ⟨h,e⟩ <;> rw [e]
   ·trivial
   ·exact h
  ·cases st with
   | hire hi hs=>rcases k1 _ hi with ⟨rfl,e⟩ | ⟨h,e⟩ <;> rw [e] at hs <;> cases hs
   | meet hi _ _ hs _=>rcases k1 _ hi with ⟨rfl,e⟩ | ⟨h,e⟩ <;> rw [e] at hs <;> cases hs
   | shut hi hs=>rcases k1 _ hi with ⟨rfl,e⟩ | ⟨h,e⟩ <;> rw [e] at hs <;> cases hs
   | hear hi hs _=>rcases k1 _ hi with ⟨rfl,e⟩ | ⟨h,e⟩ <;> rw [e] at hs <;> cases hs
  ·rcases k1 i hi with ⟨rfl,e⟩ | ⟨h,e⟩
   ·rw [e] at hs;cases hs;exact hm c hu
   ·rw [e] at hs;cases hs
 refine made hn h0 hr λco _=>made hn mk_i (λj h1 h2=>⟨by rw [W8 aA];exact (hr j h1 h2).1,(hr j h1 h2).2⟩) λcj hu=>?_;have k2:=key (N:=(N.mk' 0 co (.make λcj=>.spawn (Hs cj n 0) (.make λcd=>IU cj co cd n ok 3))).mk' 0 cj (.spawn (Hs cj n 0) (.make λcd=>IU cj co cd n ok 3))) mk_i
  (λj h1 h2=>⟨by rw [W8 aA,W8 aA];exact (hr j h1 h2).1,(hr j h1 h2).2⟩)
 refine .plain _ hn ⟨_,.hire hn mk_i⟩ (λi hi=>?_) (λN' st=>?_) (λi f hi hs=>?_)
 ·rcases k2 i hi with ⟨rfl,e⟩ | ⟨h,e⟩ <;> rw [e]
  ·trivial
  ·exact h
 ·cases st with
  | meet hi _ _ hs _=>rcases k2 _ hi with ⟨rfl,e⟩ | ⟨h,e⟩ <;> rw [e] at hs <;> cases hs
  | shut hi hs=>rcases k2 _ hi with ⟨rfl,e⟩ | ⟨h,e⟩ <;> rw [e] at hs <;> cases hs
  | hear hi hs _=>rcases k2 _ hi with ⟨rfl,e⟩ | ⟨h,e⟩ <;> rw [e] at hs <;> cases hs
  | hire hi hs=>
   rcases k2 _ hi with ⟨rfl,e⟩ | ⟨h,e⟩
   ·rw [e] at hs;cases hs;refine W9.good (k0:=N.n) (n:=n) (ok:=ok) (λe=>hu (.inr e)) _ false _ rfl ⟨hn,rfl,?_,λj h1 h2=>⟨?_,?_⟩,?_,λe=>(by cases e),if_pos rfl,?_⟩
    ·rw [W4 (λe=>by have:0=N.n:=e;omega)]
    ·rw [Lx (λe=>by have:j=N.n:=e;omega) aA,W8 aA,W8 aA];exact (hr j h1 h2).1
    ·exact MX (λe=>by have:0=N.n:=e;omega) (λe=>by have:j=N.n:=e;omega) (hr j h1 h2).2
    ·exact Pq
    ·show (if co=cj then false else if co=co then false else N.cl co)=false;rw [if_neg (λe=>hu (.inr e.symm)),if_pos rfl]
   ·rw [e] at hs;cases hs
 ·rcases k2 i hi with ⟨rfl,e⟩ | ⟨h,e⟩ <;> rw [e] at hs <;> cases hs
end
end Go.Ns
namespace Go.Ns
def EM(s:ByteArray):Array Value:=#[.string s]
structure AJ where
 a:Int
 b:Int
 low:Int
 high:Int
structure AL where
 place:Int
 low:Int
 high:Int
 due:Int
 pv:Value
 parts:List Int
structure AM where
 wv:Value
 ways:List Int
 low:Int
 high:Int
def Dc(x:AJ):Array Value:=#[.int .i64 x.a,.int .i64 x.b,.int .i64 x.low,.int .i64 x.high]
def Cd(x:AL):Array Value:=#[.int .i64 x.place,.int .i64 x.low,.int .i64 x.high,.int .i64 x.due,x.pv]
def CT(x:AM):Array Value:=#[x.wv,.int .i64 x.low,.int .i64 x.high]
def AJ.z:AJ:=⟨0,0,0,0⟩
def AL.z:AL:=⟨0,0,0,0,.slice none 0 0,[]⟩
def AM.z:AM:=⟨.slice none 0 0,[],0,0⟩
def Bc(h:GH)(js:List AL):Prop:=∀k,AH h (js.getD k AL.z).pv 1 eI (js.getD k AL.z).parts
def Av(h:GH)(ns:List AM):Prop:=∀k,AH h (ns.getD k AM.z).wv 1 eI (ns.getD k AM.z).ways
theorem Bc.le{h h':GH}{js:List AL}(x:Bc h js)(l:h.Le h'):Bc h' js:=λk=>(x k).le l
theorem Av.le{h h':GH}{ns:List AM}(x:Av h ns)(l:h.Le h'):Av h' ns:=λk=>(x k).le l
theorem Bc.nil(h:GH):Bc h []:=λk=>by simpa [AL.z] using AH.nil h 1 eI
theorem Av.nil(h:GH):Av h []:=λk=>by simpa [AM.z] using AH.nil h 1 eI
def IV(l h top many:Int):Prop:=((0<=l/\l<=h)/\h<=top)/\h-l<many
instance (l h top many:Int):Decidable (IV l h top many):=inferInstanceAs (Decidable (_/\_))
def HK(bag kinds:Int):Int:=if¬(0<=bag/\bag<=9)\/¬(0<=kinds/\kinds<=3) then 1 else 0
def FZ(ps:List ByteArray)(k:Nat):Int:=if Dm (ps.getD k ⟨#[]⟩)=false then 4 else if (ps.take k).any (λx=>(ps.getD k ⟨#[]⟩).toList==x.toList) then 5 else 0
def BM(ps:List ByteArray):Int:=if¬(1<=(ps.length:Int)/\(ps.length:Int)<=4) then 2 else C2 (FZ ps) 0 ps.length
def Ek(np:Nat)(l:List Int)(k:Nat):Int:=if¬(0<=l.getD k 0/\l.getD k 0<=(np:Int)-1) then 6 else 0
def Bw(np:Nat)(l:List Int):Int:=C2 (Ek np l) 0 l.length
def DP(np:Nat)(ws:List AJ)(k:Nat):Int:=
 if¬Bw np [(ws.getD k AJ.z).a,(ws.getD k AJ.z).b]=0 then Bw np [(ws.getD k AJ.z).a,(ws.getD k AJ.z).b]
 else if (ws.getD k AJ.z).b<=(ws.getD k AJ.z).a then 7
 else if (ws.take k).any (λy=>decide (y.a=(ws.getD k AJ.z).a/\y.b=(ws.getD k AJ.z).b)) then 5
 else if¬IV (ws.getD k AJ.z).low (ws.getD k AJ.z).high 30 2 then 1 else 0
abbrev IF:=Nat->Bool
def Ga(c:IF):Array Value:=#[.bool (c 0),.bool (c 1),.bool (c 2),.bool (c 3)]
def IF.none:IF:=λ_=>false
def IF.set(c:IF)(i:Nat)(b:Bool):IF:=λk=>if k=i then b else c k
theorem KR{c:IF}{i:Nat}(h:i<4):(Ga c)[0+i*1]? =some (.bool (c i)):=by
 match i,h with
 | 0,_=>rfl
 | 1,_=>rfl
 | 2,_=>rfl
 | 3,_=>rfl
theorem Ps{c:IF}{i:Nat}{b:Bool}(h:i<4):BZ (Ga c) (0+i*1) [.bool b]=Ga (c.set i b):=by
 match i,h with
 | 0,_=>rfl
 | 1,_=>rfl
 | 2,_=>rfl
 | 3,_=>rfl
def IW(c:IF)(x:AJ):IF:=(c.set x.a.toNat (c x.a.toNat || c x.b.toNat)).set x.b.toNat ((c.set x.a.toNat (c x.a.toNat || c x.b.toNat)) x.b.toNat || (c.set x.a.toNat (c x.a.toNat || c x.b.toNat)) x.a.toNat)
def HY(ws:List AJ)(c:IF):IF:=ws.foldl IW c
def E9(ws:List AJ):Nat->IF->IF
 | 0,c=>c
 | n+1,c=>E9 ws n (HY ws c)
def Pu(c:IF)(n:Nat):List Bool:=(List.range n).map c
def HL(np:Nat)(ws:List AJ):Int:=if (Pu (E9 ws np (IF.none.set 0 true)) np).any (λx=>(false==x)) then 8 else 0
def FA(np:Nat)(ws:List AJ):Int:=if (5:Int)<ws.length then 2 else if¬C2 (DP np ws) 0 ws.length=0 then C2 (DP np ws) 0 ws.length else HL np ws
def FB(np:Nat)(kinds:Int)(js:List AL)(k:Nat):Int:=
 if¬Bw np [(js.getD k AL.z).place]=0 then Bw np [(js.getD k AL.z).place]
 else if¬IV (js.getD k AL.z).low (js.getD k AL.z).high 30 2\/¬(0<=(js.getD k AL.z).due/\(js.getD k AL.z).due<=200) then 1
 else if¬((js.getD k AL.z).parts.length:Int)=kinds then 2
 else if (js.getD k AL.z).parts.any (λn=>decide (¬(0<=n/\n<=5))) then 1 else 0
def Br(np:Nat)(kinds:Int)(js:List AL):Int:=if (4:Int)<js.length then 2 else C2 (FB np kinds js) 0 js.length
def D6(nw:Nat)(ns:List AM)(k:Nat):Int:=
 if (5:Int)<(ns.getD k AM.z).ways.length then 2
 else if (ns.getD k AM.z).ways.any (λn=>decide (¬(0<=n/\n<=(nw:Int)-1))) then 6
 else if¬IV (ns.getD k AM.z).low (ns.getD k AM.z).high 200 201 then 1 else 0
def Ce(nw:Nat)(ns:List AM):Int:=if (4:Int)<ns.length then 2 else C2 (D6 nw ns) 0 ns.length
def Jg(bag kinds:Int)(ps:List ByteArray)(ws:List AJ)(js:List AL)(ns:List AM):Nat->Int
 | 0=>HK bag kinds
 | 1=>BM ps
 | 2=>FA ps.length ws
 | 3=>Br ps.length kinds js
 | _=>Ce ws.length ns
def BD(bag kinds:Int)(ps:List ByteArray)(ws:List AJ)(js:List AL)(ns:List AM):Int:=C2 (Jg bag kinds ps ws js ns) 0 5
theorem Fv{np:Nat}:∀{l:List Int},Bw np l=0->∀x ∈ l,0<=x/\x<=(np:Int)-1:=by
 intro l h x hx;obtain ⟨k,hk,rfl⟩:=List.mem_iff_getElem.1 hx;have h1:=Cy h k (Nat.zero_le _) aA;unfold Ek at h1;rw [EE 0 hk] at h1;by_cases e:0<=l[k]/\l[k]<=(np:Int)-1
 ·exact e
 ·rw [if_pos e] at h1;cases h1
structure WayOK(np:Nat)(x:AJ):Prop where
 a:0<=x.a/\x.a<=(np:Int)-1
 b:0<=x.b/\x.b<=(np:Int)-1
 lt:x.a<x.b
 time:0<=x.low/\x.low<=x.high/\x.high<=30/\x.high-x.low<2
theorem AAC{np:Nat}{ws:List AJ}{k:Nat}(h:DP np ws k=0):WayOK np (ws.getD k AJ.z):=by
 unfold DP at h;split at h
 ·rename_i e;exact absurd h e
 ·rename_i e
  have e':=Decidable.not_not.1 e;have h1:=Fv e' _ (List.mem_cons_self);have h2:=Fv e' _ (List.mem_cons_of_mem _ List.mem_cons_self);split at h
  ·cases h
  ·split at h
   ·cases h
   ·split at h
    ·cases h
    ·rename_i e2
     have e2':=Decidable.not_not.1 e2;unfold IV at e2';exact ⟨h1,h2,aA,aA⟩
theorem VN{np:Nat}{ws:List AJ}(h:∀k,k<ws.length->DP np ws k=0)(k:Nat)(hk:k<ws.length):WayOK np (ws.getD k AJ.z):=AAC (h k hk)
theorem ZR{np:Nat}{ws:List AJ}(h:∀k,k<ws.length->DP np ws k=0)(hnp:np<=4)(k:Nat):0<=(ws.getD k AJ.z).a/\(ws.getD k AJ.z).a<4/\0<=(ws.getD k AJ.z).b/\(ws.getD k AJ.z).b<4:=by
 rcases Nat.lt_or_ge k ws.length with hk | hk
 ·have x:=VN h k hk;have h1:=x.a;have h2:=x.b;omega
 ·rw [Be hk];exact ⟨Int.le_refl _,aC,Int.le_refl _,aC⟩
theorem H3{np:Nat}{ws:List AJ}{k:Nat}{c:Int}(h5:¬(5:Int)<ws.length)(hs:∀j,j<k->DP np ws j=0)(hk:k<ws.length)(e:DP np ws k=c)(hc:c≠0):FA np ws=c:=by
 have h1:=BL hs hk e hc;rw [FA,if_neg h5,h1,if_pos hc]
theorem MZ{np:Nat}{ws:List AJ}{k:Nat}(h5:¬(5:Int)<ws.length)(hs:∀j,j<k->DP np ws j=0)(hk:ws.length<=k):FA np ws=HL np ws:=by
 rw [FA,if_neg h5,BS hs hk,if_neg aD]
theorem Pv{ps:List ByteArray}(h:BM ps=0):ps.length<=4:=by
 unfold BM at h;split at h
 ·cases h
 ·rename_i e;have:=Decidable.not_not.1 e;omega
theorem UF{np:Nat}{l:List Int}{k:Nat}(h:∀j,j<k->Ek np l j=0)(hk:k<l.length)(e:¬(0<=l.getD k 0/\l.getD k 0<=(np:Int)-1)):Bw np l=6:=
 BL h hk (by unfold Ek;rw [if_pos e]) aC
theorem VO{np:Nat}{l:List Int}{k:Nat}(h:∀j,j<k->Ek np l j=0)(hk:l.length<=k):Bw np l=0:=BS h hk
structure BO(bag kinds:Int)(ps:List ByteArray)(ws:List AJ)(js:List AL)(ns:List AM):Prop where
 hbag:0<=bag/\bag<=9
 hkin:0<=kinds/\kinds<=3
 plen:1<=ps.length/\ps.length<=4
 place:∀k,k<ps.length->FZ ps k=0
 wlen:ws.length<=5
 way:∀k,k<ws.length->DP ps.length ws k=0
 led:HL ps.length ws=0
 jlen:js.length<=4
 job:∀k,k<js.length->FB ps.length kinds js k=0
 nlen:ns.length<=4
 note:∀k,k<ns.length->D6 ws.length ns k=0
theorem CE{bag kinds:Int}{ps:List ByteArray}{ws:List AJ}{js:List AL}{ns:List AM}(h:BD bag kinds ps ws js ns=0):BO bag kinds ps ws js ns:=by
 have hz:=Cy h;have h0:HK bag kinds=0:=hz 0 aA aA;have h1:BM ps=0:=hz 1 aA aA;have h2:FA ps.length ws=0:=hz 2 aA aA;have h3:Br ps.length kinds js=0:=hz 3 aA aA;have h4:Ce ws.length ns=0:=hz 4 aA aA;unfold HK at h0;unfold BM at h1;unfold FA at h2;unfold Br at h3;unfold Ce at h4;split at h0
 ·cases h0
 rename_i a0
 split at h1
 ·cases h1
 rename_i a1
 split at h2
 ·cases h2
 rename_i a2
 split at h2
 ·rename_i a3;exact absurd h2 a3
 rename_i a3
 split at h3
 ·cases h3
 rename_i a4
 split at h4
 ·cases h4
 rename_i a5
 have b0:(0<=bag/\bag<=9)/\(0<=kinds/\kinds<=3):=aA
 have e1:=Cy h1;have e2:=Cy (Decidable.not_not.1 a3);have e3:=Cy h3;have e4:=Cy h4;exact ⟨b0.1,b0.2,aA,λk hk=>e1 k (Nat.zero_le _) aA,aA,λk hk=>e2 k (Nat.zero_le _) aA,h2,aA,λk hk=>e3 k (Nat.zero_le _) aA,aA,λk hk=>e4 k (Nat.zero_le _) aA⟩
structure JobOK(np:Nat)(kinds:Int)(x:AL):Prop where
 place:0<=x.place/\x.place<=(np:Int)-1
 time:0<=x.low/\x.low<=x.high/\x.high<=30/\x.high-x.low<2
 due:0<=x.due/\x.due<=200
 len:(x.parts.length:Int)=kinds
 part:∀q,0<=x.parts.getD q 0/\x.parts.getD q 0<=5
theorem Pw{np:Nat}{kinds:Int}{js:List AL}{k:Nat}(h:FB np kinds js k=0):JobOK np kinds (js.getD k AL.z):=by
 unfold FB at h;split at h
 ·rename_i e;exact absurd h e
 rename_i e
 have h1:=Fv (Decidable.not_not.1 e) _ (List.mem_cons_self);split at h
 ·cases h
 rename_i e2
 split at h
 ·cases h
 rename_i e3
 split at h
 ·cases h
 rename_i e4
 unfold IV at e2;refine ⟨h1,aA,aA,Decidable.not_not.1 e3,λq=>?_⟩;rcases Nat.lt_or_ge q (js.getD k AL.z).parts.length with hq | hq
 ·have h7:¬∃x ∈ (js.getD k AL.z).parts,¬(0<=x/\x<=5):=by simpa [List.any_eq_true] using e4
  exact Classical.byContradiction λz=>h7 ⟨_,Ba hq,z⟩
 ·rw [Be hq];decide
end Go.Ns
namespace Go.Ns
open Go.Conc
section
variable {P:Program} {E:Gq P} {O:Nat->Value} {ds:List Deferred} {h:GH} {T:(Nat->Value)->List Deferred->GH->Prop} {dst:Option Nat} {ty:TypeId} {pos:String} {af:Array Edge} {gd:Option (Nat×Bool)}
theorem ZS{xt yt:TypeId}{x y:Operand}{a b:Bool}(hx:AQ O x=.bool a)(hy:AQ O y=.bool b)(he:PQ P 1 xt (.bool a) (.bool b)=some (a==b))(k:T (putS O dst (.bool (a==b))) ds h):BQ E ⟨dst,.binOp .eql xt x y yt,ty,pos,af,gd⟩ O ds h T:=by
 unfold BQ execOp;simp only [hx,hy];refine F7 (AD _ _ ?_);have hg:∀(Q:Unit->GH->Prop),Q () h->(eqGuard .eql xt x y (.bool a) (.bool b)).gh P h Q:=λQ q=>q;refine hg _ ?_;show Sem.gh P (do pure (Value.bool (<-Op.equal xt (.bool a) (.bool b))):Sem Value) h _;refine AD _ _ ?_;exact JZ 1 _ _ _ _ (a==b) h _ aC he k
theorem LZ{t:TypeId}{x o:Operand}{m n b off hi:Nat}(ht:KG P t=some (m,n))(hx:AQ O x=.pointer (some ⟨b,off,none⟩))(ho:∃kd,AQ O o=.int kd hi)(h2:hi<=m)(k:T (putS O dst (.slice (some ⟨b,off,none⟩) hi m)) ds h) :
  BQ E ⟨dst,.slice t x none (some o) none,ty,pos,af,gd⟩ O ds h T:=by
 obtain ⟨kd,e⟩:=ho;unfold BQ execOp;simp only [hx];refine F7 ?_;unfold KG at ht;unfold Instr.sliceAt;cases hu:P.underlying t with
 | none=>rw [hu] at ht;cases ht
 | some d=>
  rw [hu] at ht;cases d <;> first | (cases ht;done) | skip
  rename_i el
  simp only [Option.map_eq_some_iff,Prod.mk.injEq] at ht;obtain ⟨x0,hx0,rfl,rfl⟩:=ht;refine AD _ _ (Al hu ?_);dsimp only;refine AD _ _ (Ar ?_);unfold Instr.sliceBounds;simp only [Option.map_some,Option.map_none,e,Bool.false_eq_true,↓reduceIte];refine AD _ _ (AD _ _ (Ar (AD _ _ (DT aA aA (AD _ _ (Ar (Ar ?_)))))));refine AD _ _ (D9 hx0 (Ar ?_));simp only [Nat.sub_zero,Nat.zero_mul,Iz,Nat.add_zero,ite_self,Int.toNat_natCast];exact k
end
def eBo(b:Bool):Array Value:=#[.bool b]
theorem can_sl{h:GH}{r n:Nat}{p:Bool}{c:IF}{t:TypeId}{f:Nat×Nat}(hb:h r=some (p,.cells (Ga c) t f))(hn:n<=4):AH h (.slice (some ⟨r,0,none⟩) n 4) 1 eBo (Pu c n):=by
 refine ⟨some ⟨r,0,none⟩,4,by simp [Pu],by simpa [Pu] using hn,by simp [Pu];omega,λi hi=>⟨r,0,rfl,p,_,t,f,hb,?_,?_⟩⟩
 ·have:i<n:=by simpa [Pu] using hi
  show 0+i*1+1<=4;omega
 ·have hi':i<n:=by simpa [Pu] using hi
  have h4:i<4:=aA
  have e:(Pu c n)[i]=c i:=by simp [Pu]
  rw [e]
  match i,h4 with
  | 0,_=>rfl
  | 1,_=>rfl
  | 2,_=>rfl
  | 3,_=>rfl
theorem Px{ws:List AJ}{c c':IF}{np k:Nat}(h:E9 ws (np-k) c=c')(hk:np<=k):c=c':=by
 rw [Nat.sub_eq_zero_of_le hk] at h;exact h
theorem VP{ws:List AJ}{c c':IF}{np k:Nat}(h:E9 ws (np-k) c=c')(hk:k<np):E9 ws (np-(k+1)) (HY ws c)=c':=by
 rw [show np-k=(np-(k+1))+1 by omega] at h;exact h
def BI(ws:List AJ)(c:IF)(k:Nat):IF:=(ws.take k).foldl IW c
theorem XA{ws:List AJ}{c:IF}{k:Nat}(hk:k<ws.length):BI ws c (k+1)=IW (BI ws c k) (ws.getD k AJ.z):=by
 unfold BI;rw [Ey AJ.z hk,List.foldl_append];rfl
theorem AAD{ws:List AJ}{c:IF}{k:Nat}(hk:ws.length<=k):BI ws c k=HY ws c:=by
 unfold BI HY;rw [List.take_of_length_le hk]
structure AF where
 ways:Nat->Int
 works:Nat->Int
def AF.zero:AF:=⟨λ_=>0,λ_=>0⟩
def Af(p:AF):Array Value:=#[.int .i64 (p.ways 0),.int .i64 (p.ways 1),.int .i64 (p.ways 2),.int .i64 (p.ways 3),.int .i64 (p.ways 4),
 .int .i64 (p.works 0),.int .i64 (p.works 1),.int .i64 (p.works 2),.int .i64 (p.works 3)]
theorem GL(p:AF):(Value.agg (Af p)).cells.size=9:=rfl
theorem GM(p:AF):Value.fine (.agg (Af p))=true:=rfl
theorem G2(p:AF):0+9<=(Af p).size:=Nat.le_refl 9
theorem G3(p q:AF):BZ (Af p) 0 (Value.agg (Af q)).cells.toList=Af q:=by
 simp [Value.cells,Af,BZ]
def AF.setWay(p:AF)(i:Nat)(n:Int):AF:={ p with ways:=λk=>if k=i then n else p.ways k }
def AF.setWork(p:AF)(i:Nat)(n:Int):AF:={ p with works:=λk=>if k=i then n else p.works k }
theorem G4{p:AF}{i:Nat}(h:i<5):(Af p)[0+i*1]? =some (.int .i64 (p.ways i)):=by
 match i,h with
 | 0,_=>rfl
 | 1,_=>rfl
 | 2,_=>rfl
 | 3,_=>rfl
 | 4,_=>rfl
theorem KT{p:AF}{i:Nat}(h:i<4):(Af p)[5+i*1]? =some (.int .i64 (p.works i)):=by
 match i,h with
 | 0,_=>rfl
 | 1,_=>rfl
 | 2,_=>rfl
 | 3,_=>rfl
theorem Rw{p:AF}{i:Nat}{n:Int}(h:i<5):BZ (Af p) (0+i*1) [.int .i64 n]=Af (p.setWay i n):=by
 match i,h with
 | 0,_=>rfl
 | 1,_=>rfl
 | 2,_=>rfl
 | 3,_=>rfl
 | 4,_=>rfl
theorem P0{p:AF}{i:Nat}{n:Int}(h:i<4):BZ (Af p) (5+i*1) [.int .i64 n]=Af (p.setWork i n):=by
 match i,h with
 | 0,_=>rfl
 | 1,_=>rfl
 | 2,_=>rfl
 | 3,_=>rfl
def AF.put(p:AF)(nw i:Nat)(n:Int):AF:=if i<nw then p.setWay i n else p.setWork (i-nw) n
theorem AF.put_put(p:AF)(nw i:Nat)(n m:Int):(p.put nw i n).put nw i m=p.put nw i m:=by
 unfold AF.put;split
 ·unfold AF.setWay;congr 1;funext k;simp only [];split <;> rfl
 ·unfold AF.setWork;congr 1;funext k;simp only [];split <;> rfl
def F3(p:AF)(l:List Int):Int:=(l.map λk=>p.ways k.toNat).sum
def Ck(ns:List AM)(p:AF):Bool:=ns.all λx=>decide (x.low<=F3 p x.ways/\F3 p x.ways<=x.high)
structure CF(p:AF):Prop where
 ways:∀k,0<=p.ways k/\p.ways k<=30
 works:∀k,0<=p.works k/\p.works k<=30
def O6(ns:List AM)(p:AF)(k:Nat):Bool:=decide ((ns.getD k AM.z).low<=F3 p (ns.getD k AM.z).ways/\F3 p (ns.getD k AM.z).ways<=(ns.getD k AM.z).high)
theorem UG{p:AF}{l:List Int}{q:Nat}(h:q<l.length):F3 p (l.take (q+1))=F3 p (l.take q)+p.ways (l.getD q 0).toNat:=by
 unfold F3;rw [Ey 0 h];simp
theorem OC{p:AF}{l:List Int}{q:Nat}(h:l.length<=q):F3 p (l.take q)=F3 p l:=by rw [List.take_of_length_le h]
theorem VQ{p:AF}{ns:List AM}{k q:Nat}{s:Int}(hs:s=F3 p ((ns.getD k AM.z).ways.take q))(hq:(ns.getD k AM.z).ways.length<=q)(h:(ns.getD k AM.z).low<=s/\s<=(ns.getD k AM.z).high):O6 ns p k=true:=by
 rw [OC hq] at hs;subst hs;exact decide_eq_true h
theorem XB{p:AF}{ns:List AM}{k:Nat}(h:∀j,j<k->O6 ns p j=true)(hk:ns.length<=k):Ck ns p=true:=by
 unfold Ck;rw [List.all_eq_true];intro x hx;obtain ⟨i,hi,rfl⟩:=List.mem_iff_getElem.1 hx
 have:=h i aA
 unfold O6 at this;rw [EE AM.z hi] at this;exact this
theorem AAE{p:AF}{ns:List AM}{k q:Nat}{s:Int}(hk:k<ns.length)(hs:s=F3 p ((ns.getD k AM.z).ways.take q))(hq:(ns.getD k AM.z).ways.length<=q)(h:¬((ns.getD k AM.z).low<=s/\s<=(ns.getD k AM.z).high)):Ck ns p=false:=by
 rw [OC hq] at hs;subst hs;rw [EE AM.z hk] at h;unfold Ck;rw [List.all_eq_false];exact ⟨ns[k],List.getElem_mem hk,by simpa using h⟩
theorem P1{f:Nat->Bool}{k:Nat}(h:∀j,j<k->f j=true)(e:f k=true):∀j,j<k+1->f j=true:=λj hj=>by
 rcases Nat.lt_succ_iff_lt_or_eq.1 hj with q | rfl
 ·exact h j q
 ·exact e
theorem P2{nw:Nat}{ns:List AM}(h:∀k,k<ns.length->D6 nw ns k=0)(k:Nat):(ns.getD k AM.z).ways.length<=5/\(∀q,0<=(ns.getD k AM.z).ways.getD q 0/\((ns.getD k AM.z).ways.getD q 0=0\/(ns.getD k AM.z).ways.getD q 0<=(nw:Int)-1)):=by
 rcases Nat.lt_or_ge k ns.length with hk | hk
 ·have e:=h k hk;unfold D6 at e;split at e
  ·cases e
  ·split at e
   ·cases e
   ·rename_i h5 h6
    refine ⟨aA,λq=>?_⟩;rcases Nat.lt_or_ge q (ns.getD k AM.z).ways.length with hq | hq
    ·have h7:¬∃x ∈ (ns.getD k AM.z).ways,¬(0<=x/\x<=(nw:Int)-1):=by simpa [List.any_eq_true] using h6
     have h8:0<=(ns.getD k AM.z).ways.getD q 0/\(ns.getD k AM.z).ways.getD q 0<=(nw:Int)-1:=Classical.byContradiction λz=>h7 ⟨_,Ba hq,z⟩;exact ⟨h8.1,.inr h8.2⟩
    ·rw [Be hq];exact ⟨Int.le_refl _,.inl rfl⟩
 ·rw [Be hk];refine ⟨by simp [AM.z],λq=>?_⟩;simp [AM.z]
def CU(ws:List AJ)(js:List AL)(i:Nat):Int:=if i<ws.length then (ws.getD i AJ.z).low else (js.getD (i-ws.length) AL.z).low
def HZ(ws:List AJ)(js:List AL)(i:Nat):Int:=if i<ws.length then (ws.getD i AJ.z).high else (js.getD (i-ws.length) AL.z).high
def Cu(ag:AF->Bool)(ws:List AJ)(js:List AL):Nat->Nat->AF->List AF
 | 0,_,p=>[p]
 | f+1,i,p=>(JI (CU ws js i) (HZ ws js i)).flatMap λn=>if i+1=ws.length/\ag (p.put ws.length i n)=false then [] else Cu ag ws js f (i+1) (p.put ws.length i n)
def CR(ag:AF->Bool)(ws:List AJ)(js:List AL)(f i:Nat)(p:AF)(n:Int):List AF:=
 if i+1=ws.length/\ag (p.put ws.length i n)=false then [] else Cu ag ws js f (i+1) (p.put ws.length i n)
theorem HM(ag:AF->Bool)(ws:List AJ)(js:List AL)(f i:Nat)(p:AF) :
  Cu ag ws js (f+1) i p=(JI (CU ws js i) (HZ ws js i)).flatMap (CR ag ws js f i p):=rfl
def AG(ws:List AJ)(js:List AL)(ns:List AM):List AF:=
 if 0<ws.length\/Ck ns AF.zero=true then Cu (Ck ns) ws js (ws.length+js.length) 0 AF.zero else []
def Ht(nw i:Nat):Nat:=if i<nw then 0+i*1 else 5+(i-nw)*1
theorem AAF{nw i:Nat}(h:i<nw):Ht nw i=0+i*1:=if_pos h
theorem XC{nw i:Nat}(h:¬i<nw):Ht nw i=5+(i-nw)*1:=if_neg h
theorem K9{p:AF}{nw nj i:Nat}{v:Int}(hw:nw<=5)(hj:nj<=4)(hi:i<nw+nj):(Af (p.put nw i v))[Ht nw i]? =some (.int .i64 v):=by
 unfold AF.put Ht;split
 ·rw [G4 aA];simp [AF.setWay]
 ·rw [KT aA];simp [AF.setWork]
theorem Gb{p:AF}{nw nj i:Nat}{v:Int}(hw:nw<=5)(hj:nj<=4)(hi:i<nw+nj):BZ (Af p) (Ht nw i) [.int .i64 v]=Af (p.put nw i v):=by
 unfold AF.put Ht;split
 ·exact Rw aA
 ·exact P0 aA
theorem KU{nw nj i:Nat}(hw:nw<=5)(hj:nj<=4)(hi:i<nw+nj):Ht nw i+1<=9:=by unfold Ht;split <;> omega
def AF.zeros(p:AF)(nw i:Nat):Prop:=(∀k,i<=k->k<nw->p.ways k=0)/\∀k,i<=nw+k->p.works k=0
theorem AF.zeros_put{p:AF}{nw i:Nat}(h:p.zeros nw i):p.put nw i 0=p:=by
 obtain ⟨wy,wo⟩:=p;unfold AF.put AF.setWay AF.setWork;split
 ·rename_i hi
  congr 1;funext k;split
  ·rename_i e;subst e;exact (h.1 k (Nat.le_refl _) hi).symm
  ·rfl
 ·rename_i hi
  congr 1;funext k;split
  ·rename_i e;subst e;exact (h.2 (i-nw) aA).symm
  ·rfl
theorem AF.zeros_next{p:AF}{nw i:Nat}{v:Int}(h:p.zeros nw i):(p.put nw i v).zeros nw (i+1):=by
 unfold AF.put;split
 ·refine ⟨λk h1 h2=>?_,λk h1=>h.2 k aA⟩;show (if k=i then v else p.ways k)=0;rw [if_neg aA];exact h.1 k aA h2
 ·refine ⟨λk h1 h2=>h.1 k aA h2,λk h1=>?_⟩;show (if k=i-nw then v else p.works k)=0;rw [if_neg aA];exact h.2 k aA
theorem AF.zeros_zero(nw i:Nat):AF.zero.zeros nw i:=⟨λ_ _ _=>rfl,λ_ _=>rfl⟩
theorem CF.zero:CF AF.zero:=⟨λ_=>(aC:(0:Int)<=0/\(0:Int)<=30),λ_=>(aC:(0:Int)<=0/\(0:Int)<=30)⟩
theorem CF.put{p:AF}(h:CF p){nw i:Nat}{v:Int}(hv:0<=v/\v<=30):CF (p.put nw i v):=by
 unfold AF.put;split
 ·refine ⟨λk=>?_,h.works⟩;show 0<=(if k=i then v else p.ways k)/\(if k=i then v else p.ways k)<=30;split
  ·exact hv
  ·exact h.ways k
 ·refine ⟨h.ways,λk=>?_⟩;show 0<=(if k=i-nw then v else p.works k)/\(if k=i-nw then v else p.works k)<=30;split
  ·exact hv
  ·exact h.works k
section
variable {bag kinds:Int} {ps:List ByteArray} {ws:List AJ} {js:List AL} {ns:List AM} {ag:AF->Bool} {p:AF} {all pre:List AF} {f i k:Nat}
theorem BO.few(b:BO bag kinds ps ws js ns)(hi:i<ws.length+js.length):0<=CU ws js i/\CU ws js i<=HZ ws js i/\HZ ws js i<=30/\HZ ws js i-CU ws js i<2:=by
 unfold CU HZ;by_cases h:i<ws.length
 ·rw [if_pos h,if_pos h];exact (VN b.way i h).time
 ·rw [if_neg h,if_neg h];exact (Pw (b.job (i-ws.length) aA)).time
theorem AAG(e:i+1=ws.length)(h:ag (p.put ws.length i (CU ws js i+(k:Int)))=false) :
  pre++(Cj (CU ws js i) (k+1)).flatMap (CR ag ws js f i p)=pre++(Cj (CU ws js i) k).flatMap (CR ag ws js f i p):=by
 rw [N8];unfold CR;rw [if_pos ⟨e,h⟩,List.append_nil]
theorem Sd(h:¬(i+1=ws.length/\ag (p.put ws.length i (CU ws js i+(k:Int)))=false)) :
  pre++(Cj (CU ws js i) (k+1)).flatMap (CR ag ws js f i p)=(pre++(Cj (CU ws js i) k).flatMap (CR ag ws js f i p))++Cu ag ws js f (i+1) (p.put ws.length i (CU ws js i+(k:Int))):=by
 rw [N8,<-List.append_assoc];congr 1;unfold CR;rw [if_neg h]
theorem OD(hw:CS all pre (Cu ag ws js (f+1) i p))(hk:CU ws js i+(k:Int)<=HZ ws js i)(h:¬(i+1=ws.length/\ag (p.put ws.length i (CU ws js i+(k:Int)))=false)) :
  CS all (pre++(Cj (CU ws js i) k).flatMap (CR ag ws js f i p)) (Cu ag ws js f (i+1) (p.put ws.length i (CU ws js i+(k:Int)))):=by
 rw [HM] at hw
 have:=hw.round hk
 unfold CR at this ⊢;rw [if_neg h] at this;exact this
end
theorem XD{lo hi:Int}(h:hi-lo<2):(JI lo hi).length<=2:=by unfold JI Cj;simp;omega
theorem Ma{bag kinds:Int}{ps:List ByteArray}{ws:List AJ}{js:List AL}{ns:List AM}(b:BO bag kinds ps ws js ns)(ag:AF->Bool):∀(f i:Nat)(p:AF),i+f=ws.length+js.length->(Cu ag ws js f i p).length<=2 ^ f
 | 0,_,_,_=>Nat.le_refl _
 | f+1,i,p,h=>by
  rw [HM];have h1:=(b.few (i:=i) aA).2.2.2;have h2:=VC (f:=CR ag ws js f i p) (c:=2 ^ f) (l:=JI (CU ws js i) (HZ ws js i)) λx _=>by
   unfold CR;split
   ·exact Nat.zero_le _
   ·exact Ma b ag f (i+1) _ aA
  have h3:=Nat.mul_le_mul_right (2 ^ f) (XD h1);rw [Nat.pow_succ];omega
theorem GN{bag kinds:Int}{ps:List ByteArray}{ws:List AJ}{js:List AL}{ns:List AM}(b:BO bag kinds ps ws js ns):(AG ws js ns).length<=2000000:=by
 unfold AG;split
 ·have h1:=Ma b (Ck ns) (ws.length+js.length) 0 AF.zero aA;have h2:2 ^ (ws.length+js.length)<=2 ^ 9:=Nat.pow_le_pow_right aA (by have:=b.wlen;have:=b.jlen;omega);omega
 ·exact Nat.zero_le _
def NO(bag kinds:Int)(ps:List ByteArray)(ws:List AJ)(js:List AL)(ns:List AM):Int:=if BD bag kinds ps ws js ns=0 then ((AG ws js ns).length:Int) else 0
section
variable {bag kinds:Int} {ps:List ByteArray} {ws:List AJ} {js:List AL} {ns:List AM}
theorem AAH(h:¬BD bag kinds ps ws js ns=0):(.tuple #[.int .i64 0,.int .i64 (BD bag kinds ps ws js ns)]:Value)=.tuple #[.int .i64 (NO bag kinds ps ws js ns),.int .i64 (BD bag kinds ps ws js ns)]:=by
 unfold NO;rw [if_neg h]
theorem tHist_ok(h:¬¬BD bag kinds ps ws js ns=0):(.tuple #[.int .i64 ((AG ws js ns).length:Int),.int .i64 0]:Value)=.tuple #[.int .i64 (NO bag kinds ps ws js ns),.int .i64 (BD bag kinds ps ws js ns)]:=by
 have e:=Decidable.not_not.1 h;unfold NO;rw [if_pos e,e]
end
section
variable {V:Type} {hB h hc h':GH} {I:List V->(Nat->Prop)->GH->Prop} {S:GH->Prop} {rp:Nat} {T:TypeId} {c c':Array Value} {X0 X:Nat->Prop} {pre l:List V} {v:Value}
theorem E3.stoppedI{I':List V->(Nat->Prop)->GH->Prop}{pre':List V}(hv:v=.bool false)(r:∀l',E3 hB I S pre X0 h l' (.bool false) h'):E3 hB I' S pre' X0 h l v h':=by
 obtain ⟨ok,X',e,hs,hk,hl,_,h2⟩:=r [];cases e;exact ⟨false,X',hv,hs,hk,hl,(λx=>by cases x),h2⟩
def Dd(I:List V->(Nat->Prop)->GH->Prop)(rp:Nat)(T:TypeId)(c:Array Value):List V->(Nat->Prop)->GH->Prop:=λpre X h=>
 ∃X',I pre X' h/\¬X' rp/\(∀b,X b↔X' b\/b=rp)/\h rp=some (true,.cells c T (0,0))
theorem Dd.prom(P:Gm hB I):Gm hB (Dd I rp T c):=by
 refine ⟨?_,?_⟩
 ·rintro pre X h b ⟨X',i,n,hX,hp⟩ hb;rcases (hX b).1 hb with q | rfl
  ·exact P.dom _ _ _ _ i q
  ·exact ⟨_,_,hp,rfl⟩
 ·rintro pre X h h' ⟨X',i,n,hX,hp⟩ same lB;exact ⟨X',P.stable _ _ _ _ i (λb hb=>same b ((hX b).2 (.inl hb))) lB,n,hX,by rw [same rp ((hX rp).2 (.inr rfl))];exact hp⟩
theorem Dd.box(x:Dd I rp T c pre X h):h rp=some (true,.cells c T (0,0)):=by obtain ⟨_,_,_,_,e⟩:=x;exact e
theorem Dd.mem(x:Dd I rp T c pre X h):X rp:=by obtain ⟨X',_,_,hX,_⟩:=x;exact (hX rp).2 (.inr rfl)
theorem Er.put(P:Gm hB I)(y:Er hB (Dd I rp T c) X0 h pre X hc)(rB:hB rp=none)(nb:h' rp=some (true,.cells c' T (0,0)))(ho:∀b,b≠rp->h' b=hc b):Er hB (Dd I rp T c') X0 h pre X h':=by
 obtain ⟨⟨X',i,n,hX,hp⟩,sub,keep,base⟩:=y;exact ⟨⟨X',P.store i n ho (base.upd rB ho),n,hX,nb⟩,sub,keep.store' (sub rp ((hX rp).2 (.inr rfl))) ho,base.upd rB ho⟩
theorem Dd.call{P:Program}{W:Wk P}{yv:Value}{args:Array Value}(x:Dd I rp T c pre X hc)(k:∀X',I pre X' hc->Bn W yv args hc (E3 hB I S pre X' hc l)):Bn W yv args hc (E3 hB (Dd I rp T c) S pre X hc l):=by
 have x':=x;obtain ⟨X',i,n,hX,hp⟩:=x;refine (k X' i).mono λv h' r=>?_;obtain ⟨ok,X1,hv,hs,hk,hl,h1,h2⟩:=r;have n1:¬X1 rp:=λq=>(hs rp q).elim n λe=>by rw [hp] at e;cases e
 refine ⟨ok,λb=>X1 b\/b=rp,hv,?_,λb p o hb hn=>hk b p o hb λq=>hn ((hX b).2 (.inl q)),hl,λe=>⟨X1,h1 e,n1,λ_=>Iff.rfl,hk.box hp n rfl⟩,h2⟩;rintro b (q | rfl)
 ·exact (hs b q).imp (λq=>(hX b).2 (.inl q)) id
 ·exact .inl ((hX _).2 (.inr rfl))
theorem Dd.start(x:I pre X hc)(hp:hc rp=some (true,.cells c T (0,0)))(n:¬X rp):Dd I rp T c pre (λb=>X b\/b=rp) hc:=⟨X,x,n,λ_=>Iff.rfl,hp⟩
theorem Dd.final{X0:Nat->Prop}(y:Er hB I X0 h pre X hc)(hn:h rp=none)(r:E3 hB (Dd I rp T c) S pre (λb=>X b\/b=rp) hc l v h'):E3 hB I S pre X0 h l v h':=by
 obtain ⟨ok,X1,hv,hs,hk,hl,h1,h2⟩:=r;cases ok with
 | true=>
  obtain ⟨X2,i2,n2,hX2,hp2⟩:=h1 rfl;refine ⟨true,X2,hv,λb q=>?_,?_,hl,λ_=>i2,λe=>by cases e⟩
  ·rcases hs b ((hX2 b).2 (.inl q)) with (q1 | rfl) | q1
   ·exact y.sub b q1
   ·exact absurd q n2
   ·exact subX y.sub y.keep (X1:=λz=>z=b) (λz e=>.inr (by rw [e];exact q1)) b rfl
  ·intro b p o hb hX;obtain ⟨o',e1,e2⟩:=y.keep b p o hb hX;obtain ⟨o2,e3,e4⟩:=hk b p o' e1 (λq=>q.elim (λq=>(y.sub b q).elim hX λe=>by rw [e] at hb;cases hb) λe=>by rw [e,hn] at hb;cases hb);refine ⟨o2,e3,?_⟩;rcases e2 with rfl | e2
   ·exact e4
   ·rcases e4 with rfl | e4
    ·exact .inr e2
    ·exact .inr ⟨e2.1,e4.2⟩
 | false=>
  refine ⟨false,λb=>X0 b\/h b=none,hv,λb q=>q,?_,hl,(λe=>by cases e),λ_=>h2 rfl⟩;intro b p o hb hX;obtain ⟨o',e1,e2⟩:=y.keep b p o hb hX;obtain ⟨o2,e3,e4⟩:=hk b p o' e1 (λq=>q.elim (λq=>(y.sub b q).elim hX λe=>by rw [e] at hb;cases hb) λe=>by rw [e,hn] at hb;cases hb);refine ⟨o2,e3,?_⟩;rcases e2 with rfl | e2
  ·exact e4
  ·rcases e4 with rfl | e4
   ·exact .inr e2
   ·exact .inr ⟨e2.1,e4.2⟩
end
end Go.Ns
namespace Go.Ns
open Go.Conc
abbrev Fo:=Nat->Nat->Int
def LP(m:Fo):Array Value:=#[.int .i64 (m 0 0),.int .i64 (m 0 1),.int .i64 (m 0 2),.int .i64 (m 0 3),.int .i64 (m 1 0),.int .i64 (m 1 1),.int .i64 (m 1 2),.int .i64 (m 1 3),
 .int .i64 (m 2 0),.int .i64 (m 2 1),.int .i64 (m 2 2),.int .i64 (m 2 3),.int .i64 (m 3 0),.int .i64 (m 3 1),.int .i64 (m 3 2),.int .i64 (m 3 3)]
def Fo.zero:Fo:=λ_ _=>0
def Fo.set(m:Fo)(i k:Nat)(v:Int):Fo:=λa b=>if a=i/\b=k then v else m a b
theorem KV{m:Fo}{i k:Nat}(hi:i<4)(hk:k<4):(LP m)[0+i*4+k*1]? =some (.int .i64 (m i k)):=by
 match i,hi with
 | 0,_=>match k,hk with
  | 0,_=>rfl
  | 1,_=>rfl
  | 2,_=>rfl
  | 3,_=>rfl
 | 1,_=>match k,hk with
  | 0,_=>rfl
  | 1,_=>rfl
  | 2,_=>rfl
  | 3,_=>rfl
 | 2,_=>match k,hk with
  | 0,_=>rfl
  | 1,_=>rfl
  | 2,_=>rfl
  | 3,_=>rfl
 | 3,_=>match k,hk with
  | 0,_=>rfl
  | 1,_=>rfl
  | 2,_=>rfl
  | 3,_=>rfl
theorem Mb{m:Fo}{i k:Nat}{v:Int}(hi:i<4)(hk:k<4):BZ (LP m) (0+i*4+k*1) [.int .i64 v]=LP (m.set i k v):=by
 match i,hi with
 | 0,_=>match k,hk with
  | 0,_=>rfl
  | 1,_=>rfl
  | 2,_=>rfl
  | 3,_=>rfl
 | 1,_=>match k,hk with
  | 0,_=>rfl
  | 1,_=>rfl
  | 2,_=>rfl
  | 3,_=>rfl
 | 2,_=>match k,hk with
  | 0,_=>rfl
  | 1,_=>rfl
  | 2,_=>rfl
  | 3,_=>rfl
 | 3,_=>match k,hk with
  | 0,_=>rfl
  | 1,_=>rfl
  | 2,_=>rfl
  | 3,_=>rfl
def P3(i:Nat)(m:Fo)(k:Nat):Fo:=if¬(i:Int)=(k:Int) then m.set i k 1048576 else m
def KC(i:Nat)(m:Fo)(n:Nat):Fo:=(List.range n).foldl (P3 i) m
def LQ(n:Nat):Fo:=(List.range n).foldl (λm i=>KC i m 4) Fo.zero
def XE(p:AF)(ws:List AJ)(m:Fo)(k:Nat):Fo:=(m.set (ws.getD k AJ.z).a.toNat (ws.getD k AJ.z).b.toNat (p.ways k)).set (ws.getD k AJ.z).b.toNat (ws.getD k AJ.z).a.toNat (p.ways k)
def BU(p:AF)(ws:List AJ)(n:Nat):Fo:=(List.range n).foldl (XE p ws) (LQ 4)
def ZT(by_ i:Nat)(m:Fo)(k:Nat):Fo:=m.set i k (min (m i k) (m i by_+m by_ k))
def I6(by_ i:Nat)(m:Fo)(n:Nat):Fo:=(List.range n).foldl (ZT by_ i) m
def VR(by_ np:Nat)(m:Fo)(i:Nat):Fo:=if m i by_=1048576 then m else I6 by_ i m np
def GT(by_ np:Nat)(m:Fo)(n:Nat):Fo:=(List.range n).foldl (VR by_ np) m
def De(np:Nat)(m:Fo)(n:Nat):Fo:=(List.range n).foldl (λm b=>GT b np m np) m
def BA(np:Nat)(ws:List AJ)(p:AF):Fo:=De np (BU p ws ws.length) np
theorem BN{β:Type}(f:β->Nat->β)(b:β)(n:Nat):(List.range (n+1)).foldl f b=f ((List.range n).foldl f b) n:=by rw [List.range_succ,List.foldl_append];rfl
def Fo.ok(m:Fo):Prop:=∀i k,0<=m i k/\m i k<=1048576
theorem Fo.ok_set{m:Fo}(h:m.ok){i k:Nat}{v:Int}(hv:0<=v/\v<=1048576):(m.set i k v).ok:=λa b=>by
 unfold Fo.set;split
 ·exact hv
 ·exact h a b
theorem Fo.ok_zero:Fo.zero.ok:=λ_ _=>⟨Int.le_refl 0,(aC:(0:Int)<=1048576)⟩
theorem IX{β:Type}{Q:β->Prop}{f:β->Nat->β}(hf:∀b k,Q b->Q (f b k)):∀{l:List Nat}{b:β},Q b->Q (l.foldl f b)
 | [],_,h=>h
 | x ::l,b,h=>IX hf (l:=l) (hf b x h)
theorem AAI{i:Nat}{m:Fo}{k:Nat}(h:m.ok):(P3 i m k).ok:=by
 unfold P3;split
 ·exact Fo.ok_set h aC
 ·exact h
theorem far0K_ok{i:Nat}{m:Fo}{n:Nat}(h:m.ok):(KC i m n).ok:=IX (λ_ _=>AAI) h
theorem far0_ok{n:Nat}:(LQ n).ok:=IX (λ_ _ h=>far0K_ok h) Fo.ok_zero
theorem AAJ{p:AF}{ws:List AJ}{m:Fo}{k:Nat}(hp:CF p)(h:m.ok):(XE p ws m k).ok:=by
 have:=hp.ways k
 exact Fo.ok_set (Fo.ok_set h aA) aA
theorem P4{p:AF}{ws:List AJ}{n:Nat}(hp:CF p):(BU p ws n).ok:=IX (λ_ _ h=>AAJ hp h) far0_ok
theorem XF{b i:Nat}{m:Fo}{k:Nat}(h:m.ok):(ZT b i m k).ok:=by
 have h1:=h i k;have h2:=h i b;have h3:=h b k;exact Fo.ok_set h aA
theorem ZU{b i:Nat}{m:Fo}{n:Nat}(h:m.ok):(I6 b i m n).ok:=IX (λ_ _ h=>XF h) h
theorem farI1_ok{b np:Nat}{m:Fo}{i:Nat}(h:m.ok):(VR b np m i).ok:=by
 unfold VR;split
 ·exact h
 ·exact ZU h
theorem ZV{b np:Nat}{m:Fo}{n:Nat}(h:m.ok):(GT b np m n).ok:=IX (λ_ _ h=>farI1_ok h) h
theorem VS{np:Nat}{m:Fo}{n:Nat}(h:m.ok):(De np m n).ok:=IX (λ_ _ h=>ZV h) h
theorem CB{c c':Array Value}(h:c.size=c'.size):BZ c 0 c'.toList=c':=by
 apply Array.toList_inj.1;rw [Ep _ _ _ (by simp [h])];simp [h]
theorem Gc{b:Bool}(h:(!b)=true):b=false:=by cases b <;> simp_all
theorem FC{b:Bool}(h:(!b)=false):b=true:=by cases b <;> simp_all
abbrev Fb:=(Int×Int×Int×Int×Int)×Int×Int
def FD(a:Fb):Value:=.agg #[.int .i64 a.1.1,.int .i64 a.1.2.1,.int .i64 a.1.2.2.1,.int .i64 a.1.2.2.2.1,.int .i64 a.1.2.2.2.2,.int .i64 a.2.1,.int .i64 a.2.2]
def VT:Fb->Option Int:=λ_=>none
def AF.w5(p:AF):Int×Int×Int×Int×Int:=(p.ways 0,p.ways 1,p.ways 2,p.ways 3,p.ways 4)
theorem Fb.eq_iff(a b:Fb):((a.1.1==b.1.1 && (a.1.2.1==b.1.2.1 && (a.1.2.2.1==b.1.2.2.1 && (a.1.2.2.2.1==b.1.2.2.2.1 && (a.1.2.2.2.2==b.1.2.2.2.2 && true))))) && (a.2.1==b.2.1 && (a.2.2==b.2.2 && true)))=decide (a=b):=by
 obtain ⟨⟨a1,a2,a3,a4,a5⟩,a6,a7⟩:=a;obtain ⟨⟨b1,b2,b3,b4,b5⟩,b6,b7⟩:=b;rw [Bool.eq_iff_iff];simp [and_assoc]
theorem Rx(a:Fb):Instr.sameBits 10000 (FD a) (FD a)=true:=by
 have hi:∀(n:Nat)(x:Int),Instr.sameBits n (.int .i64 x) (.int .i64 x)=true:=λn x=>by
  cases n <;> (unfold Instr.sameBits;simp)
 unfold FD;show Instr.sameBits (9999+1) _ _=true;unfold Instr.sameBits;simp only [List.zip_cons_cons,List.zip_nil_left,List.all_cons,List.all_nil,hi];simp
def XG(m:Fo)(w:Int×Int×Int×Int×Int)(i:Nat)(M:Fb->Option Int)(k:Nat):Fb->Option Int:=λb=>if b=(w,(i:Int),(k:Int)) then some (m i k) else M b
def Ge(m:Fo)(w:Int×Int×Int×Int×Int)(i:Nat)(M:Fb->Option Int)(n:Nat):Fb->Option Int:=(List.range n).foldl (XG m w i) M
def CP(m:Fo)(w:Int×Int×Int×Int×Int)(np:Nat)(M:Fb->Option Int)(n:Nat):Fb->Option Int:=(List.range n).foldl (λM i=>Ge m w i M np) M
theorem OE{m:Fo}{w:Int×Int×Int×Int×Int}{i k:Nat}{M:Fb->Option Int}:∀{n:Nat},k<n->Ge m w i M n (w,(i:Int),(k:Int))=some (m i k)
 | 0,h=>absurd h (Nat.not_lt_zero _)
 | n+1,h=>by
  unfold Ge;rw [BN];unfold XG;by_cases e:k=n
  ·subst e;rw [if_pos rfl]
  ·rw [if_neg (λq=>e (by have h2:(k:Int)=(n:Int):=congrArg (λz:Fb=>z.2.2) q;omega))];exact OE (n:=n) aA
theorem Jh{m:Fo}{w:Int×Int×Int×Int×Int}{i:Nat}{M:Fb->Option Int}{b:Fb}(hb:b.1≠w\/b.2.1≠(i:Int)):∀{n:Nat},Ge m w i M n b=M b
 | 0=>rfl
 | n+1=>by
  unfold Ge;rw [BN];unfold XG;rw [if_neg (λq=>by subst q;rcases hb with h | h <;> exact h rfl)];exact Jh hb (n:=n)
theorem OF{m:Fo}{w:Int×Int×Int×Int×Int}{np i k:Nat}{M:Fb->Option Int}(hk:k<np):∀{n:Nat},i<n->CP m w np M n (w,(i:Int),(k:Int))=some (m i k)
 | 0,h=>absurd h (Nat.not_lt_zero _)
 | n+1,h=>by
  unfold CP;rw [BN];by_cases e:i=n
  ·subst e;exact OE hk
  ·rw [Jh (.inr (by show (i:Int)≠(n:Int);omega))];exact OF hk (n:=n) aA
theorem Mc{m:Fo}{w:Int×Int×Int×Int×Int}{np:Nat}{M:Fb->Option Int}{b:Fb}(hb:b.1≠w):∀{n:Nat},CP m w np M n b=M b
 | 0=>rfl
 | n+1=>by
  unfold CP;rw [BN,Jh (.inl hb)];exact Mc hb (n:=n)
theorem w5_at{p q:AF}(e:q.w5=p.w5){k:Nat}(h:k<5):q.ways k=p.ways k:=by
 simp only [AF.w5,Prod.mk.injEq] at e;obtain ⟨e0,e1,e2,e3,e4⟩:=e
 match k,h with
 | 0,_=>exact e0
 | 1,_=>exact e1
 | 2,_=>exact e2
 | 3,_=>exact e3
 | 4,_=>exact e4
theorem P5{p q:AF}{ws:List AJ}(e:q.w5=p.w5):∀{n:Nat},n<=5->BU q ws n=BU p ws n
 | 0,_=>rfl
 | n+1,h=>by
  have h1:=P5 (ws:=ws) e (n:=n) aA;unfold BU at h1 ⊢;rw [BN,BN,h1];unfold XE;rw [w5_at e aA]
theorem Se{p q:AF}{ws:List AJ}{np:Nat}(hw:ws.length<=5)(e:q.w5=p.w5):BA np ws q=BA np ws p:=by
 unfold BA;rw [P5 e hw]
def Gt(np:Nat)(ws:List AJ)(l:List AF)(M:Fb->Option Int):Prop:=∀q ∈ l,∀i k:Nat,i<np->k<np->M (q.w5,(i:Int),(k:Int))=some (BA np ws q i k)
theorem Gt.call{np:Nat}{ws:List AJ}{pq:List AF}{k:Nat}{M:Fb->Option Int}(h:Gt np ws (pq.take k) M)(hk:k<pq.length)(hw:ws.length<=5) :
  Gt np ws (pq.take (k+1)) (CP (BA np ws (pq.getD k AF.zero)) (pq.getD k AF.zero).w5 np M np):=by
 intro q hq i j hi hj;by_cases e:q.w5=(pq.getD k AF.zero).w5
 ·rw [e,OF hj hi,Se hw e]
 ·rw [Mc e];rw [Ey AF.zero hk] at hq;rcases List.mem_append.1 hq with h1 | h1
  ·exact h q h1 i j hi hj
  ·rw [List.mem_singleton.1 h1] at e;exact absurd rfl e
theorem Gt.skip{np:Nat}{ws:List AJ}{pq:List AF}{k:Nat}{M:Fb->Option Int}(h:Gt np ws (pq.take k) M)(hk:k<pq.length)(hw:ws.length<=5)(h0:¬(k:Int)=0)(e:(pq.getD k AF.zero).w5=(pq.getD (k-1) AF.zero).w5) :
  Gt np ws (pq.take (k+1)) M:=by
 intro q hq i j hi hj;rw [Ey AF.zero hk] at hq;rcases List.mem_append.1 hq with h1 | h1
 ·exact h q h1 i j hi hj
 ·rw [List.mem_singleton.1 h1,e,Se hw e];refine h _ ?_ i j hi hj;rw [EE AF.zero aA];exact List.mem_take_iff_getElem.2 ⟨k-1,aA,rfl⟩
def EX(h:GH)(r np:Nat)(ws:List AJ)(pq:List AF):Prop:=∃pm M,MapAt h r pm FD D1 M/\Gt np ws pq M
theorem EX.le{h h':GH}{r np:Nat}{ws:List AJ}{pq:List AF}(x:EX h r np ws pq)(l:h.Le h'):EX h' r np ws pq:=by
 obtain ⟨pm,M,⟨es,clk,hb,hl⟩,hM⟩:=x;exact ⟨pm,M,⟨es,clk,l.keep hb rfl,hl⟩,hM⟩
structure Dg(hB:GH)(r:Nat)(M:Fb->Option Int)(h hc:GH):Prop where
 ok:Cs hc r FD D1 M
 keep:Bs (λb=>b=r) h hc
 base:hB.Le hc
def FRes(hB:GH)(r:Nat)(M:Fb->Option Int)(h h':GH):Prop:=Cs h' r FD D1 M/\Bs (λb=>b=r) h h'/\hB.Le h'
section
variable {hB h hc h':GH} {r:Nat} {M M':Fb->Option Int}
theorem Cs.some(x:Cs h r FD D1 M):∃o,h r=some (true,o)/\KE o=false:=by obtain ⟨es,clk,hb,_⟩:=x;exact ⟨_,hb,rfl⟩
theorem Dg.start(x:Cs h r FD D1 M)(l:hB.Le h):Dg hB r M h h:=⟨x,Bs.refl _ _,l⟩
theorem Dg.le(y:Dg hB r M h hc)(l:hc.Le h'):Dg hB r M h h':=by
 obtain ⟨o,ho,_⟩:=y.ok.some;exact ⟨y.ok.le_other ((l.keep ho rfl).trans ho.symm),y.keep.trans (λ_ q=>.inl q) (l.keepX _),y.base.trans l⟩
theorem Dg.store(y:Dg hB r M h hc){q:Nat}(hq:h q=none)(qB:hB q=none)(hn:q≠r)(ho:∀b,b≠q->h' b=hc b):Dg hB r M h h':=
 ⟨y.ok.le_other (ho r (Ne.symm hn)),y.keep.store hq ho,y.base.upd qB ho⟩
theorem Dg.put(y:Dg hB r M h hc)(rB:hB r=none)(x:Cs h' r FD D1 M')(ho:∀b,b≠r->h' b=hc b):Dg hB r M' h h':=⟨x,y.keep.store' (.inl rfl) ho,y.base.upd rB ho⟩
theorem Dg.call(y:Dg hB r M h hc)(m:FRes hB r M' hc h'):Dg hB r M' h h':=⟨m.1,y.keep.trans (λ_ q=>.inl q) m.2.1,m.2.2⟩
theorem Dg.ne(y:Dg hB r M h hc){q:Nat}(hq:hc q=none):q≠r:=λe=>by
 obtain ⟨o,ho,_⟩:=y.ok.some;rw [e,ho] at hq;cases hq
theorem Dg.nothing(y:Dg hB r M h hc){q:Nat}(hq:hc q=none):h q=none:=by
 cases hx:h q with
 | none=>rfl
 | some x=>
  obtain ⟨o',h1,_⟩:=y.keep q x.1 x.2 hx (y.ne hq);rw [h1] at hq;cases hq
theorem OG(x:h r=some (true,.map #[] 0)):Cs h r FD D1 VT:=Cs.empty x
theorem Cs.slDel{V:Type}(x:Cs h r FD D1 M){v:Value}{n:Nat}{enc:V->Array Value}{xs:List V}(y:AH h v n enc xs):AH (h.del r) v n enc xs:=by
 obtain ⟨es,clk,hb,_⟩:=x;exact AH.slDel y hb
theorem Cs.leF(x:Cs h r FD D1 M)(l:h.Le h'):Cs h' r FD D1 M:=by
 obtain ⟨o,ho,e⟩:=x.some;exact x.le_other ((l.keep ho e).trans ho.symm)
theorem Dg.res(y:Dg hB r M h hc):FRes hB r M h hc:=⟨y.ok,y.keep,y.base⟩
end
theorem OH{bag kinds:Int}{ps:List ByteArray}{ws:List AJ}{js:List AL}{ns:List AM}(b:BO bag kinds ps ws js ns){ag:AF->Bool}:∀{f i:Nat}{p:AF},i+f=ws.length+js.length->CF p->∀q ∈ Cu ag ws js f i p,CF q
 | 0,_,p,_,hp,q,hq=>by rw [List.mem_singleton.1 hq];exact hp
 | f+1,i,p,h,hp,q,hq=>by
  rw [HM] at hq;obtain ⟨n,hn,hq⟩:=List.mem_flatMap.1 hq;have h1:=b.few (i:=i) aA;have h2:=Z1.1 hn;unfold CR at hq;split at hq
  ·cases hq
  ·exact OH b (f:=f) aA (hp.put aA) q hq
section
variable {bag kinds:Int} {ps:List ByteArray} {ws:List AJ} {js:List AL} {ns:List AM}
theorem Ha(b:BO bag kinds ps ws js ns):∀q ∈ AG ws js ns,CF q:=by
 intro q hq;unfold AG at hq;split at hq
 ·exact OH b aA CF.zero q hq
 ·cases hq
theorem P6(b:BO bag kinds ps ws js ns)(k:Nat):CF ((AG ws js ns).getD k AF.zero):=by
 rcases Nat.lt_or_ge k (AG ws js ns).length with h | h
 ·exact Ha b _ (Ba h)
 ·rw [Be h];exact CF.zero
def Ag(bag kinds:Int)(ps:List ByteArray)(ws:List AJ)(js:List AL)(ns:List AM)(s:Int):Int:=
 if¬BD bag kinds ps ws js ns=0 then BD bag kinds ps ws js ns else if¬s=0 then s else if (AG ws js ns).length=0 then 9 else 0
variable {s:Int}
theorem ZW(h:¬BD bag kinds ps ws js ns=0):Ag bag kinds ps ws js ns s=BD bag kinds ps ws js ns:=if_pos h
theorem ZX(h:¬¬BD bag kinds ps ws js ns=0)(h2:¬s=0):Ag bag kinds ps ws js ns s=s:=by unfold Ag;rw [if_neg h,if_pos h2]
theorem ZY(h:¬¬BD bag kinds ps ws js ns=0)(h2:¬¬s=0)(h3:(AG ws js ns).length=0):Ag bag kinds ps ws js ns s=9:=by unfold Ag;rw [if_neg h,if_neg h2,if_pos h3]
theorem openB_4(h:¬¬BD bag kinds ps ws js ns=0)(h2:¬¬s=0)(h3:¬(AG ws js ns).length=0):Ag bag kinds ps ws js ns s=0:=by unfold Ag;rw [if_neg h,if_neg h2,if_neg h3]
theorem FE(h:Ag bag kinds ps ws js ns s=0):BO bag kinds ps ws js ns/\s=0/\0<(AG ws js ns).length:=by
 unfold Ag at h;split at h
 ·rename_i a;exact absurd h a
 ·split at h
  ·rename_i a b;exact absurd h b
  ·split at h
   ·cases h
   ·rename_i a b c
    exact ⟨CE (Decidable.not_not.1 a),Decidable.not_not.1 b,aA⟩
theorem w5_eq{p q:AF}(h:(!((p.ways 0==q.ways 0 && (p.ways 1==q.ways 1 && (p.ways 2==q.ways 2 && (p.ways 3==q.ways 3 && (p.ways 4==q.ways 4 && true)))))))=false):p.w5=q.w5:=by
 simp only [Bool.not_eq_false',Bool.and_eq_true,beq_iff_eq,and_true] at h;obtain ⟨e0,e1,e2,e3,e4⟩:=h;simp only [AF.w5,e0,e1,e2,e3,e4]
theorem Gt.is{h:GH}{r np:Nat}{ws:List AJ}{pq:List AF}{M:Fb->Option Int}{k:Nat}(x:Cs h r FD D1 M)(hM:Gt np ws (pq.take k) M)(hk:pq.length<=k):EX h r np ws pq:=by
 rw [List.take_of_length_le hk] at hM;exact ⟨true,M,x,hM⟩
theorem Sf{a b c d e f w:Value}{r:Nat}(h:w.cells=#[w]):Instr.fill (λx=>#[(0,6),(6,1),(7,1)][x]?) #[.int .i64 0,.int .i64 0,.slice none 0 0,.slice none 0 0,.slice none 0 0,.slice none 0 0,.slice none 0 0,.map none] [(0,.agg #[a,b,c,d,e,f]),(1,w),(2,.map (some r))]=some #[a,b,c,d,e,f,w,.map (some r)]:=by
 have e1:∀cs,(Value.agg cs).cells=cs:=λ_=>rfl;have e2:∀q,(Value.map q).cells=#[.map q]:=λ_=>rfl;simp [Instr.fill,h,e1,e2]
end
end Go.Ns
