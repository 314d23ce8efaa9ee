/- Rules and walks, part 2 of 6. No conditions. -/
import Derived.Sort.AssemblyPlain
import Derived.Sort.LotD3
import Derived.Test.YtencdigomkbmgaaGreatDoorPCA
set_option linter.unusedVariables false
set_option linter.unusedSimpArgs false
set_option linter.unnecessarySimpa false
set_option linter.unusedSectionVars false
set_option linter.constructorNameAsVariable false
namespace Go.Ns
open Go.Conc
section
variable {P:Program} {E:Fb P} {O:Nat->aV} {ds:List Deferred} {h:L} {T:(Nat->aV)->List Deferred->L->Prop}
variable {dst:Option Nat} {ty:aW} {pos:String} {af:Array Edge} {gd:Option (Nat×Bool)}
def UponV(W:Wk P)(R:aV->L->Prop):Next->L->Prop
 | .enter f args,h=>AT W f args h R
 | .round l f tmps a c,h=>Bg W l f tmps a c h R
 | _,_=>False
def CG(W:Wk P)(fv:aV)(args:Array aV)(h:L)(R:aV->L->Prop):Prop:=
 (do let d<-Deferred.ofValue fv args;invoke d.target d.args:Sem Next).gh P h (UponV W R)
theorem CG.mono{W:Wk P}{fv:aV}{args:Array aV}{h:L}{R R':aV->L->Prop}(x:CG W fv args h R)(hr:∀v h',R v h'->R' v h'):CG W fv args h R':=by
 refine Ed _ (λa h' y=>?_) h x;cases a <;> first | exact y | exact AT.mono y hr | exact Bg.mono y hr
theorem IM{f:Operand}{args:Array Operand}{tys:Array aW}{fv:aV}{vs:Array aV}(hv:AL O f=fv)(ha:args.map (AL O)=vs)(x:CG E.wk fv vs h λv h'=>T (putS O dst v) ds h') :
  BK E ⟨dst,.call ⟨.value f,args,tys⟩,ty,pos,af,gd⟩ O ds h T:=by
 unfold BK execOp;simp only [];unfold resolve;simp only [hv,ha];refine Ed _ (λa h' y=>?_) h x;cases a <;> first | exact y | exact y.elim
theorem FB{f x:Operand}{tys:Array aW}{fv v1:aV}(hv:AL O f=fv)(h1:AL O x=v1)(y:CG E.wk fv #[v1] h λv h'=>T (putS O dst v) ds h') :
  BK E ⟨dst,.call ⟨.value f,#[x],tys⟩,ty,pos,af,gd⟩ O ds h T:=IM hv (by simp [h1]) y
theorem BU{W:Wk P}{g:FuncId}{fn:Func}{first cap args vs:Array aV}{R:aV->L->Prop}(hf:P.funcs[g]? =some fn)(hc:AJ fn=true)(ha:first++args++cap=vs)(x:AT W g vs h R):CG W (.func (.func g) first cap) args h R:=by
 subst ha;unfold CG;simp only [Deferred.ofValue];refine AC _ _ (Ah ?_);exact Mf hf hc x
theorem IN{l:Nat}{p:Bool}{lo:Loop}{Q:Loop->L->Prop}(hl:h l=some (p,.loop lo))(q:Q lo h):(Instr.getLoop l).gh P h Q:=by
 unfold Instr.getLoop;exact AC _ _ ⟨p,_,hl,rfl,rfl,q⟩
theorem VF{W:Wk P}{l:Nat}{p:Bool}{lo:Loop}{args:Array aV}{R:aV->L->Prop}(hl:h l=some (p,.loop lo))(hn:args.size=lo.params.size)
  (x:Bg W l lo.fn ((lo.params.zip args).foldl (λtmps x=>tmps.setIfInBounds x.1 x.2) lo.tmps) lo.assign lo.body h R):CG W (.func (.yield l) #[] #[]) args h R:=by
 unfold CG;simp only [Deferred.ofValue];refine AC _ _ (Ah ?_);unfold invoke;simp only [];unfold Instr.yield;refine AC _ _ (IN hl ?_);have e:#[]++args=args:=aD
 rw [e,aT (by rw [hn];simp)];exact x
def VG(Q:Post)(O:Nat->aV)(ds:List Deferred)(l:Nat)(h:L):Prop:=
 ∃lo,h l=some (true,.loop lo)/\(lo.state==.busy)=false/\match lo.pending with
  | none=>Q .normal O ds (h.set l true (.loop { lo with state:=.exhausted }))
  | some (.exit id)=>Q (.exit id) O ds (h.set l true (.loop { lo with state:=.exhausted }))
  | some .ret=>Q .ret O ds (h.set l true (.loop { lo with state:=.exhausted }))
  | some _=>False
theorem Rp{f:Operand}{params:Array Tmp}{assign body:Code}{Q:Post}(hrd:E.rd=none)
  (x:∀(t:Array aV) d l,BP t E.N O->h d=none->h l=none->l≠d->
   CG E.wk (AL O f) #[.func (.yield l) #[] #[]] ((h.set d true (.deferred (some []))).set l true (.loop { state:=.ready,pending:=none,fn:=E.fn,tmps:=t,params,assign,body,defers:=d }))
    λ_ h'=>VG Q O ({ target:=.collected d,args:=#[] } ::ds) l h'):Tr E (.rangeFunc f params assign body) O ds h Q:=by
 intro b k j aO t hb hr hl n D;refine E.wk.closed _ _ rfl λw F=>?_;have e1:(Instr.enterLoop b.fn t params assign body b.roundOf).gh P h λr h'=>∃d l,h d=none/\h l=none/\l≠d/\r=(l,[{ target:=.collected d,args:=#[] }])/\
   h'=(h.set d true (.deferred (some []))).set l true (.loop { state:=.ready,pending:=none,fn:=b.fn,tmps:=t,params,assign,body,defers:=d }):=by
  rw [hr,hrd];unfold Instr.enterLoop;refine AC _ _ (λd H=>?_);refine AC _ _ (Ah ?_);refine AC _ _ (λl g=>?_);have i:l≠d:=λe=>by subst e;rw [L.set_same] at g;cases g
  rw [L.set_ne _ _ _ i] at g;exact ⟨d,l,H,g,i,rfl,rfl⟩
 obtain ⟨r,w1,h1,p,r1,r2,d,l,H,g,i,rfl,rfl⟩:=IE F e1;have y:=x t d l n H g i;rw [<-hb] at y;let mark:List Deferred:=[{ target:=.collected d,args:=#[] }];have R:(CR b t (mark++ds) (.inRangeFunc l ::k)).eval=AL O:=funext λo=>by rw [Ix n]
 have y':(do let d<-resolve (CR b t (mark++ds) (.inRangeFunc l ::k)).eval { callee:=.value f,args:=#[.const (.func (.yield l) #[] #[])],argTypes:=#[] } 0;invoke d.target d.args:Sem Next).gh P
   ((h.set d true (.deferred (some []))).set l true (.loop { state:=.ready,pending:=none,fn:=b.fn,tmps:=t,params,assign,body,defers:=d })) (UponV E.wk λ_ h'=>VG Q O ({ target:=.collected d,args:=#[] } ::ds) l h'):=by
  rw [R];unfold resolve;simpa [AL,CG] using y
 obtain ⟨nx,S,U,m,q1,q2,W⟩:=IE r2.fits y';have hstep:stepG P E.wk.main (G (CR b t ds (.code (.rangeFunc f params assign body) ::k)) j) w=
   GStep.after (seen P b.fn p) (stepG.apply P true (CR b t (mark++ds) (.inRangeFunc l ::k)) j none
    (do let d<-resolve (CR b t (mark++ds) (.inRangeFunc l ::k)).eval { callee:=.value f,args:=#[.const (.func (.yield l) #[] #[])],argTypes:=#[] } 0;invoke d.target d.args) w1):=by
  rw [Aq];unfold stepG.exec;simp only [CR,r1];rfl
 have s:∀q:Bool,∀e ∈ seen P b.fn (if q then #[] else m),e ∈ m:=λq e he=>by
  have:=mem_seen he
  cases q with
  | true=>simp at this
  | false=>simpa using this
 have u:∀q:Bool,BX h w (seen P b.fn p++(seen P b.fn (if q then #[] else m)++ #[])) U S:=λq=>
  (r2.trans q2).sub λe he=>by
   rw [Array.append_empty,Array.mem_append] at he;rw [Array.mem_append];rcases he with he | he
   ·exact .inl (mem_seen he)
   ·exact .inr (s q e he)
 have Bu:∀(v:aV) h',VG Q O ({ target:=.collected d,args:=#[] } ::ds) l h'->E.wk.K (G ((CR b t (mark++ds) (.inRangeFunc l ::k)).finish v) j) h':=by
  rintro v h' ⟨B,A,X,z⟩;show E.wk.K (G (CR b t (mark++ds) (.endRangeFunc l ::k)) j) h';refine E.wk.closed _ _ rfl λw F=>?_;have e2:(Instr.endLoop l).gh P h' λjump h''=>jump=B.pending/\h''=h'.set l true (.loop { B with state:=.exhausted }):=by
   unfold Instr.endLoop;refine AC _ _ (IN A ?_);rw [X];refine AC _ _ ⟨_,A,rfl,rfl,rfl,?_⟩;exact ⟨rfl,rfl⟩
  obtain ⟨jump,w3,h3,es3,p1,p2,rfl,rfl⟩:=IE F e2;refine ⟨G (CR b t (mark++ds) ((B.pending.map Item.code).toList++k)) j,w3,_,_,?_,p2.sub (es':=seen P b.fn es3++ #[]) λe he=>?_,?_⟩
  ·rw [Aq];unfold stepG.exec;simp only [CR,p1];rfl
  ·rw [Array.append_empty] at he;exact mem_seen he
  ·cases hp:B.pending with
   | none=>
    rw [hp] at z;exact D _ _ _ _ z t n
   | some c=>
    rw [hp] at z;cases c with
    | ret=>
     have:=D _ _ _ _ z t n
     exact hl.ret t _ _ k this
    | exit id=>
     have:=D _ _ _ _ z t n
     show E.wk.K (G (CR b t (mark++ds) (.code (.exit id) ::k)) j) _;cases C:exitTo id k with
     | none=>simp only [Cv,C] at this;exact hl.exit id t _ _ k C this
     | some k'=>
      simp only [Cv,C] at this;exact Wk.go (CR b t (mark++ds) k') (λw=>by rw [Aq];simp [stepG.exec,CR,G,C]) this
    | _=>exact z.elim
 cases nx with
 | enter f' args=>
  refine ⟨_,S,_,U,?_,u (b.kind==.early),W (CR b t (mark++ds) (.inRangeFunc l ::k)) j Bu⟩;rw [hstep];simp only [stepG.apply,q1,if_true];rfl
 | round l' f' tmps a c=>
  refine ⟨_,S,_,U,?_,u (b.kind==.early),W (CR b t (mark++ds) (.inRangeFunc l ::k)) j Bu⟩;rw [hstep];simp only [stepG.apply,q1,if_true];rfl
 | _=>exact W.elim
theorem TH{W:Wk P}{l:Nat}{f:FuncId}{tmps:Array aV}{N:Nat}{assign body:Code}{R:aV->L->Prop}(hN:tmps.size=N)
  (x:Tr ⟨W,f,some l,N⟩ assign (λi=>tmps.getD i undef) [] h λe O ds h'=>e=.normal/\∃lo,h' l=some (true,.loop lo)/\lo.state=.ready/\
   Tr ⟨W,f,some l,N⟩ body O ds (h'.set l true (.loop { lo with state:=.busy })) λe _ _ h''=>∃lo',h'' l=some (true,.loop lo')/\match e with
    | .normal=>R (.bool true) (h''.set l true (.loop { lo' with state:=.ready,pending:=none }))
    | .exit id=>R (.bool false) (h''.set l true (.loop { lo' with state:=.done,pending:=some (.exit id) }))
    | .ret=>R (.bool false) (h''.set l true (.loop { lo' with state:=.done,pending:=some .ret }))
    | _=>False):Bg W l f tmps assign body h R:=by
 intro c cs hc;let b:Frame:=Frame.round l f tmps assign body .normal;show W.K (G (CR b tmps [] [.code assign,.beginRound,.code body]) (c ::cs)) h;have leave:∀(jump:Option Code)(v:aV)(t:Array aV)(ds:List Deferred)(k:List Item)(h'':L)(lo':Loop),h'' l=some (true,.loop lo')->
   (∀w,stepG P W.main (G (CR b t ds k) (c ::cs)) w=GStep.after (seen P f ((Instr.endRound l jump).runT P w #[]).2) (match ((Instr.endRound l jump).runT P w #[]).1 with
    | .ok v w=>doReturn P W.main (CR b t ds k) (c ::cs) none v w
    | .halt _ w=>.ended (.stuck "range over a function: no such loop" ((CR b t ds k).pos P)) w))->v=.bool jump.isNone->
   R v (h''.set l true (.loop { lo' with state:=if jump.isNone then .ready else .done,pending:=jump }))->W.K (G (CR b t ds k) (c ::cs)) h'':=by
  rintro jump v t ds k h'' lo' hlo hstep rfl hR;refine W.closed _ _ rfl λw fw=>?_;have e2:(Instr.endRound l jump).gh P h'' λv h3=>v=.bool jump.isNone/\h3=h''.set l true (.loop { lo' with state:=if jump.isNone then .ready else .done,pending:=jump }):=by
   unfold Instr.endRound;refine AC _ _ (IN hlo ?_);refine AC _ _ ⟨_,hlo,rfl,rfl,rfl,?_⟩;exact ⟨rfl,rfl⟩
  obtain ⟨v,w3,h3,es3,p1,p2,rfl,rfl⟩:=IE fw e2;refine ⟨G (c.finish (.bool jump.isNone)) cs,w3,_,_,?_,p2.sub (es':=seen P f es3++ #[]) λe he=>?_,hc _ _ hR⟩
  ·rw [hstep,p1];rfl
  ·rw [Array.append_empty] at he;exact mem_seen he
 let aO:Lv:=λj t ds h''=>∃lo',h'' l=some (true,.loop lo')/\match j with
  | none=>R (.bool true) (h''.set l true (.loop { lo' with state:=.ready,pending:=none }))
  | some (.exit id)=>R (.bool false) (h''.set l true (.loop { lo' with state:=.done,pending:=some (.exit id) }))
  | some .ret=>R (.bool false) (h''.set l true (.loop { lo' with state:=.done,pending:=some .ret }))
  | some _=>False
 have hL:Kq W b (c ::cs) aO:=by
  refine ⟨?_,?_,?_⟩
  ·rintro t ds h'' ⟨lo',h1,h2⟩;exact leave none _ t ds [] h'' lo' h1 (λw=>by rw [Aq];rfl) rfl (by simpa using h2)
  ·rintro t ds h'' k ⟨lo',h1,h2⟩;exact leave (some .ret) _ t ds (.code .ret ::k) h'' lo' h1 (λw=>by rw [Aq];rfl) rfl (by simpa using h2)
  ·rintro id t ds h'' k hk ⟨lo',h1,h2⟩;exact leave (some (.exit id)) _ t ds (.code (.exit id) ::k) h'' lo' h1 (λw=>by rw [Aq];simp only [stepG.exec,CR,hk,Option.elim];rfl) rfl (by simpa using h2)
 refine x b [.beginRound,.code body] (c ::cs) aO tmps rfl rfl hL ⟨hN,λi=>rfl⟩ ?_;rintro e O ds h' ⟨rfl,lo,h1,h2,h3⟩ t' ht';show W.K (G (CR b t' ds [.beginRound,.code body]) (c ::cs)) h';refine W.closed _ _ rfl λw fw=>?_;have e3:(do (some l).elim (stuck "beginRound: no round") Instr.beginRound;pure Next.skip:Sem Next).gh P h' λnx h''=>nx=.skip/\h''=h'.set l true (.loop { lo with state:=.busy }):=by
  show Sem.gh P (do Instr.beginRound l;pure Next.skip:Sem Next) h' _;unfold Instr.beginRound;refine AC _ _ (AC _ _ (IN h1 ?_));refine AC _ _ ⟨_,h1,rfl,rfl,rfl,?_⟩;rw [h2];exact ⟨rfl,rfl⟩
 obtain ⟨nx,w3,h4,es3,p1,p2,rfl,rfl⟩:=IE fw e3;refine ⟨G (CR b t' ds [.code body]) (c ::cs),w3,_,_,?_,p2.sub (es':=seen P f es3++ #[]) λe he=>?_,?_⟩
 ·rw [Aq];unfold stepG.exec;simp only [CR];unfold stepG.apply;have hb:b.roundOf=some l:=rfl;simp only [hb,p1,if_true];rfl
 ·rw [Array.append_empty] at he;exact mem_seen he
 ·refine h3 b [] (c ::cs) aO t' rfl rfl hL ht' ?_;rintro e σ' ds' h'' ⟨lo',g1,g2⟩ t2 ht2;cases e with
  | normal=>
   exact hL.stop t2 ds' h'' ⟨lo',g1,g2⟩
  | exit id=>exact ⟨lo',g1,g2⟩
  | ret=>exact ⟨lo',g1,g2⟩
  | _=>exact g2.elim
end
end Go.Ns
namespace Go.Ns
open Go.Conc
section
variable {P:Program} {E:Fb P} {O:Nat->aV} {ds:List Deferred} {h:L} {T:(Nat->aV)->List Deferred->L->Prop}
variable {dst:Option Nat} {ty:aW} {pos:String} {af:Array Edge} {gd:Option (Nat×Bool)}
variable {U:Type}
def E7(R:L->L->Prop):List Pa->Prop
 | []=>True
 | φ ::l=>(∀v h h',R h h'->φ v h->φ v h')/\E7 R l
theorem E7.mono{R:L->L->Prop}:∀{Φ:List Pa},E7 R Φ->∀k v h h',R h h'->Kw Φ k v h->Kw Φ k v h'
 | [],_,k,v,h,h',_,x=>by cases k <;> exact x
 | φ ::l,a,0,v,h,h',r,x=>a.1 v h h' r x
 | φ ::l,a,k+1,v,h,h',r,x=>E7.mono a.2 k v h h' r x
theorem TJ{R:L->L->Prop}(rr:∀h,R h h)(rt:∀a b c,R a b->R b c->R a c){id:Nat}{l:List Oper}{Q:Post}(n:Nat)(cls:List (List Nat))(Φ:List Pa)
  (hm:P.follows .mixedOrders=true) (ok:Nq E.N l n cls=true) (mono:E7 R Φ) (x:Kx R E l n Φ O ds h Q n 0 l cls):Tr E (.region id l.toArray true) O ds h Q:=
 tr_draw R n cls Φ hm ok rr rt mono.mono x
theorem KM{id:Nat}{l:List Oper}{Q:Post}(n:Nat)(cls:List (List Nat))(Φ:List Pa)
  (hm:P.follows .mixedOrders=true) (ok:Nq E.N l n cls=true) (mono:E7 L.Le Φ) (x:Kx L.Le E l n Φ O ds h Q n 0 l cls):Tr E (.region id l.toArray true) O ds h Q:=
 TJ L.Le.refl (λ_ _ _=>L.Le.trans) n cls Φ hm ok mono x
theorem trL_opg{ops:Array Oper}{o:Oper}{l:List Oper}{Q:Post}{j d:Nat}{want:Bool}{oj:Oper}(hg:o.guard=some (j,want))(hj:ops[j]? =some oj)(hjd:oj.dst=some d)(hv:O d=.bool want)(hdj:Nat.blt d E.N=true)
  (hdf:E.rd=none\/D6 o.op=false) (hd:C9 o.dst E.N=true) (x:BK E o O ds h λσ' ds' h'=>C5 E ops l σ' ds' h' Q):C5 E ops (o ::l) O ds h Q:=Re hg hj hjd hv hdj hdf hd x
theorem C4{ops:Array Oper}{o:Oper}{l:List Oper}{Q:Post}{j d:Nat}{want:Bool}{oj:Oper}(hg:o.guard=some (j,want))(hj:ops[j]? =some oj)(hjd:oj.dst=some d)(hv:O d=undef)(hdj:Nat.blt d E.N=true)
  (hd:C9 o.dst E.N=true) (x:C5 E ops l (putS O o.dst undef) ds h Q):C5 E ops (o ::l) O ds h Q:=by
 intro i b k n p t g q r s c u;have m:ops[i]? =some o:=by simpa using (g 0).symm
 have v:yielded ops t j=none:=by
  have a:d<t.size:=by rw [c.1];exact Nat.blt_eq▸hdj
  have e:=c.2 d;rw [hv] at e;have y:t[d]? =some undef:=by
   simp only [Array.getD_eq_getD_getElem?,Array.getElem?_eq_getElem a,Option.getD_some] at e;rw [Array.getElem?_eq_getElem a,e]
  simp [yielded,hj,hjd,y,undef]
 refine Wk.go (CR b (X3 t o.dst undef) ds (.inRegion ops (List.range' (i+1) l.length) ::k)) (λw=>?_) ?_
 ·have f:((ops[i]?).map (Region.wanted · (yielded ops t))).getD false=false:=by
   simp only [m,Option.map_some,Option.getD_some,Region.wanted,hg,v];cases want <;> rfl
  rw [<-C6 m (rest:=List.range' (i+1) l.length),List.length_cons,List.range'_succ,Aq];unfold stepG.exec;simp only [CR,f,Bool.false_eq_true,↓reduceIte];rfl
 ·exact x (i+1) b k n p _ (λj=>by have:=g (j+1);simpa [Nat.add_assoc,Nat.add_comm 1 j] using this) q r s (c.putS hd undef) u
theorem BN{ops:Array Oper}{l:List Oper}{Q:Post}{p:Prop}[Decidable p](a:p->C5 E ops l O ds h Q)(a':¬p->C5 E ops l O ds h Q):C5 E ops l O ds h Q:=if h:p then a h else a' h
theorem Gm{ops:Array Oper}{l:List Oper}{Q:Post}{b:Bool}(a:b=true->C5 E ops l O ds h Q)(a':b=false->C5 E ops l O ds h Q):C5 E ops l O ds h Q:=by
 cases b with
 | true=>exact a rfl
 | false=>exact a' rfl
theorem Rq{f:Fn}{x1:Operand}{v1:aV}(h1:AL O x1=v1)(k:T (putS O dst (.func f #[] #[v1])) ds h):BK E ⟨dst,.makeFunc f #[] #[x1],ty,pos,af,gd⟩ O ds h T:=F7 (by simp [h1]) k
theorem GV{f:Fn}{x1 x2:Operand}{v1 v2:aV}(h1:AL O x1=v1)(h2:AL O x2=v2)(k:T (putS O dst (.func f #[] #[v1,v2])) ds h):BK E ⟨dst,.makeFunc f #[] #[x1,x2],ty,pos,af,gd⟩ O ds h T:=F7 (by simp [h1,h2]) k
theorem GW{f:Fn}{x1 x2 x3:Operand}{v1 v2 v3:aV}(h1:AL O x1=v1)(h2:AL O x2=v2)(h3:AL O x3=v3)(k:T (putS O dst (.func f #[] #[v1,v2,v3])) ds h):BK E ⟨dst,.makeFunc f #[] #[x1,x2,x3],ty,pos,af,gd⟩ O ds h T:=F7 (by simp [h1,h2,h3]) k
theorem Ky{f:Fn}{x1 x2 x3 x4:Operand}{v1 v2 v3 v4:aV}(h1:AL O x1=v1)(h2:AL O x2=v2)(h3:AL O x3=v3)(h4:AL O x4=v4)(k:T (putS O dst (.func f #[] #[v1,v2,v3,v4])) ds h):BK E ⟨dst,.makeFunc f #[] #[x1,x2,x3,x4],ty,pos,af,gd⟩ O ds h T:=F7 (by simp [h1,h2,h3,h4]) k
theorem Kz{f:Fn}{x1 x2 x3 x4 x5:Operand}{v1 v2 v3 v4 v5:aV}(h1:AL O x1=v1)(h2:AL O x2=v2)(h3:AL O x3=v3)(h4:AL O x4=v4)(h5:AL O x5=v5)(k:T (putS O dst (.func f #[] #[v1,v2,v3,v4,v5])) ds h):BK E ⟨dst,.makeFunc f #[] #[x1,x2,x3,x4,x5],ty,pos,af,gd⟩ O ds h T:=F7 (by simp [h1,h2,h3,h4,h5]) k
theorem B1{v:aV}{p:Prop}[Decidable p](e:v=.bool (decide p))(g:v=.bool false):¬p:=by
 rw [e] at g;simpa using g
theorem AM.fresh{h0 h:L}{v:aV}{t:aW}{n:Nat}{enc:U->Array aV}{xs:List U}(x:AM h0 h v t n enc xs):∀b,Bu v=some b->h0 b=none:=by
 intro b a;rcases x with ⟨rfl,_⟩ | ⟨f,d,c,rfl,e,_⟩
 ·cases a
 ·simp [Bu] at a;subst a;exact e
theorem AM.inDom{h0 h:L}{v:aV}{t:aW}{n:Nat}{enc:U->Array aV}{xs:List U}(x:AM h0 h v t n enc xs):∀b,Bu v=some b->∃o,h b=some o:=by
 intro b a;rcases x with ⟨rfl,_⟩ | ⟨f,d,c,rfl,g,e,_⟩
 ·cases a
 ·simp [Bu] at a;subst a;exact ⟨_,e⟩
def Bv(v:aV)(b:Nat):Prop:=Bu v≠some b
def Apart(v w:aV):Prop:=∀b,Bu v=some b->Bu w≠some b
theorem Apart.symm{v w:aV}(a:Apart v w):Apart w v:=λb h c=>a b c h
theorem Bv.nil{b:Nat}:Bv (.slice none 0 0) b:=by intro h;cases h
theorem Apart.nil{w:aV}:Apart (.slice none 0 0) w:=by intro b h;cases h
theorem Bv.old{h0 h:L}{v:aV}{t:aW}{n:Nat}{enc:U->Array aV}{xs:List U}(x:AM h0 h v t n enc xs){b:Nat}{o:Bool×Obj}(hb:h0 b=some o):Bv v b:=λe=>by
 rw [x.fresh b e] at hb;cases hb
theorem Bv.new{h0 h:L}{v:aV}{t:aW}{n:Nat}{enc:U->Array aV}{xs:List U}(x:AM h0 h v t n enc xs){b:Nat}(hb:h b=none):Bv v b:=λe=>by
 obtain ⟨o,a⟩:=x.inDom b e;rw [hb] at a;cases a
def G0(h h':L)(v v':aV):Prop:=(∀b o,h b=some o->Bu v≠some b->h' b=some o)/\(Bu v'=Bu v\/((∃r,Bu v'=some r/\h r=none)/\∀b o,h b=some o->h' b=some o))
theorem Bv.grown{h h':L}{v v':aV}(g:G0 h h' v v'){b:Nat}{o:Bool×Obj}(hb:h b=some o)(x:Bv v b):Bv v' b:=λe=>by
 rcases g.2 with q | ⟨⟨r,a,c⟩,_⟩
 ·exact x (q▸e)
 ·rw [a] at e;cases e;rw [c] at hb;cases hb
theorem Apart.grown{h h' h0:L}{v v' w:aV}(g:G0 h h' v v'){t:aW}{n:Nat}{enc:U->Array aV}{xs:List U}(y:AM h0 h w t n enc xs)(x:Apart v w):Apart v' w:=λb e a=>by
 obtain ⟨o,c⟩:=y.inDom b a;rcases g.2 with q | ⟨⟨r,d,f⟩,_⟩
 ·exact x b (q▸e) a
 ·rw [d] at e;cases e;rw [f] at c;cases c
theorem AM.grown{h h' h0:L}{v v' w:aV}(g:G0 h h' v v'){t:aW}{n:Nat}{enc:U->Array aV}{xs:List U}(y:AM h0 h w t n enc xs)(x:Apart v w):AM h0 h' w t n enc xs:=
 y.keep λb o a c=>g.1 b o c λe=>x b e a
theorem L.Le.grown{h1 h h':L}{v v':aV}(g:G0 h h' v v')(l:h1.Le h)(f:∀b,Bu v=some b->h1 b=none):h1.Le h':=λb p o a=>by
 obtain ⟨c,d,i⟩:=l b p o a;exact ⟨c,g.1 b _ d λe=>(by rw [f b e] at a;cases a),i⟩
theorem DF{h h':L}{v v':aV}(g:G0 h h' v v'){b:Nat}{o:Bool×Obj}(hb:h b=some o)(x:Bv v b):h' b=some o:=g.1 b o hb x
theorem AM.stored{h0 h h':L}{v:aV}{t:aW}{n:Nat}{enc:U->Array aV}{xs:List U}(y:AM h0 h v t n enc xs){r:Nat}(x:Bv v r)(ho:∀b,b≠r->h' b=h b):AM h0 h' v t n enc xs:=
 y.keep λb o c a=>by rw [ho b λe=>by subst e;exact x c];exact a
theorem B8{s x:aW}{o1 o2:Operand}{h0:L}{v w:aV}{e n bytes:Nat}{enc:U->Array aV}{xs ys:List U}(ht:J4 P s x=some (e,n,bytes))(h1:AL O o1=v)(h2:AL O o2=w)
  (hv:AM h0 h v e n enc xs) (hw:AE h w n enc ys) (l0:∀r,h r=none->h0 r=none) (hb:(2*(xs.length+ys.length)+512)*bytes<=2 ^ 48) (hfine:∀y ∈ ys,(enc y).toList.all (·.oneCell')=true)
  (k:∀v' h',AM h0 h' v' e n enc (xs++ys)->G0 h h' v v'->T (putS O dst v') ds h') :
  BK E ⟨dst,.call ⟨.builtin .append,#[o1,o2],#[s,x]⟩,ty,pos,af,gd⟩ O ds h T:=
 X7 ht h1 h2 hv hw l0 hb hfine λv' h' a b c=>k v' h' a ⟨b,c⟩
theorem Ae{h0:L}{t:aW}{x ix:Operand}{n:Nat}{enc:U->Array aV}{xs:List U}{v:aV}{kd:IntKind}{i:Int}(ht:DX P t=some n)(hs:AE h0 v n enc xs)(hx:AL O x=v)(hi:AL O ix=.int kd i)(h0':0<=i)(h1:i<xs.length)
  (k:∀b off,AR h0 b off n (enc (xs[i.toNat]' Y))->T (putS O dst (.pointer (some ⟨b,off,none⟩))) ds h):BK E ⟨dst,.indexAddr t x ix,ty,pos,af,gd⟩ O ds h T:=by
 obtain ⟨a,c,rfl,_,_,d⟩:=hs;obtain ⟨b,off,rfl,e⟩:=d i.toNat Y;exact AG ht hx hi h0' h1 (k b _ e)
theorem AM.built{h h':L}{r:Nat}{t:aW}{n:Nat}{enc:U->Array aV}{xs:List U}{c:Array aV}{m:Nat}(hr:h r=none)(hb:h' r=some (true,.cells c t (0,0)))(hm:xs.length=m)(hml:Nat.ble m 16777216=true)(hn:∀x ∈ xs,(enc x).size=n)(hc:c.toList=Cw enc xs) :
  AM h h' (.slice (some ⟨r,0,none⟩) m m) t n enc xs:=by
 subst hm
 have:=Nat.le_of_ble_eq_true hml
 refine .inr ⟨r,_,c,rfl,hr,hb,?_,Nat.le_refl _,Y,?_,hn⟩
 ·rw [<-D3 hn,<-hc,Array.length_toList]
 ·rw [hc,<-D3 hn,List.take_length]
theorem AX{t:aW}{len n:Nat}{z cells:Array aV}{e:aW}{parts:Array (Nat×Operand)}(hs:Dr P t=some (n,z,e))(hl:len*n<=2 ^ 24)(hn:(len*n=0)=False)
  (hf:Instr.fill (λi=>some (i*n,n)) ((Array.range (len*n)).map (z[·%z.size]!)) (parts.map λ(i,x)=>(i,AL O x)).toList=some cells)
  (k:∀r h',h r=none->h.Le h'->h' r=some (true,.cells cells e (0,0))->(∀b,b≠r->h' b=h b)->T (putS O dst (.slice (some ⟨r,0,none⟩) len len)) ds h'):BK E ⟨dst,.buildSlice t len parts,ty,pos,af,gd⟩ O ds h T:=
 PZ hs hl hn hf λr a=>k r _ a (L.Le.new a _ _) (L.set_same _ _ _ _) λb c=>L.set_ne _ _ _ c
theorem Ny{s x:aW}{o1 o2:Operand}{b off dl cap n:Nat}{e:aW}{enc:U->Array aV}{ys:List U}{w:aV}{c c':Array aV}(ht:DX P s=some n)(h1:AL O o1=.slice (some ⟨b,off,none⟩) dl cap)(h2:AL O o2=w)
  (hb:h b=some (true,.cells c e (0,0))) (hn:off+dl*n<=c.size) (hw:AE h w n enc ys) (hl:ys.length<=dl) (hfine:∀y ∈ ys,(enc y).toList.all (·.oneCell')=true) (hsz:∀y ∈ ys,(enc y).size=n) (hc:BD c off (Cw enc ys)=c')
  (k:∀h',h' b=some (true,.cells c' e (0,0))->(∀x,x≠b->h' x=h x)->T (putS O dst (.int .i64 ys.length)) ds h') :
  BK E ⟨dst,.call ⟨.builtin .copy,#[o1,o2],#[s,x]⟩,ty,pos,af,gd⟩ O ds h T:=
 ok_copy ht h1 h2 hb hn hw hl hfine hsz (k _ (by rw [hc];exact L.set_same _ _ _ _) λx a=>L.set_ne _ _ _ a)
theorem G1{t:aW}{n:Nat}{z:Array aV}{e:aW}(hs:Dr P t=some (n,z,e))(k:∀r h',h r=none->h.Le h'->h' r=some (true,.cells #[] e (0,0))->(∀b,b≠r->h' b=h b)->T (putS O dst (.slice (some ⟨r,0,none⟩) 0 0)) ds h') :
  BK E ⟨dst,.buildSlice t 0 #[],ty,pos,af,gd⟩ O ds h T:=by
 unfold BK execOp;refine El ?_;unfold Dr at hs;unfold Instr.buildSlice;cases c:P.underlying t with
 | none=>rw [c] at hs;cases hs
 | some d=>
  rw [c] at hs;cases d <;> first | (cases hs;done) | skip
  rename_i f
  simp only at hs;cases a:Bh P f with
  | none=>rw [a] at hs;cases hs
  | some x=>
   cases g:BT P f with
   | none=>rw [a,g] at hs;cases hs
   | some o=>
    rw [a,g] at hs;simp only [Option.some.injEq,Prod.mk.injEq] at hs;obtain ⟨rfl,rfl,rfl⟩:=hs;refine AC _ _ (Aa c ?_);refine AC _ _ (E5 (by rw [a];rfl) ?_);rw [Nat.zero_mul,aT aC];dsimp only;rw [aU rfl];refine AC _ _ (Ah ?_);have l:Instr.fill (λi=>some (i*x.snd,x.snd)) (Array.map (λy=>(#[]:Array aV)[y%(#[]:Array aV).size]!) (Array.range 0)) (Array.map (λy:Nat×Operand=>(y.fst,AL O y.snd)) #[]).toList=some #[]:=by
     simp [Instr.fill]
    rw [l];dsimp only;refine AC _ _ ?_;unfold newRow;refine AC _ _ (λr j=>?_);exact k r _ j (L.Le.new j _ _) (L.set_same _ _ _ _) λb m=>L.set_ne _ _ _ m
end
end Go.Ns
namespace Go.Ns
open Go.Conc
section
variable {P:Program} {E:Fb P}
def GX:Op->Option (List Operand)
 | .move x | .assign x | .box _ x | .unOp _ _ x | .convert _ _ x | .load _ x | .fieldAddr _ x _ | .field _ x _ | .nilCheck x | .extract x _ | .makeInterface _ x | .makeChan _ x | .typeAssert x _ _ _=>some [x]
 | .pick c a b=>some [c,a,b]
 | .alloc _=>some []
 | .build _ ps | .buildSlice _ _ ps=>some (ps.toList.map (·.2))
 | .store _ a x | .binOp _ _ a x _ | .indexAddr _ a x | .index _ a x | .lookup _ a x _ | .makeSlice _ a x=>some [a,x]
 | .makeFunc _ f c=>some (f.toList++c.toList)
 | .makeMap _ r=>some r.toList
 | .slice _ x lo hi mx=>some (x ::(lo.toList++(hi.toList++mx.toList)))
 | .mapUpdate _ m k x=>some [m,k,x]
 | .call c=>some (c.args.toList++match c.callee with | .value f=>[f] | .invoke r _=>[r] | .builtin _=>[])
 | _=>none
theorem Nz{ρ ρ':Operand->aV}{a:Array Operand}(e:∀x ∈ a.toList,ρ x=ρ' x):a.map ρ=a.map ρ':=by
 apply Array.toList_inj.1;rw [Array.toList_map,Array.toList_map];exact List.map_congr_left e
theorem TK{ρ ρ':Operand->aV}{a:Array (Nat×Operand)}(e:∀x ∈ a.toList.map (·.2),ρ x=ρ' x):(a.map λ(i,x)=>(i,ρ x))=a.map λ(i,x)=>(i,ρ' x):=by
 apply Array.toList_inj.1;rw [Array.toList_map,Array.toList_map];exact List.map_congr_left λx b=>by
  have:=e x.2 (List.mem_map.2 ⟨x,b,rfl⟩)
  obtain ⟨i,y⟩:=x;exact congrArg (Prod.mk i) this
theorem XV{ρ ρ':Operand->aV}{a:Option Operand}(e:∀x ∈ a.toList,ρ x=ρ' x):a.map ρ=a.map ρ':=by
 cases a with
 | none=>rfl
 | some x=>simp [e x aD]
theorem K0{ρ ρ':Operand->aV}{o:Oper}{xs:List Operand}(hx:GX o.op=some xs)(e:∀x ∈ xs,ρ x=ρ' x):execOp ρ o=execOp ρ' o:=by
 obtain ⟨h,op,k,i,l,p⟩:=o;cases op <;> simp only [GX,Option.some.injEq,reduceCtorEq] at hx
 case call c=>
  subst hx;have j:=Nz (a:=c.args) λx hx=>e x (List.mem_append_left _ hx);simp only [execOp,resolve,j];cases d:c.callee with
  | builtin b=>rfl
  | value f=>simp only [];rw [e f (List.mem_append_right _ (by rw [d];simp))]
  | invoke r m=>simp only [];rw [e r (List.mem_append_right _ (by rw [d];simp))]
 case makeFunc f a b=>
  subst hx;simp only [execOp];rw [Nz (a:=a) λx hx=>e x (List.mem_append_left _ hx),Nz (a:=b) λx hx=>e x (List.mem_append_right _ hx)]
 case slice t x lo hi mx=>
  subst hx;simp only [execOp];rw [e x aD,XV (a:=lo) λy g=>e y aF,XV (a:=hi) λy g=>e y aF,XV (a:=mx) λy g=>e y aF]
 case build t ps=>subst hx;simp only [execOp];rw [TK e]
 case buildSlice t n ps=>subst hx;simp only [execOp];rw [TK e]
 case makeMap t r=>subst hx;simp only [execOp];rw [XV e]
 all_goals
  subst hx;simp only [List.mem_cons,or_false,forall_eq_or_imp,forall_eq,List.not_mem_nil,false_implies,implies_true] at e;simp [execOp,e]
def HV(xs:List Operand):List Nat:=xs.filterMap λx=>match x with | .tmp t=>some t | _=>none
theorem Mk{O σ':Nat->aV}{xs:List Operand}(e:∀t ∈ HV xs,O t=σ' t):∀x ∈ xs,AL O x=AL σ' x:=λx a=>by
 cases x with
 | tmp t=>exact e t (List.mem_filterMap.2 ⟨_,a,rfl⟩)
 | const v=>rfl
 | global g=>rfl
 | func f=>rfl
def J5:Op->Bool
 | .call c=>match c.callee with
  | .builtin b=>b==.len || b==.cap || b==.min || b==.max
  | _=>false
 | .move _ | .assign _ | .nilCheck _ | .pick .. | .build .. | .load .. | .binOp .. | .unOp .. | .convert .. | .makeFunc .. | .fieldAddr .. | .field .. | .indexAddr .. | .index .. | .extract .. | .lookup .. | .slice .. | .makeInterface .. | .typeAssert .. =>true
 | _=>false
theorem Jd{β:Type}{s:Sem β}{f:β->aV}{h:L}{Q:Next->L->Prop}:(s.bind λx=>(Sem.pure (Next.value (f x)):Sem Next)).gh P h Q->(s.bind λx=>(Sem.pure (Next.value (f x)):Sem Next)).gh P h λa h'=>Q a h'/\∃v,a=.value v:=by
 induction s generalizing h with
 | pure a=>intro x;exact ⟨x,_,rfl⟩
 | load m a k b=>rintro ⟨i,j,p,c,t,f,v,e,d,z⟩;exact ⟨i,j,p,c,t,f,v,e,d,b v z⟩
 | store m a v k b=>rintro ⟨i,j,u,c,t,f,e,d,g,z⟩;exact ⟨i,j,u,c,t,f,e,d,g,b z⟩
 | new o k b=>intro x r w;exact b r (x r w)
 | shape r k b=>rintro ⟨p,c,t,f,y,z⟩;exact ⟨p,c,t,f,y,b _ z⟩
 | freeze a n k b=>
  rintro (⟨y,z⟩ | ⟨y,c,t,f,d,z⟩)
  ·exact .inl ⟨y,b z⟩
  ·exact .inr ⟨y,c,t,f,d,b z⟩
 | frozen a k b=>rintro ⟨p,c,t,f,y,z⟩;exact ⟨p,c,t,f,y,b _ z⟩
 | getObj r k b=>rintro ⟨p,o,e,d,g,z⟩;exact ⟨p,o,e,d,g,b _ z⟩
 | setObj r o k b=>rintro ⟨A,e,d,l,g,z⟩;exact ⟨A,e,d,l,g,b z⟩
 | choose q k b=>rintro ⟨y,z⟩;exact ⟨λx=>b _ (y x),λx t=>b _ (z x t)⟩
 | sys c k b=>intro x;exact x.elim
 | program k b=>intro x;exact b _ x
 | mark m k b=>rintro ⟨y,z⟩;exact ⟨y,b z⟩
 | halt x=>intro y;exact y.elim
def G2(P:Program)(e:Sem Next):Prop:=∀(h:L)(Q:Next->L->Prop),e.gh P h Q->e.gh P h λa h'=>Q a h'/\∃v,a=.value v
theorem G2.bind{β:Type}{s:Sem β}{f:β->Sem Next}(hf:∀a,G2 P (f a)):G2 P (s.bind f):=by
 induction s with
 | pure a=>exact hf a
 | load m a k b=>rintro h Q ⟨i,j,p,c,t,f,v,e,d,z⟩;exact ⟨i,j,p,c,t,f,v,e,d,b v _ _ z⟩
 | store m a v k b=>rintro h Q ⟨i,j,u,c,t,f,e,d,g,z⟩;exact ⟨i,j,u,c,t,f,e,d,g,b _ _ z⟩
 | new o k b=>intro h Q x r w;exact b r _ _ (x r w)
 | shape r k b=>rintro h Q ⟨p,c,t,f,y,z⟩;exact ⟨p,c,t,f,y,b _ _ _ z⟩
 | freeze a n k b=>
  rintro h Q (⟨y,z⟩ | ⟨y,c,t,f,d,z⟩)
  ·exact .inl ⟨y,b _ _ z⟩
  ·exact .inr ⟨y,c,t,f,d,b _ _ z⟩
 | frozen a k b=>rintro h Q ⟨p,c,t,f,y,z⟩;exact ⟨p,c,t,f,y,b _ _ _ z⟩
 | getObj r k b=>rintro h Q ⟨p,o,e,d,g,z⟩;exact ⟨p,o,e,d,g,b _ _ _ z⟩
 | setObj r o k b=>rintro h Q ⟨A,e,d,l,g,z⟩;exact ⟨A,e,d,l,g,b _ _ z⟩
 | choose q k b=>rintro h Q ⟨y,z⟩;exact ⟨λx=>b _ _ _ (y x),λx t=>b _ _ _ (z x t)⟩
 | sys c k b=>intro h Q x;exact x.elim
 | program k b=>intro h Q x;exact b _ _ _ x
 | mark m k b=>rintro h Q ⟨y,z⟩;exact ⟨y,b _ _ z⟩
 | halt x=>intro h Q y;exact y.elim
theorem G2.value(v:aV):G2 P (pure (.value v)):=λ_ _ x=>⟨x,v,rfl⟩
theorem leaf_val{ρ:Operand->aV}{o:Oper}(hv:J5 o.op=true){h:L}{Q:Next->L->Prop}(x:(execOp ρ o).gh P h Q):(execOp ρ o).gh P h λa h'=>Q a h'/\∃v,a=.value v:=by
 obtain ⟨d,op,i,g,j,k⟩:=o;cases op
 case nilCheck a=>
  have l:G2 P (runtimePanic .nilDeref:Sem Next):=λ_ _ y=>by first | exact y.elim | exact G2.bind (λ_=>λ_ _ z=>z.elim) _ _ y
  have t:G2 P (execOp ρ ⟨d,.nilCheck a,i,g,j,k⟩):=by
   unfold execOp;dsimp only;split
   ·exact l
   ·exact l
   ·exact l
   ·split
    ·exact l
    ·refine G2.bind λp=>G2.bind λr=>?_;split
     ·exact G2.bind λ_=>G2.value _
     ·exact G2.value _
    ·exact G2.value _
   ·exact G2.value _
  exact t _ _ x
 case call c=>
  simp only [J5] at hv;have e:∀s:Sem aV,execOp ρ ⟨d,.call c,i,g,j,k⟩=s.bind (λx=>Sem.pure (Next.value x))->(execOp ρ ⟨d,.call c,i,g,j,k⟩).gh P h λa h'=>Q a h'/\∃v,a=.value v:=λs q=>by
   rw [q] at x ⊢;exact Jd (f:=λx=>x) x
  cases n:c.callee with
  | value f=>rw [n] at hv;cases hv
  | invoke r m=>rw [n] at hv;cases hv
  | builtin b=>
   rw [n] at hv;have q:execOp ρ ⟨d,.call c,i,g,j,k⟩=builtin b c.argTypes i (c.args.map fun | .const _=>true | _=>false) (c.args.map ρ):=by
    show (resolve ρ c i).bind _=_;unfold resolve;rw [n];rfl
   cases b <;> first | (simp at hv;done) | exact e _ q
 all_goals first | (simp [J5] at hv;done) | skip
 all_goals first | exact Jd (s:=Sem.pure _) (f:=λ_=>_) x | exact Jd (f:=λx=>x) x | exact Jd (β:=Bool) x
theorem L.Le.get{h h':L}(l:h.Le h'){b:Nat}{x:Bool×Obj}(hb:h b=some x):h' b=some x:=l.keep (p:=x.1) (o:=x.2) hb rfl
theorem L.Le.of{h h':L}(x:∀b y,h b=some y->h' b=some y):h.Le h':=λb p o a=>⟨o,x b _ a,.inl rfl⟩
def X9(h' h2:L):L:=λb=>match h' b with
 | some x=>some x
 | none=>h2 b
theorem QC{h h2:L}(l:h.Le h2):X9 h h2=h2:=funext λb=>by
 unfold X9;split
 ·rename_i x a;exact (l.get a).symm
 ·rfl
theorem L.Le.set2{h h2:L}(l:h.Le h2)(r:Nat)(p:Bool)(o:Obj):(h.set r p o).Le (h2.set r p o):=.of λb y a=>by
 by_cases e:b=r
 ·subst e;rw [L.set_same] at a ⊢;exact a
 ·rw [L.set_ne h p o e] at a;rw [L.set_ne h2 p o e];exact l.get a
def TL(h h':L):Prop:=∀b,(∃x,h b=some x)->∃x,h' b=some x
theorem K3{h h' h2:L}{r:Nat}{p:Bool}{o:Obj}(d:TL (h.set r p o) h'):X9 h' (h2.set r p o)=X9 h' h2:=funext λb=>by
 unfold X9;by_cases e:b=r
 ·subst e;obtain ⟨x,a⟩:=d b ⟨_,L.set_same h b p o⟩;rw [a]
 ·rw [L.set_ne h2 p o e]
theorem TL.set{h h':L}{r:Nat}{p:Bool}{o:Obj}(d:TL (h.set r p o) h'):TL h h':=λb ⟨x,a⟩=>by
 by_cases e:b=r
 ·subst e;exact d b ⟨_,L.set_same h b p o⟩
 ·exact d b ⟨x,by rw [L.set_ne h p o e];exact a⟩
theorem gh_over{U:Type}(e:Sem U){Q:U->L->Prop}:∀{h h2:L},h.Le h2->e.gh P h Q->e.gh P h2 λa h3=>∃h',TL h h'/\Q a h'/\h3=X9 h' h2:=by
 induction e with
 | pure a=>intro h h2 l x;exact ⟨h,λ_ y=>y,x,(QC l).symm⟩
 | load m a k b=>rintro h h2 l ⟨s,u,p,c,t,f,v,i,g,z⟩;exact ⟨s,u,p,c,t,f,v,l.get i,g,b v l z⟩
 | store m a v k b=>
  rintro h h2 l ⟨s,u,C,c,t,f,i,g,j,z⟩;exact ⟨s,u,C,c,t,f,l.get i,g,j,Ed _ (λ_ _ ⟨h',d,q,r⟩=>⟨h',d.set,q,r.trans (K3 d)⟩) _ (b (l.set2 _ _ _) z)⟩
 | new o k b=>
  intro h h2 l x r B;have w:h r=none:=by
   cases D:h r with
   | none=>rfl
   | some y=>rw [l.get D] at B;cases B
  exact Ed _ (λ_ _ ⟨h',d,q,r⟩=>⟨h',d.set,q,r.trans (K3 d)⟩) _ (b r (l.set2 _ _ _) (x r w))
 | shape r k b=>rintro h h2 l ⟨p,c,t,f,y,z⟩;exact ⟨p,c,t,f,l.get y,b _ l z⟩
 | freeze a n k b=>
  rintro h h2 l (⟨y,z⟩ | ⟨y,c,t,f,g,z⟩)
  ·exact .inl ⟨y,b l z⟩
  ·exact .inr ⟨y,c,t,f,l.get g,Ed _ (λ_ _ ⟨h',d,q,r⟩=>⟨h',d.set,q,r.trans (K3 d)⟩) _ (b (l.set2 _ _ _) z)⟩
 | frozen a k b=>rintro h h2 l ⟨p,c,t,f,y,z⟩;exact ⟨p,c,t,f,l.get y,b _ l z⟩
 | getObj r k b=>rintro h h2 l ⟨p,o,i,g,j,z⟩;exact ⟨p,o,l.get i,g,j,b _ l z⟩
 | setObj r o k b=>
  rintro h h2 l ⟨F,i,g,A,j,z⟩;exact ⟨F,l.get i,g,A,j,Ed _ (λ_ _ ⟨h',d,q,r⟩=>⟨h',d.set,q,r.trans (K3 d)⟩) _ (b (l.set2 _ _ _) z)⟩
 | choose q k b=>rintro h h2 l ⟨y,z⟩;exact ⟨λx=>b _ l (y x),λx t=>b _ l (z x t)⟩
 | sys c k b=>intro h h2 l x;exact x.elim
 | program k b=>intro h h2 l x;exact b _ l x
 | mark m k b=>rintro h h2 l ⟨y,z⟩;exact ⟨y,b l z⟩
 | halt x=>intro h h2 l y;exact y.elim
def S5(E:Fb P)(o:Oper)(O:Nat->aV)(ds:List Deferred)(h:L)(v:aV):Prop:=BK E o O ds h λσ' ds' h'=>σ'=putS O o.dst v/\ds'=ds/\h'=h
theorem S5.move{o:Oper}{xs:List Operand}{O σ2:Nat->aV}{ds:List Deferred}{h h2:L}{v:aV}(hv:J5 o.op=true)(hx:GX o.op=some xs)(e:∀t ∈ HV xs,O t=σ2 t)(l:h.Le h2)
  (y:S5 E o O ds h v):S5 E o σ2 ds h2 v:=by
 unfold S5 BK at y ⊢;rw [<-K0 hx (Mk e)];refine Ed _ ?_ _ (gh_over _ l (leaf_val hv y));rintro a f ⟨g,_,⟨q,i,rfl⟩,rfl⟩;obtain ⟨b,_,rfl⟩:=q;refine ⟨?_,rfl,QC l⟩;cases c:o.dst with
 | none=>rfl
 | some d=>
  have:=congrFun b d
  simp only [c,putS,upd_same] at this;rw [this]
theorem BK.move{o:Oper}{xs:List Operand}{O σ2:Nat->aV}{ds:List Deferred}{h:L}{T T2:(Nat->aV)->List Deferred->L->Prop}(hx:GX o.op=some xs)(e:∀t ∈ HV xs,O t=σ2 t)
  (ht:∀x ds' h',T (putS O o.dst x) ds' h'->T2 (putS σ2 o.dst x) ds' h') (y:BK E o O ds h T):BK E o σ2 ds h T2:=by
 unfold BK at y ⊢;rw [<-K0 hx (Mk e)];refine Ed _ (λb h' q=>?_) _ y;cases b <;> first | exact ht _ _ _ q | exact AT.mono q λv a r=>ht _ _ _ r | exact Bg.mono q λv a r=>ht _ _ _ r | exact q
inductive Kd where
 | p | r | e | w | a | l | b
 deriving DecidableEq
def Kd.fix:Kd->Bool
 | .a | .l | .b=>false
 | _=>true
def isB:aV->Bool->Bool
 | .bool is,w=>is==w
 | _,_=>false
def Gd(l:List Oper)(o:Oper)(O:Nat->aV)(b:Bool):Prop:=match o.guard with
 | none=>b=true
 | some (g,w)=>∃og d is,l[g]? =some og/\og.dst=some d/\O d=is/\b=isB is w
theorem Gd.iff{l:List Oper}{o:Oper}{O:Nat->aV}{b:Bool}(x:Gd l o O b):Cg l o O↔b=true:=by
 unfold Gd at x;unfold Cg;cases a:o.guard with
 | none=>rw [a] at x;simp only at x;simp [x]
 | some y=>
  obtain ⟨g,w⟩:=y;rw [a] at x;obtain ⟨h,d,is,c,e,f,rfl⟩:=x;simp only [c,e,f];cases is <;> simp [isB]
def Gw(fl:Bool)(h hx:L):Prop:=h.Le hx/\(fl=false->hx=h)
theorem Gw.refl(fl:Bool)(h:L):Gw fl h h:=⟨L.Le.refl h,λ_=>rfl⟩
def zOf(P:Program)(t:aW):Array aV:=(BT P t).getD #[]
def skS:Kd->(Nat->aV)->Option Nat->Nat->aV
 | .l,O,_=>O
 | _,O,d=>putS O d undef
def TD(E:Fb P)(l:List Oper)(n:Nat)(fl:Bool)(hs:L)(ds:List Deferred)(Lw:Nat->aV->L->Prop)(F:(Nat->aV)->L->Prop):List (Kd×Nat)->(Nat->aV)->L->Prop
 | [],O,h=>∀hx,Gw fl h hx->F O hx
 | (kd,k) ::aP,O,h=>∃o b,l[k]? =some o/\Gd l o O b/\(b=false->TD E l n fl hs ds Lw F aP (skS kd O o.dst) h)/\(b=true->match kd with
  | .p=>∃v,(∀hx,Lw n undef hx->S5 E o O ds hx v)/\TD E l n fl hs ds Lw F aP (putS O o.dst v) h
  | .r=>∃v,S5 E o O ds h v/\TD E l n fl hs ds Lw F aP (putS O o.dst v) h
  | .e=>∀hx,Gw fl h hx->BK E o O ds hx λσ' ds' h'=>ds'=ds/\∃v,σ'=putS O o.dst v/\hx.Le h'/\TD E l n fl hs ds Lw F aP (putS O o.dst v) h'
  | .w=>∀hx,Gw fl h hx->BK E o O ds hx λσ' ds' h'=>ds'=ds/\∃v,σ'=putS O o.dst v/\Lw n undef h'/\TD E l n false hs ds Lw F aP (putS O o.dst v) h'
  | .a=>∀t r hx,o.op=.alloc t->h.Le hx->hs r=none->hx r=some (true,.cells (zOf P t) t (0,0))->TD E l n fl hs ds Lw F aP (putS O o.dst (.pointer (some ⟨r,0,none⟩))) hx
  | .l=>(∀hx,h.Le hx->BK E o O ds hx λσ' ds' h'=>ds'=ds/\∃v,σ'=putS O o.dst v/\hx.Le h'/\Lw k v h')/\TD E l n fl hs ds Lw F aP O h
  | .b=>∀v hx,h.Le hx->Lw k v hx->TD E l n fl hs ds Lw F aP (putS O o.dst v) hx)
def GM(l:List Oper)(n:Nat)(cl seen:List Nat)(t:Nat):Bool:= !(C3 l n).contains t || seen.any λj=>cl.contains j && match l[j]? with
 | some oj=>oj.dst==some t
 | none=>false
def Hn(l:List Oper)(n:Nat)(cls:List (List Nat))(seen:List Nat)(k t:Nat):Bool:=(List.range n).any λj=> !seen.contains j && (cls.getD j []).contains k && match l[j]? with
 | some oj=>oj.dst==some t
 | none=>false
def Rr(P:Program):Op->Bool
 | .alloc t=>(BT P t).isSome
 | _=>false
def FO(P:Program)(l:List Oper)(n:Nat)(cls:List (List Nat))(fl:Bool):List (Kd×Nat)->List Nat->List Nat->List Nat->Bool->Bool
 | [],seen,_,_,_=>(List.range n).all seen.contains
 | (kd,k) ::aP,seen,effs,rds,wr=>match l[k]? with
  | none=>false
  | some o=>(match GX o.op with
    | none=>false
    | some xs=>Nat.blt k n && !seen.contains k && (HV xs).all λt=>GM l n (cls.getD k []) seen t || (kd.fix && Hn l n cls seen k t)) &&
   (match o.guard with
    | none=>true
    | some (g,_)=>seen.contains g && (cls.getD k []).contains g) &&
   (match kd with
    | .p=>J5 o.op && effs.all (cls.getD k []).contains && FO P l n cls fl aP (k ::seen) effs rds wr
    | .r=>J5 o.op && effs.all (cls.getD k []).contains && FO P l n cls fl aP (k ::seen) effs (k ::rds) wr
    | .e=>effs.all (cls.getD k []).contains && FO P l n cls fl aP (k ::seen) (k ::effs) rds wr
    | .w=>effs.all (cls.getD k []).contains && rds.all (cls.getD k []).contains && FO P l n cls fl aP (k ::seen) (k ::effs) rds true
    | .a=>fl && !wr && Rr P o.op && o.dst.isSome && o.guard.isNone && FO P l n cls fl aP (k ::seen) (k ::effs) rds wr
    | .l=>fl && o.dst.isSome && effs.all (cls.getD k []).contains && FO P l n cls fl aP seen effs rds wr
    | .b=>fl && !wr && o.dst.isSome && FO P l n cls fl aP (k ::seen) (k ::effs) rds wr)
structure PF(E:Fb P)(l:List Oper)(n:Nat)(cls:List (List Nat))(ds:List Deferred)(Lw:Nat->aV->L->Prop)(σ0:Nat->aV)(seen rds:List Nat)(σr:Nat->aV)(h':L)(k:Nat)(o:Oper)(xs:List Operand)(b:Bool)(v:aV):Prop where
 at':l[k]? =some o
 op:GX o.op=some xs
 val:J5 o.op=true
 gfix:∀g w,o.guard=some (g,w)->g ∈ seen/\g ∈ cls.getD k []
 gd:Gd l o σr b
 vop:b=true->∃σk,(∀t ∈ HV xs,(GM l n (cls.getD k []) seen t=true/\σk t=σr t)\/(Hn l n cls [] k t=true/\σk t=σ0 t))/\S5 E o σk ds h' v/\(k ∈ rds\/∀hx,Lw n undef hx->S5 E o σk ds hx v)
 is:∀d,o.dst=some d->σr d=if b=true then v else undef
def YA(E:Fb P)(l:List Oper)(n:Nat)(cls:List (List Nat))(ds:List Deferred)(Lw:Nat->aV->L->Prop)(seen:List Nat)(σr:Nat->aV)(h':L)(k:Nat):Prop:=
 ∃o xs b,l[k]? =some o/\GX o.op=some xs/\(∀t ∈ HV xs,GM l n (cls.getD k []) seen t=true)/\(∀g w,o.guard=some (g,w)->g ∈ seen/\g ∈ cls.getD k [])/\Gd l o σr b/\(b=true->
  ∀σ2 hx,(∀t ∈ HV xs,σr t=σ2 t)->h'.Le hx->BK E o σ2 ds hx λσ'' ds' h2=>ds'=ds/\∃v,σ''=putS σ2 o.dst v/\hx.Le h2/\Lw k v h2)
structure GY(E:Fb P)(l:List Oper)(n:Nat)(cls:List (List Nat))(fl:Bool)(hs:L)(ds:List Deferred)(Lw:Nat->aV->L->Prop)(F:(Nat->aV)->L->Prop)(σ0:Nat->aV)(seen effs rds:List Nat)(wr:Bool)(aP:List (Kd×Nat))(σr:Nat->aV)(hr:L)
  (D:Nat->Bool) (σ':Nat->aV) (h':L):Prop where
 td:TD E l n (fl && !wr) hs ds Lw F aP σr hr
 ok:FO P l n cls fl aP seen effs rds wr=true
 gw:Gw (fl && !wr) hr h'
 base:∀t,(C3 l n).contains t=false->σ' t=σr t
 lt:∀k ∈ seen,k<n
 eff:∀k ∈ effs,D k=true
 rest:∀kd k,(kd,k) ∈ aP->kd.fix=true->D k=false
 done:∀k ∈ seen,D k=true->∀o d,l[k]? =some o->o.dst=some d->σ' d=σr d
 pend:∀k ∈ seen,D k=false->∃o xs b v,PF E l n cls ds Lw σ0 seen rds σr h' k o xs b v
 flo:∀k,(Kd.a,k) ∈ aP->D k=true->∀o t d,l[k]? =some o->o.op=.alloc t->o.dst=some d->∃r,σ' d=.pointer (some ⟨r,0,none⟩)/\hs r=none/\h' r=some (true,.cells (zOf P t) t (0,0))
 flb:∀k,(Kd.b,k) ∈ aP->D k=false->(Kd.l,k) ∈ aP\/YA E l n cls ds Lw seen σr h' k
 fld:∀k,(Kd.b,k) ∈ aP->D k=true->∀o d,l[k]? =some o->o.dst=some d->∃b,Gd l o σ' b/\(b=true->Lw k (σ' d) h')/\(b=false->σ' d=undef)
 mono:∀k v h1 h2,L.Le h1 h2->Lw k v h1->Lw k v h2
 frm:Lw n undef h'
 pre:wr=false->hs.Le h'
 clos:∀k,k<n->D k=true->∀q ∈ cls.getD k [],D q=true
 iniR:∀j,j<n->j ∉ seen->∀o t,l[j]? =some o->o.dst=some t->σr t=σ0 t
 iniS:∀j,j<n->D j=false->∀o t,l[j]? =some o->o.dst=some t->σ' t=σ0 t
theorem KN{l:List Oper}{n:Nat}{cls:List (List Nat)}{seen:List Nat}{k t:Nat}(x:Hn l n cls seen k t=true):∃j o,j<n/\j ∉ seen/\k ∈ cls.getD j []/\l[j]? =some o/\o.dst=some t:=by
 unfold Hn at x;obtain ⟨j,b,y⟩:=List.any_eq_true.1 x;rw [Bool.and_eq_true,Bool.and_eq_true] at y;cases a:l[j]? with
 | none=>rw [a] at y;simp at y
 | some c=>
  rw [a] at y;exact ⟨j,c,List.mem_range.1 b,(λd=>by rw [List.contains_iff_mem.2 d] at y;simp at y),List.contains_iff_mem.1 y.1.2,a,by simpa using y.2⟩
theorem N0{l:List Oper}{n:Nat}{cls:List (List Nat)}{seen:List Nat}{k t:Nat}(x:Hn l n cls seen k t=true):Hn l n cls [] k t=true:=by
 unfold Hn at x ⊢;obtain ⟨j,a,y⟩:=List.any_eq_true.1 x;rw [Bool.and_eq_true,Bool.and_eq_true] at y;exact List.any_eq_true.2 ⟨j,a,by rw [Bool.and_eq_true,Bool.and_eq_true];exact ⟨⟨rfl,y.1.2⟩,y.2⟩⟩
theorem I3{l:List Oper}{n:Nat}{cl seen:List Nat}{k t:Nat}(x:GM l n cl seen t=true):GM l n cl (k ::seen) t=true:=by
 unfold GM at x ⊢;rw [Bool.or_eq_true] at x ⊢;rcases x with x | x
 ·exact .inl x
 ·exact .inr (by rw [List.any_cons,x];simp)
theorem L6{l:List Oper}{n:Nat}{cl seen:List Nat}{k t d:Nat}{o:Oper}(nd:(C3 l n).Nodup)(hlt:∀k ∈ seen,k<n)(hk:k<n)(hs:k ∉ seen)(ho:l[k]? =some o)(hd:o.dst=some d)(x:GM l n cl seen t=true):t≠d:=by
 intro e;subst e;unfold GM at x;rw [Bool.or_eq_true] at x;rcases x with x | x
 ·have:t ∈ C3 l n:=by
   simp only [C3,List.mem_filterMap];refine ⟨o,?_,hd⟩
   have:(l.take n)[k]? =some o:=by rw [List.getElem?_take];simp [hk,ho]
   exact List.mem_of_getElem? this
  simp [this] at x
 ·rw [List.any_eq_true] at x;obtain ⟨j,b,y⟩:=x;rw [Bool.and_eq_true] at y;cases a:l[j]? with
  | none=>rw [a] at y;simp at y
  | some c=>
   rw [a] at y;have f:c.dst=some t:=by simpa using y.2
   exact DS nd hk (hlt j b) (λe=>hs (e▸b)) ho a hd f rfl
theorem Cl{O:Nat->aV}{o:Oper}{v:aV}{t:Nat}(h:∀d,o.dst=some d->t≠d):putS O o.dst v t=O t:=by
 cases a:o.dst with
 | none=>rfl
 | some d=>exact upd_ne O v (KJ (h d a))
theorem HW{l:List Oper}{n k t:Nat}{o:Oper}(hk:k<n)(ho:l[k]? =some o)(ht:(C3 l n).contains t=false):∀d,o.dst=some d->t≠d:=λd a e=>by
 subst e;rw [Nr hk ho a] at ht;cases ht
section
variable {l:List Oper} {n:Nat} {cls:List (List Nat)} {fl:Bool} {hs:L} {ds:List Deferred} {Lw:Nat->aV->L->Prop} {F:(Nat->aV)->L->Prop} {seen effs rds:List Nat} {wr:Bool} {aP:List (Kd×Nat)} {σ0 σr σ':Nat->aV} {hr h':L} {D:Nat->Bool}
theorem Gd.put{o ok:Oper}{k:Nat}{b:Bool}{v:aV}(nd:(C3 l n).Nodup)(hlt:∀k ∈ seen,k<n)(hk:k<n)(hks:k ∉ seen)(hok:l[k]? =some ok)(hg:∀g w,o.guard=some (g,w)->g ∈ seen)(x:Gd l o σr b):Gd l o (putS σr ok.dst v) b:=by
 unfold Gd at x ⊢;cases a:o.guard with
 | none=>rw [a] at x;exact x
 | some y=>
  obtain ⟨g,w⟩:=y;rw [a] at x;obtain ⟨j,d,is,h,i,m,p⟩:=x;have c:=hg g w a;exact ⟨j,d,is,h,i,by rw [Cl λq f=>DS nd hk (hlt g c) (λe=>hks (e▸c)) hok h f i];exact m,p⟩
theorem PF.put{k j:Nat}{o ok:Oper}{xs:List Operand}{b:Bool}{v w:aV}(nd:(C3 l n).Nodup)(hlt:∀k ∈ seen,k<n)(hk:k<n)(hks:k ∉ seen)(hok:l[k]? =some ok)(hj:j ∈ seen)(l2:hr.Le h')
  (x:PF E l n cls ds Lw σ0 seen rds σr hr j o xs b v):PF E l n cls ds Lw σ0 (k ::seen) rds (putS σr ok.dst w) h' j o xs b v where
 at':=x.at'
 op:=x.op
 val:=x.val
 gfix:=λg a c=>⟨List.mem_cons_of_mem _ (x.gfix g a c).1,(x.gfix g a c).2⟩
 gd:=x.gd.put nd hlt hk hks hok λg a c=>(x.gfix g a c).1
 vop:=λi=>by
  obtain ⟨σk,m,p,r⟩:=x.vop i;exact ⟨σk,λt s=>(m t s).imp (λq=>⟨I3 q.1,q.2.trans (Cl λd f=>L6 nd hlt hk hks hok f q.1).symm⟩) id,p.move x.val x.op (λ_ _=>rfl) l2,r⟩
 is:=λd f=>by rw [Cl λu h=>DS nd hk (hlt j hj) (λe=>hks (e▸hj)) hok x.at' h f];exact x.is d f
theorem PF.more{j:Nat}{o:Oper}{xs:List Operand}{b:Bool}{v:aV}{k:Nat}(x:PF E l n cls ds Lw σ0 seen rds σr h' j o xs b v):PF E l n cls ds Lw σ0 seen (k ::rds) σr h' j o xs b v:=
 { x with vop:=λa=>by obtain ⟨σk,c,d,e⟩:=x.vop a;exact ⟨σk,c,d,e.imp (List.mem_cons_of_mem _) id⟩ }
theorem YA.put{k j:Nat}{ok:Oper}{w:aV}(nd:(C3 l n).Nodup)(hlt:∀k ∈ seen,k<n)(hk:k<n)(hks:k ∉ seen)(hok:l[k]? =some ok)(x:YA E l n cls ds Lw seen σr h' j):YA E l n cls ds Lw (k ::seen) (putS σr ok.dst w) h' j:=by
 obtain ⟨o,m,b,p,q,i,f,h,r⟩:=x;exact ⟨o,m,b,p,q,λt a=>I3 (i t a),λg c e=>⟨List.mem_cons_of_mem _ (f g c e).1,(f g c e).2⟩,h.put nd hlt hk hks hok λg c e=>(f g c e).1,
  λs σ2 u e v=>r s σ2 u (λt a=>(Cl λd y=>L6 nd hlt hk hks hok y (i t a)).symm.trans (e t a)) v⟩
theorem YA.le{j:Nat}{h2:L}(l2:h'.Le h2)(x:YA E l n cls ds Lw seen σr h' j):YA E l n cls ds Lw seen σr h2 j:=by
 obtain ⟨o,c,b,d,f,g,h,a,i⟩:=x;exact ⟨o,c,b,d,f,g,h,a,λk σ2 m e p=>i k σ2 m e (l2.trans p)⟩
theorem FP{kd kd2:Kd}{k j:Nat}(h:(kd2,j) ∈ (kd,k) ::aP)(ne:kd2≠kd):(kd2,j) ∈ aP:=by
 rcases List.mem_cons.1 h with e | h
 ·cases e;exact absurd rfl ne
 ·exact h
def headOK(P:Program)(l:List Oper)(n:Nat)(cls:List (List Nat))(fl:Bool)(aP:List (Kd×Nat))(seen effs rds:List Nat)(wr:Bool)(k:Nat)(o:Oper):Kd->Prop
 | .p=>J5 o.op=true/\(∀q ∈ effs,q ∈ cls.getD k [])/\FO P l n cls fl aP (k ::seen) effs rds wr=true
 | .r=>J5 o.op=true/\(∀q ∈ effs,q ∈ cls.getD k [])/\FO P l n cls fl aP (k ::seen) effs (k ::rds) wr=true
 | .e=>(∀q ∈ effs,q ∈ cls.getD k [])/\FO P l n cls fl aP (k ::seen) (k ::effs) rds wr=true
 | .w=>(∀q ∈ effs,q ∈ cls.getD k [])/\(∀q ∈ rds,q ∈ cls.getD k [])/\FO P l n cls fl aP (k ::seen) (k ::effs) rds true=true
 | .a=>fl=true/\wr=false/\Rr P o.op=true/\o.dst.isSome=true/\o.guard=none/\FO P l n cls fl aP (k ::seen) (k ::effs) rds wr=true
 | .l=>fl=true/\o.dst.isSome=true/\(∀q ∈ effs,q ∈ cls.getD k [])/\FO P l n cls fl aP seen effs rds wr=true
 | .b=>fl=true/\wr=false/\o.dst.isSome=true/\FO P l n cls fl aP (k ::seen) (k ::effs) rds wr=true
theorem EJ{kd:Kd}{k:Nat}(x:FO P l n cls fl ((kd,k) ::aP) seen effs rds wr=true) :
  ∃o xs,l[k]? =some o/\GX o.op=some xs/\k<n/\k ∉ seen/\(∀t ∈ HV xs,GM l n (cls.getD k []) seen t=true\/(kd.fix=true/\Hn l n cls seen k t=true))/\(∀g w,o.guard=some (g,w)->g ∈ seen/\g ∈ cls.getD k [])/\
  headOK P l n cls fl aP seen effs rds wr k o kd:=by
 unfold FO at x;cases e:l[k]? with
 | none=>rw [e] at x;cases x
 | some o=>
  rw [e] at x;simp only [Bool.and_eq_true] at x;obtain ⟨⟨b,c⟩,a⟩:=x;cases d:GX o.op with
  | none=>rw [d] at b;cases b
  | some xs=>
   rw [d] at b;simp only [Bool.and_eq_true,Bool.or_eq_true,Bool.not_eq_true',List.all_eq_true] at b;obtain ⟨⟨h,f⟩,i⟩:=b;refine ⟨o,xs,rfl,d,Nat.blt_eq▸h,(λj=>by rw [List.contains_iff_mem.2 j] at f;cases f),i,λg w m=>?_,?_⟩
   ·rw [m] at c;simp only [Bool.and_eq_true] at c;exact ⟨List.contains_iff_mem.1 c.1,List.contains_iff_mem.1 c.2⟩
   ·cases kd <;> unfold headOK <;> simp only [Bool.and_eq_true,List.all_eq_true,List.contains_iff_mem,Bool.not_eq_true',Option.isNone_iff_eq_none] at a ⊢
    ·exact ⟨a.1.1,a.1.2,a.2⟩
    ·exact ⟨a.1.1,a.1.2,a.2⟩
    ·exact a
    ·exact ⟨a.1.1,a.1.2,a.2⟩
    ·exact ⟨a.1.1.1.1.1,a.1.1.1.1.2,a.1.1.1.2,a.1.1.2,a.1.2,a.2⟩
    ·exact ⟨a.1.1.1,a.1.1.2,a.1.2,a.2⟩
    ·exact ⟨a.1.1.1,a.1.1.2,a.1.2,a.2⟩
theorem Fk{kd:Kd}{k:Nat}(x:FO P l n cls fl ((kd,k) ::aP) seen effs rds wr=true):∃seen' effs' rds' wr',FO P l n cls fl aP seen' effs' rds' wr'=true/\(∀q ∈ seen,q ∈ seen')/\(kd≠.l->seen'=k ::seen)/\(kd=.l->seen'=seen)/\(∀q ∈ effs,q ∈ effs')/\(kd=.e\/kd=.w\/kd=.a\/kd=.b->k ∈ effs'):=by
 obtain ⟨o,c,_,_,_,_,_,_,y⟩:=EJ x;cases kd with
 | p=>exact ⟨_,_,_,_,y.2.2,λ_ q=>List.mem_cons_of_mem _ q,λ_=>rfl,(λe=>by cases e),λ_ q=>q,λe=>by rcases e with e | e | e | e <;> cases e⟩
 | r=>exact ⟨_,_,_,_,y.2.2,λ_ q=>List.mem_cons_of_mem _ q,λ_=>rfl,(λe=>by cases e),λ_ q=>q,λe=>by rcases e with e | e | e | e <;> cases e⟩
 | e=>exact ⟨_,_,_,_,y.2,λ_ q=>List.mem_cons_of_mem _ q,λ_=>rfl,(λe=>by cases e),λ_ q=>List.mem_cons_of_mem _ q,λ_=>List.mem_cons_self⟩
 | w=>exact ⟨_,_,_,_,y.2.2,λ_ q=>List.mem_cons_of_mem _ q,λ_=>rfl,(λe=>by cases e),λ_ q=>List.mem_cons_of_mem _ q,λ_=>List.mem_cons_self⟩
 | a=>exact ⟨_,_,_,_,y.2.2.2.2.2,λ_ q=>List.mem_cons_of_mem _ q,λ_=>rfl,(λe=>by cases e),λ_ q=>List.mem_cons_of_mem _ q,λ_=>List.mem_cons_self⟩
 | l=>exact ⟨_,_,_,_,y.2.2.2,λ_ q=>q,(λe=>absurd rfl e),λ_=>rfl,λ_ q=>q,λe=>by rcases e with e | e | e | e <;> cases e⟩
 | b=>exact ⟨_,_,_,_,y.2.2.2,λ_ q=>List.mem_cons_of_mem _ q,λ_=>rfl,(λe=>by cases e),λ_ q=>List.mem_cons_of_mem _ q,λ_=>List.mem_cons_self⟩
theorem DA:∀{aP:List (Kd×Nat)}{seen effs rds:List Nat}{wr:Bool},FO P l n cls fl aP seen effs rds wr=true->∀kd k,(kd,k) ∈ aP->k ∉ seen/\k<n
 | [],_,_,_,_,_,kd,k,h=>by cases h
 | (b,g) ::aP,seen,effs,rds,wr,x,kd,k,h=>by
  obtain ⟨o,i,_,_,c,d,_⟩:=EJ x;rcases List.mem_cons.1 h with e | h
  ·cases e;exact ⟨d,c⟩
  ·obtain ⟨seen',effs',a,f,y,z,_⟩:=Fk x
   have:=DA y kd k h
   exact ⟨λq=>this.1 (z _ q),this.2⟩
theorem N1:∀{aP:List (Kd×Nat)}{seen effs rds:List Nat}{wr:Bool},FO P l n cls fl aP seen effs rds wr=true->∀i,i<n->i ∈ seen\/∃kd,(kd,i) ∈ aP/\kd≠.l
 | [],seen,_,_,_,x,i,b=>by
  unfold FO at x;exact .inl (List.contains_iff_mem.1 (List.all_eq_true.1 x i (List.mem_range.2 b)))
 | (a,k) ::aP,seen,effs,rds,wr,x,i,b=>by
  obtain ⟨seen',effs',d,f,y,_,g,j,_⟩:=Fk x;rcases N1 y i b with h | ⟨kd,h,c⟩
  ·by_cases e:a=.l
   ·rw [j e] at h;exact .inl h
   ·rw [g e] at h;rcases List.mem_cons.1 h with rfl | h
    ·exact .inr ⟨a,List.mem_cons_self,e⟩
    ·exact .inl h
  ·exact .inr ⟨kd,List.mem_cons_of_mem _ h,c⟩
theorem N2:∀{aP:List (Kd×Nat)}{seen effs rds:List Nat}{wr:Bool},FO P l n cls fl aP seen effs rds wr=true->∀kd k,(kd,k) ∈ aP->kd≠.a->kd≠.b->∀q ∈ effs,q ∈ cls.getD k []
 | [],_,_,_,_,_,kd,k,h=>by cases h
 | (g,m) ::aP,seen,effs,rds,wr,x,kd,k,h=>by
  intro d f q c;rcases List.mem_cons.1 h with e | h
  ·cases e;obtain ⟨o,s,_,_,_,_,_,_,y⟩:=EJ x;cases g with
   | p=>exact y.2.1 q c
   | r=>exact y.2.1 q c
   | e=>exact y.1 q c
   | w=>exact y.1 q c
   | a=>exact absurd rfl d
   | l=>exact y.2.2.1 q c
   | b=>exact absurd rfl f
  ·obtain ⟨seen',effs',i,j,y,_,_,_,z,_⟩:=Fk x;exact N2 y kd k h d f q (z q c)
theorem GZ{n k:Nat}{seen:List Nat}(h:∀q ∈ seen,q<n)(hk:k<n):∀q ∈ k ::seen,q<n:=λq hq=>by
 rcases List.mem_cons.1 hq with rfl | hq
 ·exact hk
 ·exact h q hq
theorem Cy:∀{aP:List (Kd×Nat)}{seen effs rds:List Nat}{wr:Bool},FO P l n cls fl aP seen effs rds wr=true->(∀q ∈ seen,q<n)->∀kd k,(kd,k) ∈ aP->kd=.a\/kd=.b->fl=true/\wr=false/\k<n/\∃o,l[k]? =some o/\(kd=.a->Rr P o.op=true/\o.guard=none)/\o.dst.isSome=true/\∀g w,o.guard=some (g,w)->g<n/\g ∈ cls.getD k []
 | [],_,_,_,_,_,_,kd,k,h=>by cases h
 | (s,u) ::aP,seen,effs,rds,wr,x,c,kd,k,h=>by
  intro d;obtain ⟨o,v,t,y,i,z,A,m,f⟩:=EJ x;rcases List.mem_cons.1 h with e | h6
  ·cases e;rcases d with rfl | rfl
   ·exact ⟨f.1,f.2.1,i,o,t,λ_=>⟨f.2.2.1,f.2.2.2.2.1⟩,f.2.2.2.1,λg w j=>⟨c g (m g w j).1,(m g w j).2⟩⟩
   ·exact ⟨f.1,f.2.1,i,o,t,(λe=>by cases e),f.2.2.1,λg w j=>⟨c g (m g w j).1,(m g w j).2⟩⟩
  ·cases s with
   | p=>exact Cy f.2.2 (GZ c i) kd k h6 d
   | r=>exact Cy f.2.2 (GZ c i) kd k h6 d
   | e=>exact Cy f.2 (GZ c i) kd k h6 d
   | w=>have:=(Cy f.2.2 (GZ c i) kd k h6 d).2.1;cases this
   | a=>exact Cy f.2.2.2.2.2 (GZ c i) kd k h6 d
   | l=>exact Cy f.2.2.2 c kd k h6 d
   | b=>exact Cy f.2.2.2 (GZ c i) kd k h6 d
theorem Gd.other{o ok:Oper}{k:Nat}{b:Bool}{v:aV}{O:Nat->aV}(nd:(C3 l n).Nodup)(hk:k<n)(hok:l[k]? =some ok)(hg:∀g w,o.guard=some (g,w)->g<n/\g≠k)(x:Gd l o O b):Gd l o (putS O ok.dst v) b:=by
 unfold Gd at x ⊢;cases a:o.guard with
 | none=>rw [a] at x;exact x
 | some y=>
  obtain ⟨g,w⟩:=y;rw [a] at x;obtain ⟨m,d,is,i,j,p,q⟩:=x;obtain ⟨c,f⟩:=hg g w a;exact ⟨m,d,is,i,j,by rw [Cl λr h=>DS nd hk c (λe=>f e.symm) hok i h j];exact p,q⟩
theorem Gd.uniq{o:Oper}{O:Nat->aV}{b b':Bool}(x:Gd l o O b)(y:Gd l o O b'):b=b':=by
 have a:=x.iff;have c:=y.iff;rw [a] at c;cases b <;> cases b' <;> simp_all
theorem Hx{k:Nat}:F8 D k k=true:=by simp [F8]
theorem CB{k j:Nat}(h:j≠k):F8 D k j=D j:=by unfold F8;rw [aT (λe=>h e.symm)]
theorem Ew{k j:Nat}(h:D j=true):F8 D k j=true:=by unfold F8;split <;> simp [h]
theorem GY.agree(x:GY E l n cls fl hs ds Lw F σ0 seen effs rds wr aP σr hr D σ' h'){cl:List Nat}(hcl:∀q ∈ cl,D q=true){t:Nat}(y:GM l n cl seen t=true):σr t=σ' t:=by
 unfold GM at y;rw [Bool.or_eq_true] at y;rcases y with y | y
 ·exact (x.base t (by simpa using y)).symm
 ·rw [List.any_eq_true] at y;obtain ⟨j,b,z⟩:=y;rw [Bool.and_eq_true] at z;cases a:l[j]? with
  | none=>rw [a] at z;simp at z
  | some c=>
   rw [a] at z;exact (x.done j b (hcl j (List.contains_iff_mem.1 z.1)) c t a (by simpa using z.2)).symm
theorem GY.late(x:GY E l n cls fl hs ds Lw F σ0 seen effs rds wr aP σr hr D σ' h'){k t:Nat}(hkD:D k=false)(y:Hn l n cls [] k t=true):σ' t=σ0 t:=by
 obtain ⟨j,o,a,_,b,c,d⟩:=KN y;refine x.iniS j a ?_ o t c d;cases e:D j with
 | false=>rfl
 | true=>have:=x.clos j a e k b;rw [hkD] at this;cases this
theorem GY.agree2(x:GY E l n cls fl hs ds Lw F σ0 seen effs rds wr aP σr hr D σ' h'){k:Nat}{kd:Kd}(hcl:∀q ∈ cls.getD k [],D q=true)(hkD:D k=false){t:Nat}(y:GM l n (cls.getD k []) seen t=true\/(kd.fix=true/\Hn l n cls seen k t=true)):σr t=σ' t:=by
 rcases y with y | ⟨_,y⟩
 ·exact x.agree hcl y
 ·obtain ⟨j,o,b,a,_,c,d⟩:=KN y;rw [x.iniR j b a o t c d,x.late hkD (N0 y)]
theorem GY.iniR'(x:GY E l n cls fl hs ds Lw F σ0 seen effs rds wr aP σr hr D σ' h')(nd:(C3 l n).Nodup){k:Nat}{o:Oper}{v:aV}(hkn:k<n)(ho:l[k]? =some o):∀j,j<n->j ∉ k ::seen->∀o' t,l[j]? =some o'->o'.dst=some t->putS σr o.dst v t=σ0 t:=λj f a o' t b c=>by
 rw [Cl λd g=>DS nd hkn f (λe=>a (by rw [e];exact List.mem_cons_self)) ho b g c];exact x.iniR j f (λq=>a (List.mem_cons_of_mem _ q)) o' t b c
theorem GY.iniS'(x:GY E l n cls fl hs ds Lw F σ0 seen effs rds wr aP σr hr D σ' h')(nd:(C3 l n).Nodup){k:Nat}{o:Oper}{v:aV}(hkn:k<n)(ho:l[k]? =some o):∀j,j<n->F8 D k j=false->∀o' t,l[j]? =some o'->o'.dst=some t->putS σ' o.dst v t=σ0 t:=λj f c o' t a b=>by
 have e:k≠j:=λe=>by subst e;rw [Hx] at c;cases c
 rw [Cl λd g=>DS nd hkn f e ho a g b];rw [CB e.symm] at c;exact x.iniS j f c o' t a b
theorem GY.guard(x:GY E l n cls fl hs ds Lw F σ0 seen effs rds wr aP σr hr D σ' h'){cl:List Nat}(hcl:∀q ∈ cl,D q=true){o:Oper}{b:Bool}(hg:∀g w,o.guard=some (g,w)->g ∈ seen/\g ∈ cl)(y:Gd l o σr b):Gd l o σ' b:=by
 unfold Gd at y ⊢;cases a:o.guard with
 | none=>rw [a] at y;exact y
 | some z=>
  obtain ⟨g,w⟩:=z;rw [a] at y;obtain ⟨c,d,is,e,f,h,i⟩:=y;exact ⟨c,d,is,e,f,by rw [x.done g (hg g w a).1 (hcl g (hg g w a).2) c d e f];exact h,i⟩
theorem GY.unfoldV{kd:Kd}{k:Nat}(nd:(C3 l n).Nodup)(hkd:kd=.p\/kd=.r)(x:GY E l n cls fl hs ds Lw F σ0 seen effs rds wr ((kd,k) ::aP) σr hr D σ' h') :
  ∃rds' σr',GY E l n cls fl hs ds Lw F σ0 (k ::seen) effs rds' wr aP σr' hr D σ' h':=by
 obtain ⟨o,xs,h,C,a,f,H,S,K⟩:=EJ x.ok;obtain ⟨y,b,T,U,hF,hT⟩:=x.td;obtain rfl:y=o:=Option.some.inj (T.symm.trans h);have W:D k=false:=x.rest kd k List.mem_cons_self (by rcases hkd with e | e <;> rw [e] <;> rfl);have u:J5 y.op=true:=by rcases hkd with rfl | rfl <;> exact K.1
 have i:∀(v:aV)(rds':List Nat),(rds'=rds\/rds'=k ::rds)->FO P l n cls fl aP (k ::seen) effs rds' wr=true->TD E l n (fl && !wr) hs ds Lw F aP (putS σr y.dst (if b=true then v else undef)) hr->
   (b=true->S5 E y σr ds h' v/\(k ∈ rds'\/∀C,Lw n undef C->S5 E y σr ds C v))->GY E l n cls fl hs ds Lw F σ0 (k ::seen) effs rds' wr aP (putS σr y.dst (if b=true then v else undef)) hr D σ' h':=by
  intro v rds' N X td' hv;refine ⟨td',X,x.gw,λt Q=>?_,λj hj=>?_,x.eff,λkd' j hj hne=>x.rest kd' j (List.mem_cons_of_mem _ hj) hne,λj hj c A d m B=>?_,λj hj c=>?_,λj hj=>x.flo j (List.mem_cons_of_mem _ hj),λj hj c=>(x.flb j (List.mem_cons_of_mem _ hj) c).imp (λq=>FP q (by rcases hkd with e | e <;> rw [e] <;> decide)) (YA.put nd x.lt a f h),λj hj=>x.fld j (List.mem_cons_of_mem _ hj),x.mono,x.frm,x.pre,x.clos,x.iniR' nd a h,x.iniS⟩
  ·rw [Cl (HW a h Q)];exact x.base t Q
  ·rcases List.mem_cons.1 hj with rfl | hj
   ·exact a
   ·exact x.lt j hj
  ·rcases List.mem_cons.1 hj with rfl | hj
   ·rw [W] at c;cases c
   ·rw [Cl λd' z=>DS nd a (x.lt j hj) (λe=>f (e▸hj)) h m z B];exact x.done j hj c A d m B
  ·rcases List.mem_cons.1 hj with rfl | hj
   ·refine ⟨y,xs,b,v,h,C,u,λg w s=>⟨List.mem_cons_of_mem _ (S g w s).1,(S g w s).2⟩,U.put nd x.lt a f h λg w s=>(S g w s).1,λhb=>?_,λd B=>?_⟩
    ·obtain ⟨y1,y2⟩:=hv hb;refine ⟨σr,λt Q=>?_,y1,y2⟩;rcases H t Q with q | ⟨_,q⟩
     ·exact .inl ⟨I3 q,(Cl λd B=>L6 nd x.lt a f h B q).symm⟩
     ·obtain ⟨j',A,hj',hns,_,m,z⟩:=KN q;exact .inr ⟨N0 q,x.iniR j' hj' hns A t m z⟩
    ·rw [B];exact upd_same _ _ _
   ·obtain ⟨A,O,b',v',pf⟩:=x.pend j hj c
    have:=pf.put (w:=if b=true then v else undef) nd x.lt a f h hj (L.Le.refl _)
    rcases N with rfl | rfl
    ·exact ⟨A,O,b',v',this⟩
    ·exact ⟨A,O,b',v',this.more⟩
 cases b with
 | false=>
  rcases hkd with rfl | rfl
  ·exact ⟨_,_,i undef _ (.inl rfl) K.2.2 (hF rfl) (λe=>by cases e)⟩
  ·exact ⟨_,_,i undef _ (.inr rfl) K.2.2 (hF rfl) (λe=>by cases e)⟩
 | true=>
  rcases hkd with rfl | rfl
  ·obtain ⟨v,R,h2⟩:=hT rfl;exact ⟨_,_,i v _ (.inl rfl) K.2.2 h2 (λ_=>⟨R _ x.frm,.inr R⟩)⟩
  ·obtain ⟨v,R,h2⟩:=hT rfl;exact ⟨_,_,i v _ (.inr rfl) K.2.2 h2 (λ_=>⟨R.move u C (λ_ _=>rfl) x.gw.1,.inl List.mem_cons_self⟩)⟩
theorem GY.unfoldA{k:Nat}(nd:(C3 l n).Nodup)(hD:D k=true)(x:GY E l n cls fl hs ds Lw F σ0 seen effs rds wr ((Kd.a,k) ::aP) σr hr D σ' h') :
  ∃σr',GY E l n cls fl hs ds Lw F σ0 (k ::seen) (k ::effs) rds wr aP σr' h' D σ' h':=by
 obtain ⟨o,xs,g,hx,f,h,O,hg,S⟩:=EJ x.ok;obtain ⟨s,b,y,i,hF,T⟩:=x.td;obtain rfl:s=o:=Option.some.inj (y.symm.trans g);obtain ⟨U,W,u,z,A,B⟩:=S;obtain rfl:b=true:=by unfold Gd at i;rw [A] at i;exact i
 obtain ⟨t,v⟩:∃t,s.op=.alloc t:=by
  cases X:s.op <;> rw [X] at u <;> first | exact ⟨_,rfl⟩ | cases u
 obtain ⟨d,C⟩:=Option.isSome_iff_exists.1 z;obtain ⟨r,h1,h2,h3⟩:=x.flo k List.mem_cons_self hD s t d g v C;refine ⟨putS σr s.dst (.pointer (some ⟨r,0,none⟩)),T rfl t r h' v x.gw.1 h2 h3,B,Gw.refl _ _,λt Q=>?_,λj hj=>?_,λj hj=>?_,λH j hj K=>x.rest H j (List.mem_cons_of_mem _ hj) K,λj hj c w R m p=>?_,λj hj c=>?_,
  λj hj=>x.flo j (List.mem_cons_of_mem _ hj),λj hj c=>(x.flb j (List.mem_cons_of_mem _ hj) c).imp (λq=>FP q aC) (YA.put nd x.lt f h g),λj hj=>x.fld j (List.mem_cons_of_mem _ hj),x.mono,x.frm,x.pre,x.clos,x.iniR' nd f g,x.iniS⟩
 ·rw [Cl (HW f g Q)];exact x.base t Q
 ·rcases List.mem_cons.1 hj with rfl | hj
  ·exact f
  ·exact x.lt j hj
 ·rcases List.mem_cons.1 hj with rfl | hj
  ·exact hD
  ·exact x.eff j hj
 ·rcases List.mem_cons.1 hj with rfl | hj
  ·obtain rfl:w=s:=Option.some.inj (m.symm.trans g);obtain rfl:R=d:=Option.some.inj (p.symm.trans C);rw [h1,C];exact (upd_same _ _ _).symm
  ·rw [Cl λe he=>DS nd f (x.lt j hj) (λe=>h (e▸hj)) g m he p];exact x.done j hj c w R m p
 ·rcases List.mem_cons.1 hj with rfl | hj
  ·rw [hD] at c;cases c
  ·obtain ⟨w,N,b',v',pf⟩:=x.pend j hj c;exact ⟨w,N,b',v',pf.put nd x.lt f h g hj (L.Le.refl _)⟩
theorem GY.unfoldB{k:Nat}(nd:(C3 l n).Nodup)(hD:D k=true)(x:GY E l n cls fl hs ds Lw F σ0 seen effs rds wr ((Kd.b,k) ::aP) σr hr D σ' h') :
  ∃σr' hr',GY E l n cls fl hs ds Lw F σ0 (k ::seen) (k ::effs) rds wr aP σr' hr' D σ' h':=by
 obtain ⟨o,xs,f,hx,a,g,K,Q,R⟩:=EJ x.ok;obtain ⟨m,b,r,s,S,T⟩:=x.td;obtain rfl:m=o:=Option.some.inj (r.symm.trans f);obtain ⟨U,W,u,v⟩:=R;obtain ⟨d,w⟩:=Option.isSome_iff_exists.1 u;obtain ⟨X,y,hL,hU⟩:=x.fld k List.mem_cons_self hD m d f w;obtain rfl:b=X:=(x.guard (x.clos k a hD) Q s).uniq y;obtain ⟨hr',z,A⟩:∃hr',Gw (fl && !wr) hr' h'/\TD E l n (fl && !wr) hs ds Lw F aP (putS σr m.dst (σ' d)) hr':=by
  cases b with
  | true=>exact ⟨h',Gw.refl _ _,T rfl (σ' d) h' x.gw.1 (hL rfl)⟩
  | false=>exact ⟨hr,x.gw,by rw [hU rfl];exact S rfl⟩
 refine ⟨putS σr m.dst (σ' d),hr',A,v,z,λt N=>?_,λj hj=>?_,λj hj=>?_,λB j hj C=>x.rest B j (List.mem_cons_of_mem _ hj) C,λj hj c p O h i=>?_,λj hj c=>?_,
  λj hj=>x.flo j (List.mem_cons_of_mem _ hj),λj hj c=>(x.flb j (List.mem_cons_of_mem _ hj) c).imp (λq=>FP q aC) (YA.put nd x.lt a g f),λj hj=>x.fld j (List.mem_cons_of_mem _ hj),x.mono,x.frm,x.pre,x.clos,x.iniR' nd a f,x.iniS⟩
 ·rw [Cl (HW a f N)];exact x.base t N
 ·rcases List.mem_cons.1 hj with rfl | hj
  ·exact a
  ·exact x.lt j hj
 ·rcases List.mem_cons.1 hj with rfl | hj
  ·exact hD
  ·exact x.eff j hj
 ·rcases List.mem_cons.1 hj with rfl | hj
  ·obtain rfl:p=m:=Option.some.inj (h.symm.trans f);obtain rfl:O=d:=Option.some.inj (i.symm.trans w);rw [w];exact (upd_same _ _ _).symm
  ·rw [Cl λe he=>DS nd a (x.lt j hj) (λe=>g (e▸hj)) f h he i];exact x.done j hj c p O h i
 ·rcases List.mem_cons.1 hj with rfl | hj
  ·rw [hD] at c;cases c
  ·obtain ⟨p,H,b',v',pf⟩:=x.pend j hj c;exact ⟨p,H,b',v',pf.put nd x.lt a g f hj (L.Le.refl _)⟩
theorem GY.unfoldL{k:Nat}(x:GY E l n cls fl hs ds Lw F σ0 seen effs rds wr ((Kd.l,k) ::aP) σr hr D σ' h') :
  GY E l n cls fl hs ds Lw F σ0 seen effs rds wr aP σr hr D σ' h':=by
 obtain ⟨o,C,u,w,H,K,c,N,O⟩:=EJ x.ok;obtain ⟨y,b,f,g,Q,A⟩:=x.td;obtain rfl:y=o:=Option.some.inj (f.symm.trans u);obtain ⟨R,h,B,i⟩:=O;obtain ⟨d,S⟩:=Option.isSome_iff_exists.1 h;have td:TD E l n (fl && !wr) hs ds Lw F aP σr hr:=by
  cases b with
  | true=>exact (A rfl).2
  | false=>exact Q rfl
 refine ⟨td,i,x.gw,x.base,x.lt,x.eff,λm j a p=>x.rest m j (List.mem_cons_of_mem _ a) p,x.done,x.pend,λj a=>x.flo j (List.mem_cons_of_mem _ a),λj a r=>?_,λj a=>x.fld j (List.mem_cons_of_mem _ a),x.mono,x.frm,x.pre,x.clos,x.iniR,x.iniS⟩;by_cases e:j=k
 ·subst e;refine .inr ⟨y,C,b,u,w,λt T=>(c t T).resolve_right (λq=>by cases q.1),N,g,λU σ2 s e W=>?_⟩;have X:=(A U).1;refine BK.move w e (λz ds' h2 q=>?_) (X s (x.gw.1.trans W));obtain ⟨rfl,v,hv,l3,hL⟩:=q;have hz:z=v:=by
   have:=congrFun hv d
   simp only [S,putS,upd_same] at this;exact this
  exact ⟨rfl,v,by rw [hz],l3,hL⟩
 ·refine (x.flb j (List.mem_cons_of_mem _ a) r).imp (λq=>?_) id;rcases List.mem_cons.1 q with e2 | q
  ·cases e2;exact absurd rfl e
  ·exact q
theorem GY.fldPut(x:GY E l n cls fl hs ds Lw F σ0 seen effs rds wr aP σr hr D σ' h')(nd:(C3 l n).Nodup){k:Nat}{o:Oper}{v:aV}{h2:L}(hkn:k<n)(ho:l[k]? =some o)(hkD:D k=false)(l2:h'.Le h2){j:Nat}(hj:(Kd.b,j) ∈ aP)(hjk:j≠k)(hDj:D j=true)
  {o':Oper} {d':Nat} (ho':l[j]? =some o') (hd':o'.dst=some d'):∃b,Gd l o' (putS σ' o.dst v) b/\(b=true->Lw j (putS σ' o.dst v d') h2)/\(b=false->putS σ' o.dst v d'=undef):=by
 obtain ⟨_,_,c,h,f,_,_,i⟩:=Cy x.ok x.lt _ j hj (.inr rfl);obtain rfl:h=o':=Option.some.inj (f.symm.trans ho');obtain ⟨b,m,p,r⟩:=x.fld j hj hDj h d' ho' hd';have e:putS σ' o.dst v d'=σ' d':=Cl λe s=>DS nd hkn c (λq=>hjk q.symm) ho ho' s hd';refine ⟨b,m.other nd hkn ho λg w d=>⟨(i g w d).1,λq=>?_⟩,λa=>by rw [e];exact x.mono _ _ _ _ l2 (p a),λa=>by rw [e];exact r a⟩
 have:=x.clos j c hDj g (i g w d).2
 rw [q,hkD] at this;cases this
theorem GY.ran{kd:Kd}{k:Nat}{o:Oper}{xs:List Operand}{v:aV}{hr2 h2:L}{wr':Bool}(nd:(C3 l n).Nodup)(hkD:D k=false)(hkl:kd≠.l)(ho:l[k]? =some o)(hkn:k<n)(hks:k ∉ seen)(hcl:∀q ∈ cls.getD k [],D q=true)
  (x:GY E l n cls fl hs ds Lw F σ0 seen effs rds wr ((kd,k) ::aP) σr hr D σ' h') (td:TD E l n (fl && !wr') hs ds Lw F aP (putS σr o.dst v) hr2) (ok':FO P l n cls fl aP (k ::seen) (k ::effs) rds wr'=true) (gw:Gw (fl && !wr') hr2 h2)
  (how:(wr'=wr/\h'.Le h2)\/(wr'=true/\(∀q ∈ rds,D q=true)/\Lw n undef h2)) :
  GY E l n cls fl hs ds Lw F σ0 (k ::seen) (k ::effs) rds wr' aP (putS σr o.dst v) hr2 (F8 D k) (putS σ' o.dst v) h2:=by
 refine ⟨td,ok',gw,λt z=>?_,λj hj=>?_,λj hj=>?_,λw j hj h=>?_,λj hj a i y d f=>?_,λj hj a=>?_,λj hj a i t y d A f=>?_,λj hj a=>?_,λj hj a i y d f=>?_,x.mono,(by rcases how with ⟨_,g⟩ | ⟨_,_,S⟩;exact x.mono _ _ _ _ g x.frm;exact S),λm=>?_,λj B a q R=>?_,x.iniR' nd hkn ho,x.iniS' nd hkn ho⟩
 ·rw [Cl (HW hkn ho z),Cl (HW hkn ho z)];exact x.base t z
 ·rcases List.mem_cons.1 hj with rfl | hj
  ·exact hkn
  ·exact x.lt j hj
 ·rcases List.mem_cons.1 hj with rfl | hj
  ·exact Hx
  ·exact Ew (x.eff j hj)
 ·have b:=(DA ok' w j hj).1;rw [CB λe=>b (by rw [e];exact List.mem_cons_self)];exact x.rest w j (List.mem_cons_of_mem _ hj) h
 ·rcases List.mem_cons.1 hj with rfl | hj
  ·obtain rfl:i=o:=Option.some.inj (d.symm.trans ho);rw [f];exact (upd_same _ _ _).trans (upd_same _ _ _).symm
  ·have c:j≠k:=λe=>hks (e▸hj);rw [CB c] at a;have h:∀e,o.dst=some e->y≠e:=λe C=>DS nd hkn (x.lt j hj) (λe=>c e.symm) ho d C f;rw [Cl h,Cl h];exact x.done j hj a i y d f
 ·rcases List.mem_cons.1 hj with rfl | hj
  ·rw [Hx] at a;cases a
  ·have c:j≠k:=λe=>hks (e▸hj);rw [CB c] at a;obtain ⟨i,u,H,K,p⟩:=x.pend j hj a;rcases how with ⟨_,g⟩ | ⟨_,N,O⟩
   ·exact ⟨i,u,H,K,p.put nd x.lt hkn hks ho hj g⟩
   ·have Q:PF E l n cls ds Lw σ0 seen rds σr h2 j i u H K:=⟨p.at',p.op,p.val,p.gfix,p.gd,λT=>by obtain ⟨σk,U,y1,W⟩:=p.vop T;exact ⟨σk,U,W.elim (λX=>by rw [N j X] at a;cases a) λs=>⟨s h2 O,.inr s⟩⟩,p.is⟩;exact ⟨i,u,H,K,Q.put nd x.lt hkn hks ho hj (L.Le.refl _)⟩
 ·have b:=(DA ok' _ j hj);have c:j≠k:=λe=>b.1 (by rw [e];exact List.mem_cons_self);rw [CB c] at a;obtain ⟨r,h1,h3,h4⟩:=x.flo j (List.mem_cons_of_mem _ hj) a i t y d A f;rcases how with ⟨_,g⟩ | ⟨m,_⟩
  ·exact ⟨r,by rw [Cl λe C=>DS nd hkn b.2 (λe=>c e.symm) ho d C f];exact h1,h3,g.get h4⟩
  ·have:=(Cy ok' (GZ x.lt hkn) _ j hj (.inl rfl)).2.1;rw [m] at this;cases this
 ·have b:=(DA ok' _ j hj);have c:j≠k:=λe=>b.1 (by rw [e];exact List.mem_cons_self);rw [CB c] at a;rcases how with ⟨_,g⟩ | ⟨m,_⟩
  ·exact (x.flb j (List.mem_cons_of_mem _ hj) a).imp (λq=>FP q hkl.symm) λq=>(q.put nd x.lt hkn hks ho).le g
  ·have:=(Cy ok' (GZ x.lt hkn) _ j hj (.inr rfl)).2.1;rw [m] at this;cases this
 ·have b:=(DA ok' _ j hj);have c:j≠k:=λe=>b.1 (by rw [e];exact List.mem_cons_self);rw [CB c] at a;rcases how with ⟨_,g⟩ | ⟨m,_⟩
  ·exact x.fldPut nd hkn ho hkD g (List.mem_cons_of_mem _ hj) c a d f
  ·have:=(Cy ok' (GZ x.lt hkn) _ j hj (.inr rfl)).2.1;rw [m] at this;cases this
 ·rcases how with ⟨e,g⟩ | ⟨e,_⟩
  ·exact (x.pre (e▸m)).trans g
  ·rw [e] at m;cases m
 ·by_cases e:j=k
  ·subst e;exact Ew (hcl q R)
  ·rw [CB e] at a;exact Ew (x.clos j B a q R)
def TdAt(E:Fb P)(l:List Oper)(n:Nat)(cls:List (List Nat))(fl:Bool)(hs:L)(ds:List Deferred)(Lw:Nat->aV->L->Prop)(F:(Nat->aV)->L->Prop)(σ0:Nat->aV)(D:Nat->Bool)(σ':Nat->aV)(h':L):Prop:=
 ∃seen effs rds wr aP σr hr,GY E l n cls fl hs ds Lw F σ0 seen effs rds wr aP σr hr D σ' h'
abbrev RunK(E:Fb P)(l:List Oper)(n:Nat)(cls:List (List Nat))(fl:Bool)(hs:L)(ds:List Deferred)(Lw:Nat->aV->L->Prop)(F:(Nat->aV)->L->Prop)(σ0:Nat->aV)(D:Nat->Bool)(σ':Nat->aV)(h':L)(k:Nat)(o:Oper):Prop:=
 (Cg l o σ'->BK E o σ' ds h' λσ'' ds'' h''=>ds''=ds/\TdAt E l n cls fl hs ds Lw F σ0 (F8 D k) σ'' h'')/\(¬Cg l o σ'->TdAt E l n cls fl hs ds Lw F σ0 (F8 D k) (putS σ' o.dst undef) h')
theorem GY.runV{k:Nat}{o:Oper}(nd:(C3 l n).Nodup)(ho:l[k]? =some o)(hks:k ∈ seen)(hkD:D k=false)(hcl:∀q ∈ cls.getD k [],D q=true)(x:GY E l n cls fl hs ds Lw F σ0 seen effs rds wr aP σr hr D σ' h') :
  RunK E l n cls fl hs ds Lw F σ0 D σ' h' k o:=by
 obtain ⟨C,xs,b,v,m⟩:=x.pend k hks hkD;obtain rfl:C=o:=Option.some.inj (m.at'.symm.trans ho);have i:=x.lt k hks;have p:=(x.guard hcl m.gfix m.gd).iff;have s:GY E l n cls fl hs ds Lw F σ0 seen effs rds wr aP σr hr (F8 D k) (putS σ' C.dst (if b=true then v else undef)) h':=by
  refine ⟨x.td,x.ok,x.gw,λt B=>?_,x.lt,λj g=>Ew (x.eff j g),λu j g H=>?_,λj g a w A h f=>?_,λj g a=>?_,λj g a w t A h K f=>?_,λj g a=>?_,λj g a w A h f=>?_,x.mono,x.frm,x.pre,λj N a q R=>?_,x.iniR,x.iniS' nd i ho⟩
  ·rw [Cl (HW i ho B)];exact x.base t B
  ·have d:=(DA x.ok u j g).1;rw [CB λ(e:j=k)=>d (by rw [e];exact hks)];exact x.rest u j g H
  ·by_cases c:j=k
   ·subst c;obtain rfl:w=C:=Option.some.inj (h.symm.trans ho);rw [m.is A f,f];exact upd_same _ _ _
   ·rw [CB c] at a;rw [Cl λe O=>DS nd i (x.lt j g) (λe=>c e.symm) ho h O f];exact x.done j g a w A h f
  ·by_cases c:j=k
   ·subst c;rw [Hx] at a;cases a
   ·rw [CB c] at a;exact x.pend j g a
  ·have d:=DA x.ok _ j g;have c:j≠k:=λe=>d.1 (by rw [e];exact hks);rw [CB c] at a;obtain ⟨r,S,T⟩:=x.flo j g a w t A h K f;exact ⟨r,by rw [Cl λe O=>DS nd i d.2 (λe=>c e.symm) ho h O f];exact S,T⟩
  ·have d:=DA x.ok _ j g;have c:j≠k:=λe=>d.1 (by rw [e];exact hks);rw [CB c] at a;exact x.flb j g a
  ·have d:=DA x.ok _ j g;have c:j≠k:=λe=>d.1 (by rw [e];exact hks);rw [CB c] at a;exact x.fldPut nd i ho hkD (L.Le.refl _) g c a h f
  ·by_cases e:j=k
   ·subst e;exact Ew (hcl q R)
   ·rw [CB e] at a;exact Ew (x.clos j N a q R)
 refine ⟨λQ=>?_,λQ=>?_⟩
 ·obtain rfl:=p.1 Q;obtain ⟨σk,U,W,_⟩:=m.vop rfl;have y:=W.move (σ2:=σ') m.val m.op (λt B=>(U t B).elim (λq=>q.2.trans (x.agree hcl q.1)) λq=>q.2.trans (x.late hkD q.1).symm) (L.Le.refl _);refine BK.move m.op (λ_ _=>rfl) (λz X h'' q=>?_) y;obtain ⟨q1,rfl,rfl⟩:=q;exact ⟨rfl,_,_,_,_,_,_,_,by rw [q1];exact s⟩
 ·cases b with
  | true=>exact absurd (p.2 rfl) Q
  | false=>exact ⟨_,_,_,_,_,_,_,s⟩
theorem TD.grow{E:Fb P}{fl2:Bool}:∀{aP:List (Kd×Nat)}{seen effs rds:List Nat}{wr fl:Bool}{O:Nat->aV}{h h':L},FO P l n cls fl2 aP seen effs rds wr=true->Gw fl h h'->TD E l n fl hs ds Lw F aP O h->TD E l n false hs ds Lw F aP O h'
 | [],_,_,_,_,fl,O,h,h',_,g,x=>λy i=>by rw [i.2 rfl];exact x h' g
 | (C,k) ::aP,_,_,_,_,fl,O,h,h',z,g,⟨o,b,A,s,H,K⟩=>by
  obtain ⟨B,W,u,y,_,_,_,_,N⟩:=EJ z;obtain rfl:B=o:=Option.some.inj (u.symm.trans A);obtain ⟨_,_,_,_,d,_⟩:=Fk z;refine ⟨B,b,A,s,λe=>TD.grow d g (H e),λe=>?_⟩;have c:=K e;cases C with
  | p=>obtain ⟨v,a,j⟩:=c;exact ⟨v,a,TD.grow d g j⟩
  | r=>obtain ⟨v,a,j⟩:=c;exact ⟨v,a.move N.1 y (λ_ _=>rfl) g.1,TD.grow d g j⟩
  | e=>intro f i;rw [i.2 rfl];exact (c h' g).mono λ_ _ _ ⟨Q,v,R,S,j⟩=>⟨Q,v,R,S,TD.grow d (Gw.refl _ _) j⟩
  | w=>intro f i;rw [i.2 rfl];exact c h' g
  | a=>intro t r f T m hr U;exact TD.grow d (Gw.refl _ _) (c t r f T (g.1.trans m) hr U)
  | l=>exact ⟨λf m=>c.1 f (g.1.trans m),TD.grow d g c.2⟩
  | b=>intro v f m q;exact TD.grow d (Gw.refl _ _) (c v f (g.1.trans m) q)
theorem GY.runE{kd:Kd}{k:Nat}{o:Oper}(nd:(C3 l n).Nodup)(hkd:kd=.e\/kd=.w)(ho:l[k]? =some o)(hcl:∀q ∈ cls.getD k [],D q=true)(x:GY E l n cls fl hs ds Lw F σ0 seen effs rds wr ((kd,k) ::aP) σr hr D σ' h') :
  RunK E l n cls fl hs ds Lw F σ0 D σ' h' k o:=by
 obtain ⟨N,xs,m,O,c,f,g,S,h⟩:=EJ x.ok;obtain rfl:N=o:=Option.some.inj (m.symm.trans ho);obtain ⟨i,b,p,r,Q,R⟩:=x.td;obtain rfl:i=N:=Option.some.inj (p.symm.trans ho);have j:=(x.guard hcl S r).iff;have a:D k=false:=x.rest kd k List.mem_cons_self (by rcases hkd with e | e <;> rw [e] <;> rfl);refine ⟨λs=>?_,λs=>?_⟩
 ·obtain rfl:=j.1 s;rcases hkd with rfl | rfl
  ·refine (R rfl h' x.gw).move O (λt u=>x.agree2 hcl a (g t u)) λz y A q=>?_;obtain ⟨rfl,v,B,T,td⟩:=q;refine ⟨rfl,?_⟩;have e:putS σ' i.dst z=putS σ' i.dst v:=by
    cases C:i.dst with
    | none=>rfl
    | some d=>
     have:=congrFun B d
     simp only [C,putS,upd_same] at this;rw [this]
   rw [e];exact ⟨_,_,_,_,_,_,_,x.ran (xs:=xs) nd a aC ho c f hcl td h.2 (Gw.refl _ _) (.inl ⟨rfl,T⟩)⟩
  ·refine (R rfl h' x.gw).move O (λt u=>x.agree2 hcl a (g t u)) λz y A q=>?_;obtain ⟨rfl,v,B,H,td⟩:=q;refine ⟨rfl,?_⟩;have e:putS σ' i.dst z=putS σ' i.dst v:=by
    cases C:i.dst with
    | none=>rfl
    | some d=>
     have:=congrFun B d
     simp only [C,putS,upd_same] at this;rw [this]
   rw [e];exact ⟨_,_,_,_,_,_,_,x.ran (xs:=xs) nd a aC ho c f hcl (by rw [Bool.not_true,Bool.and_false];exact td) h.2.2 (Gw.refl _ _) (.inr ⟨rfl,λq K=>hcl q (h.2.1 q K),H⟩)⟩
 ·cases b with
  | true=>exact absurd (j.2 rfl) s
  | false=>
   rcases hkd with rfl | rfl
   ·exact ⟨_,_,_,_,_,_,_,x.ran (xs:=xs) nd a aC ho c f hcl (Q rfl) h.2 x.gw (.inl ⟨rfl,L.Le.refl _⟩)⟩
   ·exact ⟨_,_,_,_,_,_,_,x.ran (xs:=xs) nd a aC ho c f hcl (by rw [Bool.not_true,Bool.and_false];exact TD.grow h.2.2 x.gw (Q rfl)) h.2.2 (Gw.refl _ _) (.inr ⟨rfl,λq K=>hcl q (h.2.1 q K),x.frm⟩)⟩
theorem Gn:∀{aP:List (Kd×Nat)}{seen effs rds:List Nat}{wr:Bool},FO P l n cls fl aP seen effs rds wr=true->∀{kd1 kd2:Kd}{j:Nat},(kd1,j) ∈ aP->(kd2,j) ∈ aP->kd1≠.l->kd2≠.l->kd1=kd2
 | [],_,_,_,_,_,_,_,_,h,_,_,_=>by cases h
 | (i,k) ::aP,seen,effs,rds,wr,x,kd1,kd2,j,f,g,b,c=>by
  obtain ⟨seen',m,o,p,a,_,z,_⟩:=Fk x;rcases List.mem_cons.1 f with d | h3 <;> rcases List.mem_cons.1 g with e | h4
  ·cases d;cases e;rfl
  ·cases d;exact absurd (by rw [z b];exact List.mem_cons_self) (DA a _ _ h4).1
  ·cases e;exact absurd (by rw [z c];exact List.mem_cons_self) (DA a _ _ h3).1
  ·exact Gn a h3 h4 b c
theorem GY.runA{k:Nat}{o:Oper}(nd:(C3 l n).Nodup)(hk:(Kd.a,k) ∈ aP)(hkD:D k=false)(ho:l[k]? =some o)(hcl:∀q ∈ cls.getD k [],D q=true)(x:GY E l n cls fl hs ds Lw F σ0 seen effs rds wr aP σr hr D σ' h') :
  RunK E l n cls fl hs ds Lw F σ0 D σ' h' k o:=by
 obtain ⟨U,B,h,R,W,C,H,_⟩:=Cy x.ok x.lt _ k hk (.inl rfl);obtain ⟨i,K⟩:=C rfl;obtain rfl:R=o:=Option.some.inj (W.symm.trans ho);have N:=(DA x.ok _ k hk).1;obtain ⟨t,v⟩:∃t,R.op=.alloc t:=by
  cases S:R.op <;> rw [S] at i <;> first | exact ⟨_,rfl⟩ | cases i
 have X:BT P t=some (zOf P t):=by
  rw [v] at i;obtain ⟨z,X⟩:=Option.isSome_iff_exists.1 (show (BT P t).isSome=true from i);unfold zOf;rw [X];rfl
 refine ⟨λ_=>?_,λhG=>absurd (by unfold Cg;rw [K];trivial) hG⟩;obtain ⟨dst,op,ty,pos,af,gd⟩:=R;simp only at v H K;subst v;obtain ⟨d,rfl⟩:=Option.isSome_iff_exists.1 H;refine AW X λr h2 O w hnb hoth=>⟨rfl,seen,effs,rds,wr,aP,σr,hr,x.td,x.ok,⟨x.gw.1.trans w,λe=>by rw [U,B] at e;cases e⟩,λt' ht=>?_,x.lt,λj c=>Ew (x.eff j c),λkd' j c m=>?_,λj c b A T f g=>?_,λj c b=>?_,λj c b A t' T f u g=>?_,λj c b=>?_,λj c b A T f g=>?_,x.mono,x.mono _ _ _ _ w x.frm,λhw=>(x.pre hw).trans w,λj hjn b q S=>?_,x.iniR,x.iniS' nd h ho⟩
 ·rw [Cl (HW h ho ht)];exact x.base t' ht
 ·by_cases e:j=k
  ·subst e;rw [Gn x.ok c hk (by rintro rfl;cases m) aC] at m;cases m
  ·rw [CB e];exact x.rest kd' j c m
 ·have p:j≠k:=λe=>N (e▸c);rw [CB p] at b;rw [Cl λe he=>DS nd h (x.lt j c) (λe=>p e.symm) ho f he g];exact x.done j c b A T f g
 ·have p:j≠k:=λe=>N (e▸c);rw [CB p] at b;obtain ⟨A,xs',b',v',s⟩:=x.pend j c b;exact ⟨A,xs',b',v',s.at',s.op,s.val,s.gfix,s.gd,λhb=>by obtain ⟨σk,y0,y1,y2⟩:=s.vop hb;exact ⟨σk,y0,y1.move s.val s.op (λ_ _=>rfl) w,y2⟩,s.is⟩
 ·by_cases e:j=k
  ·subst e;cases f.symm.trans ho;cases g;cases u;have hb0:hs r=none:=by
    cases hb:hs r with
    | none=>rfl
    | some y=>rw [(x.pre B).get hb] at O;cases O
   exact ⟨r,upd_same _ _ _,hb0,hnb⟩
  ·rw [CB e] at b;have Q:=DA x.ok _ j c;obtain ⟨r',h1,h3,h4⟩:=x.flo j c b A t' T f u g;exact ⟨r',by rw [Cl λe' he=>DS nd h Q.2 (λq=>e q.symm) ho f he g];exact h1,h3,w.get h4⟩
 ·have e:j≠k:=λe=>by subst e;cases Gn x.ok c hk aC aC
  rw [CB e] at b;exact (x.flb j c b).imp id (YA.le w)
 ·have e:j≠k:=λe=>by subst e;cases Gn x.ok c hk aC aC
  rw [CB e] at b;exact x.fldPut nd h ho hkD w c e b f g
 ·by_cases e:j=k
  ·subst e;exact Ew (hcl q S)
  ·rw [CB e] at b;exact Ew (x.clos j hjn b q S)
theorem GY.reachB{k:Nat}(nd:(C3 l n).Nodup)(hkD:D k=false)(hcl:∀q ∈ cls.getD k [],D q=true):∀{aP:List (Kd×Nat)}{seen effs rds:List Nat}{wr:Bool} {σr:Nat->aV} {hr:L},
  GY E l n cls fl hs ds Lw F σ0 seen effs rds wr aP σr hr D σ' h'->(Kd.b,k) ∈ aP->∃seen effs rds wr π' σr hr,GY E l n cls fl hs ds Lw F σ0 seen effs rds wr π' σr hr D σ' h'/\(Kd.b,k) ∈ π'/\YA E l n cls ds Lw seen σr h' k:=by
 intro aP
 induction aP with
 | nil=>intro _ _ _ _ _ _ _ h;cases h
 | cons y aP j=>
  intro seen effs rds wr σr hr x f;obtain ⟨d,u⟩:=y;rcases x.flb k f hkD with v | hp
  ·by_cases o:d=.l
   ·subst o;exact j x.unfoldL (FP f aC)
   ·have s:=FP v (Ne.symm o);have c:d=.e\/d=.w\/d=.a\/d=.b->D u=true:=λA=>by
     obtain ⟨C,H,K,N,t,_,_,_,_,z⟩:=Fk x.ok;exact hcl _ (N2 t .l k s aC aC u (z A))
    cases d with
    | p=>obtain ⟨m,σr',g⟩:=x.unfoldV nd (.inl rfl);exact j g (FP f aC)
    | r=>obtain ⟨m,σr',g⟩:=x.unfoldV nd (.inr rfl);exact j g (FP f aC)
    | e=>have:=x.rest _ _ List.mem_cons_self rfl;rw [c (.inl rfl)] at this;cases this
    | w=>have:=x.rest _ _ List.mem_cons_self rfl;rw [c (.inr (.inl rfl))] at this;cases this
    | a=>obtain ⟨σr',g⟩:=x.unfoldA nd (c (.inr (.inr (.inl rfl))));exact j g (FP f aC)
    | l=>exact absurd rfl o
    | b=>
     have i:=c (.inr (.inr (.inr rfl)));obtain ⟨σr',B,g⟩:=x.unfoldB nd i;rcases List.mem_cons.1 f with e | hm2
     ·cases e;rw [hkD] at i;cases i
     ·exact j g hm2
  ·exact ⟨_,_,_,_,_,_,_,x,f,hp⟩
theorem GY.runB{k:Nat}{o:Oper}(nd:(C3 l n).Nodup)(hk0:(Kd.b,k) ∈ aP)(hkD:D k=false)(ho:l[k]? =some o)(hcl:∀q ∈ cls.getD k [],D q=true)(x0:GY E l n cls fl hs ds Lw F σ0 seen effs rds wr aP σr hr D σ' h') :
  RunK E l n cls fl hs ds Lw F σ0 D σ' h' k o:=by
 obtain ⟨seen,effs,rds,wr,aP,σr,hr,x,T,hp⟩:=x0.reachB nd hkD hcl hk0;obtain ⟨W,X,i,o2,ho2,_,hds,_⟩:=Cy x.ok x.lt _ k T (.inr rfl);obtain rfl:o2=o:=Option.some.inj (ho2.symm.trans ho);have y:=(DA x.ok _ k T).1;obtain ⟨H,xs,b,ho3,hx,K,hg,hgd,N⟩:=hp;obtain rfl:H=o2:=Option.some.inj (ho3.symm.trans ho);obtain ⟨d,hd⟩:=Option.isSome_iff_exists.1 hds;have A:=x.guard hcl hg hgd;have hgo:∀v,Gd l H (putS σ' H.dst v) b:=λv=>A.other nd i ho λg w e=>⟨x.lt g (hg g w e).1,λq=>y (q▸(hg g w e).1)⟩;have O:∀(v:aV)(C:L),h'.Le C->(b=true->Lw k v C)->(b=false->v=undef)->TdAt E l n cls fl hs ds Lw F σ0 (F8 D k) (putS σ' H.dst v) C:=by
  intro v C m hL hU;refine ⟨seen,effs,rds,wr,aP,σr,hr,x.td,x.ok,⟨x.gw.1.trans m,λe=>by rw [W,X] at e;cases e⟩,λt' U=>?_,x.lt,λj c=>Ew (x.eff j c),λkd' j c p=>?_,λj c a B u h f=>?_,λj c a=>?_,λj c a B t' u h Q f=>?_,λj c a=>?_,λj c a B u h f=>?_,x.mono,x.mono _ _ _ _ m x.frm,λhw=>(x.pre hw).trans m,λj hjn a q hq=>?_,x.iniR,x.iniS' nd i ho⟩
  ·rw [Cl (HW i ho U)];exact x.base t' U
  ·by_cases e:j=k
   ·subst e;rw [Gn x.ok c T (by rintro rfl;cases p) aC] at p;cases p
   ·rw [CB e];exact x.rest kd' j c p
  ·have r:j≠k:=λe=>y (e▸c);rw [CB r] at a;rw [Cl λe he=>DS nd i (x.lt j c) (λe=>r e.symm) ho h he f];exact x.done j c a B u h f
  ·have r:j≠k:=λe=>y (e▸c);rw [CB r] at a;obtain ⟨B,xs',b',v',s⟩:=x.pend j c a;exact ⟨B,xs',b',v',s.at',s.op,s.val,s.gfix,s.gd,λR=>by obtain ⟨σk,y0,y1,y2⟩:=s.vop R;exact ⟨σk,y0,y1.move s.val s.op (λ_ _=>rfl) m,y2⟩,s.is⟩
  ·have e:j≠k:=λe=>by subst e;cases Gn x.ok c T aC aC
   rw [CB e] at a;have S:=DA x.ok _ j c;obtain ⟨r',h1,h3,h4⟩:=x.flo j c a B t' u h Q f;exact ⟨r',by rw [Cl λe' he=>DS nd i S.2 (λq=>e q.symm) ho h he f];exact h1,h3,m.get h4⟩
  ·have e:j≠k:=λe=>by subst e;rw [Hx] at a;cases a
   rw [CB e] at a;exact (x.flb j c a).imp id (YA.le m)
  ·by_cases e:j=k
   ·subst e;obtain rfl:B=H:=Option.some.inj (h.symm.trans ho);refine ⟨b,hgo v,λR=>?_,λR=>?_⟩
    ·rw [f,show putS σ' (some u) v u=v from upd_same _ _ _];exact hL R
    ·rw [f,show putS σ' (some u) v u=v from upd_same _ _ _];exact hU R
   ·rw [CB e] at a;exact x.fldPut nd i ho hkD m c e a h f
  ·by_cases e:j=k
   ·subst e;exact Ew (hcl q hq)
   ·rw [CB e] at a;exact Ew (x.clos j hjn a q hq)
 refine ⟨λhG=>?_,λhG=>?_⟩
 ·obtain rfl:=A.iff.1 hG;refine BK.move hx (λ_ _=>rfl) (λz ds' C q=>?_) (N rfl σ' h' (λt U=>x.agree hcl (K t U)) (L.Le.refl _));obtain ⟨rfl,v,hv,m,hL⟩:=q;rw [hv];exact ⟨rfl,O v C m (λ_=>hL) (λe=>by cases e)⟩
 ·cases b with
  | true=>exact absurd (A.iff.2 rfl) hG
  | false=>exact O undef h' (L.Le.refl _) (λe=>by cases e) (λ_=>rfl)
theorem GY.reach{kd:Kd}{i:Nat}(nd:(C3 l n).Nodup)(hne:kd.fix=true)(hcl:∀q ∈ cls.getD i [],D q=true):∀{aP:List (Kd×Nat)}{seen effs rds:List Nat}{wr:Bool} {σr:Nat->aV} {hr:L},
  GY E l n cls fl hs ds Lw F σ0 seen effs rds wr aP σr hr D σ' h'->(kd,i) ∈ aP->∃seen effs rds wr π' σr hr,GY E l n cls fl hs ds Lw F σ0 seen effs rds wr ((kd,i) ::π') σr hr D σ' h':=by
 intro aP
 induction aP with
 | nil=>intro _ _ _ _ _ _ _ h;cases h
 | cons y aP g=>
  intro seen effs rds wr σr hr x t;obtain ⟨c,m⟩:=y;rcases List.mem_cons.1 t with e | hm2
  ·cases e;exact ⟨_,_,_,_,_,_,_,x⟩
  ·have o:c=.p\/c=.r->∃seen effs rds wr π' σr hr,GY E l n cls fl hs ds Lw F σ0 seen effs rds wr ((kd,i) ::π') σr hr D σ' h':=λj=>by
    obtain ⟨s,σr',f⟩:=x.unfoldV nd j;exact g f hm2
   have d:c=.e\/c=.w\/c=.a\/c=.b->D m=true:=λj=>by
    obtain ⟨v,A,B,C,k,_,_,_,_,z⟩:=Fk x.ok;exact hcl _ (N2 k kd i hm2 (by rintro rfl;cases hne) (by rintro rfl;cases hne) m (z j))
   cases c with
   | p=>exact o (.inl rfl)
   | r=>exact o (.inr rfl)
   | e=>have:=x.rest _ _ List.mem_cons_self rfl;rw [d (.inl rfl)] at this;cases this
   | w=>have:=x.rest _ _ List.mem_cons_self rfl;rw [d (.inr (.inl rfl))] at this;cases this
   | a=>
    obtain ⟨σr',f⟩:=x.unfoldA nd (d (.inr (.inr (.inl rfl))));exact g f hm2
   | l=>exact g x.unfoldL hm2
   | b=>
    obtain ⟨σr',u,f⟩:=x.unfoldB nd (d (.inr (.inr (.inr rfl))));exact g f hm2
theorem GY.ends(nd:(C3 l n).Nodup)(hall:∀i,i<n->D i=true):∀{aP:List (Kd×Nat)}{seen effs rds:List Nat}{wr:Bool} {σr:Nat->aV} {hr:L},
  GY E l n cls fl hs ds Lw F σ0 seen effs rds wr aP σr hr D σ' h'->F σ' h':=by
 intro aP
 induction aP with
 | nil=>
  intro seen effs rds wr σr hr x;have e:σ'=σr:=funext λt=>by
   cases f:(C3 l n).contains t with
   | false=>exact x.base t f
   | true=>
    rw [List.contains_iff_mem] at f;simp only [C3,List.mem_filterMap] at f;obtain ⟨o,s,u⟩:=f;obtain ⟨k,c⟩:=List.mem_iff_getElem?.1 s;have d:k<n:=by
     have:=(List.getElem?_eq_some_iff.1 c).1
     simp at this;omega
    have g:l[k]? =some o:=by rw [List.getElem?_take] at c;simpa [d] using c
    rcases N1 x.ok k d with h | ⟨_,h,_⟩
    ·exact x.done k h (hall k d) o t g u
    ·cases h
  rw [e];exact x.td h' x.gw
 | cons y aP j=>
  intro seen effs rds wr σr hr x;obtain ⟨q,k⟩:=y;have c:=(DA x.ok q k List.mem_cons_self).2;cases q with
  | a=>obtain ⟨σr',m⟩:=x.unfoldA nd (hall k c);exact j m
  | b=>obtain ⟨σr',v,m⟩:=x.unfoldB nd (hall k c);exact j m
  | l=>exact j x.unfoldL
  | p=>have:=x.rest _ k List.mem_cons_self rfl;rw [hall k c] at this;cases this
  | r=>have:=x.rest _ k List.mem_cons_self rfl;rw [hall k c] at this;cases this
  | e=>have:=x.rest _ k List.mem_cons_self rfl;rw [hall k c] at this;cases this
  | w=>have:=x.rest _ k List.mem_cons_self rfl;rw [hall k c] at this;cases this
end
def Rs(c:List Nat)(k:List Nat->Bool):Bool:=match c with
 | []=>k []
 | x ::xs=>Rs xs λxs'=>k (x ::xs')
theorem QD:∀(c:List Nat)(k:List Nat->Bool),Rs c k=k c
 | [],_=>rfl
 | x ::a,k=>by unfold Rs;rw [QD a]
def Ru(cls:List (List Nat))(k:List (List Nat)->Bool):Bool:=match cls with
 | []=>k []
 | c ::cs=>Ru cs λcs'=>k (c ::cs')
theorem QE:∀(cls:List (List Nat))(k:List (List Nat)->Bool),Ru cls k=k cls
 | [],_=>rfl
 | c ::a,k=>by unfold Ru;exact QE a _
def QF(l:List Oper):List Oper->Nat->List (List Nat)->(List (List Nat)->Bool)->Bool
 | [],_,acc,c=>Ru acc.reverse c
 | o ::os,k,acc,c=>Rs ((List.range k).filter λj=>HU o j || (List.range k).any λe=>HU o e && (acc.getD (k-1-e) []).contains j) λx=>QF l os (k+1) (x ::acc) c
theorem IO{l:List Oper}{c:List (List Nat)->Bool}:∀{os:List Oper}{k:Nat}{acc:List (List Nat)},QF l os k acc c=true->∃cls,c cls=true
 | [],k,acc,h=>⟨acc.reverse,(QE acc.reverse c).symm.trans h⟩
 | o ::os,k,acc,h=>by unfold QF at h;rw [QD] at h;exact IO h
def QG(P:Program)(N:Nat)(l:List Oper)(n:Nat)(cls:List (List Nat))(fl:Bool)(aP:List (Kd×Nat)):Bool:=Eg N l n cls && FO P l n cls fl aP [] [] [] false && aP.all λx=>x.1 !=.b || aP.contains (.l,x.2)
theorem td_core{Lw:Nat->aV->L->Prop}{F:(Nat->aV)->L->Prop}{id:Nat}{l:List Oper}{O:Nat->aV}{ds:List Deferred}{h:L}(n:Nat)(cls:List (List Nat))(fl:Bool)(aP:List (Kd×Nat))(hm:P.follows .mixedOrders=true)
  (hL:∀k v h1 h2,L.Le h1 h2->Lw k v h1->Lw k v h2) (hF:Lw n undef h) (ok:QG P E.N l n cls fl aP=true) (x:TD E l n fl h ds Lw F aP O h) {b:Frame} {k:List Item} {cs:List Frame} {t:Array aV} (hb:b.fn=E.fn) (hr:b.roundOf=E.rd) (hs:BP t E.N O)
  (y:∀σ' h',F σ' h'->∀t',BP t' E.N σ'->E.wk.K (G (CR b t' ds (.inRegion l.toArray (List.range' n (l.drop n).length) ::k)) cs) h') :
  E.wk.K (G (CR b t ds (.code (.region id l.toArray true) ::k)) cs) h:=by
 unfold QG at ok;rw [Bool.and_eq_true,Bool.and_eq_true] at ok;obtain ⟨⟨s,H⟩,Q⟩:=ok;have g:(C3 l n).Nodup:=by
  have:=s
  unfold Eg at this;simp only [Bool.and_eq_true] at this;exact of_decide_eq_true this.1.2
 refine Nt n cls (TdAt E l n cls fl h ds Lw F O) hm s ?_ ?_ hb hr hs ?_
 ·exact ⟨[],[],[],false,aP,O,h,by rw [Bool.not_false,Bool.and_true];exact x,H,Gw.refl _ _,λ_ _=>rfl,(λ_ f=>by cases f),(λ_ f=>by cases f),(λ_ _ _ _=>rfl),(λ_ f=>by cases f),(λ_ f=>by cases f),(λ_ _ u=>by cases u),(λk f _=>.inl (by have:=List.all_eq_true.1 Q _ f;simpa using this)),(λ_ _ u=>by cases u),hL,hF,(λ_=>L.Le.refl _),(λ_ _ u=>by cases u),(λ_ _ _ _ _ _ _=>rfl),(λ_ _ _ _ _ _ _=>rfl)⟩
 ·rintro D σ' h' i o ⟨seen,effs,A,X,π',σr,hr,m⟩ R j q c hgl;rcases N1 m.ok i R with hs | ⟨S,f,T⟩
  ·exact m.runV g q hs j c
  ·by_cases d:S.fix=false
   ·cases S with
    | a=>exact m.runA g f j q c
    | b=>exact m.runB g f j q c
    | l=>exact absurd rfl T
    | p=>cases d
    | r=>cases d
    | e=>cases d
    | w=>cases d
   ·obtain ⟨seen,effs,A,X,π'',σr,hr,z⟩:=m.reach g (by simpa using d) c f;cases S with
    | p=>
     obtain ⟨B,σr',U⟩:=z.unfoldV g (.inl rfl);exact U.runV g q List.mem_cons_self j c
    | r=>
     obtain ⟨B,σr',U⟩:=z.unfoldV g (.inr rfl);exact U.runV g q List.mem_cons_self j c
    | e=>exact z.runE g (.inl rfl) q c
    | w=>exact z.runE g (.inr rfl) q c
    | a=>exact absurd rfl d
    | l=>exact absurd rfl d
    | b=>exact absurd rfl d
 ·rintro D σ' h' ⟨seen,effs,A,X,π',σr,hr,m⟩ C t' W;exact y _ _ (m.ends g C) t' W
theorem tr_td{Lw:Nat->aV->L->Prop}{F:(Nat->aV)->L->Prop}{id:Nat}{l:List Oper}{O:Nat->aV}{ds:List Deferred}{h:L}{Q:Post}(n:Nat)(cls:List (List Nat))(fl:Bool)(aP:List (Kd×Nat))(hm:P.follows .mixedOrders=true)
  (hL:∀k v h1 h2,L.Le h1 h2->Lw k v h1->Lw k v h2) (hF:Lw n undef h) (ok:QG P E.N l n cls fl aP=true) (x:TD E l n fl h ds Lw F aP O h) (y:∀σ' h',F σ' h'->C5 E l.toArray (l.drop n) σ' ds h' Q):Tr E (.region id l.toArray true) O ds h Q:=λb k e g t c d i m o=>
 td_core n cls fl aP hm hL hF ok x c d m λσ' h' f p a=>y σ' h' f n b k e g p (λj=>aD) c d i a o
def FrW(n:Nat)(Fr:L->Prop)(k:Nat)(_:aV)(h:L):Prop:=k=n->Fr h
theorem FrW.mono{n:Nat}{Fr:L->Prop}(m:∀h1 h2,L.Le h1 h2->Fr h1->Fr h2):∀k v h1 h2,L.Le h1 h2->FrW n Fr k v h1->FrW n Fr k v h2:=λ_ _ _ _ l x e=>m _ _ l (x e)
abbrev LoIs(O:Nat->aV)(o:Option Operand)(lo d:Nat):Prop:=match o with
 | none=>lo=d
 | some o=>∃kd,AL O o=.int kd lo
def N3(m:Nat):Kd×Nat:=if 1000<=m then (if m%2=0 then .l else .b,(m-1000) / 2) else (match m%5 with | 0=>.p | 1=>.r | 2=>.e | 3=>.w | _=>.a,m / 5)
def dK:List Nat->List (Kd×Nat)
 | []=>[]
 | m ::l=>N3 m ::dK l
theorem A9{id:Nat}{l:List Oper}{O:Nat->aV}{ds:List Deferred}{h:L}{Q:Post}(n:Nat)(fl:Bool)(aP:List Nat)(hm:P.follows .mixedOrders=true)
  (ok:QF l (l.take n) 0 [] (λcls=>QG P E.N l n cls fl (dK aP))=true) (x:TD E l n fl h ds (λ_ _ _=>True) (λσ' h'=>C5 E l.toArray (l.drop n) σ' ds h' Q) (dK aP) O h):Tr E (.region id l.toArray true) O ds h Q:=
 let ⟨cls,h1⟩:=IO ok
 tr_td n cls fl (dK aP) hm (λ_ _ _ _ _ y=>y) trivial h1 x λ_ _ y=>y
theorem GN{id:Nat}{l:List Oper}{O:Nat->aV}{ds:List Deferred}{h:L}{Q:Post}(F:(Nat->aV)->L->Prop)(n:Nat)(fl:Bool)(aP:List Nat)(hm:P.follows .mixedOrders=true)
  (ok:QF l (l.take n) 0 [] (λcls=>QG P E.N l n cls fl (dK aP))=true) (x:TD E l n fl h ds (λ_ _ _=>True) F (dK aP) O h) (y:∀σ' h',F σ' h'->C5 E l.toArray (l.drop n) σ' ds h' Q):Tr E (.region id l.toArray true) O ds h Q:=
 let ⟨cls,h1⟩:=IO ok
 tr_td n cls fl (dK aP) hm (λ_ _ _ _ _ y=>y) trivial h1 x y
theorem Rv{id:Nat}{l:List Oper}{O:Nat->aV}{ds:List Deferred}{h:L}{Q:Post}(n:Nat)(Lw:Nat->aV->L->Prop)(hL:∀k v h1 h2,L.Le h1 h2->Lw k v h1->Lw k v h2)(hF:Lw n undef h)(fl:Bool)(aP:List Nat)(hm:P.follows .mixedOrders=true)
  (ok:QF l (l.take n) 0 [] (λcls=>QG P E.N l n cls fl (dK aP))=true) (x:TD E l n fl h ds Lw (λσ' h'=>C5 E l.toArray (l.drop n) σ' ds h' Q) (dK aP) O h):Tr E (.region id l.toArray true) O ds h Q:=
 let ⟨cls,h1⟩:=IO ok
 tr_td n cls fl (dK aP) hm hL hF h1 x λ_ _ y=>y
section
variable {l:List Oper} {n:Nat} {fl:Bool} {hs:L} {ds:List Deferred} {Lw:Nat->aV->L->Prop} {F:(Nat->aV)->L->Prop} {aP:List Nat} {O:Nat->aV} {h:L} {m k g d:Nat} {dst:Option Nat} {op:Op} {ty:aW} {pos:String} {af:Array Edge} {v:aV} {w is:Bool} {og:Oper}
theorem vz{U β γ:Type}{a:U}{b:β}{c:γ}:a=a/\b=b/\c=c:=⟨rfl,rfl,rfl⟩
theorem tP(hk:N3 m=(.p,k))(ho:l[k]? =some ⟨dst,op,ty,pos,af,none⟩)(x:∀hx,S5 E ⟨dst,op,ty,pos,af,none⟩ O ds hx v)(y:TD E l n fl hs ds Lw F (dK aP) (putS O dst v) h):TD E l n fl hs ds Lw F (dK (m ::aP)) O h:=by
 unfold dK;rw [hk];exact ⟨_,true,ho,rfl,λe=>(by cases e),λ_=>⟨v,λhx _=>x hx,y⟩⟩
theorem tR(hk:N3 m=(.r,k))(ho:l[k]? =some ⟨dst,op,ty,pos,af,none⟩)(x:S5 E ⟨dst,op,ty,pos,af,none⟩ O ds h v)(y:TD E l n fl hs ds Lw F (dK aP) (putS O dst v) h):TD E l n fl hs ds Lw F (dK (m ::aP)) O h:=by
 unfold dK;rw [hk];exact ⟨_,true,ho,rfl,λe=>(by cases e),λ_=>⟨v,x,y⟩⟩
theorem tE(hk:N3 m=(.e,k))(ho:l[k]? =some ⟨dst,op,ty,pos,af,none⟩)
  (x:BK E ⟨dst,op,ty,pos,af,none⟩ O ds h λσ' ds' h'=>ds'=ds/\∃v,σ'=putS O dst v/\h.Le h'/\TD E l n false hs ds Lw F (dK aP) (putS O dst v) h'):TD E l n false hs ds Lw F (dK (m ::aP)) O h:=by
 unfold dK;rw [hk];exact ⟨_,true,ho,rfl,λe=>(by cases e),λ_ b a=>by rw [a.2 rfl];exact x⟩
theorem HR(hk:N3 m=(.e,k))(ho:l[k]? =some ⟨dst,op,ty,pos,af,none⟩)
  (x:∀hx,h.Le hx->BK E ⟨dst,op,ty,pos,af,none⟩ O ds hx λσ' ds' h'=>ds'=ds/\∃v,σ'=putS O dst v/\hx.Le h'/\TD E l n true hs ds Lw F (dK aP) (putS O dst v) h'):TD E l n true hs ds Lw F (dK (m ::aP)) O h:=by
 unfold dK;rw [hk];exact ⟨_,true,ho,rfl,λe=>(by cases e),λ_ hx a=>x hx a.1⟩
theorem tW(hk:N3 m=(.w,k))(ho:l[k]? =some ⟨dst,op,ty,pos,af,none⟩)
  (x:BK E ⟨dst,op,ty,pos,af,none⟩ O ds h λσ' ds' h'=>ds'=ds/\∃v,σ'=putS O dst v/\TD E l n false hs ds (λ_ _ _=>True) F (dK aP) (putS O dst v) h'):TD E l n false hs ds (λ_ _ _=>True) F (dK (m ::aP)) O h:=by
 unfold dK;rw [hk];exact ⟨_,true,ho,rfl,λe=>(by cases e),λ_ b a=>by rw [a.2 rfl];exact x.mono λ_ _ _ q=>⟨q.1,by obtain ⟨v,e,y⟩:=q.2;exact ⟨v,e,trivial,y⟩⟩⟩
theorem VH(hk:N3 m=(.w,k))(ho:l[k]? =some ⟨dst,op,ty,pos,af,none⟩)
  (x:∀hx,h.Le hx->BK E ⟨dst,op,ty,pos,af,none⟩ O ds hx λσ' ds' h'=>ds'=ds/\∃v,σ'=putS O dst v/\TD E l n false hs ds (λ_ _ _=>True) F (dK aP) (putS O dst v) h'):TD E l n true hs ds (λ_ _ _=>True) F (dK (m ::aP)) O h:=by
 unfold dK;rw [hk];exact ⟨_,true,ho,rfl,λe=>(by cases e),λ_ hx a=>(x hx a.1).mono λ_ _ _ q=>⟨q.1,by obtain ⟨v,e,y⟩:=q.2;exact ⟨v,e,trivial,y⟩⟩⟩
theorem tWL(hk:N3 m=(.w,k))(ho:l[k]? =some ⟨dst,op,ty,pos,af,none⟩)
  (x:BK E ⟨dst,op,ty,pos,af,none⟩ O ds h λσ' ds' h'=>ds'=ds/\∃v,σ'=putS O dst v/\Lw n undef h'/\TD E l n false hs ds Lw F (dK aP) (putS O dst v) h'):TD E l n false hs ds Lw F (dK (m ::aP)) O h:=by
 unfold dK;rw [hk];exact ⟨_,true,ho,rfl,λe=>(by cases e),λ_ b a=>by rw [a.2 rfl];exact x⟩
theorem tA{t:aW}{z:Array aV}(hk:N3 m=(.a,k))(ho:l[k]? =some ⟨dst,.alloc t,ty,pos,af,none⟩)(hz:BT P t=some z)
  (x:∀r hx,h.Le hx->hs r=none->hx r=some (true,.cells z t (0,0))->TD E l n true hs ds Lw F (dK aP) (putS O dst (.pointer (some ⟨r,0,none⟩))) hx):TD E l n true hs ds Lw F (dK (m ::aP)) O h:=by
 unfold dK;rw [hk];refine ⟨_,true,ho,rfl,λe=>(by cases e),λ_ i r hx e b c f=>?_⟩;cases e;exact x r hx b c (by rw [f];unfold zOf;rw [hz];rfl)
theorem tF(hk:N3 m=(.p,k))(ho:l[k]? =some ⟨dst,op,ty,pos,af,none⟩)(x:∀hx,Lw n undef hx->S5 E ⟨dst,op,ty,pos,af,none⟩ O ds hx v)(y:TD E l n fl hs ds Lw F (dK aP) (putS O dst v) h):TD E l n fl hs ds Lw F (dK (m ::aP)) O h:=by
 unfold dK;rw [hk];exact ⟨_,true,ho,rfl,λe=>(by cases e),λ_=>⟨v,x,y⟩⟩
theorem Rw(h1:l[g]? =some og)(h2:og.dst=some d)(h3:O d=.bool w):Gd l ⟨dst,op,ty,pos,af,some (g,w)⟩ O true:=⟨og,d,.bool w,h1,h2,h3,by cases w <;> rfl⟩
theorem tPg(hk:N3 m=(.p,k))(ho:l[k]? =some ⟨dst,op,ty,pos,af,some (g,w)⟩)(h1:l[g]? =some og)(h2:og.dst=some d)(h3:O d=.bool w)(x:∀hx,S5 E ⟨dst,op,ty,pos,af,some (g,w)⟩ O ds hx v)
  (y:TD E l n fl hs ds Lw F (dK aP) (putS O dst v) h):TD E l n fl hs ds Lw F (dK (m ::aP)) O h:=by
 unfold dK;rw [hk];exact ⟨_,true,ho,Rw h1 h2 h3,λe=>(by cases e),λ_=>⟨v,λhx _=>x hx,y⟩⟩
theorem tRg(hk:N3 m=(.r,k))(ho:l[k]? =some ⟨dst,op,ty,pos,af,some (g,w)⟩)(h1:l[g]? =some og)(h2:og.dst=some d)(h3:O d=.bool w)(x:S5 E ⟨dst,op,ty,pos,af,some (g,w)⟩ O ds h v)
  (y:TD E l n fl hs ds Lw F (dK aP) (putS O dst v) h):TD E l n fl hs ds Lw F (dK (m ::aP)) O h:=by
 unfold dK;rw [hk];exact ⟨_,true,ho,Rw h1 h2 h3,λe=>(by cases e),λ_=>⟨v,x,y⟩⟩
theorem PY(hk:N3 m=(.e,k))(ho:l[k]? =some ⟨dst,op,ty,pos,af,some (g,w)⟩)(h1:l[g]? =some og)(h2:og.dst=some d)(h3:O d=.bool w)
  (x:BK E ⟨dst,op,ty,pos,af,some (g,w)⟩ O ds h λσ' ds' h'=>ds'=ds/\∃v,σ'=putS O dst v/\h.Le h'/\TD E l n false hs ds Lw F (dK aP) (putS O dst v) h'):TD E l n false hs ds Lw F (dK (m ::aP)) O h:=by
 unfold dK;rw [hk];exact ⟨_,true,ho,Rw h1 h2 h3,λe=>(by cases e),λ_ b a=>by rw [a.2 rfl];exact x⟩
theorem tS{kd:Kd}(hk:N3 m=(kd,k))(ho:l[k]? =some ⟨dst,op,ty,pos,af,some (g,w)⟩)(h1:l[g]? =some og)(h2:og.dst=some d)(h3:O d=.bool is)(hne:(is==w)=false)
  (y:TD E l n fl hs ds Lw F (dK aP) (putS O dst undef) h) (hl:(kd !=Kd.l)=true:=by rfl):TD E l n fl hs ds Lw F (dK (m ::aP)) O h:=by
 unfold dK;rw [hk];exact ⟨_,false,ho,⟨og,d,.bool is,h1,h2,h3,hne.symm⟩,λ_=>(by cases kd <;> first | exact y | cases hl),λe=>(by cases e)⟩
theorem tN(x:F O h):TD E l n false hs ds Lw F (dK []) O h:=λb a=>by rw [a.2 rfl];exact x
section
variable {U:Type} {enc:U->Array aV} {xs:List U} {h0:L} {t:aW} {a ix:Operand} {z:Nat} {sv:aV} {kd:IntKind} {i:Int}
theorem tI(hk:N3 m=(.p,k))(ho:l[k]? =some ⟨dst,.indexAddr t a ix,ty,pos,af,none⟩)(ht:DX P t=some z)(hs':AE h0 sv z enc xs)(hx:AL O a=sv)(hi:AL O ix=.int kd i)(h0':0<=i)(h1:i<xs.length)
  (y:∀b off,AR h0 b off z (enc (xs[i.toNat]' Y))->TD E l n fl hs ds Lw F (dK aP) (putS O dst (.pointer (some ⟨b,off,none⟩))) h):TD E l n fl hs ds Lw F (dK (m ::aP)) O h:=by
 obtain ⟨p,c,rfl,_,_,e⟩:=hs';obtain ⟨b,off,rfl,f⟩:=e i.toNat Y;exact tP hk ho (λ_=>AG ht hx hi h0' h1 vz) (y b _ f)
theorem tSl{olo ohi:Option Operand}(lo hi:Nat)(hk:N3 m=(.p,k))(ho:l[k]? =some ⟨dst,.slice t a olo ohi none,ty,pos,af,none⟩)(ht:DX P t=some z)(hs':AE h0 sv z enc xs)(hx:AL O a=sv)
  (hlo:LoIs O olo lo 0) (hhi:LoIs O ohi hi xs.length) (h1:lo<=hi) (h2:hi<=xs.length)
  (y:∀v',AE h0 v' z enc ((xs.take hi).drop lo)->TD E l n fl hs ds Lw F (dK aP) (putS O dst v') h):TD E l n fl hs ds Lw F (dK (m ::aP)) O h:=by
 have b:=hs';obtain ⟨p,c,rfl,e,_,_⟩:=hs';exact tP hk ho (λ_=>Jc lo hi ht e hx hlo hhi h1 h2 vz) (y _ (b.part h1 h2))
theorem tIg(hk:N3 m=(.p,k))(ho:l[k]? =some ⟨dst,.indexAddr t a ix,ty,pos,af,some (g,w)⟩)(h1':l[g]? =some og)(h2':og.dst=some d)(h3':O d=.bool w)(ht:DX P t=some z)(hs':AE h0 sv z enc xs)(hx:AL O a=sv)(hi:AL O ix=.int kd i)(h0':0<=i)(h1:i<xs.length)
  (y:∀b off,AR h0 b off z (enc (xs[i.toNat]' Y))->TD E l n fl hs ds Lw F (dK aP) (putS O dst (.pointer (some ⟨b,off,none⟩))) h):TD E l n fl hs ds Lw F (dK (m ::aP)) O h:=by
 obtain ⟨p,c,rfl,_,_,e⟩:=hs';obtain ⟨b,off,rfl,f⟩:=e i.toNat Y;exact tPg hk ho h1' h2' h3' (λ_=>AG ht hx hi h0' h1 vz) (y b _ f)
end
theorem eT{h':L}{π':List (Kd×Nat)}(l2:h.Le h')(y:TD E l n fl hs ds Lw F π' (putS O dst v) h'):ds=ds/\∃v',putS O dst v=putS O dst v'/\h.Le h'/\TD E l n fl hs ds Lw F π' (putS O dst v') h':=⟨rfl,v,rfl,l2,y⟩
theorem wTL{h':L}{π':List (Kd×Nat)}(fr:Lw n undef h')(y:TD E l n fl hs ds Lw F π' (putS O dst v) h'):ds=ds/\∃v',putS O dst v=putS O dst v'/\Lw n undef h'/\TD E l n fl hs ds Lw F π' (putS O dst v') h':=⟨rfl,v,rfl,fr,y⟩
theorem wT{h':L}{π':List (Kd×Nat)}(y:TD E l n fl hs ds Lw F π' (putS O dst v) h'):ds=ds/\∃v',putS O dst v=putS O dst v'/\TD E l n fl hs ds Lw F π' (putS O dst v') h':=⟨rfl,v,rfl,y⟩
end
theorem CS{X:Prop}{p:Prop}[Decidable p](a:p->X)(b:¬p->X):X:=if h:p then a h else b h
theorem TM{X:Prop}{b:Bool}(x:b=true->X)(y:b=false->X):X:=by cases b with
 | true=>exact x rfl
 | false=>exact y rfl
end
end Go.Ns
namespace Go.Ns
def eI(i:Int):Array aV:=#[.int .i64 i]
def eB(i:Int):Array aV:=#[.int .u8 i]
def eH(i:Int):Array aV:=#[.int .u16 i]
structure Good where
 name:aX
 cost:Int
 pack:Int
 low:Int
 high:Int
structure AD where
 kind:Int
 good:Int
 day:Int
 low:Int
 high:Int
structure AN where
 good:Int
 day:Int
 low:Int
 high:Int
def Bm(x:Good):Array aV:=#[.string x.name,.int .i64 x.cost,.int .i64 x.pack,.int .i64 x.low,.int .i64 x.high]
def BE(x:AD):Array aV:=#[.int .i64 x.kind,.int .i64 x.good,.int .i64 x.day,.int .i64 x.low,.int .i64 x.high]
def BF(x:AN):Array aV:=#[.int .i64 x.good,.int .i64 x.day,.int .i64 x.low,.int .i64 x.high]
structure AV where
 first:Nat->Int
 many:Nat->Int
 lies:Nat->Bool
def AV.zero:AV:=⟨λ_=>0,λ_=>0,λ_=>false⟩
def Al(p:AV):Array aV:=#[.int .i64 (p.first 0),.int .i64 (p.first 1),.int .i64 (p.first 2),.int .i64 (p.many 0),.int .i64 (p.many 1),.int .i64 (p.many 2),.int .i64 (p.many 3),.int .i64 (p.many 4),.int .i64 (p.many 5),
 .bool (p.lies 0),.bool (p.lies 1),.bool (p.lies 2),.bool (p.lies 3),.bool (p.lies 4),.bool (p.lies 5)]
def AV.setFirst(p:AV)(i:Nat)(n:Int):AV:={ p with first:=λk=>if k=i then n else p.first k }
def AV.setMany(p:AV)(i:Nat)(n:Int):AV:={ p with many:=λk=>if k=i then n else p.many k }
def AV.setLie(p:AV)(i:Nat)(b:Bool):AV:={ p with lies:=λk=>if k=i then b else p.lies k }
theorem TN{p:AV}{i:Nat}(h:i<3):(Al p)[i*1]? =some (.int .i64 (p.first i)):=by
 match i,h with
 | 0,_=>rfl
 | 1,_=>rfl
 | 2,_=>rfl
theorem VI{p:AV}{i:Nat}(h:i<6):(Al p)[3+i*1]? =some (.int .i64 (p.many i)):=by
 match i,h with
 | 0,_=>rfl
 | 1,_=>rfl
 | 2,_=>rfl
 | 3,_=>rfl
 | 4,_=>rfl
 | 5,_=>rfl
theorem KO{p:AV}{i:Nat}(h:i<6):(Al p)[9+i*1]? =some (.bool (p.lies i)):=by
 match i,h with
 | 0,_=>rfl
 | 1,_=>rfl
 | 2,_=>rfl
 | 3,_=>rfl
 | 4,_=>rfl
 | 5,_=>rfl
theorem TO{p:AV}{i:Nat}(h:i<6):(if false=true then some (Value.agg ((#[.bool (p.lies 0),.bool (p.lies 1),.bool (p.lies 2),.bool (p.lies 3),.bool (p.lies 4),.bool (p.lies 5)]:Array aV).extract (i*1) (i*1+1))) else (#[.bool (p.lies 0),.bool (p.lies 1),.bool (p.lies 2),.bool (p.lies 3),.bool (p.lies 4),.bool (p.lies 5)]:Array aV)[i*1]?)=some (.bool (p.lies i)):=by
 match i,h with
 | 0,_=>rfl
 | 1,_=>rfl
 | 2,_=>rfl
 | 3,_=>rfl
 | 4,_=>rfl
 | 5,_=>rfl
theorem N4{p:AV}{i:Nat}{n:Int}(h:i<3):BD (Al p) (i*1) [.int .i64 n]=Al (p.setFirst i n):=by
 match i,h with
 | 0,_=>rfl
 | 1,_=>rfl
 | 2,_=>rfl
theorem NE{p:AV}{i:Nat}{n:Int}(h:i<3):BD (Al p) (0+i*1) [.int .i64 n]=Al (p.setFirst i n):=by rw [Nat.zero_add];exact N4 h
theorem Pb{p:AV}{i:Nat}{n:Int}(h:i<6):BD (Al p) (3+i*1) [.int .i64 n]=Al (p.setMany i n):=by
 match i,h with
 | 0,_=>rfl
 | 1,_=>rfl
 | 2,_=>rfl
 | 3,_=>rfl
 | 4,_=>rfl
 | 5,_=>rfl
theorem IP{p:AV}{i:Nat}{b:Bool}(h:i<6):BD (Al p) (9+i*1) [.bool b]=Al (p.setLie i b):=by
 match i,h with
 | 0,_=>rfl
 | 1,_=>rfl
 | 2,_=>rfl
 | 3,_=>rfl
 | 4,_=>rfl
 | 5,_=>rfl
theorem Rx{p:AV}{i:Nat}(h:i<3):(Al p)[0+i*1]? =some (.int .i64 (p.first i)):=by rw [Nat.zero_add];exact TN h
def Bn(p:AV):Nat->Nat
 | 0=>0
 | k+1=>Bn p k+if p.lies k then 1 else 0
theorem N5(p:AV):∀k,Bn p k<=k
 | 0=>Nat.le_refl _
 | k+1=>by have:=N5 p k;unfold Bn;split <;> omega
def CY(p:AV)(i:Nat):Int:=if p.lies i then 0 else p.many i
def Good.z:Good:=⟨⟨#[]⟩,0,0,0,0⟩
def AD.z:AD:=⟨0,0,0,0,0⟩
def AN.z:AN:=⟨0,0,0,0⟩
theorem Ey{U:Type}{xs:List U}{i:Nat}(d:U)(hi:i<xs.length):xs.getD i d=xs[i]'hi:=by
 simp [List.getD_eq_getElem?_getD,List.getElem?_eq_getElem hi]
theorem AR.getD{U:Type}{h:L}{b off n:Nat}{enc:U->Array aV}{xs:List U}{i:Nat}{hi:i<xs.length}(d:U)(x:AR h b off n (enc (xs[i]'hi))):AR h b off n (enc (xs.getD i d)):=by
 rw [Ey d hi];exact x
theorem Hy{U:Type}{a:List U}{k:Nat}(d:U)(ha:k<a.length):a.take (k+1)=a.take k++[a.getD k d]:=by
 rw [List.take_succ_eq_append_getElem ha,Ey d ha]
theorem N6{U:Type}{a b:List U}{k:Nat}(d:U)(h:a.take k=b.take k)(ha:k<a.length)(hb:k<b.length)(e:a.getD k d=b.getD k d):a.take (k+1)=b.take (k+1):=by
 rw [Hy d ha,Hy d hb,h,e]
theorem R0{a b:List Int}{k:Nat}(h:a.take k=b.take k)(hk:k<=a.length)(hk':¬(k:Int)<a.length)(hl:(a.length:Int)=b.length):a=b:=by
 have c:k=a.length:=Y
 have d:b.length=a.length:=Y
 rw [c,List.take_length,<-d,List.take_length] at h;exact h
theorem ne_len{U:Type}{a b:List U}(h:¬(a.length:Int)=b.length):¬a=b:=λe=>h (by rw [e])
theorem ne_getD{U:Type}{a b:List U}{k:Nat}{d:U}(e:¬a.getD k d=b.getD k d):¬a=b:=λh=>e (by rw [h])
def K5(c:Int):Prop:=97<=c/\c<=122
def NS(c:Int):Prop:=48<=c/\c<=57
instance (c:Int):Decidable (K5 c):=inferInstanceAs (Decidable (_/\_))
instance (c:Int):Decidable (NS c):=inferInstanceAs (Decidable (_/\_))
def F9(d m:Int):Int:=if¬(1<=d/\d<=99)\/¬(0<=m/\m<=2) then 1 else 0
def idxOf{U:Type}(p:U->Bool):List U->Int
 | []=> -1
 | x ::l=>if p x then 0 else if idxOf p l<0 then-1 else idxOf p l+1
theorem N7{U:Type}(p:U->Bool):∀l:List U,-1<=idxOf p l
 | []=>by simp [idxOf]
 | x ::l=>by have:=N7 p l;unfold idxOf;split <;> (try split) <;> omega
theorem Gp{U:Type}(p:U->Bool):∀l:List U,(0<=idxOf p l)↔l.any p=true
 | []=>by simp [idxOf]
 | x ::l=>by
  have:=Gp p l
  have b:=N7 p l;unfold idxOf;cases a:p x with
  | true=>simp [a]
  | false=>
   simp only [Bool.false_eq_true,if_false,List.any_cons,a,Bool.false_or];rw [<-this];split <;> omega
theorem Je{U:Type}{p:U->Bool}{l:List U}{k:Nat}{d:U}(hk:(k:Int)<l.length)(h:(l.take k).any p=false)(e:p (l.getD k d)=true):idxOf p l=k:=by
 induction l generalizing k with
 | nil=>simp at hk;omega
 | cons x l a=>
  unfold idxOf;cases k with
  | zero=>simp at e;simp [e]
  | succ k=>
   simp only [List.take_succ_cons,List.any_cons,Bool.or_eq_false_iff] at h;rw [h.1]
   have:=a (k:=k) (by simp at hk;omega) h.2 (by simpa using e)
   rw [this];simp only [Bool.false_eq_true,if_false];rw [aT Y];omega
theorem IQ{U:Type}{p:U->Bool}{l:List U}{k:Nat}(hk:¬(k:Int)<l.length)(h:(l.take k).any p=false):idxOf p l= -1:=by
 rw [List.take_of_length_le Y] at h
 have:=Gp p l
 have a:=N7 p l;rw [h] at this;simp at this;omega
theorem K6{U:Type}{p:U->Bool}{l:List U}{k:Nat}{d:U}(hk:(k:Int)<l.length)(h:(l.take k).any p=false)(e:p (l.getD k d)=false):(l.take (k+1)).any p=false:=by
 rw [Hy d Y,List.any_append,h];simp only [Bool.false_or,List.any_cons,List.any_nil,Bool.or_false,e]
theorem EF{U:Type}{l:List U}{k:Nat}{d:U}(hk:k<l.length):l.getD k d ∈ l:=by
 rw [Ey d hk];exact List.getElem_mem hk
def Aw(l:List Int)(m:Int):Int:=if¬(l.length:Int)=m then 2 else if l.any (λx=>decide (¬(0<=x/\x<=99))) then 1 else 0
def D9(f:Nat->Int):Nat->Nat->Int
 | _,0=>0
 | i,n+1=>if f i=0 then D9 f (i+1) n else f i
theorem N8{f:Nat->Int}{c:Int}:∀{n i k:Nat},(∀j,i<=j->j<i+k->f j=0)->k<n->f (i+k)=c->c≠0->D9 f i n=c
 | 0,i,k,_,b,_,_=>Y
 | n+1,i,0,_,_,e,a=>by unfold D9;rw [Nat.add_zero] at e;rw [e,aT a]
 | n+1,i,k+1,h,b,e,a=>by
  unfold D9;rw [aU (h i (Nat.le_refl _) Y)];exact N8 (k:=k) (λj d g=>h j Y Y) Y (by rw [<-e];congr 1;omega) a
theorem FC{f:Nat->Int}:∀{n i:Nat},(∀j,i<=j->j<i+n->f j=0)->D9 f i n=0
 | 0,_,_=>rfl
 | n+1,i,h=>by
  unfold D9;rw [aU (h i (Nat.le_refl _) Y)];exact FC λj a b=>h j Y Y
theorem FD{f:Nat->Int}{k:Nat}(h:∀j,j<k->f j=0)(e:f k=0):∀j,j<k+1->f j=0:=λj a=>by
 rcases Nat.lt_or_ge j k with q | q
 ·exact h j q
 ·rw [show j=k by omega];exact e
theorem CH{f:Nat->Int}{c:Int}{n k:Nat}(h:∀j,j<k->f j=0)(hk:k<n)(e:f k=c)(hc:c≠0):D9 f 0 n=c:=
 N8 (i:=0) (k:=k) (λj _ a=>h j Y) hk (by rw [Nat.zero_add];exact e) hc
theorem DZ{f:Nat->Int}{n k:Nat}(h:∀j,j<k->f j=0)(hk:n<=k):D9 f 0 n=0:=FC λj _ a=>h j Y
def KP(s:aX)(k:Nat):Int:=if¬K5 ((bytesOf s).getD k 0)/\(k=0\/¬NS ((bytesOf s).getD k 0)) then 1 else 0
def GO(s:aX):Bool:=decide (D9 (KP s) 0 s.size=0) && decide (1<=(s.size:Int)/\(s.size:Int)<=10)
def GQ(l h:Int):Prop:=((0<=l/\l<=h)/\h<=99)/\h-l<3
instance (l h:Int):Decidable (GQ l h):=inferInstanceAs (Decidable (_/\_))
def IR(gs:List Good)(k:Nat):Int:=
 if GO (gs.getD k Good.z).name=false then 4
 else if (gs.take k).any (λx=>x.name.toList==(gs.getD k Good.z).name.toList) then 5
 else if (¬(0<=(gs.getD k Good.z).cost/\(gs.getD k Good.z).cost<=999)\/¬(1<=(gs.getD k Good.z).pack/\(gs.getD k Good.z).pack<=20))\/¬GQ (gs.getD k Good.z).low (gs.getD k Good.z).high then 1 else 0
def Dv(gs:List Good):Int:=if¬(1<=(gs.length:Int)/\(gs.length:Int)<=3) then 2 else D9 (IR gs) 0 gs.length
def FQ(ms:List AD)(k:Nat):Int:=if k=0 then 0 else (ms.getD (k-1) AD.z).day
def Fl(d:Int)(gs:List Good)(ms:List AD)(k:Nat):Int:=
 if¬(0<=(ms.getD k AD.z).kind/\(ms.getD k AD.z).kind<=4) then 1
 else if¬(0<=(ms.getD k AD.z).good/\(ms.getD k AD.z).good<=(gs.length:Int)-1) then 6
 else if¬(1<=(ms.getD k AD.z).day/\(ms.getD k AD.z).day<=d) then 1
 else if (ms.getD k AD.z).day<FQ ms k then 7
 else if¬GQ (ms.getD k AD.z).low (ms.getD k AD.z).high then 1 else 0
def DG(d:Int)(gs:List Good)(ms:List AD):Int:=if (6:Int)<ms.length then 2 else D9 (Fl d gs ms) 0 ms.length
def HX(d:Int)(gs:List Good)(cs:List AN)(k:Nat):Int:=
 if¬(0<=(cs.getD k AN.z).good/\(cs.getD k AN.z).good<=(gs.length:Int)-1) then 6
 else if¬(0<=(cs.getD k AN.z).day/\(cs.getD k AN.z).day<=d)\/¬((0<=(cs.getD k AN.z).low/\(cs.getD k AN.z).low<=(cs.getD k AN.z).high)/\(cs.getD k AN.z).high<=999) then 1 else 0
def Dj(d:Int)(gs:List Good)(cs:List AN):Int:=if (4:Int)<cs.length then 2 else D9 (HX d gs cs) 0 cs.length
theorem Pc(s:aX)(k:Nat):0<=(bytesOf s).getD k 0/\(bytesOf s).getD k 0<=255:=by
 by_cases h:k<(bytesOf s).length
 ·rw [Ey 0 h];have a:k<s.data.toList.length:=by rw [DJ] at h;rw [Array.length_toList];exact h
  have e:(bytesOf s)[k]'h=((s.data.toList[k]'a).toNat:Int):=List.getElem_map _;rw [e]
  have:=(s.data.toList[k]'a).toNat_lt
  omega
 ·simp only [List.getD_eq_getElem?_getD];rw [List.getElem?_eq_none Y];decide
theorem VJ{s:aX}{k:Nat}(h:∀j,j<k->KP s j=0)(hk:k<s.size)(e:KP s k=1):GO s=false:=by
 unfold GO;rw [CH h hk e aC];simp
theorem VK{s:aX}{k:Nat}(h:∀j,j<k->KP s j=0)(hk:s.size<=k):GO s=decide (1<=(s.size:Int)/\(s.size:Int)<=10):=by
 unfold GO;rw [DZ h hk];simp
theorem rd_at0{P:Program}{h:L}{t:aW}{b n m o:Nat}{vs:Array aV}{v:aV}(ht:Bh P t=some (false,m))(x:AR h b 0 n vs)(hv:vs[o]? =some v):Rd P h t b o v:=by
 have:=Bl (o:=o) ht x hv
 rwa [Nat.zero_add] at this
def Eh(d m:Int)(gs:List Good)(ms:List AD)(cs:List AN):Nat->Int
 | 0=>F9 d m
 | 1=>Dv gs
 | 2=>DG d gs ms
 | _=>Dj d gs cs
def An(d m:Int)(gs:List Good)(ms:List AD)(cs:List AN):Int:=D9 (Eh d m gs ms cs) 0 4
def signed(k:Nat)(n:Int):Int:=if k=0\/k=4 then n else-n
theorem K7{k:Nat}{n:Int}(h:0<=n/\n<=99): -99<=signed k n/\signed k n<=99:=by unfold signed;split <;> omega
def Bd(p:AV):Prop:=(∀i,0<=p.first i/\p.first i<=99)/\∀i,0<=p.many i/\p.many i<=99
theorem Ga{p:AV}(h:Bd p)(i:Nat):0<=CY p i/\CY p i<=99:=by
 unfold CY;have:=h.2 i;split <;> omega
def G3(ms:List AD)(p:AV)(g:Int)(k:Nat)(n:Int):Int:=if (ms.getD k AD.z).good=g then n+signed (ms.getD k AD.z).kind.toNat (CY p k) else n
def F3(ms:List AD)(k:Nat)(low n:Int):Int:=if (k:Int)+1=ms.length\/(ms.getD k AD.z).day<(ms.getD (k+1) AD.z).day then min low n else low
def Cx(ms:List AD)(p:AV)(g dy:Int):Nat->Nat->Int->Int->Int×Int
 | 0,_,n,low=>(n,low)
 | f+1,k,n,low=>if dy<(ms.getD k AD.z).day then (n,low) else Cx ms p g dy f (k+1) (G3 ms p g k n) (F3 ms k low (G3 ms p g k n))
def AP(ms:List AD)(p:AV)(g dy:Int):Int×Int:=Cx ms p g dy ms.length 0 (p.first g.toNat) (p.first g.toNat)
theorem EK{ms:List AD}{p:AV}{g dy:Int}{k:Nat}{n low:Int}(hk:k<ms.length)(hd:¬dy<(ms.getD k AD.z).day) :
  Cx ms p g dy (ms.length-k) k n low=Cx ms p g dy (ms.length-(k+1)) (k+1) (G3 ms p g k n) (F3 ms k low (G3 ms p g k n)):=by
 rw [show ms.length-k=(ms.length-(k+1))+1 by omega]
 conv=>lhs;unfold Cx
 rw [aT hd]
theorem Pd{ms:List AD}{p:AV}{g dy:Int}{k:Nat}{n low:Int}(hk:k<ms.length)(hd:dy<(ms.getD k AD.z).day):Cx ms p g dy (ms.length-k) k n low=(n,low):=by
 rw [show ms.length-k=(ms.length-(k+1))+1 by omega]
 conv=>lhs;unfold Cx
 rw [aU hd]
theorem R1{ms:List AD}{p:AV}{g dy:Int}{k:Nat}{n low:Int}(hk:¬(k:Int)<ms.length):Cx ms p g dy (ms.length-k) k n low=(n,low):=by
 rw [show ms.length-k=0 by omega];rfl
def BB(d:Int)(ng:Nat)(ms:List AD)(cs:List AN)(p:AV):Bool:=
 decide (∀j,j<ng->¬(AP ms p (j:Int) d).2<0) && !(cs.any λx=>decide (¬(x.low<=(AP ms p x.good x.day).1/\(AP ms p x.good x.day).1<=x.high)))
theorem VL{d:Int}{ng:Nat}{ms:List AD}{cs:List AN}{p:AV}{k:Nat}(hk:k<ng)(h:(AP ms p (k:Int) d).2<0):BB d ng ms cs p=false:=by
 unfold BB;rw [decide_eq_false (λq=>q k hk h)];rfl
theorem TP{d:Int}{ng:Nat}{ms:List AD}{cs:List AN}{p:AV}{k:Nat}(hk:ng<=k)(h:∀j,j<k->¬(AP ms p (j:Int) d).2<0) :
  BB d ng ms cs p= !(cs.any λx=>decide (¬(x.low<=(AP ms p x.good x.day).1/\(AP ms p x.good x.day).1<=x.high))):=by
 unfold BB;rw [decide_eq_true (λj a=>h j Y)];rfl
theorem Fm{q:Nat->Prop}{k:Nat}(h:∀j,j<k->q j)(e:q k):∀j,j<k+1->q j:=λj a=>by
 rcases Nat.lt_or_ge j k with r | r
 ·exact h j r
 ·rw [show j=k by omega];exact e
def AV.setFirsts(p:AV)(l:List Int):AV:={ p with first:=λk=>if k<l.length then l.getD k 0 else p.first k }
def AV.setManys(p:AV)(l:List Int):AV:={ p with many:=λk=>if k<l.length then l.getD k 0 else p.many k }
theorem NF{p:AV}{l:List Int}(h:l.length<=3):BD (Al p) 0 (Cw eI l)=Al (p.setFirsts l):=by
 match l,h with
 | [],_=>rfl
 | [_],_=>rfl
 | [_,_],_=>rfl
 | [_,_,_],_=>rfl
 | _ ::_ ::_ ::_ ::_,h=>simp at h
theorem N9{p:AV}{l:List Int}(h:l.length<=6):BD (Al p) 3 (Cw eI l)=Al (p.setManys l):=by
 match l,h with
 | [],_=>rfl
 | [_],_=>rfl
 | [_,_],_=>rfl
 | [_,_,_],_=>rfl
 | [_,_,_,_],_=>rfl
 | [_,_,_,_,_],_=>rfl
 | [_,_,_,_,_,_],_=>rfl
 | _ ::_ ::_ ::_ ::_ ::_ ::_ ::_,h=>simp at h
end Go.Ns
namespace Go.Ns
open Go.Conc
def Bp(lo:Int)(k:Nat):List Int:=(List.range k).map λ(j:Nat)=>lo+(j:Int)
def Ff(lo hi:Int):List Int:=Bp lo (hi-lo+1).toNat
theorem Ml(lo:Int)(k:Nat):Bp lo (k+1)=Bp lo k++[lo+(k:Int)]:=by
 simp [Bp,List.range_succ]
theorem VM{lo n:Int}{k:Nat}:n ∈ Bp lo k↔lo<=n/\n<lo+k:=by
 simp only [Bp,List.mem_map,List.mem_range];constructor
 ·rintro ⟨j,a,rfl⟩;omega
 ·rintro ⟨b,c⟩;exact ⟨(n-lo).toNat,Y,Y⟩
theorem QH{lo hi n:Int}:n ∈ Ff lo hi↔lo<=n/\n<=hi:=by
 unfold Ff;rw [VM];omega
theorem VN{β:Type}{f:Int->List β}{lo hi:Int}{k:Nat}(h:¬lo+(k:Int)<=hi)(hk:(k:Int)<=hi-lo+1\/k=0):(Bp lo k).flatMap f=(Ff lo hi).flatMap f:=by
 unfold Ff;congr 2;omega
theorem I4{β:Type}{f:Int->List β}{lo:Int}{k:Nat}:(Bp lo (k+1)).flatMap f=(Bp lo k).flatMap f++f (lo+k):=by
 rw [Ml,List.flatMap_append];simp
def AV.setMove(p:AV)(i:Nat)(n:Int)(b:Bool):AV:=(p.setMany i n).setLie i b
theorem NG(p:AV)(i:Nat)(n n':Int)(b b':Bool):(p.setMove i n b).setMove i n' b'=p.setMove i n' b':=by
 unfold AV.setMove AV.setMany AV.setLie;congr 1 <;> funext k <;> simp only [] <;> split <;> rfl
theorem G4(p:AV)(i:Nat)(n:Int)(b b':Bool):(p.setMove i n b).setLie i b'=p.setMove i n b':=by
 unfold AV.setMove AV.setMany AV.setLie;congr 1;funext k;simp only [];split <;> rfl
theorem K9(p:AV)(i:Nat)(n n':Int):(p.setFirst i n).setFirst i n'=p.setFirst i n':=by
 unfold AV.setFirst;congr 1;funext k;simp only [];split <;> rfl
theorem Bd.zero:Bd AV.zero:=⟨λ_=>⟨Int.le_refl 0,(aC:(0:Int)<=99)⟩,λ_=>⟨Int.le_refl 0,(aC:(0:Int)<=99)⟩⟩
theorem Bd.setFirst{p:AV}(h:Bd p){i:Nat}{n:Int}(hn:0<=n/\n<=99):Bd (p.setFirst i n):=
 ⟨λk=>by unfold AV.setFirst;simp only [];split;exact hn;exact h.1 k,h.2⟩
theorem Bd.setMany{p:AV}(h:Bd p){i:Nat}{n:Int}(hn:0<=n/\n<=99):Bd (p.setMany i n):=
 ⟨h.1,λk=>by unfold AV.setMany;simp only [];split;exact hn;exact h.2 k⟩
theorem Bd.setMove{p:AV}(h:Bd p){i:Nat}{n:Int}{b:Bool}(hn:0<=n/\n<=99):Bd (p.setMove i n b):=h.setMany hn
def EA(ms:List AD)(i:Int):Bool:=decide ((0<=i/\i<=(ms.length:Int)-1)/\(ms.getD i.toNat AD.z).kind=0)
def Ax(ag:AV->Bool)(ms:List AD)(most:Int):Nat->Nat->AV->List AV
 | 0,_,p=>if ag p then [p] else []
 | f+1,i,p=>(Ff (ms.getD i AD.z).low (ms.getD i AD.z).high).flatMap λn=>
   Ax ag ms most f (i+1) (p.setMove i n false)++
    if EA ms i && decide ((Bn (p.setMove i n false) 6:Int)<most) then Ax ag ms most f (i+1) (p.setMove i n true) else []
def BL(ag:AV->Bool)(gs:List Good)(ms:List AD)(most:Int):Nat->Nat->AV->List AV
 | 0,_,p=>Ax ag ms most ms.length 0 p
 | f+1,i,p=>(Ff (gs.getD i Good.z).low (gs.getD i Good.z).high).flatMap λn=>BL ag gs ms most f (i+1) (p.setFirst i n)
def AU(d:Int)(gs:List Good)(ms:List AD)(cs:List AN)(most:Int):List AV:=BL (BB d gs.length ms cs) gs ms most gs.length 0 AV.zero
def Br(ag:AV->Bool)(ms:List AD)(most:Int)(f i:Nat)(p:AV)(n:Int):List AV:=
 Ax ag ms most f (i+1) (p.setMove i n false)++
  if EA ms i && decide ((Bn (p.setMove i n false) 6:Int)<most) then Ax ag ms most f (i+1) (p.setMove i n true) else []
theorem Dw(ag:AV->Bool)(ms:List AD)(most:Int)(f i:Nat)(p:AV) :
  Ax ag ms most (f+1) i p=(Ff (ms.getD i AD.z).low (ms.getD i AD.z).high).flatMap (Br ag ms most f i p):=rfl
theorem EY(ag:AV->Bool)(gs:List Good)(ms:List AD)(most:Int)(f i:Nat)(p:AV) :
  BL ag gs ms most (f+1) i p=(Ff (gs.getD i Good.z).low (gs.getD i Good.z).high).flatMap (λn=>BL ag gs ms most f (i+1) (p.setFirst i n)):=rfl
def A1(X:Nat->Prop)(h h':L):Prop:=∀b p o,h b=some (p,o)->¬X b->∃o',h' b=some (p,o')/\(o'=o\/(KD o=true/\KD o'=true))
theorem A1.refl(X:Nat->Prop)(h:L):A1 X h h:=λ_ _ o x _=>⟨o,x,.inl rfl⟩
theorem L.Le.keepX{h h':L}(l:h.Le h')(X:Nat->Prop):A1 X h h':=λb p o x _=>l b p o x
theorem A1.trans{X X1:Nat->Prop}{a b c:L}(x:A1 X a b)(hX:∀r,X1 r->X r\/a r=none)(y:A1 X1 b c):A1 X a c:=λr p o d f=>by
 obtain ⟨g,h,h2⟩:=x r p o d f;obtain ⟨i,j,h4⟩:=y r p g h λq=>(hX r q).elim f λe=>by rw [e] at d;cases d
 refine ⟨i,j,?_⟩;rcases h2 with rfl | h2
 ·exact h4
 ·rcases h4 with rfl | h4
  ·exact .inr h2
  ·exact .inr ⟨h2.1,h4.2⟩
theorem A1.box{X:Nat->Prop}{h h':L}(x:A1 X h h'){b:Nat}{p:Bool}{o:Obj}(hb:h b=some (p,o))(hX:¬X b)(ho:KD o=false):h' b=some (p,o):=by
 obtain ⟨d,c,rfl | ⟨a,_⟩⟩:=x b p o hb hX
 ·exact c
 ·rw [ho] at a;cases a
theorem A1.store{X:Nat->Prop}{h h1 h2:L}(x:A1 X h h1){r:Nat}(hr:h r=none)(ho:∀b,b≠r->h2 b=h1 b):A1 X h h2:=λb p o a c=>by
 rw [ho b λe=>by subst e;rw [hr] at a;cases a];exact x b p o a c
structure G5{U:Type}(hB:L)(aR:List U->(Nat->Prop)->L->Prop):Prop where
 dom:∀pre X h b,aR pre X h->X b->∃p o,h b=some (p,o)/\KD o=false
 stable:∀pre X h h',aR pre X h->(∀b,X b->h' b=h b)->hB.Le h'->aR pre X h'
theorem G5.le{U:Type}{hB:L}{aR:List U->(Nat->Prop)->L->Prop}(P:G5 hB aR){pre:List U}{X:Nat->Prop}{h h':L}(x:aR pre X h)(l:h.Le h')(lB:hB.Le h'):aR pre X h':=
 P.stable pre X h h' x (λb c=>by
  obtain ⟨p,o,a,d⟩:=P.dom pre X h b x c;rw [l.keep a d,a]) lB
theorem G5.store{U:Type}{hB:L}{aR:List U->(Nat->Prop)->L->Prop}(P:G5 hB aR){pre:List U}{X:Nat->Prop}{h h':L}(x:aR pre X h){r:Nat}(hr:¬X r)(ho:∀b,b≠r->h' b=h b)(lB:hB.Le h'):aR pre X h':=
 P.stable pre X h h' x (λb a=>ho b λe=>hr (e▸a)) lB
theorem G5.off{U:Type}{hB:L}{aR:List U->(Nat->Prop)->L->Prop}(P:G5 hB aR){pre:List U}{X:Nat->Prop}{h:L}(x:aR pre X h){r:Nat}(hr:h r=none):¬X r:=λq=>by
 obtain ⟨p,o,a,_⟩:=P.dom pre X h r x q;rw [hr] at a;cases a
theorem Jx{X X1:Nat->Prop}{h:L}(hX:∀r,X1 r->X r\/h r=none){r:Nat}{o:Bool×Obj}(hr:h r=some o)(n:¬X r):¬X1 r:=λq=>(hX r q).elim n λe=>by rw [e] at hr;cases hr
def Fc{U:Type}(hB:L)(aR:List U->(Nat->Prop)->L->Prop)(S:L->Prop)(pre:List U)(X:Nat->Prop)(h:L)(l:List U)(v:aV)(h':L):Prop:=
 ∃ok X',v=.bool ok/\(∀b,X' b->X b\/h b=none)/\A1 X h h'/\hB.Le h'/\(ok=true->aR (pre++l) X' h')/\(ok=false->S h')
structure Ho{U:Type}{P:Program}(W:Wk P)(hB:L)(yv:aV)(enc:U->Array aV)(aR:List U->(Nat->Prop)->L->Prop)(S:L->Prop)(all:List U):Prop where
 prom:G5 hB aR
 one:yv.cells=#[yv]
 call:∀pre p post X h,all=pre++p ::post->aR pre X h->hB.Le h->CG W yv #[.agg (enc p)] h (Fc hB aR S pre X h [p])
structure FM{U:Type}(hB:L)(aR:List U->(Nat->Prop)->L->Prop)(X0:Nat->Prop)(h:L)(pre:List U)(X:Nat->Prop)(hc:L):Prop where
 inv:aR pre X hc
 sub:∀b,X b->X0 b\/h b=none
 keep:A1 X0 h hc
 base:hB.Le hc
section
variable {U:Type} {hB:L} {aR:List U->(Nat->Prop)->L->Prop} {S:L->Prop} {X0 X X1:Nat->Prop} {h hc h':L} {pre l:List U}
theorem FM.start(x:aR pre X h)(lB:hB.Le h):FM hB aR X h pre X h:=⟨x,λ_ q=>.inl q,A1.refl _ _,lB⟩
theorem FM.le(P:G5 hB aR)(y:FM hB aR X0 h pre X hc)(l:hc.Le h'):FM hB aR X0 h pre X h':=
 ⟨P.le y.inv l (y.base.trans l),y.sub,y.keep.trans (λ_ q=>.inl q) (l.keepX X0),y.base.trans l⟩
theorem FM.store(P:G5 hB aR)(y:FM hB aR X0 h pre X hc){r:Nat}(hr:h r=none)(rB:hB r=none)(hn:¬X r)(ho:∀b,b≠r->h' b=hc b):FM hB aR X0 h pre X h':=
 ⟨P.store y.inv hn ho (y.base.upd rB ho),y.sub,y.keep.store hr ho,y.base.upd rB ho⟩
theorem subX(s:∀b,X b->X0 b\/h b=none)(k:A1 X0 h hc)(s':∀b,X1 b->X b\/hc b=none):∀b,X1 b->X0 b\/h b=none:=λb q=>by
 rcases s' b q with q | q
 ·exact s b q
 ·by_cases a:X0 b
  ·exact .inl a
  ·refine .inr ?_;cases c:h b with
   | none=>rfl
   | some x=>
    obtain ⟨e,d,_⟩:=k b x.1 x.2 c a;rw [d] at q;cases q
theorem FM.call(y:FM hB aR X0 h pre X hc){v:aV}(r:Fc hB aR S pre X hc l v h') :
  ∃ok X',v=.bool ok/\(∀b,X' b->X b\/hc b=none)/\A1 X hc h'/\(ok=true->FM hB aR X0 h (pre++l) X' h')/\(ok=false->∀l',Fc hB aR S pre X0 h l' (.bool false) h'):=by
 obtain ⟨ok,X',i,a,c,d,j,k⟩:=r;have f:A1 X0 h h':=y.keep.trans y.sub c;have g:=subX y.sub y.keep a;exact ⟨ok,X',i,a,c,λe=>⟨j e,g,f,d⟩,λe l'=>⟨false,X',rfl,g,f,d,(λx=>by cases x),λ_=>k e⟩⟩
theorem FM.done(y:FM hB aR X0 h (pre++l) X hc):Fc hB aR S pre X0 h l (.bool true) hc:=⟨true,X,rfl,y.sub,y.keep,y.base,λ_=>y.inv,λx=>by cases x⟩
theorem FM.pass{U:Type}{hB:L}{aR:List U->(Nat->Prop)->L->Prop}{S:L->Prop}{X0 X:Nat->Prop}{h hc h':L}{pre:List U}{l:List U}{v:aV}(y:FM hB aR X0 h pre X hc)(r:Fc hB aR S pre X hc l v h'):Fc hB aR S pre X0 h l v h':=by
 obtain ⟨a,X',b,c,d,e,f,g⟩:=r;exact ⟨a,X',b,subX y.sub y.keep c,y.keep.trans y.sub d,e,f,g⟩
theorem Fc.stopped{pre':List U}{v:aV}(hv:v=.bool false)(r:∀l',Fc hB aR S pre X0 h l' (.bool false) h'):Fc hB aR S pre' X0 h l v h':=by
 obtain ⟨f,X',e,a,b,c,_,d⟩:=r [];cases e;exact ⟨false,X',hv,a,b,c,(λx=>by cases x),d⟩
end
def B9{U:Type}(all pre l:List U):Prop:=∃post,all=pre++l++post
section
variable {U:Type} {all pre a b:List U}
theorem B9.left(w:B9 all pre (a++b)):B9 all pre a:=by
 obtain ⟨post,h⟩:=w;exact ⟨b++post,by rw [h];simp⟩
theorem B9.right(w:B9 all pre (a++b)):B9 all (pre++a) b:=by
 obtain ⟨post,h⟩:=w;exact ⟨post,by rw [h];simp⟩
theorem B9.one{p:U}(w:B9 all pre [p]):∃post,all=pre++p ::post:=by
 obtain ⟨post,h⟩:=w;exact ⟨post,by rw [h];simp⟩
theorem VO(lo:Int)(i j:Nat):Bp lo (i+j)=Bp lo i++Bp (lo+i) j:=by
 unfold Bp;rw [List.range_add,List.map_append,List.map_map];congr 1;apply List.map_congr_left;intro x _;simp only [Function.comp];omega
theorem B9.round{lo hi:Int}{k:Nat}{F:Int->List U}(w:B9 all pre ((Ff lo hi).flatMap F))(hk:lo+(k:Int)<=hi):B9 all (pre++(Bp lo k).flatMap F) (F (lo+k)):=by
 have e:Ff lo hi=Bp lo k++([lo+(k:Int)]++Bp (lo+((k+1:Nat):Int)) ((hi-lo+1).toNat-(k+1))):=by
  unfold Ff;rw [<-List.append_assoc,<-Ml,<-VO];congr 1;omega
 rw [e,List.flatMap_append,List.flatMap_append] at w;have c:=w.right.left;simpa using c
theorem B9.roundEnd{lo hi:Int}{k:Nat}{F:Int->List U}(h:¬lo+(k:Int)<=hi)(hk:(k:Int)<=hi-lo+1\/k=0):(Ff lo hi).flatMap F=(Bp lo k).flatMap F:=(VN h hk).symm
end
section
variable {ag:AV->Bool} {gs:List Good} {ms:List AD} {mo:Int} {f i k:Nat} {p pc:AV} {all pre:List AV} {lo hi x:Int}
theorem TQ{b1 b2:Bool}(hpc:∀n b,pc.setMove i n b=p.setMove i n b):∀n b,(((pc.setMany i x).setLie i b1).setLie i b2).setMove i n b=p.setMove i n b:=λn b=>by
 rw [<-hpc,show ((pc.setMany i x).setLie i b1)=pc.setMove i x b1 from rfl,G4,NG]
theorem goods_pc(hpc:∀n,pc.setFirst i n=p.setFirst i n):∀n,(pc.setFirst i x).setFirst i n=p.setFirst i n:=λn=>by rw [<-hpc,K9]
def TR(ms:List AD)(mo:Int)(i:Nat)(q:AV):Prop:=((0<=(i:Int)/\(i:Int)<=(ms.length:Int)-1)/\(ms.getD ((i:Int)).toNat AD.z).kind=0)/\((Bn q 6:Int)<mo)
instance (ms:List AD) (mo:Int) (i:Nat) (q:AV):Decidable (TR ms mo i q):=inferInstanceAs (Decidable (_/\_))
theorem R2{q:AV}:(EA ms i && decide ((Bn q 6:Int)<mo))=decide (TR ms mo i q):=by
 unfold EA TR;rw [<-Bool.decide_and];exact decide_eq_decide.2 Iff.rfl
theorem OA{q:AV}{b:Bool}:(q.setLie i b).lies i=b:=by simp [AV.setLie]
theorem TS(hpc:∀n b,pc.setMove i n b=p.setMove i n b)(hC:(((pc.setMany i x).setLie i false).setLie i (decide (TR ms mo i ((pc.setMany i x).setLie i false)))).lies i=true)(hx:x=lo+(k:Int)) :
  pre++(Bp lo (k+1)).flatMap (Br ag ms mo f i p)=((pre++(Bp lo k).flatMap (Br ag ms mo f i p))++Ax ag ms mo f (i+1) ((pc.setMany i x).setLie i false))++
   Ax ag ms mo f (i+1) (((pc.setMany i x).setLie i false).setLie i (decide (TR ms mo i ((pc.setMany i x).setLie i false)))):=by
 rw [OA] at hC;rw [hC,show ((pc.setMany i x).setLie i false)=pc.setMove i x false from rfl,G4,hpc,hpc,I4,<-hx];rw [show ((pc.setMany i x).setLie i false)=pc.setMove i x false from rfl,hpc] at hC;unfold Br;rw [R2,hC];simp
theorem TT(hpc:∀n b,pc.setMove i n b=p.setMove i n b)(hC:(((pc.setMany i x).setLie i false).setLie i (decide (TR ms mo i ((pc.setMany i x).setLie i false)))).lies i=false)(hx:x=lo+(k:Int)) :
  pre++(Bp lo (k+1)).flatMap (Br ag ms mo f i p)=(pre++(Bp lo k).flatMap (Br ag ms mo f i p))++Ax ag ms mo f (i+1) ((pc.setMany i x).setLie i false):=by
 rw [OA] at hC;rw [show ((pc.setMany i x).setLie i false)=pc.setMove i x false from rfl,hpc,I4,<-hx];rw [show ((pc.setMany i x).setLie i false)=pc.setMove i x false from rfl,hpc] at hC;unfold Br;rw [R2,hC];simp
theorem VP(hpc:∀n,pc.setFirst i n=p.setFirst i n)(hx:x=lo+(k:Int)) :
  pre++(Bp lo (k+1)).flatMap (λn=>BL ag gs ms mo f (i+1) (p.setFirst i n))=(pre++(Bp lo k).flatMap (λn=>BL ag gs ms mo f (i+1) (p.setFirst i n)))++BL ag gs ms mo f (i+1) (pc.setFirst i x):=by
 rw [hpc,I4,<-hx];simp
theorem Pe(hpc:∀n b,pc.setMove i n b=p.setMove i n b)(hw:B9 all pre (Ax ag ms mo (f+1) i p))(hx:x=(ms.getD i AD.z).low+(k:Int))(hk:x<=(ms.getD i AD.z).high) :
  B9 all (pre++(Bp (ms.getD i AD.z).low k).flatMap (Br ag ms mo f i p)) (Ax ag ms mo f (i+1) ((pc.setMany i x).setLie i false)):=by
 rw [Dw] at hw;have w:=hw.round (k:=k) Y;rw [<-hx] at w;unfold Br at w;rw [<-hpc] at w;exact w.left
theorem Pf(hpc:∀n b,pc.setMove i n b=p.setMove i n b)(hw:B9 all pre (Ax ag ms mo (f+1) i p))(hC:(((pc.setMany i x).setLie i false).setLie i (decide (TR ms mo i ((pc.setMany i x).setLie i false)))).lies i=true)(hx:x=(ms.getD i AD.z).low+(k:Int))(hk:x<=(ms.getD i AD.z).high) :
  B9 all ((pre++(Bp (ms.getD i AD.z).low k).flatMap (Br ag ms mo f i p))++Ax ag ms mo f (i+1) ((pc.setMany i x).setLie i false)) (Ax ag ms mo f (i+1) (((pc.setMany i x).setLie i false).setLie i (decide (TR ms mo i ((pc.setMany i x).setLie i false))))):=by
 rw [OA] at hC;rw [hC,show ((pc.setMany i x).setLie i false)=pc.setMove i x false from rfl,G4,hpc,hpc];rw [show ((pc.setMany i x).setLie i false)=pc.setMove i x false from rfl,hpc] at hC;rw [Dw] at hw;have w:=hw.round (k:=k) Y;rw [<-hx] at w;have a:B9 all (pre++(Bp (ms.getD i AD.z).low k).flatMap (Br ag ms mo f i p)) (Ax ag ms mo f (i+1) (p.setMove i x false)++Ax ag ms mo f (i+1) (p.setMove i x true)):=by
  have e:Br ag ms mo f i p x=Ax ag ms mo f (i+1) (p.setMove i x false)++Ax ag ms mo f (i+1) (p.setMove i x true):=by
   unfold Br;rw [R2,hC,aU rfl]
  rw [<-e];exact w
 exact a.right
theorem R3(hpc:∀n,pc.setFirst i n=p.setFirst i n)(hw:B9 all pre (BL ag gs ms mo (f+1) i p))(hx:x=(gs.getD i Good.z).low+(k:Int))(hk:x<=(gs.getD i Good.z).high) :
  B9 all (pre++(Bp (gs.getD i Good.z).low k).flatMap (λn=>BL ag gs ms mo f (i+1) (p.setFirst i n))) (BL ag gs ms mo f (i+1) (pc.setFirst i x)):=by
 rw [EY] at hw;have w:=hw.round (k:=k) Y;rw [<-hx] at w;rw [hpc];exact w
end
def Jf(l:List Int)(k:Nat):Int:=if k=0 then-1 else l.getD (k-1) 0
def LA(ms:List AD)(l:List Int)(k:Nat):Int:=if¬EA ms (l.getD k 0)=true then 6 else if l.getD k 0<=Jf l k then 7 else 0
def En(p:AV)(l:List Int)(k:Nat):AV:=(l.take k).foldl (λp i=>p.setLie i.toNat true) p
theorem TU{p:AV}{l:List Int}{k:Nat}(hk:k<l.length):En p l (k+1)=(En p l k).setLie (l.getD k 0).toNat true:=by
 unfold En;rw [Hy 0 hk,List.foldl_append];rfl
def A5(d m:Int)(gs:List Good)(ms:List AD)(cs:List AN)(f y l:List Int):Int:=
 if¬An d m gs ms cs=0 then An d m gs ms cs
 else if¬Aw f gs.length=0 then Aw f gs.length
 else if¬Aw y ms.length=0 then Aw y ms.length
 else D9 (LA ms l) 0 l.length
def KQ(f y l:List Int):AV:=En ((AV.zero.setFirsts f).setManys y) l l.length
theorem FE{f:Nat->Int}:∀{n i:Nat},D9 f i n=0->∀j,i<=j->j<i+n->f j=0
 | 0,i,_,j,a,b=>Y
 | n+1,i,h,j,a,b=>by
  unfold D9 at h;split at h
  ·rename_i e
   rcases Nat.eq_or_lt_of_le a with rfl | h3
   ·exact e
   ·exact FE h j h3 Y
  ·rename_i e;exact absurd h e
structure Bt(d m:Int)(gs:List Good)(ms:List AD)(cs:List AN):Prop where
 days:1<=d/\d<=99
 most:0<=m/\m<=2
 glen:1<=gs.length/\gs.length<=3
 good:∀k,k<gs.length->IR gs k=0
 mlen:ms.length<=6
 move:∀k,k<ms.length->Fl d gs ms k=0
 clen:cs.length<=4
 count:∀k,k<cs.length->HX d gs cs k=0
theorem I5{d m:Int}{gs:List Good}{ms:List AD}{cs:List AN}(h:An d m gs ms cs=0):Bt d m gs ms cs:=by
 have z:=λj i=>FE (f:=Eh d m gs ms cs) h j (Nat.zero_le _) (Y:j<0+4);have e:F9 d m=0:=z 0 aC;have a:Dv gs=0:=z 1 aC;have b:DG d gs ms=0:=z 2 aC;have c:Dj d gs cs=0:=z 3 aC;unfold F9 at e;unfold Dv at a;unfold DG at b;unfold Dj at c;split at e <;> first | (cases e;done) | skip
 split at a <;> first | (cases a;done) | skip
 split at b <;> first | (cases b;done) | skip
 split at c <;> first | (cases c;done) | skip
 exact ⟨Y,Y,Y,λk g=>FE a k (Nat.zero_le _) Y,Y,λk g=>FE b k (Nat.zero_le _) Y,Y,λk g=>FE c k (Nat.zero_le _) Y⟩
section
variable {d m:Int} {gs:List Good} {ms:List AD} {cs:List AN}
theorem Bt.move'(b:Bt d m gs ms cs){k:Nat}(hk:k<ms.length):(0<=(ms.getD k AD.z).kind/\(ms.getD k AD.z).kind<=4)/\(0<=(ms.getD k AD.z).good/\(ms.getD k AD.z).good<=(gs.length:Int)-1)/\
  (1<=(ms.getD k AD.z).day/\(ms.getD k AD.z).day<=d)/\FQ ms k<=(ms.getD k AD.z).day/\GQ (ms.getD k AD.z).low (ms.getD k AD.z).high:=by
 have z:=b.move k hk;unfold Fl at z;split at z <;> first | (cases z;done) | skip
 split at z <;> first | (cases z;done) | skip
 split at z <;> first | (cases z;done) | skip
 split at z <;> first | (cases z;done) | skip
 split at z <;> first | (cases z;done) | skip
 rename_i a c e g f
 exact ⟨Decidable.not_not.1 a,Decidable.not_not.1 c,Decidable.not_not.1 e,Y,Decidable.not_not.1 f⟩
theorem CM{U:Type}{l:List U}{k:Nat}{z:U}(h:l.length<=k):l.getD k z=z:=by
 simp [List.getD_eq_getElem?_getD,List.getElem?_eq_none h]
theorem Bt.kind(b:Bt d m gs ms cs):∀k,0<=(ms.getD k AD.z).kind/\(ms.getD k AD.z).kind<=4:=λk=>by
 by_cases h:k<ms.length
 ·exact (b.move' h).1
 ·rw [CM Y];decide
theorem Bt.few(b:Bt d m gs ms cs):∀k,0<=(ms.getD k AD.z).low/\(ms.getD k AD.z).low<=(ms.getD k AD.z).high/\(ms.getD k AD.z).high<=99/\(ms.getD k AD.z).high-(ms.getD k AD.z).low<3:=λk=>by
 by_cases h:k<ms.length
 ·have:=(b.move' h).2.2.2.2;unfold GQ at this;omega
 ·rw [CM Y];decide
theorem Bt.good'(b:Bt d m gs ms cs){k:Nat}(hk:k<gs.length):(0<=(gs.getD k Good.z).cost/\(gs.getD k Good.z).cost<=999)/\(1<=(gs.getD k Good.z).pack/\(gs.getD k Good.z).pack<=20)/\GQ (gs.getD k Good.z).low (gs.getD k Good.z).high:=by
 have z:=b.good k hk;unfold IR at z;split at z <;> first | (cases z;done) | skip
 split at z <;> first | (cases z;done) | skip
 split at z <;> first | (cases z;done) | skip
 rename_i c e a
 exact ⟨Y,Y,Decidable.byContradiction λq=>a (.inr q)⟩
theorem Bt.gfew(b:Bt d m gs ms cs):∀k,0<=(gs.getD k Good.z).low/\(gs.getD k Good.z).low<=(gs.getD k Good.z).high/\(gs.getD k Good.z).high<=99/\(gs.getD k Good.z).high-(gs.getD k Good.z).low<3:=λk=>by
 by_cases h:k<gs.length
 ·have:=(b.good' h).2.2;unfold GQ at this;omega
 ·rw [CM Y];decide
theorem Bt.cgood(b:Bt d m gs ms cs):∀x ∈ cs,0<=x.good/\x.good<3:=λx c=>by
 obtain ⟨k,a,rfl⟩:=List.getElem_of_mem c;have z:=b.count k a;unfold HX at z;rw [Ey AN.z a] at z
 have:=b.glen
 split at z <;> first | (cases z;done) | skip
 omega
theorem GA{l:List Int}{n:Int}(h:Aw l n=0):(l.length:Int)=n/\∀k,0<=l.getD k 0/\l.getD k 0<=99:=by
 unfold Aw at h;split at h <;> first | (cases h;done) | skip
 split at h <;> first | (cases h;done) | skip
 rename_i a b
 refine ⟨Decidable.not_not.1 a,λk=>?_⟩;by_cases c:k<l.length
 ·refine Decidable.byContradiction λq=>b ?_;rw [List.any_eq_true];exact ⟨l.getD k 0,EF c,decide_eq_true q⟩
 ·rw [CM Y];decide
variable {f y l:List Int}
def BV(d m:Int)(gs:List Good)(ms:List AD)(cs:List AN)(f y l:List Int):AV:=if A5 d m gs ms cs f y l=0 then KQ f y l else AV.zero
theorem R4(h:¬An d m gs ms cs=0):A5 d m gs ms cs f y l=An d m gs ms cs:=by unfold A5;rw [aU h]
theorem R5(h:¬¬An d m gs ms cs=0)(h2:¬Aw f gs.length=0):A5 d m gs ms cs f y l=Aw f gs.length:=by unfold A5;rw [aT h,aU h2]
theorem R6(h:¬¬An d m gs ms cs=0)(h2:¬¬Aw f gs.length=0)(h3:¬Aw y ms.length=0):A5 d m gs ms cs f y l=Aw y ms.length:=by unfold A5;rw [aT h,aT h2,aU h3]
theorem IS(h:¬¬An d m gs ms cs=0)(h2:¬¬Aw f gs.length=0)(h3:¬¬Aw y ms.length=0){c:Int}(h4:D9 (LA ms l) 0 l.length=c):A5 d m gs ms cs f y l=c:=by unfold A5;rw [aT h,aT h2,aT h3,h4]
theorem G6{c:Int}(e:A5 d m gs ms cs f y l=c)(hc:¬c=0):(.tuple #[.agg (Al AV.zero),.int .i64 c]:aV)=.tuple #[.agg (Al (BV d m gs ms cs f y l)),.int .i64 (A5 d m gs ms cs f y l)]:=by
 unfold BV;rw [e,aT hc]
theorem TV(e:A5 d m gs ms cs f y l=0){k:Nat}(hk:¬(k:Int)<l.length)(hk':k<=l.length):(.tuple #[.agg (Al (En ((AV.zero.setFirsts f).setManys y) l k)),.int .i64 0]:aV)=.tuple #[.agg (Al (BV d m gs ms cs f y l)),.int .i64 (A5 d m gs ms cs f y l)]:=by
 unfold BV KQ;rw [e,aU rfl,show k=l.length by omega]
theorem lieAt_6{k:Nat}(h:¬((0<=l.getD k 0/\l.getD k 0<=(ms.length:Int)-1)/\(ms.getD (l.getD k 0).toNat AD.z).kind=0)):LA ms l k=6:=by
 unfold LA EA;rw [aU (by simpa using h)]
theorem lieAt_7{k:Nat}(h:¬¬((0<=l.getD k 0/\l.getD k 0<=(ms.length:Int)-1)/\(ms.getD (l.getD k 0).toNat AD.z).kind=0))(h2:l.getD k 0<=Jf l k):LA ms l k=7:=by
 unfold LA EA;rw [aT (by simpa using h),aU h2]
theorem lieAt_0{k:Nat}(h:¬¬((0<=l.getD k 0/\l.getD k 0<=(ms.length:Int)-1)/\(ms.getD (l.getD k 0).toNat AD.z).kind=0))(h2:¬l.getD k 0<=Jf l k):LA ms l k=0:=by
 unfold LA EA;rw [aT (by simpa using h),aT h2]
end
theorem IT(p:AV):(Value.agg (Al p)).cells.size=15:=rfl
theorem IU(p:AV):Value.fine (.agg (Al p))=true:=rfl
theorem Jg(p:AV):0+15<=(Al p).size:=Nat.le_refl 15
theorem Jh(p q:AV):BD (Al p) 0 (Value.agg (Al q)).cells.toList=Al q:=by
 show BD (Al p) 0 (Al q).toList=Al q;apply Array.toList_inj.1;rw [DT _ _ _ (Nat.le_refl 15)];show []++(Al q).toList++[]=_;simp
theorem FR{β:Type}(f:Nat->β)(k:Nat):(List.range (k+1)).map f=(List.range k).map f++[f k]:=by
 rw [List.range_succ,List.map_append];rfl
section
variable {d m:Int} {gs:List Good} {ms:List AD} {cs:List AN} {f y l:List Int}
theorem Bd.lies{p:AV}(h:Bd p)(l:List Int)(k:Nat):Bd (En p l k):=by
 unfold En;generalize l.take k=t
 induction t generalizing p with
 | nil=>exact h
 | cons x t a=>exact a (p:=p.setLie x.toNat true) h
theorem YB(h:A5 d m gs ms cs f y l=0):Bt d m gs ms cs/\Bd (BV d m gs ms cs f y l):=by
 have a:=h;unfold A5 at h;split at h <;> first | (rename_i q;exact absurd h q) | skip
 split at h <;> first | (rename_i q;exact absurd h q) | skip
 split at h <;> first | (rename_i q;exact absurd h q) | skip
 rename_i b c e
 refine ⟨I5 (Decidable.not_not.1 b),?_⟩;unfold BV;rw [aU a];unfold KQ;refine Bd.lies ?_ _ _;have g:=(GA (Decidable.not_not.1 c)).2;have j:=(GA (Decidable.not_not.1 e)).2;refine ⟨λi=>?_,λi=>?_⟩
 ·show 0<=(if i<f.length then f.getD i 0 else 0)/\(if i<f.length then f.getD i 0 else 0)<=99;split
  ·exact g i
  ·decide
 ·show 0<=(if i<y.length then y.getD i 0 else 0)/\(if i<y.length then y.getD i 0 else 0)<=99;split
  ·exact j i
  ·decide
def G7(d m:Int)(gs:List Good)(ms:List AD)(cs:List AN)(f y l:List Int):List Int:=if A5 d m gs ms cs f y l=0 then (List.range gs.length).map (λ(i:Nat)=>(AP ms (BV d m gs ms cs f y l) (i:Int) d).1) else []
def IV(d m:Int)(gs:List Good)(ms:List AD)(cs:List AN)(f y l:List Int):List Int:=if A5 d m gs ms cs f y l=0 then (List.range gs.length).map (λ(i:Nat)=>(AP ms (BV d m gs ms cs f y l) (i:Int) d).2) else []
theorem R7(h:¬A5 d m gs ms cs f y l=0):G7 d m gs ms cs f y l=[]:=aT h
theorem TW(h:¬A5 d m gs ms cs f y l=0):IV d m gs ms cs f y l=[]:=aT h
theorem Pg(h:¬¬A5 d m gs ms cs f y l=0){k:Nat}(hk:k<=gs.length)(hk':¬(k:Int)<gs.length):G7 d m gs ms cs f y l=(List.range k).map (λ(i:Nat)=>(AP ms (BV d m gs ms cs f y l) (i:Int) d).1):=by
 unfold G7;rw [aU (Decidable.not_not.1 h),show gs.length=k by omega]
theorem R8(h:¬¬A5 d m gs ms cs f y l=0){k:Nat}(hk:k<=gs.length)(hk':¬(k:Int)<gs.length):IV d m gs ms cs f y l=(List.range k).map (λ(i:Nat)=>(AP ms (BV d m gs ms cs f y l) (i:Int) d).2):=by
 unfold IV;rw [aU (Decidable.not_not.1 h),show gs.length=k by omega]
end
theorem OB{U β:Type}{f:U->List β}{c:Nat}:∀{l:List U},(∀x ∈ l,(f x).length<=c)->(l.flatMap f).length<=l.length*c
 | [],_=>aD
 | x ::l,h=>by
  rw [List.flatMap_cons,List.length_append,List.length_cons,Nat.succ_mul];have b:=h x aD;have d:=OB (l:=l) λy a=>h y (by simp [a]);omega
theorem QI{lo hi:Int}(h:hi-lo<3):(Ff lo hi).length<=3:=by
 unfold Ff Bp;rw [List.length_map,List.length_range];omega
theorem Hp{ag:AV->Bool}{ms:List AD}{mo:Int}(hf:∀k,(ms.getD k AD.z).high-(ms.getD k AD.z).low<3):∀f i p,(Ax ag ms mo f i p).length<=6 ^ f
 | 0,_,p=>by unfold Ax;split <;> simp
 | f+1,i,p=>by
  rw [Dw];have d:=OB (f:=Br ag ms mo f i p) (c:=2*6 ^ f) (l:=Ff (ms.getD i AD.z).low (ms.getD i AD.z).high) λn _=>by
   unfold Br;rw [List.length_append];have a:=Hp (ag:=ag) (mo:=mo) hf f (i+1) (p.setMove i n false);have b:=Hp (ag:=ag) (mo:=mo) hf f (i+1) (p.setMove i n true);split
   ·omega
   ·simp only [List.length_nil];omega
  have e:=Nat.mul_le_mul_right (2*6 ^ f) (QI (hf i));rw [Nat.pow_succ];omega
theorem J6{ag:AV->Bool}{gs:List Good}{ms:List AD}{mo:Int}(hg:∀k,(gs.getD k Good.z).high-(gs.getD k Good.z).low<3)(hf:∀k,(ms.getD k AD.z).high-(ms.getD k AD.z).low<3) :
  ∀f i p,(BL ag gs ms mo f i p).length<=3 ^ f*6 ^ ms.length
 | 0,_,p=>by unfold BL;have:=Hp (ag:=ag) (mo:=mo) hf ms.length 0 p;omega
 | f+1,i,p=>by
  rw [EY];have a:=OB (f:=λn=>BL ag gs ms mo f (i+1) (p.setFirst i n)) (c:=3 ^ f*6 ^ ms.length) (l:=Ff (gs.getD i Good.z).low (gs.getD i Good.z).high) λn _=>J6 hg hf f (i+1) _;have b:=Nat.mul_le_mul_right (3 ^ f*6 ^ ms.length) (QI (hg i));rw [Nat.pow_succ,Nat.mul_comm (3 ^ f) 3,Nat.mul_assoc];omega
theorem EL{d m:Int}{gs:List Good}{ms:List AD}{cs:List AN}(b:Bt d m gs ms cs)(mo:Int):(AU d gs ms cs mo).length<=2000000:=by
 unfold AU;have h:=J6 (ag:=BB d gs.length ms cs) (mo:=mo) (λk=>(b.gfew k).2.2.2) (λk=>(b.few k).2.2.2) gs.length 0 AV.zero;have a:3 ^ gs.length<=3 ^ 3:=Nat.pow_le_pow_right aC b.glen.2;have c:6 ^ ms.length<=6 ^ 6:=Nat.pow_le_pow_right aC b.mlen;have e:=Nat.mul_le_mul a c
 have:3 ^ 3*6 ^ 6<=2000000:=aC
 omega
theorem pre_len{U:Type}{all pre post:List U}{p:U}(h:all=pre++p ::post){n:Nat}(hn:all.length<=n):pre.length+1<=n:=by
 rw [h,List.length_append,List.length_cons] at hn;omega
theorem AE.one{U:Type}{h:L}{v:aV}{n:Nat}{enc:U->Array aV}{xs:List U}(x:AE h v n enc xs):v.cells=#[v]/\v.oneCell'=true:=by
 obtain ⟨a,b,rfl,_⟩:=x;exact ⟨rfl,rfl⟩
theorem Gb{v:aV}(h:v.cells=#[v]/\v.oneCell'=true):Value.fine v=true:=by unfold Value.fine;rw [h.1];simp [h.2]
theorem Gc{v:aV}(h:v.cells=#[v]/\v.oneCell'=true):v.cells.size=1:=by rw [h.1];rfl
theorem IW{v:aV}(h:v.cells=#[v]/\v.oneCell'=true){c c':Array aV}{o:Nat}(e:BD c o [v]=c'):BD c o v.cells.toList=c':=by rw [h.1];exact e
end Go.Ns
namespace Go.Ns
open Go.Conc
section
variable {P:Program} {E:Fb P} {O:Nat->aV} {ds:List Deferred} {U:Type}
def RoundEnd(hB:L)(J:List U->(Nat->Prop)->L->Prop)(Stop:Code->L->Prop)(pre:List U)(aN:Nat->Prop)(h:L)(l:Nat)(lo:Loop):Post:=λe _ _ h3=>
 h3 l=some (true,.loop { lo with state:=.busy })/\∃Y',(∀b,Y' b->aN b\/h b=none)/\A1 (λb=>aN b\/b=l) h h3/\hB.Le h3/\match e with
  | .normal=>J pre Y' h3
  | .exit id=>Stop (.exit id) h3
  | .ret=>Stop .ret h3
  | _=>False
def XW(J:List U->(Nat->Prop)->L->Prop)(l d:Nat)(lo:Loop)(pre:List U)(X:Nat->Prop)(h:L):Prop:=
 ∃aN,J pre aN h/\(∀b,X b↔aN b\/b=l\/b=d)/\¬aN l/\¬aN d/\h l=some (true,.loop lo)/\h d=some (true,.deferred (some []))
def LoopS(Stop:Code->L->Prop)(l d:Nat)(lo:Loop)(h:L):Prop:=
 ∃c,Stop c h/\h l=some (true,.loop { lo with state:=.done,pending:=some c })/\h d=some (true,.deferred (some []))
def YEnd(hB:L)(aR:List U->(Nat->Prop)->L->Prop)(Sp:L->Prop)(all:List U)(X:Nat->Prop)(h h':L):Prop:=
 ∃X',(∀b,X' b->X b\/h b=none)/\A1 X h h'/\hB.Le h'/\(aR all X' h'\/Sp h')
theorem Fc.final{hB:L}{aR:List U->(Nat->Prop)->L->Prop}{Sp:L->Prop}{all:List U}{X:Nat->Prop}{h h':L}{v:aV}(r:Fc hB aR Sp [] X h all v h'):YEnd hB aR Sp all X h h':=by
 obtain ⟨d,X',g,a,b,c,e,f⟩:=r;cases d with
 | true=>exact ⟨X',a,b,c,.inl (e rfl)⟩
 | false=>exact ⟨X',a,b,c,.inr (f rfl)⟩
theorem LB{enc:U->Array aV}{all:List U}{hB hc:L}{J:List U->(Nat->Prop)->L->Prop}{Stop:Code->L->Prop}{Y0:Nat->Prop}{par:Tmp}{f:Operand}{assign body:Code}{Q:Post}
  (hrd:E.rd=none) (hpar:Nat.blt par E.N=true) (hJ:G5 hB J) (hB0:hB.Le hc) (j0:J [] Y0 hc)
  (hS:∀c (h h':L) l lo,Stop c h->h l=some (true,.loop lo)->(∀b,b≠l->h' b=h b)->Stop c h')
  (src:∀(yv:aV)(aR:List U->(Nat->Prop)->L->Prop)(Sp:L->Prop)(X:Nat->Prop)(h:L),Ho E.wk hB yv enc aR Sp all->hB.Le h->aR [] X h->CG E.wk (AL O f) #[yv] h λ_ h'=>YEnd hB aR Sp all X h h')
  (round:∀(l d:Nat)(lo:Loop)(pre:List U)(p:U)(post:List U)(aN:Nat->Prop)(h:L),all=pre++p ::post->J pre aN h->hB.Le h->hB l=none->¬aN l->h l=some (true,.loop lo)->
   Tr ⟨E.wk,E.fn,some l,E.N⟩ assign (upd O par (.agg (enc p))) [] h λe σ' ds' h1=>e=.normal/\h1 l=some (true,.loop lo)/\∀h2,h2 l=some (true,.loop { lo with state:=.busy })->(∀b,b≠l->h2 b=h1 b)->
    Tr ⟨E.wk,E.fn,some l,E.N⟩ body σ' ds' h2 (RoundEnd hB J Stop (pre++[p]) aN h l lo))
  (fin:∀(d l:Nat)(h':L),hB.Le h'->hB d=none->hB l=none->hc d=none->h' d=some (true,.deferred (some []))->
   (∀aN,J all aN h'->(∀b,aN b->b≠d)->Q .normal O ({ target:=.collected d,args:=#[] } ::ds) h')/\
   (∀c,Stop c h'->match c with
    | .exit id=>Q (.exit id) O ({ target:=.collected d,args:=#[] } ::ds) h'
    | .ret=>Q .ret O ({ target:=.collected d,args:=#[] } ::ds) h'
    | _=>False)):Tr E (.rangeFunc f #[par] assign body) O ds hc Q:=by
 refine Rp hrd λt d l hs F W k=>?_;have m:hB l=none:=hB0.nothing W;have H:hB d=none:=hB0.nothing F;let lo:Loop:={ state:=.ready,pending:=none,fn:=E.fn,tmps:=t,params:=#[par],assign,body,defers:=d };have nYl:¬Y0 l:=hJ.off j0 W;have nYd:¬Y0 d:=hJ.off j0 F;have hL1:((hc.set d true (.deferred (some []))).set l true (.loop lo)) l=some (true,.loop lo):=L.set_same _ _ _ _;have hL2:((hc.set d true (.deferred (some []))).set l true (.loop lo)) d=some (true,.deferred (some [])):=by rw [L.set_ne _ _ _ (Ne.symm k)];exact L.set_same _ _ _ _
 have hL3:∀b,b≠l->b≠d->((hc.set d true (.deferred (some []))).set l true (.loop lo)) b=hc b:=λb h1 h2=>by rw [L.set_ne _ _ _ h1,L.set_ne _ _ _ h2]
 have K:hB.Le ((hc.set d true (.deferred (some []))).set l true (.loop lo)):=(hB0.trans (L.Le.new F _ _)).trans (L.Le.new (by rw [L.set_ne _ _ _ k];exact W) _ _);have hI0:XW J l d lo [] (λb=>Y0 b\/b=l\/b=d) ((hc.set d true (.deferred (some []))).set l true (.loop lo)):=by
  refine ⟨Y0,hJ.stable _ _ hc _ j0 (λb a=>hL3 b (λe=>nYl (e▸a)) (λe=>nYd (e▸a))) K,λb=>Iff.rfl,nYl,nYd,hL1,hL2⟩
 have prom:G5 hB (XW J l d lo):=by
  refine ⟨?_,?_⟩
  ·rintro pre X h b ⟨aN,j,n,_,_,h1,h2⟩ a;rcases (n b).1 a with r | rfl | rfl
   ·exact hJ.dom _ _ _ _ j r
   ·exact ⟨_,_,h1,rfl⟩
   ·exact ⟨_,_,h2,rfl⟩
  ·rintro pre X h h' ⟨aN,j,n,B,C,h1,h2⟩ same lB;refine ⟨aN,hJ.stable _ _ h h' j (λb a=>same b ((n b).2 (.inl a))) lB,n,B,C,?_,?_⟩
   ·rw [same l ((n l).2 (.inr (.inl rfl)))];exact h1
   ·rw [same d ((n d).2 (.inr (.inr rfl)))];exact h2
 have yk:Ho E.wk hB (.func (.yield l) #[] #[]) enc (XW J l d lo) (LoopS Stop l d lo) all:=by
  refine ⟨prom,rfl,?_⟩;rintro pre p post X h R ⟨aN,j,n,B,C,h1,h2⟩ lB;refine VF h1 rfl ?_;have ef:(lo.params.zip #[Value.agg (enc p)]).foldl (λtmps x=>tmps.setIfInBounds x.1 x.2) lo.tmps=t.setIfInBounds par (.agg (enc p)):=by simp [lo]
  rw [ef];show Bg E.wk l E.fn (t.setIfInBounds par (.agg (enc p))) assign body h _;have u:=hs.put hpar (.agg (enc p));refine TH (N:=E.N) u.1 ?_;have e0:(λi=>(t.setIfInBounds par (.agg (enc p))).getD i undef)=upd O par (.agg (enc p)):=funext u.2;rw [e0];refine NP ?_ (round l d lo pre p post aN h R j lB m B h1);rintro e σ' ds' ha ⟨rfl,ha1,a⟩;refine ⟨rfl,lo,ha1,rfl,?_⟩;refine NP ?_ (a _ (L.set_same _ _ _ _) λb a=>L.set_ne _ _ _ a);rintro e σ2 ds2 r ⟨g1,Y',g2,g3,g4,D⟩;have w:r d=some (true,.deferred (some [])):=g3.box h2 (λq=>q.elim C (λe=>k e.symm)) rfl;have nl:¬Y' l:=λq=>(g2 l q).elim B λe=>by rw [h1] at e;cases e
  have nd:¬Y' d:=λq=>(g2 d q).elim C λe=>by rw [h2] at e;cases e
  have y:∀(g:Loop)(T:Bool),(if T then J (pre++[p]) Y' (r.set l true (.loop g))/\g=lo else LoopS Stop l d lo (r.set l true (.loop g)))->Fc hB (XW J l d lo) (LoopS Stop l d lo) pre X h [p] (.bool T) (r.set l true (.loop g)):=by
   intro g T A;refine ⟨T,λb=>Y' b\/b=l\/b=d,rfl,?_,?_,?_,?_,?_⟩
   ·rintro b (a | rfl | rfl)
    ·exact (g2 b a).imp (λq=>(n b).2 (.inl q)) id
    ·exact .inl ((n _).2 (.inr (.inl rfl)))
    ·exact .inl ((n _).2 (.inr (.inr rfl)))
   ·intro b q o a hn;have nb:b≠l:=λe=>hn ((n b).2 (.inr (.inl e)));rw [L.set_ne _ _ _ nb];exact g3 b q o a λq=>q.elim (λz=>hn ((n b).2 (.inl z))) nb
   ·exact g4.upd m λb a=>L.set_ne _ _ _ a
   ·rintro rfl;simp only [if_true] at A;obtain ⟨hj,rfl⟩:=A;exact ⟨Y',hj,λb=>Iff.rfl,nl,nd,L.set_same _ _ _ _,by rw [L.set_ne _ _ _ (Ne.symm k)];exact w⟩
   ·rintro rfl;simpa using A
  have js:∀(g:Loop),J (pre++[p]) Y' r->J (pre++[p]) Y' (r.set l true (.loop g)):=λg hj=>hJ.store hj nl (λb a=>L.set_ne _ _ _ a) (g4.upd m λb a=>L.set_ne _ _ _ a);have ss:∀c (g:Loop),Stop c r->Stop c (r.set l true (.loop g)):=λc g hc=>hS c r _ l _ hc g1 λb a=>L.set_ne _ _ _ a;refine ⟨_,g1,?_⟩;cases e with
  | normal=>exact y _ true (by simp only [if_true];exact ⟨js _ D,rfl⟩)
  | exit id=>exact y _ false (by simp only [Bool.false_eq_true,if_false];exact ⟨_,ss _ _ D,L.set_same _ _ _ _,by rw [L.set_ne _ _ _ (Ne.symm k)];exact w⟩)
  | ret=>exact y _ false (by simp only [Bool.false_eq_true,if_false];exact ⟨_,ss _ _ D,L.set_same _ _ _ _,by rw [L.set_ne _ _ _ (Ne.symm k)];exact w⟩)
  | goto _=>exact D.elim
  | panic _=>exact D.elim
  | outgrown=>exact D.elim
 refine (src _ _ _ _ _ yk K hI0).mono ?_;rintro v h' ⟨X',u,hk,S,hor⟩;rcases hor with ⟨aN,j,n,B,C,h1,h2⟩ | ⟨c,hst,h1,h2⟩
 ·refine ⟨lo,h1,rfl,?_⟩;show Q .normal O _ _;have s:=S.upd m (λb a=>L.set_ne h' true (.loop { lo with state:=.exhausted }) a);refine (fin d l _ s H m F (by rw [L.set_ne _ _ _ (Ne.symm k)];exact h2)).1 aN (hJ.store j B (λb a=>L.set_ne _ _ _ a) s) λb a e=>C (e▸a)
 ·refine ⟨_,h1,rfl,?_⟩;have s:=S.upd m (λb a=>L.set_ne h' true (.loop { { lo with state:=.done,pending:=some c } with state:=.exhausted }) a)
  have:=(fin d l _ s H m F (by rw [L.set_ne _ _ _ (Ne.symm k)];exact h2)).2 c (hS c h' _ l _ hst h1 λb a=>L.set_ne _ _ _ a)
  cases c with
  | exit id=>exact this
  | ret=>exact this
  | _=>exact this.elim
structure NT(hB:L)(X:Nat->Prop)(h hc:L):Prop where
 keep:A1 X h hc
 base:hB.Le hc
 dom:∀b,X b->∃o,hc b=some o
section
variable {hB h hc h':L} {X:Nat->Prop}
theorem L.Le.someOf{h h':L}(l:h.Le h'){b:Nat}(x:∃o,h b=some o):∃o,h' b=some o:=by
 obtain ⟨o,a⟩:=x;obtain ⟨d,c,_⟩:=l b o.1 o.2 a;exact ⟨_,c⟩
theorem NT.start(lB:hB.Le h)(d:∀b,X b->∃o,h b=some o):NT hB X h h:=⟨A1.refl _ _,lB,d⟩
theorem NT.le(r:NT hB X h hc)(l:hc.Le h'):NT hB X h h':=⟨r.keep.trans (λ_ q=>.inl q) (l.keepX X),r.base.trans l,λb a=>l.someOf (r.dom b a)⟩
theorem NT.nothing(r:NT hB X h hc){q:Nat}(hq:hc q=none):h q=none:=by
 cases d:h q with
 | none=>rfl
 | some x=>
  by_cases a:X q
  ·obtain ⟨o,b⟩:=r.dom q a;rw [hq] at b;cases b
  ·obtain ⟨e,c,_⟩:=r.keep q x.1 x.2 d a;rw [hq] at c;cases c
theorem NT.store(r:NT hB X h hc){q:Nat}(hq:X q\/h q=none)(rB:hB q=none)(ho:∀b,b≠q->h' b=hc b)(hn:∃o,h' q=some o):NT hB X h h':=
 ⟨λb p o a c=>by
   have d:b≠q:=λe=>by
    subst e;rcases hq with hq | hq
    ·exact c hq
    ·rw [hq] at a;cases a
   rw [ho b d];exact r.keep b p o a c,
  r.base.upd rB ho,λb a=>by
   by_cases e:b=q
   ·subst e;exact hn
   ·rw [ho b e];exact r.dom b a⟩
theorem A1.app{v v':aV}(k:A1 X h hc)(g:G0 hc h' v v')(hv:∀b,Bu v=some b->X b):A1 X h h':=λb p o c a=>by
 obtain ⟨d,f,i⟩:=k b p o c a;exact ⟨d,g.1 b _ f λe=>a (hv b e),i⟩
theorem A1.store'{q:Nat}(k:A1 X h hc)(hq:X q\/h q=none)(ho:∀b,b≠q->h' b=hc b):A1 X h h':=λb p o a c=>by
 have d:b≠q:=λe=>by
  subst e;rcases hq with hq | hq
  ·exact c hq
  ·rw [hq] at a;cases a
 rw [ho b d];exact k b p o a c
theorem A1.le'(k:A1 X h hc)(l:hc.Le h'):A1 X h h':=k.trans (λ_ q=>.inl q) (l.keepX X)
end
def L.del(h:L)(r:Nat):L:=λb=>if b=r then none else h b
theorem L.del_le(h:L)(r:Nat):(h.del r).Le h:=λb p o a=>by
 unfold L.del at a;split at a
 ·cases a
 ·exact ⟨o,a,.inl rfl⟩
theorem L.del_none(h:L)(r:Nat):h.del r r=none:=aU rfl
theorem L.del_ne{h:L}{r b:Nat}(e:b≠r):h.del r b=h b:=aT e
theorem L.Le.del{h0 h:L}(l:h0.Le h){r:Nat}(hr:h0 r=none):h0.Le (h.del r):=λb p o a=>by
 rw [L.del_ne (L.ne_of a hr)];exact l b p o a
theorem AR.del{h:L}{r b off n:Nat}{vs:Array aV}(x:AR h b off n vs)(e:b≠r):AR (h.del r) b off n vs:=x.same (L.del_ne e)
theorem NU{W:Wk P}{x v:aV}{args:Array aV}{h:L}{R:aV->L->Prop}(e:x=v)(k:CG W v args h R):CG W x args h R:=e▸k
def JCol{U:Type}(hB:L)(r:Nat)(T t:aW)(n:Nat)(enc:U->Array aV)(pre:List U)(aN:Nat->Prop)(h:L):Prop:=
 ∃w,h r=some (true,.cells #[w] T (0,0))/\AM hB h w t n enc pre/\Bv w r/\hB r=none/\∀b,aN b↔b=r\/Bu w=some b
theorem AM.cellsAt{U:Type}{h0 h:L}{v:aV}{t:aW}{n:Nat}{enc:U->Array aV}{xs:List U}(x:AM h0 h v t n enc xs):∀b,Bu v=some b->∃c,h b=some (true,.cells c t (0,0)):=by
 intro b a;rcases x with ⟨rfl,_⟩ | ⟨f,d,c,rfl,g,e,_⟩
 ·cases a
 ·simp [Bu] at a;subst a;exact ⟨_,e⟩
theorem QJ{U:Type}(hB:L)(r:Nat)(T t:aW)(n:Nat)(enc:U->Array aV):G5 hB (JCol hB r T t n enc):=by
 refine ⟨?_,?_⟩
 ·rintro d k h b ⟨w,e,f,i,j,a⟩ g;rcases (a b).1 g with rfl | h5
  ·exact ⟨_,_,e,rfl⟩
  ·obtain ⟨c,l⟩:=f.cellsAt b h5;exact ⟨_,_,l,rfl⟩
 ·rintro d k h p ⟨w,e,f,i,j,a⟩ same q;refine ⟨w,by rw [same r ((a r).2 (.inl rfl))];exact e,f.keep λb o g m=>by rw [same b ((a b).2 (.inr g))];exact m,i,j,a⟩
theorem VQ{U:Type}{hB h:L}{r:Nat}{T t:aW}{n:Nat}{enc:U->Array aV}(x:h r=some (true,.cells #[.slice none 0 0] T (0,0)))(h0:hB r=none):JCol hB r T t n enc [] (λb=>b=r) h:=
 ⟨_,x,AM.nil _ _ _ _ _,Bv.nil,h0,λ_=>⟨.inl,λq=>q.elim id λe=>by cases e⟩⟩
theorem jcol_end{U:Type}{hB h h' ha hb:L}{r:Nat}{T t:aW}{n:Nat}{enc:U->Array aV}{pre:List U}{w w':aV}{aN:Nat->Prop}(hY:∀b,aN b↔b=r\/Bu w=some b)(g:G0 ha hb w w')(hn:∀q,ha q=none->h q=none)
  (x:h' r=some (true,.cells #[w'] T (0,0))) (o:AM hB h' w' t n enc pre) (f:Bv w' r) (h0:hB r=none) :
  ∃Y',(∀b,Y' b->aN b\/h b=none)/\JCol hB r T t n enc pre Y' h':=by
 refine ⟨λb=>b=r\/Bu w'=some b,?_,w',x,o,f,h0,λ_=>Iff.rfl⟩;rintro b (rfl | hb)
 ·exact .inl ((hY _).2 (.inl rfl))
 ·rcases g.2 with e | ⟨⟨q,a,c⟩,_⟩
  ·exact .inl ((hY _).2 (.inr (by rw [<-e];exact hb)))
  ·rw [a] at hb;cases hb;exact .inr (hn _ c)
theorem Ji{fn:Func}{O:Nat->aV}{R:aV->L->Prop}{d:Nat}{ds:List Deferred}{h:L}(hd:h d=some (true,.deferred (some [])))(x:∀h',(∀b,b≠d->h' b=h b)->FN P fn O R ds h') :
  FN P fn O R ({ target:=.collected d,args:=#[] } ::ds) h:=⟨d,rfl,_,hd,rfl,x _ λb a=>L.set_ne _ _ _ a⟩
end
end Go.Ns
namespace Go.Ns
open Go.Conc
section
variable {P:Program} {E:Fb P}
abbrev Fe:=(Nat->aV)->aV->L->Prop
def E8(Φ:List Fe)(k:Nat):Fe:=Φ.getD k λ_ _ _=>True
def OC(ops:List Oper)(Φ:List Fe)(O:Nat->aV)(h:L)(j:Nat):Prop:=match ops[j]? with
 | some o=>Cg ops o O->E8 Φ j O (Hu o O) h
 | none=>True
def Ge(ops:List Oper)(Φ:List Fe)(O:Nat->aV)(h:L):List Nat->Prop
 | []=>True
 | j ::l=>OC ops Φ O h j/\Ge ops Φ O h l
theorem Ge.get{ops:List Oper}{Φ:List Fe}{O:Nat->aV}{h:L}:∀{l:List Nat},(∀j ∈ l,OC ops Φ O h j)->Ge ops Φ O h l
 | [],_=>trivial
 | j ::l,x=>⟨x j aD,Ge.get λi a=>x i (by simp [a])⟩
def R9(l:List Oper)(n:Nat)(cls:List (List Nat))(Φ:List Fe):Prop:=
 ∀k i oi d,k<n->i<n->i≠k->i ∉ cls.getD k []->l[i]? =some oi->oi.dst=some d->∀O u v h,E8 Φ k O v h->E8 Φ k (upd O d u) v h
def St(R:L->L->Prop)(Pre:Nat->L->Prop)(Φ:List Fe)(cl:List Nat)(k:Nat)(h h':L):Prop:=R h h'/\(∀j,j≠k->∀O v,E8 Φ j O v h->E8 Φ j O v h')/\∀j,j≠k->j ∉ cl->Pre j h->Pre j h'
def XX(R:L->L->Prop)(Pre:Nat->L->Prop)(E:Fb P)(ops:List Oper)(n:Nat)(Φ:List Fe)(O:Nat->aV)(ds:List Deferred)(h:L)(k:Nat)(o:Oper)(cl:List Nat):Prop:=
 ∀σ' h',R h h'->(∀t,(C3 ops n).contains t=false->σ' t=O t)->Ge ops Φ σ' h' cl->Cg ops o σ'->Pre k h'->
  BK E o σ' ds h' λσ'' ds'' h''=>ds''=ds/\St R Pre Φ cl k h' h''/\∃v,σ''=putS σ' o.dst v/\E8 Φ k σ'' v h''/\(o.dst=none->v=undef)
def I6(R:L->L->Prop)(Pre:Nat->L->Prop)(E:Fb P)(ops:List Oper)(n:Nat)(Φ:List Fe)(O:Nat->aV)(ds:List Deferred)(h:L)(Q:Post):Nat->Nat->List Oper->List (List Nat)->Prop
 | 0,k,rest,_=>∀σ' h',R h h'->(∀t,(C3 ops n).contains t=false->σ' t=O t)->Ge ops Φ σ' h' (List.range k)->C5 E ops.toArray rest σ' ds h' Q
 | m+1,k,o ::rest,cl ::cls=>XX R Pre E ops n Φ O ds h k o cl/\I6 R Pre E ops n Φ O ds h Q m (k+1) rest cls
 | _,_,_,_=>False
theorem I6.at{R:L->L->Prop}{Pre:Nat->L->Prop}{ops:List Oper}{n:Nat}{Φ:List Fe}{O:Nat->aV}{ds:List Deferred}{h:L}{Q:Post}:∀(m k:Nat)(rest:List Oper)(cls:List (List Nat)),
  I6 R Pre E ops n Φ O ds h Q m k rest cls->(∀i o,i<m->rest[i]? =some o->XX R Pre E ops n Φ O ds h (k+i) o (cls.getD i []))/\
   (∀σ' h',R h h'->(∀t,(C3 ops n).contains t=false->σ' t=O t)->Ge ops Φ σ' h' (List.range (k+m))->C5 E ops.toArray (rest.drop m) σ' ds h' Q)
 | 0,k,rest,cls,x=>⟨λi o d=>Y,x⟩
 | m+1,k,[],cls,x=>by cases cls <;> exact x.elim
 | m+1,k,o ::rest,[],x=>x.elim
 | m+1,k,o ::rest,q ::cls,x=>by
  obtain ⟨e,f⟩:=x;obtain ⟨a,b⟩:=I6.at m (k+1) rest cls f;refine ⟨λi g d c=>?_,λσ' h' j l p=>?_⟩
  ·cases i with
   | zero=>simp at c;subst c;exact e
   | succ i=>have:=a i g Y (by simpa using c);rw [show k+(i+1)=k+1+i by omega];simpa using this
  ·rw [List.drop_succ_cons];exact b σ' h' j l (by rw [show k+1+m=k+(m+1) by omega];exact p)
structure TX(R:L->L->Prop)(Pre:Nat->L->Prop)(l:List Oper)(n:Nat)(cls:List (List Nat))(Φ:List Fe)(O:Nat->aV)(h:L)(D:Nat->Bool)(σ':Nat->aV)(h':L):Prop where
 le:R h h'
 base:∀t,(C3 l n).contains t=false->σ' t=O t
 lt:∀j,D j=true->j<n
 done:∀j,D j=true->OC l Φ σ' h' j
 clos:∀j,D j=true->∀i ∈ cls.getD j [],D i=true
 grd:∀j o,D j=true->l[j]? =some o->∀g w,o.guard=some (g,w)->D g=true
 pend:∀j,j<n->D j=false->Pre j h'
theorem TY(R:L->L->Prop){id:Nat}{l:List Oper}{O:Nat->aV}{ds:List Deferred}{h:L}{Q:Post}(n:Nat)(cls:List (List Nat))(Φ:List Fe)(Pre:Nat->L->Prop)
  (hm:P.follows .mixedOrders=true) (ok:Eg E.N l n cls=true) (rr:∀h,R h h) (rt:∀a b c,R a b->R b c->R a c) (p0:∀k,k<n->Pre k h) (ind:R9 l n cls Φ)
  (x:I6 R Pre E l n Φ O ds h Q n 0 l cls):Tr E (.region id l.toArray true) O ds h Q:=by
 obtain ⟨steps,fin⟩:=I6.at n 0 l cls x;simp only [Nat.zero_add] at steps fin;have X:=ok;unfold Eg at X;simp only [Bool.and_eq_true] at X;have nd:(C3 l n).Nodup:=of_decide_eq_true X.1.2;refine TC n cls (TX R Pre l n cls Φ O h) hm ok ⟨rr h,λ_ _=>rfl,λ_ q=>(by cases q),λ_ q=>(by cases q),λ_ q=>(by cases q),λ_ _ q=>(by cases q),λj T _=>p0 j T⟩ (λD σ' h' i o p t B ho hcl hgl=>?_) λD σ' h' p hall=>fin σ' h' p.le p.base (Ge.get λj T=>p.done j (hall j (List.mem_range.1 T)));have s:∀j,F8 D i j=if i=j then true else D j:=λ_=>rfl
 have next:∀(σ2:Nat->aV) (h2:L) (v:aV),σ2=putS σ' o.dst v->St R Pre Φ (cls.getD i []) i h' h2->(Cg l o σ2->E8 Φ i σ2 v h2)->(o.dst=none->v=undef)->TX R Pre l n cls Φ O h (F8 D i) σ2 h2:=by
  rintro σ2 h2 v rfl C F hun;have hkeep:∀j A e,j<n->j≠i->l[j]? =some A->A.dst=some e->putS σ' o.dst v e=σ' e:=λj A e T hji r he=>by
   cases H:o.dst with
   | none=>rfl
   | some d=>exact upd_ne σ' v (KJ (DS nd t T (λx=>hji x.symm) ho r H he))
  refine ⟨rt _ _ _ p.le C.1,λu hu=>?_,λj f=>?_,λj f=>?_,λj f q hq'=>?_,λj A f r g w W=>?_,λj T f=>?_⟩
  ·rw [<-p.base u hu];cases H:o.dst with
   | none=>rfl
   | some d=>exact upd_ne σ' v (KJ λe=>by rw [e,Nr t ho H] at hu;cases hu)
  ·rw [s] at f;by_cases m:i=j
   ·exact m▸t
   ·rw [aT m] at f;exact p.lt j f
  ·rw [s] at f;by_cases m:i=j
   ·subst m;unfold OC;rw [ho];intro W
    have:Hu o (putS σ' o.dst v)=v:=by
     cases H:o.dst with
     | none=>rw [hun H];simp [Hu,H]
     | some d=>simp [Hu,H,putS,upd]
    rw [this];exact F W
   ·rw [aT m] at f;have K:=p.done j f;unfold OC at K ⊢;cases r:l[j]? with
    | none=>trivial
    | some A=>
     rw [r] at K;simp only at K ⊢;intro W;have hg':Cg l A σ':=W.congr λg w og dg U hog hdg=>by
      have S:=p.grd j A f r g w U;exact hkeep g og dg (p.lt g S) (λe=>by rw [e,B] at S;cases S) hog hdg
     have hji:i ∉ cls.getD j []:=λq=>by rw [p.clos j f i q] at B;cases B
     have:=C.2.1 j (λe=>m e.symm) _ _ (K hg')
     have hsv:Hu A (putS σ' o.dst v)=Hu A σ':=by
      unfold Hu;cases hdj:A.dst with
      | none=>rfl
      | some e=>exact hkeep j A e (p.lt j f) (λx=>m x.symm) r hdj
     rw [hsv];cases H:o.dst with
     | none=>exact this
     | some d=>exact ind j i o d (p.lt j f) t m hji ho H σ' v _ h2 this
  ·rw [s] at f ⊢;split
   ·rfl
   ·rename_i hn
    by_cases m:i=j
    ·subst m;exact hcl q hq'
    ·rw [aT m] at f;exact p.clos j f q hq'
  ·rw [s] at f ⊢;split
   ·rfl
   ·by_cases m:i=j
    ·subst m;rw [ho] at r;cases r;exact hgl g w W
    ·rw [aT m] at f;exact p.grd j A f r g w W
  ·rw [s] at f;by_cases m:i=j
   ·rw [aU m] at f;cases f
   ·rw [aT m] at f;exact C.2.2 j (λe=>m e.symm) (λq=>by rw [hcl j q] at f;cases f) (p.pend j T f)
 refine ⟨λhG=>?_,λhnG=>?_⟩
 ·exact BK.mono (steps i o t ho σ' h' p.le p.base (Ge.get λj T=>p.done j (hcl j T)) hG (p.pend i t B)) λσ2 ds2 h2 y=>⟨y.1,by
   obtain ⟨_,C,v,hσ,F,hun⟩:=y;exact next σ2 h2 v hσ C (λ_=>F) hun⟩
 ·refine next _ _ undef rfl ⟨rr _,λ_ _ _ _ z=>z,λ_ _ _ z=>z⟩ (λW=>?_) λ_=>rfl;refine absurd (W.congr λg w og dg U hog hdg=>?_) hnG;cases H:o.dst with
  | none=>rfl
  | some d=>
   have hgi:g≠i:=λe=>by have:=hgl g w U;rw [e,B] at this;cases this
   exact upd_ne σ' undef (KJ (DS nd t (p.lt g (hgl g w U)) (λx=>hgi x.symm) ho hog H hdg))
def Dx(S:Nat->Prop)(h h':L):Prop:=A1 S h h'/\∀b,(∃o,h b=some o)->∃o,h' b=some o
theorem Dx.refl(S:Nat->Prop)(h:L):Dx S h h:=⟨A1.refl _ _,λ_ x=>x⟩
theorem Dx.trans{S:Nat->Prop}{a b c:L}(x:Dx S a b)(y:Dx S b c):Dx S a c:=⟨x.1.trans (λ_ q=>.inl q) y.1,λr q=>y.2 r (x.2 r q)⟩
theorem L.Le.keepD{h h':L}(l:h.Le h')(S:Nat->Prop):Dx S h h':=⟨l.keepX S,λ_ ⟨o,a⟩=>let ⟨o',h1,_⟩:=l _ o.1 o.2 a;⟨_,h1⟩⟩
theorem Dx.nothing{S:Nat->Prop}{h h':L}(k:Dx S h h'){r:Nat}(hr:h' r=none):h r=none:=by
 cases a:h r with
 | none=>rfl
 | some x=>obtain ⟨o,b⟩:=k.2 r ⟨x,a⟩;rw [b] at hr;cases hr
theorem Dx.grown{U:Type}{S:Nat->Prop}{h0 h h':L}{v v':aV}{t:aW}{n:Nat}{enc:U->Array aV}{xs:List U}(g:G0 h h' v v')(hv:∀b,Bu v=some b->S b)(o:AM h0 h' v' t n enc xs):Dx S h h':=
 ⟨λb p o c d=>⟨o,g.1 b _ c λe=>d (hv b e),.inl rfl⟩,λb ⟨x,a⟩=>by
  rcases g.2 with q | ⟨_,q⟩
  ·by_cases e:Bu v=some b
   ·exact o.inDom b (q.trans e)
   ·exact ⟨_,g.1 b x a e⟩
  ·exact ⟨_,q b x a⟩⟩
theorem AM.baseD{U:Type}{S:Nat->Prop}{h0 h00 h:L}{v:aV}{t:aW}{n:Nat}{enc:U->Array aV}{xs:List U}(x:AM h0 h v t n enc xs)(k:Dx S h00 h0):AM h00 h v t n enc xs:=by
 rcases x with x | ⟨b,a,c,d,e,f,g⟩
 ·exact .inl x
 ·exact .inr ⟨b,a,c,d,k.nothing e,f,g⟩
def Ds(R:L->L->Prop):List Fe->Prop
 | []=>True
 | φ ::l=>(∀O v h h',R h h'->φ O v h->φ O v h')/\Ds R l
theorem Ds.mono{R:L->L->Prop}:∀{Φ:List Fe},Ds R Φ->∀k O v h h',R h h'->E8 Φ k O v h->E8 Φ k O v h'
 | [],_,k,O,v,h,h',_,x=>by cases k <;> exact x
 | φ ::l,a,0,O,v,h,h',r,x=>a.1 O v h h' r x
 | φ ::l,a,k+1,O,v,h,h',r,x=>Ds.mono a.2 k O v h h' r x
theorem YC{S:Nat->Prop}{id:Nat}{l:List Oper}{O:Nat->aV}{ds:List Deferred}{h:L}{Q:Post}(n:Nat)(cls:List (List Nat))(Φ:List Fe)(Pre:Nat->L->Prop)
  (hm:P.follows .mixedOrders=true) (ok:Eg E.N l n cls=true) (p0:∀k,k<n->Pre k h) (ind:R9 l n cls Φ) (x:I6 (Dx S) Pre E l n Φ O ds h Q n 0 l cls):Tr E (.region id l.toArray true) O ds h Q:=
 TY (Dx S) n cls Φ Pre hm ok (λh=>Dx.refl S h) (λ_ _ _ x y=>x.trans y) p0 ind x
section
variable {Pre:Nat->L->Prop} {Φ:List Fe} {S:Nat->Prop} {k:Nat} {cl:List Nat} {h h':L}
theorem St.same:St (Dx S) Pre Φ cl k h h:=⟨Dx.refl _ _,λ_ _ _ _ z=>z,λ_ _ _ z=>z⟩
theorem St.ofLe(l:h.Le h')(m:Ds L.Le Φ)(pm:∀k h h',L.Le h h'->Pre k h->Pre k h'):St (Dx S) Pre Φ cl k h h':=⟨l.keepD S,λj _ O v z=>m.mono j O v h h' l z,λj _ _ z=>pm j h h' l z⟩
end
def QK(h0:L)(w v:aV):Prop:=Bu v=Bu w\/∃r,Bu v=some r/\h0 r=none
theorem Bv.fromB{h0:L}{w v:aV}(f:QK h0 w v){r:Nat}{o:Bool×Obj}(hr:h0 r=some o)(x:Bv w r):Bv v r:=λe=>by
 rcases f with q | ⟨b,a,c⟩
 ·exact x (q▸e)
 ·rw [a] at e;cases e;rw [c] at hr;cases hr
theorem QK.grown{h0 hk h':L}{S:Nat->Prop}{w v:aV}(g:G0 hk h' w v)(k:Dx S h0 hk):QK h0 w v:=by
 rcases g.2 with q | ⟨⟨r,a,b⟩,_⟩
 ·exact .inl q
 ·exact .inr ⟨r,a,k.nothing b⟩
theorem AM.apartTy{U β:Type}{h0 h1 h:L}{v w:aV}{t t':aW}{n n':Nat}{enc:U->Array aV}{enc':β->Array aV}{xs:List U}{ys:List β}(x:AM h0 h v t n enc xs)(y:AM h1 h w t' n' enc' ys)(ne:t≠t'):Apart v w:=λb e a=>by
 rcases x with ⟨rfl,_⟩ | ⟨f,_,g,rfl,_,d,_⟩
 ·cases e
 ·rcases y with ⟨rfl,_⟩ | ⟨i,_,j,rfl,_,c,_⟩
  ·cases a
  ·simp only [Bu,Option.some.injEq] at e a;subst e;subst a;rw [d] at c;simp only [Option.some.injEq,Prod.mk.injEq,Obj.cells.injEq] at c;exact ne c.2.2.1
theorem AM.apartNew{U β:Type}{h1 h h2:L}{v w:aV}{t t':aW}{n n':Nat}{enc:U->Array aV}{enc':β->Array aV}{xs:List U}{ys:List β}(x:AM h1 h2 w t n enc xs)(y:AM h2 h v t' n' enc' ys):Apart w v:=λb e c=>by
 obtain ⟨o,a⟩:=x.inDom b e;rw [y.fresh b c] at a;cases a
theorem A1.leBase{S:Nat->Prop}{hb h h':L}(k:A1 S h h')(l:hb.Le h)(hS:∀b,S b->hb b=none):hb.Le h':=λb p o a=>by
 obtain ⟨c,d,h2⟩:=l b p o a;obtain ⟨e,f,h4⟩:=k b p c d λq=>by rw [hS b q] at a;cases a
 refine ⟨e,f,?_⟩;rcases h2 with rfl | h2
 ·exact h4
 ·rcases h4 with rfl | h4
  ·exact .inr h2
  ·exact .inr ⟨h2.1,h4.2⟩
theorem AM.keepD{U:Type}{S:Nat->Prop}{h0 h h':L}{v:aV}{t:aW}{n:Nat}{enc:U->Array aV}{xs:List U}(x:AM h0 h v t n enc xs)(k:Dx S h h')(hS:∀b,Bu v=some b->¬S b):AM h0 h' v t n enc xs:=by
 rcases x with x | ⟨b,a,c,rfl,d,e,f⟩
 ·exact .inl x
 ·exact .inr ⟨b,a,c,rfl,d,k.1.box e (hS b rfl) rfl,f⟩
end
end Go.Ns
namespace Go.Ns
open Go.Conc
section
variable {P:Program} {E:Fb P} {O:Nat->aV} {ds:List Deferred} {h:L} {T:(Nat->aV)->List Deferred->L->Prop}
variable {dst:Option Nat} {ty:aW} {pos:String} {af:Array Edge} {gd:Option (Nat×Bool)}
def VR:aV->Bool
 | .slice none _ _=>true
 | _=>false
theorem YD{xt yt:aW}{x y:Operand}{a:Option Addr}{l c:Nat}(ht:IH P xt=true)(hx:AL O x=.slice a l c)(hy:AL O y=.slice none 0 0)(k:T (putS O dst (.bool (VR (.slice a l c)))) ds h) :
  BK E ⟨dst,.binOp .eql xt x y yt,ty,pos,af,gd⟩ O ds h T:=by
 unfold BK execOp;simp only [hx,hy];refine El (AC _ _ ?_);show Sem.gh P (do pure (Value.bool (<-Op.equal xt (.slice a l c) (.slice none 0 0))):Sem aV) h _;refine AC _ _ ?_;unfold Op.equal Op.maxDepth;show (Op.equalIn (9999+1) xt (.slice a l c) (.slice none 0 0)).gh P h _;unfold Op.equalIn;unfold IH at ht;cases b:P.underlying xt with
 | none=>rw [b] at ht;cases ht
 | some d=>
  rw [b] at ht;refine AC _ _ (Aa b ?_);cases d <;> first | (cases ht;done) | skip
  cases a with
  | none=>exact k
  | some a=>exact k
theorem OD{U:Type}{xt yt:aW}{x y:Operand}{v:aV}{n:Nat}{enc:U->Array aV}{xs:List U}(ht:IH P xt=true)(s:AE h v n enc xs)(hx:AL O x=v)(hy:AL O y=.slice none 0 0)(k:T (putS O dst (.bool (VR v))) ds h) :
  BK E ⟨dst,.binOp .eql xt x y yt,ty,pos,af,gd⟩ O ds h T:=by
 obtain ⟨a,b,rfl,_⟩:=s;exact YD ht hx hy k
theorem OE{U:Type}{v:aV}{n:Nat}{enc:U->Array aV}{xs:List U}(s:AE h v n enc xs)(e:VR v=true):xs=[]:=by
 obtain ⟨a,c,rfl,_,_,q⟩:=s;cases a with
 | some a=>cases e
 | none=>
  cases xs with
  | nil=>rfl
  | cons x xs=>obtain ⟨b,d,f,_⟩:=q 0 aD;cases f
theorem shr_eq{a:Int}{k:Nat}(h:k<=63):a.fdiv (2 ^ (min ((k:Int)).toNat IntKind.i64.bits))=a.fdiv (2 ^ k):=by
 have:min ((k:Int)).toNat IntKind.i64.bits=k:=by
  show min ((k:Int)).toNat 64=k;omega
 rw [this]
theorem shl_eq{k:Nat}(h:k<=60):IntKind.i64.wrap (1*2 ^ (min ((k:Int)).toNat IntKind.i64.bits))=2 ^ k:=by
 have:min ((k:Int)).toNat IntKind.i64.bits=k:=by
  show min ((k:Int)).toNat 64=k;omega
 rw [this,Int.one_mul];have a:(2:Int) ^ k<=2 ^ 60:=by
  have:=Nat.pow_le_pow_right (show 0<2 by decide) h
  exact_mod_cast this
 have b:(0:Int)<=2 ^ k:=by
  have:=Nat.zero_le (2 ^ k)
  exact_mod_cast this
 exact IntWalk.i64_in _ Y
end
theorem OF{a:Int}(h:0<=a/\a<=65535)(k:Nat):0<=a.fdiv (2 ^ k)/\a.fdiv (2 ^ k)<=65535:=by
 have b:(0:Int)<2 ^ k:=by
  have:=Nat.pow_pos (n:=k) (show 0<2 by decide)
  exact_mod_cast this
 rw [Int.fdiv_eq_ediv_of_nonneg _ (Int.le_of_lt b)];refine ⟨Int.ediv_nonneg h.1 (Int.le_of_lt b),Int.le_trans (Int.ediv_le_self _ h.1) h.2⟩
def G8(mask:Int)(k:Nat):Bool:=decide (mask.fdiv (2 ^ k)%2=1)
def Cd(cs:List AN)(mask:Int)(k:Nat):List AN:=((List.range k).filter (G8 mask)).map λ(i:Nat)=>cs.getD i AN.z
def BG(mask:Int)(k:Nat):List Int:=((List.range k).filter (G8 mask)).map λ(i:Nat)=>(i:Int)
theorem I7{p:Nat->Bool}{k:Nat}(h:p k=true):(List.range (k+1)).filter p=(List.range k).filter p++[k]:=by
 rw [List.range_succ,List.filter_append];simp [h]
theorem I8{p:Nat->Bool}{k:Nat}(h:p k=false):(List.range (k+1)).filter p=(List.range k).filter p:=by
 rw [List.range_succ,List.filter_append];simp [h]
theorem pickC_t{cs:List AN}{mask:Int}{k:Nat}(h:mask.fdiv (2 ^ k)%2=1):Cd cs mask (k+1)=Cd cs mask k++[cs.getD k AN.z]:=by
 unfold Cd;rw [I7 (by unfold G8;rw [decide_eq_true h]),List.map_append];rfl
theorem pickC_f{cs:List AN}{mask:Int}{k:Nat}(h:¬mask.fdiv (2 ^ k)%2=1):Cd cs mask (k+1)=Cd cs mask k:=by
 unfold Cd;rw [I8 (by unfold G8;rw [decide_eq_false h])]
theorem XY{mask:Int}{k:Nat}(h:mask.fdiv (2 ^ k)%2=1):BG mask (k+1)=BG mask k++[(k:Int)]:=by
 unfold BG;rw [I7 (by unfold G8;rw [decide_eq_true h]),List.map_append];rfl
theorem XZ{mask:Int}{k:Nat}(h:¬mask.fdiv (2 ^ k)%2=1):BG mask (k+1)=BG mask k:=by
 unfold BG;rw [I8 (by unfold G8;rw [decide_eq_false h])]
theorem QL(cs:List AN)(mask:Int)(k:Nat):(Cd cs mask k).length<=k:=by
 unfold Cd;rw [List.length_map]
 have:=List.length_filter_le (G8 mask) (List.range k)
 rwa [List.length_range] at this
theorem QM(mask:Int)(k:Nat):(BG mask k).length<=k:=by
 unfold BG;rw [List.length_map]
 have:=List.length_filter_le (G8 mask) (List.range k)
 rwa [List.length_range] at this
def SA(a b:Int):Int:=if a<b then-1 else if b<a then 1 else 0
def Jj(a b:List Int):Nat->Nat->Int
 | 0,_=>if (a.length:Int)<b.length then-1 else 0
 | f+1,k=>if (b.length:Int)<=k then 1 else if¬SA (a.getD k 0) (b.getD k 0)=0 then SA (a.getD k 0) (b.getD k 0) else Jj a b f (k+1)
def SB(a b:List Int):Int:=Jj a b a.length 0
theorem Mm{a b:List Int}{k:Nat}(hk:¬(k:Int)<a.length):Jj a b (a.length-k) k=if (a.length:Int)<b.length then-1 else 0:=by
 rw [show a.length-k=0 by omega];rfl
theorem KR{a b:List Int}{k:Nat}(hk:k<a.length):Jj a b (a.length-k) k=if (b.length:Int)<=k then 1 else if¬SA (a.getD k 0) (b.getD k 0)=0 then SA (a.getD k 0) (b.getD k 0) else Jj a b (a.length-(k+1)) (k+1):=by
 rw [show a.length-k=(a.length-(k+1))+1 by omega];rfl
def VS(a b:List Int):Bool:=decide ((a.length:Int)<b.length) || (decide ((a.length:Int)=b.length) && decide (SB a b<0))
abbrev Sl:=aV×List Int
def Sl.z:Sl:=(.slice none 0 0,[])
def OG(x:Sl):Array aV:=#[x.1]
def B2(h:L)(l:List Sl):Prop:=∀k,AE h (l.getD k Sl.z).1 1 eI (l.getD k Sl.z).2
theorem B2.le{h h':L}{l:List Sl}(x:B2 h l)(e:h.Le h'):B2 h' l:=λk=>(x k).le e
theorem B2.nil(h:L):B2 h []:=λk=>by
 rw [CM aD];exact AE.nil _ _ _
theorem B2.snoc{h:L}{l:List Sl}{x:Sl}(a:B2 h l)(b:AE h x.1 1 eI x.2):B2 h (l++[x]):=λk=>by
 rcases Nat.lt_trichotomy k l.length with q | q | q
 ·have e:(l++[x]).getD k Sl.z=l.getD k Sl.z:=by simp [List.getD_eq_getElem?_getD,List.getElem?_append_left q]
  rw [e];exact a k
 ·have e:(l++[x]).getD k Sl.z=x:=by subst q;simp [List.getD_eq_getElem?_getD]
  rw [e];exact b
 ·rw [CM (by simp;omega)];exact AE.nil _ _ _
def LC(x c:List Int):List Int:=if VS x c then x else c
def It(c:List Int)(l:List (List Int)):List Int:=l.foldl (λc x=>LC x c) c
def B4(l:List Sl):List (List Int):=l.map (·.2)
theorem E9{l:List Sl}{k:Nat}(hk:k<l.length):(B4 l).getD k []=(l.getD k Sl.z).2:=by
 unfold B4;rw [Ey [] (by simpa using hk),Ey Sl.z hk];simp
theorem OH{c:List Int}{l:List Sl}{k:Nat}(hk:k<l.length):It c ((B4 l).take (k+1))=LC (l.getD k Sl.z).2 (It c ((B4 l).take k)):=by
 rw [Hy [] (by simpa [B4] using hk),E9 hk];unfold It;rw [List.foldl_append];rfl
def DK(d:Int)(gs:List Good)(ms:List AD)(cs:List AN)(mo:Int):Bool:= !(AU d gs ms cs mo).isEmpty
theorem someB_t{d:Int}{gs:List Good}{ms:List AD}{cs:List AN}{mo:Int}(h:AU d gs ms cs mo≠[]):DK d gs ms cs mo=true:=by
 unfold DK;cases a:AU d gs ms cs mo with
 | nil=>exact absurd a h
 | cons _ _=>rfl
theorem someB_f{d:Int}{gs:List Good}{ms:List AD}{cs:List AN}{mo:Int}(h:AU d gs ms cs mo=[]):DK d gs ms cs mo=false:=by
 unfold DK;rw [h];rfl
def JFlag{U:Type}(hB:L)(r:Nat)(T:aW)(pre:List U)(aN:Nat->Prop)(h:L):Prop:=pre=[]/\h r=some (true,.cells #[.bool false] T (0,0))/\hB r=none/\∀b,aN b↔b=r
def SFlag{U:Type}(r:Nat)(T:aW)(all:List U)(c:Code)(h:L):Prop:=c=.ret/\h r=some (true,.cells #[.bool true] T (0,0))/\all≠[]
theorem OI{U:Type}(hB:L)(r:Nat)(T:aW):G5 hB (JFlag (U:=U) hB r T):=by
 refine ⟨?_,?_⟩
 ·rintro c f h b ⟨_,d,_,a⟩ e;rw [a] at e;subst e;exact ⟨_,_,d,rfl⟩
 ·rintro c f h j ⟨g,d,i,a⟩ same _;exact ⟨g,(same r ((a r).2 rfl)).trans d,i,a⟩
theorem TZ{U:Type}{hB h:L}{r:Nat}{T:aW}(nr:hB r=none)(x:h r=some (true,.cells #[.bool false] T (0,0))):JFlag (U:=U) hB r T [] (λb=>b=r) h:=⟨rfl,x,nr,λ_=>Iff.rfl⟩
theorem SC{U:Type}{r:Nat}{T:aW}{all:List U}:∀c (h h':L) l lo,SFlag r T all c h->h l=some (true,.loop lo)->(∀b,b≠l->h' b=h b)->SFlag r T all c h':=by
 rintro c h h' l lo ⟨f,a,g⟩ d i;exact ⟨f,(i _ λe=>by subst e;rw [a] at d;cases d).trans a,g⟩
end Go.Ns
namespace Go.Ns
open Go.Conc
abbrev Key:=Int×Int×Int
def Jy(a:Key):aV:=.agg #[.int .i64 a.1,.int .i64 a.2.1,.int .i64 a.2.2]
def EO(n:Int):aV:=.int .i64 n
def Af(ms:List AD)(pasts:List AV)(r:Nat)(h:L):Prop:=
 ∃aQ:Key->Option Int,EX h r Jy EO aQ/\∀a v,aQ a=some v->v=(AP ms (pasts.getD a.1.toNat AV.zero) a.2.1 a.2.2).1
theorem Af.same{ms:List AD}{pasts:List AV}{r:Nat}{h h':L}(x:Af ms pasts r h)(e:h' r=h r):Af ms pasts r h':=by
 obtain ⟨a,b,c⟩:=x;exact ⟨a,b.le_other e,c⟩
theorem Af.known{ms:List AD}{pasts:List AV}{r:Nat}{h:L}(x:Af ms pasts r h):∃o,h r=some (true,o):=by
 obtain ⟨c,⟨d,a,b,_⟩,_⟩:=x;exact ⟨_,b⟩
structure CJ(hB:L)(ms:List AD)(pasts:List AV)(r:Nat)(h hc:L):Prop where
 ok:Af ms pasts r hc
 keep:A1 (λb=>b=r) h hc
 base:hB.Le hc
def Iw(hB:L)(ms:List AD)(pasts:List AV)(r:Nat)(h h':L):Prop:=Af ms pasts r h'/\A1 (λb=>b=r) h h'/\hB.Le h'
section
variable {hB h hc h':L} {ms:List AD} {pasts:List AV} {r:Nat}
theorem CJ.start(x:Af ms pasts r h)(l:hB.Le h):CJ hB ms pasts r h h:=⟨x,A1.refl _ _,l⟩
theorem CJ.le(y:CJ hB ms pasts r h hc)(l:hc.Le h'):CJ hB ms pasts r h h':=by
 obtain ⟨o,a⟩:=y.ok.known;exact ⟨y.ok.same ((l.keep a rfl).trans a.symm),y.keep.trans (λ_ q=>.inl q) (l.keepX _),y.base.trans l⟩
theorem CJ.store(y:CJ hB ms pasts r h hc){q:Nat}(hq:h q=none)(qB:hB q=none)(hn:q≠r)(ho:∀b,b≠q->h' b=hc b):CJ hB ms pasts r h h':=
 ⟨y.ok.same (ho r (Ne.symm hn)),y.keep.store hq ho,y.base.upd qB ho⟩
theorem CJ.app{v v':aV}(y:CJ hB ms pasts r h hc)(g:G0 hc h' v v')(f:Bv v r)(hv:∀b,Bu v=some b->h b=none)(hvB:∀b,Bu v=some b->hB b=none):CJ hB ms pasts r h h':=by
 obtain ⟨o,c⟩:=y.ok.known;refine ⟨y.ok.same ((g.1 r _ c f).trans c.symm),λb p o a d=>?_,L.Le.grown g y.base hvB⟩;obtain ⟨i,j,k⟩:=y.keep b p o a d;exact ⟨i,g.1 b _ j (λe=>by rw [hv b e] at a;cases a),k⟩
theorem CJ.call(y:CJ hB ms pasts r h hc)(m:Iw hB ms pasts r hc h'):CJ hB ms pasts r h h':=⟨m.1,y.keep.trans (λ_ q=>.inl q) m.2.1,m.2.2⟩
theorem CJ.ne(y:CJ hB ms pasts r h hc){q:Nat}(hq:hc q=none):q≠r:=λe=>by
 obtain ⟨o,a⟩:=y.ok.known;rw [e,a] at hq;cases hq
theorem CJ.res(y:CJ hB ms pasts r h hc):Iw hB ms pasts r h hc:=⟨y.ok,y.keep,y.base⟩
end
theorem Key.eq_iff(a b:Key):(a.1==b.1 && (a.2.1==b.2.1 && (a.2.2==b.2.2 && true)))=decide (a=b):=by
 obtain ⟨c,d,e⟩:=a;obtain ⟨f,g,h⟩:=b;simp only [Bool.and_true,Prod.mk.injEq];by_cases i:c=f <;> by_cases j:d=g <;> by_cases k:e=h <;> simp [i,j,k]
section
variable {P:Program} {E:Fb P} {O:Nat->aV} {ds:List Deferred} {h:L} {T:(Nat->aV)->List Deferred->L->Prop}
variable {dst:Option Nat} {ty:aW} {pos:String} {af:Array Edge} {gd:Option (Nat×Bool)}
theorem SD{t kt vt:aW}{x ix:Operand}{r d:Nat}{ms:List AD}{pasts:List AV}{i g dy:Int}(ht:Hw P t=some (kt,vt))(hx:AL O x=.map (some r))(hk:AL O ix=.agg #[.int .i64 i,.int .i64 g,.int .i64 dy])(hm:Af ms pasts r h)(hd:Nat.ble (d+1) 10000=true)
  (hc:∀a,VE P (d+1) kt (Jy a)=true) (he:∀a b,Mh P (d+1) kt (Jy a) (Jy b)=some (a.1==b.1 && (a.2.1==b.2.1 && (a.2.2==b.2.2 && true)))) (hz:(P.info? vt).bind (·.zero)=some (.int .i64 0))
  (k:∀(n:Int)(is:Bool),(is=true->n=(AP ms (pasts.getD i.toNat AV.zero) g dy).1)->T (putS O dst (.tuple #[.int .i64 n,.bool is])) ds h):BK E ⟨dst,.lookup t x ix true,ty,pos,af,gd⟩ O ds h T:=by
 obtain ⟨c,f,j⟩:=hm;refine L5 (a:=(i,g,dy)) (z:=.int .i64 0) ht hx hk f hd (hc _) (λb=>by rw [he,Key.eq_iff]) hz ?_;cases l:c (i,g,dy) with
 | none=>exact k 0 false (by intro e;cases e)
 | some v=>exact k v true λ_=>j _ _ l
theorem Ta{t kt vt:aW}{om ok ox:Operand}{r d:Nat}{ms:List AD}{pasts:List AV}{i g dy n:Int}(ht:Hw P t=some (kt,vt))(hm':AL O om=.map (some r))(hk:AL O ok=.agg #[.int .i64 i,.int .i64 g,.int .i64 dy])(hv:AL O ox=.int .i64 n)(hm:Af ms pasts r h)(hd:Nat.ble (d+1) 10000=true)
  (hc:∀a,VE P (d+1) kt (Jy a)=true) (he:∀a b,Mh P (d+1) kt (Jy a) (Jy b)=some (a.1==b.1 && (a.2.1==b.2.1 && (a.2.2==b.2.2 && true)))) (hs:∀a,Instr.sameBits 10000 (Jy a) (Jy a)=true) (hn:n=(AP ms (pasts.getD i.toNat AV.zero) g dy).1)
  (k:∀h',Af ms pasts r h'->(∀b,b≠r->h' b=h b)->T (putS O dst undef) ds h'):BK E ⟨dst,.mapUpdate t om ok ox,ty,pos,af,gd⟩ O ds h T:=by
 obtain ⟨o,f,j⟩:=hm;refine IL (a:=(i,g,dy)) (v:=n) (ek:=Jy) (ev:=EO) ht hm' hk hv f hd (hc _) (λb=>by rw [he,Key.eq_iff]) (hs _) λh' l m=>k h' ⟨_,l,λa v c=>?_⟩ m;by_cases e:a=(i,g,dy)
 ·subst e;rw [aU rfl] at c;cases c;exact hn
 ·rw [aT e] at c;exact j a v c
end
section
variable {hB h hc h':L} {ms:List AD} {pasts:List AV} {r:Nat}
theorem CJ.nothing(y:CJ hB ms pasts r h hc){q:Nat}(hq:hc q=none):h q=none:=by
 cases a:h q with
 | none=>rfl
 | some x=>
  obtain ⟨c,b,_⟩:=y.keep q x.1 x.2 a (y.ne hq);rw [b] at hq;cases hq
theorem Af.le(x:Af ms pasts r h)(l:h.Le h'):Af ms pasts r h':=by
 obtain ⟨o,a⟩:=x.known;exact x.same ((l.keep a rfl).trans a.symm)
theorem Af.empty(x:h r=some (true,.map #[] 0)):Af ms pasts r h:=⟨λ_=>none,EX.empty x,λa v e=>by cases e⟩
theorem Af.neCells{b:Nat}{p:Bool}{c:Array aV}{t:aW}{z:Nat×Nat}(x:Af ms pasts r h)(hb:h b=some (p,.cells c t z)):b≠r:=λe=>by
 obtain ⟨f,⟨g,a,d,_⟩,_⟩:=x;rw [e,d] at hb;cases hb
theorem AM.keepX{U:Type}{X:Nat->Prop}{h0:L}{v:aV}{t:aW}{n:Nat}{enc:U->Array aV}{xs:List U}(x:AM h0 h v t n enc xs)(k:A1 X h h')(hS:∀b,Bu v=some b->¬X b):AM h0 h' v t n enc xs:=by
 rcases x with x | ⟨b,a,c,rfl,d,e,f⟩
 ·exact .inl x
 ·exact .inr ⟨b,a,c,rfl,d,k.box e (hS b rfl) rfl,f⟩
theorem AE.slDel{U:Type}{v:aV}{n:Nat}{enc:U->Array aV}{xs:List U}(x:AE h v n enc xs){p:Bool}{es:Array MapEntry}{clk:Nat}(hr:h r=some (p,.map es clk)):AE (h.del r) v n enc xs:=by
 obtain ⟨a,d,l,hc,m,o⟩:=x;refine ⟨a,d,l,hc,m,λi q=>?_⟩;obtain ⟨b,g,s,j⟩:=o i q;refine ⟨b,g,s,j.del λe=>?_⟩;obtain ⟨u,c,t,f,k,_⟩:=j;rw [e,hr] at k;cases k
theorem Af.slDel{U:Type}(k:Af ms pasts r h){v:aV}{n:Nat}{enc:U->Array aV}{xs:List U}(x:AE h v n enc xs):AE (h.del r) v n enc xs:=by
 obtain ⟨c,⟨d,a,b,_⟩,_⟩:=k;exact x.slDel b
end
section
variable {P:Program} {E:Fb P} {O:Nat->aV} {ds:List Deferred} {h:L}
end
theorem SE(a:Key):Instr.sameBits 10000 (Jy a) (Jy a)=true:=by
 have b:∀(n:Nat)(x:Int),Instr.sameBits n (.int .i64 x) (.int .i64 x)=true:=λn x=>by
  cases n <;> (unfold Instr.sameBits;simp)
 unfold Jy;show Instr.sameBits (9999+1) _ _=true;unfold Instr.sameBits;simp only [List.zip_cons_cons,List.zip_nil_left,List.all_cons,List.all_nil,b];simp
def Am(d m:Int)(gs:List Good)(ms:List AD)(cs:List AN)(o:List Int):Int:=
 if¬An d m gs ms cs=0 then An d m gs ms cs else if¬D9 (λk=>o.getD k 0) 0 o.length=0 then D9 (λk=>o.getD k 0) 0 o.length else if (AU d gs ms cs m).length=0 then 9 else 0
section
variable {d m:Int} {gs:List Good} {ms:List AD} {cs:List AN} {o:List Int}
theorem OJ(h:¬An d m gs ms cs=0):Am d m gs ms cs o=An d m gs ms cs:=by unfold Am;rw [aU h]
theorem OK(h:¬¬An d m gs ms cs=0){k:Nat}(hs:∀j,j<k->o.getD j 0=0)(hk:k<o.length)(h2:¬o.getD k 0=0):Am d m gs ms cs o=o.getD k 0:=by
 unfold Am;rw [aT h,CH (f:=λk=>o.getD k 0) hs hk rfl h2,aU h2]
theorem OL(h:¬¬An d m gs ms cs=0){k:Nat}(hs:∀j,j<k->o.getD j 0=0)(hk:o.length<=k)(h2:(AU d gs ms cs m).length=0):Am d m gs ms cs o=9:=by
 unfold Am;rw [aT h,DZ (f:=λk=>o.getD k 0) hs hk,aT aD,aU h2]
theorem OM(h:¬¬An d m gs ms cs=0){k:Nat}(hs:∀j,j<k->o.getD j 0=0)(hk:o.length<=k)(h2:¬(AU d gs ms cs m).length=0):Am d m gs ms cs o=0:=by
 unfold Am;rw [aT h,DZ (f:=λk=>o.getD k 0) hs hk,aT aD,aT h2]
theorem D4(h:Am d m gs ms cs o=0):Bt d m gs ms cs/\(∀k,k<o.length->o.getD k 0=0)/\0<(AU d gs ms cs m).length:=by
 unfold Am at h;split at h <;> first | (rename_i q;exact absurd h q) | skip
 split at h <;> first | (rename_i q;exact absurd h q) | skip
 split at h <;> first | (cases h;done) | skip
 rename_i a b c
 exact ⟨I5 (Decidable.not_not.1 a),λk e=>FE (Decidable.not_not.1 b) k (Nat.zero_le _) Y,Y⟩
end
end Go.Ns
namespace Go.Ns
open Go.Conc Go.Sort
def BY(rest:List aV)(d:Array Int):Array aV:=(d.toList.map (λx=>Value.int .i64 x)++rest).toArray
theorem A7(rest:List aV)(d:Array Int):(BY rest d).size=d.size+rest.length:=by simp [BY]
theorem Aj{rest:List aV}{d:Array Int}{i:Nat}(h:i<d.size):(BY rest d)[0+i*1]? =some (.int .i64 d[i]!):=by
 have a:i<(d.toList.map (λx=>Value.int .i64 x)).length:=by simpa using h
 rw [Nat.zero_add,Nat.mul_one];unfold BY;rw [List.getElem?_toArray,List.getElem?_append_left a,List.getElem?_map];simp [h,getElem!_pos]
theorem BZ{rest:List aV}{d:Array Int}{i:Nat}{v:Int}(h:i<d.size):BD (BY rest d) (0+i*1) [.int .i64 v]=BY rest (d.setIfInBounds i v):=by
 rw [Nat.zero_add,Nat.mul_one];show (BY rest d).setIfInBounds i (.int .i64 v)=_;unfold BY;apply Array.toList_inj.1;have a:i<(d.toList.map (λx=>Value.int .i64 x)).length:=by simpa using h
 rw [Array.toList_setIfInBounds];simp only [];rw [List.set_append_left _ _ a,Array.toList_setIfInBounds,List.map_set]
structure Ac(b:Nat)(h hc:L):Prop where
 keep:A1 (λx=>x=b) h hc
 dom:∃o,hc b=some o
section
variable {b:Nat} {h hc h':L}
theorem Ac.start(x:∃o,h b=some o):Ac b h h:=⟨A1.refl _ _,x⟩
theorem Ac.le(y:Ac b h hc)(l:hc.Le h'):Ac b h h':=⟨y.keep.trans (λ_ q=>.inl q) (l.keepX _),l.someOf y.dom⟩
theorem Ac.put(y:Ac b h hc)(ho:∀x,x≠b->h' x=hc x)(x:∃o,h' b=some o):Ac b h h':=⟨y.keep.store' (.inl rfl) ho,x⟩
theorem Ac.ne(y:Ac b h hc){q:Nat}(hq:hc q=none):q≠b:=λe=>by
 obtain ⟨o,a⟩:=y.dom;rw [e,a] at hq;cases hq
theorem Ac.nothing(y:Ac b h hc){q:Nat}(hq:hc q=none):h q=none:=by
 cases a:h q with
 | none=>rfl
 | some x=>
  obtain ⟨d,c,_⟩:=y.keep q x.1 x.2 a (y.ne hq);rw [c] at hq;cases hq
theorem Ac.store(y:Ac b h hc){q:Nat}(hq:h q=none)(hn:q≠b)(ho:∀x,x≠q->h' x=hc x):Ac b h h':=⟨y.keep.store hq ho,by rw [ho b (Ne.symm hn)];exact y.dom⟩
theorem Ac.call(y:Ac b h hc)(k:A1 (λx=>x=b) hc h')(x:∃o,h' b=some o):Ac b h h':=⟨y.keep.trans (λ_ q=>.inl q) k,x⟩
end
def GB(d:Array Int)(off:Nat):Array Int:=(d.toList.take off++List.replicate (d.size-off) 0).toArray
theorem Ph(d:Array Int)(off:Nat):(GB d off).size=d.size:=by simp [GB];omega
theorem YE{a j:Nat}{dd:Array Int}(h:(a:Int)<(j:Int)/\dd[j]! <dd[((j:Int)-1).toNat]!) :
  insInner ltInt a j dd=insInner ltInt a (j-1) ((dd.setIfInBounds j dd[((j:Int)-1).toNat]!).setIfInBounds ((j:Int)-1).toNat dd[j]!):=by
 obtain ⟨c,b⟩:=h;cases j with
 | zero=>omega
 | succ j=>
  have e:(((j+1:Nat):Int)-1).toNat=j:=Y
  rw [e] at b ⊢
  conv=>lhs;unfold insInner
  rw [aU (by unfold ltInt;simp;exact ⟨Y,b⟩)];rfl
theorem ins_stop{a j:Nat}{dd:Array Int}(h:¬((a:Int)<(j:Int)/\dd[j]! <dd[((j:Int)-1).toNat]!)):insInner ltInt a j dd=dd:=by
 cases j with
 | zero=>rfl
 | succ j=>
  have e:(((j+1:Nat):Int)-1).toNat=j:=Y
  rw [e] at h;unfold insInner;rw [aT (by unfold ltInt;simp;intro q;exact Int.not_lt.1 λr=>h ⟨Y,r⟩)]
theorem Pi{a b i:Nat}{dd:Array Int}(h:i<b):insOuter ltInt a b i dd=insOuter ltInt a b (i+1) (insInner ltInt a i dd):=by
 conv=>lhs;unfold insOuter
 rw [aU h]
theorem SF{a b i:Nat}{dd:Array Int}(h:¬(i:Int)<b):insOuter ltInt a b i dd=dd:=by
 unfold insOuter;rw [aT Y]
def I9(l:List Int):List Int:=(Go.Sort.sort ltInt l.toArray).toList
theorem HY{a r:Int}{k:Nat}(h:k<=63)(e:a / 2 ^ k=r):a.fdiv (2 ^ (min ((k:Int)).toNat IntKind.u64.bits))=r:=by
 have:min ((k:Int)).toNat IntKind.u64.bits=k:=by
  show min ((k:Int)).toNat 64=k;omega
 have b:(0:Int)<=2 ^ k:=by
  have:=Nat.zero_le (2 ^ k)
  exact_mod_cast this
 rw [this,Int.fdiv_eq_ediv_of_nonneg _ b,e]
section
variable {P:Program} {E:Fb P} {O:Nat->aV} {ds:List Deferred} {h:L} {T:(Nat->aV)->List Deferred->L->Prop}
variable {dst:Option Nat} {ty:aW} {pos:String} {af:Array Edge} {gd:Option (Nat×Bool)}
end
theorem Xa(l:List Int):Cw eI l=l.map (λx=>Value.int .i64 x):=by
 induction l with
 | nil=>rfl
 | cons x l a=>show (eI x).toList++Cw eI l=_;rw [a];rfl
theorem AM.row{h0 h:L}{v:aV}{xs:List Int}(x:AM h0 h v 3 1 eI xs)(hne:xs≠[]) :
  ∃b cap rest,v=.slice (some ⟨b,0,none⟩) xs.toArray.size cap/\h b=some (true,.cells (BY rest xs.toArray) 3 (0,0)):=by
 rcases x with ⟨_,e⟩ | ⟨b,cap,c,rfl,f,a,g,i,j,d,k⟩
 ·exact absurd e hne
 ·refine ⟨b,cap,c.toList.drop xs.length,aD,?_⟩;have e:c=BY (c.toList.drop xs.length) xs.toArray:=by
   apply Array.toList_inj.1;unfold BY;simp only [];rw [<-Xa,<-d,Nat.mul_one,List.take_append_drop]
  rw [<-e];exact a
theorem AM.ofRow{h0 h h':L}{b cap:Nat}{rest:List aV}{xs:List Int}{D:Array Int}(x:AM h0 h (.slice (some ⟨b,0,none⟩) xs.toArray.size cap) 3 1 eI xs)(hne:xs≠[])(hD:D.size=xs.length)(hb:h b=some (true,.cells (BY rest xs.toArray) 3 (0,0)))(hb':h' b=some (true,.cells (BY rest D) 3 (0,0))) :
  AM h0 h' (.slice (some ⟨b,0,none⟩) xs.toArray.size cap) 3 1 eI D.toList:=by
 rcases x with ⟨e,_⟩ | ⟨k,g,c,e,j,a,i,l,m,n,o⟩
 ·cases e
 ·simp only [Value.slice.injEq,Option.some.injEq,Addr.mk.injEq] at e;obtain ⟨⟨rfl,_⟩,_,rfl⟩:=e;rw [hb] at a;simp only [Option.some.injEq,Prod.mk.injEq,Obj.cells.injEq,true_and,and_true] at a;subst a;have d:D.toList.length=xs.length:=by rw [Array.length_toList];exact hD
  refine .inr ⟨b,cap,_,by rw [d];simp,j,hb',?_,Y,Y,?_,λy _=>rfl⟩
  ·rw [A7] at i ⊢;rw [hD];simpa using i
  ·unfold BY;simp only [Nat.mul_one];rw [Xa,<-List.length_map (f:=λx=>Value.int .i64 x),List.take_append_of_le_length (Nat.le_refl _),List.take_length]
theorem A1.grownSame{h h':L}{b cap n:Nat}(k:A1 (λx=>x=b) h h'):G0 h h' (.slice (some ⟨b,0,none⟩) n cap) (.slice (some ⟨b,0,none⟩) n cap):=
 ⟨λr o a c=>(by
  obtain ⟨g,d,rfl | ⟨f,_⟩⟩:=k r o.1 o.2 a (λe=>c (by rw [e];rfl))
  ·exact d
  ·cases f),.inl rfl⟩
section
variable {P:Program} {E:Fb P} {O:Nat->aV} {ds:List Deferred} {h:L} {T:(Nat->aV)->List Deferred->L->Prop}
variable {dst:Option Nat} {ty:aW} {pos:String} {af:Array Edge} {gd:Option (Nat×Bool)}
theorem VT{t:aW}{x o:Operand}{b len cap hi:Nat}(ht:DX P t=some 1)(hc:len<=cap)(hx:AL O x=.slice (some ⟨b,0,none⟩) len cap)(ho:∃kd,AL O o=.int kd hi)(h2:hi<=len)(k:T (putS O dst (.slice (some ⟨b,0,none⟩) hi cap)) ds h) :
  BK E ⟨dst,.slice t x none (some o) none,ty,pos,af,gd⟩ O ds h T:=by
 refine Jc (olo:=none) (ohi:=some o) 0 hi ht hc hx rfl ho (Nat.zero_le _) h2 ?_;have e:(if cap=0 then (some ⟨b,0,none⟩:Option Addr) else (some ⟨b,0,none⟩:Option Addr).map (·.add (0*1)))=some ⟨b,0,none⟩:=by
  split
  ·rfl
  ·simp [Hk]
 rw [e];exact k
theorem LD{t:aW}{x o:Operand}{b len cap lo:Nat}(ht:DX P t=some 1)(hc:len<=cap)(hx:AL O x=.slice (some ⟨b,0,none⟩) len cap)(ho:∃kd,AL O o=.int kd lo)(h2:lo<len)(k:T (putS O dst (.slice (some ⟨b,lo,none⟩) (len-lo) (cap-lo))) ds h) :
  BK E ⟨dst,.slice t x (some o) none none,ty,pos,af,gd⟩ O ds h T:=by
 refine Jc (olo:=some o) (ohi:=none) lo len ht hc hx ho rfl (Nat.le_of_lt h2) (Nat.le_refl _) ?_;have e:(if cap=lo then (some ⟨b,0,none⟩:Option Addr) else (some ⟨b,0,none⟩:Option Addr).map (·.add (lo*1)))=some ⟨b,lo,none⟩:=by
  rw [aT Y];simp [Hk]
 rw [e];exact k
theorem Tb{t e:aW}{x:Operand}{b off len cap:Nat}{rest:List aV}{d:Array Int}{z:Nat}(ht:Dr P t=some (1,#[.int .i64 0],e))(hx:AL O x=.slice (some ⟨b,off,none⟩) len cap)(hb:h b=some (true,.cells (BY rest d) z (0,0)))(hn:off+len=d.size)(hl:0<len)
  (k:∀h',h' b=some (true,.cells (BY rest (GB d off)) z (0,0))->(∀x,x≠b->h' x=h x)->T (putS O dst (.tuple #[])) ds h') :
  BK E ⟨dst,.call ⟨.builtin .clear,#[x],#[t]⟩,ty,pos,af,gd⟩ O ds h T:=by
 refine E6 (vs:=#[.slice (some ⟨b,off,none⟩) len cap]) (s:=Builtin.clear_ #[t] ty #[.slice (some ⟨b,off,none⟩) len cap]) (by simp [hx]) (λ_=>rfl) ?_;unfold Dr at ht;cases l:P.underlying t with
 | none=>rw [l] at ht;cases ht
 | some r=>
 rw [l] at ht;cases r <;> first | (cases ht;done) | skip
 rename_i j
 simp only at ht;cases f:Bh P j with
 | none=>rw [f] at ht;cases ht
 | some g=>
 cases c:BT P j with
 | none=>rw [f,c] at ht;cases ht
 | some B=>
 rw [f,c] at ht;simp only [Option.some.injEq,Prod.mk.injEq] at ht;obtain ⟨_,rfl,rfl⟩:=ht;unfold Builtin.clear_;simp only [List.getElem?_toArray,List.getElem?_cons_zero];refine AC _ _ (Aa l ?_);obtain ⟨len,rfl⟩:∃m,len=m+1:=⟨len-1,Y⟩;have hzero:∀{Q:aV->L->Prop}{h:L},(∀v,v.cells=#[.int .i64 0]->Q v h)->(zeroValue j).gh P h Q:=λ{Q h} q=>by
  unfold BT at c;unfold zeroValue;cases n:P.info? j with
  | none=>rw [n] at c;cases c
  | some i=>
   rw [n] at c;simp only [Option.map_eq_some_iff] at c;obtain ⟨v,u,e⟩:=c;refine AC _ _ (CE n ?_);rw [u];exact q v e
 refine AC _ _ (hzero λvz o=>?_);rw [o];have hcells:(Builtin.zeroCells #[.int .i64 0] (len+1)).toList=List.replicate (len+1) (.int .i64 0):=by
  unfold Builtin.zeroCells;apply List.ext_getElem
  ·simp
  ·intro i p C;simp [Nat.mod_one]
 rw [hcells];have w:d.size=d.toList.length:=aD
 refine AC _ _ (F1 (a:=⟨b,off,none⟩) rfl _ 0 (BY rest d) h ?_ hb ?_ ?_)
 ·intro y A;rw [List.eq_of_mem_replicate A];rfl
 ·rw [A7,List.length_replicate];show off+0+(len+1)<=_;omega
 ·refine Ah (k _ ?_ λx hx=>L.set_ne _ _ _ hx);have e:BD (BY rest d) (off+0) (List.replicate (len+1) (.int .i64 0))=BY rest (GB d off):=by
   apply Array.toList_inj.1;rw [DT _ _ _ (by rw [A7,List.length_replicate];omega)];unfold BY GB;simp only [List.length_replicate,Nat.add_zero,List.map_append,List.map_take,List.map_replicate];have p:off<=(d.toList.map (λx=>Value.int .i64 x)).length:=by simp;omega
   rw [List.take_append_of_le_length p,show d.size-off=len+1 by omega];congr 1;rw [show off+(len+1)=(d.toList.map (λx=>Value.int .i64 x)).length by simp;omega,List.drop_left]
  rw [<-e];exact L.set_same _ _ _ _
end
def Iu(acc:List Int)(x:Int):List Int:=if acc.getLast? =some x then acc else acc++[x]
def DC(l:List Int):List Int:=l.foldl Iu []
theorem ON(acc:List Int)(x:Int):(Iu acc x).getLast? =some x:=by
 unfold Iu;split
 ·assumption
 ·simp
theorem G9{d:Array Int}{j:Nat}(hj:j<d.size):DC (d.toList.take (j+1))=Iu (DC (d.toList.take j)) d[j]! :=by
 have e:d.toList.take (j+1)=d.toList.take j++[d[j]!]:=by
  rw [List.take_succ_eq_append_getElem (by simpa using hj)];simp [getElem!_pos,hj]
 rw [e];unfold DC;rw [List.foldl_append];rfl
theorem VU{d:Array Int}{j:Nat}(hj:j<d.size):(DC (d.toList.take (j+1))).getLast? =some d[j]! :=by
 rw [G9 hj];exact ON _ _
theorem L7{rest:List aV}{d:Array Int}{o i:Nat}(h:o+i<d.size):(BY rest d)[o+i*1]? =some (.int .i64 d[o+i]!):=by
 have:=Aj (rest:=rest) h
 rw [Nat.zero_add,Nat.mul_one] at this;rw [Nat.mul_one];exact this
theorem J7{d:Array Int}{j:Nat}(hj:j<d.size):d.toList.take (j+1)=d.toList.take j++[d[j]!]:=by
 rw [List.take_succ_eq_append_getElem (by simpa using hj)];simp [getElem!_pos,hj]
theorem IX{d:Array Int}{j:Nat}(h1:1<=j)(hj:j<=d.size):(DC (d.toList.take j)).getLast? =some d[j-1]! :=by
 obtain ⟨i,rfl⟩:∃i,j=i+1:=⟨j-1,Y⟩;exact VU Y
theorem SG{d:Array Int}{k:Nat}(h1:1<=k)(hk:k<d.size)(h:¬d[k]! =d[((k:Int)-1).toNat]!)(hs:DC (d.toList.take k)=d.toList.take k):DC (d.toList.take (k+1))=d.toList.take (k+1):=by
 rw [G9 hk,J7 hk];unfold Iu;rw [IX h1 Y,aT (by rw [show ((k:Int)-1).toNat=k-1 by omega] at h;simpa using λe=>h e.symm),hs]
theorem SH{d:Array Int}{k:Nat}(h1:1<=k)(hk:k<d.size)(h:d[k]! =d[((k:Int)-1).toNat]!)(hs:DC (d.toList.take k)=d.toList.take k):d.toList.take k=DC (d.toList.take (k+1)):=by
 rw [G9 hk];unfold Iu;rw [IX h1 Y,aU (by rw [show ((k:Int)-1).toNat=k-1 by omega] at h;rw [h]),hs]
theorem VV{d dd:Array Int}{k q kk:Nat}(hq:1<=q/\k+q<d.size)(hkk:k<=kk/\kk+1<=k+q)(hsz:dd.size=d.size)(hd:∀j,kk<=j->dd[j]! =d[j]!)(hdd:dd.toList.take kk=DC (d.toList.take (k+q)))(h:¬dd[k+q]! =dd[k+((q:Int)-1).toNat]!) :
  (dd.setIfInBounds kk dd[k+q]!).toList.take (kk+1)=DC (d.toList.take (k+(q+1))):=by
 have a:((q:Int)-1).toNat=q-1:=Y
 rw [a,hd _ Y,hd _ Y] at h;rw [show k+(q+1)=(k+q)+1 by omega,G9 hq.2];unfold Iu;rw [IX Y Y,aT (by rw [show k+q-1=k+(q-1) by omega];simpa using λe=>h e.symm),<-hdd,hd _ Y,Array.toList_setIfInBounds];rw [List.take_succ_eq_append_getElem (by simp;omega),List.take_set_of_le Y];simp
theorem VW{d dd:Array Int}{k q kk:Nat}(hq:1<=q/\k+q<d.size)(hkk:k<=kk/\kk+1<=k+q)(hd:∀j,kk<=j->dd[j]! =d[j]!)(hdd:dd.toList.take kk=DC (d.toList.take (k+q)))(h:dd[k+q]! =dd[k+((q:Int)-1).toNat]!) :
  dd.toList.take kk=DC (d.toList.take (k+(q+1))):=by
 have a:((q:Int)-1).toNat=q-1:=Y
 rw [a,hd _ Y,hd _ Y] at h;rw [show k+(q+1)=(k+q)+1 by omega,G9 hq.2];unfold Iu;rw [IX Y Y,aU (by rw [show k+q-1=k+(q-1) by omega,h]),hdd]
theorem YF{d dd:Array Int}{kk:Nat}{x:Int}(hd:∀j,kk<=j->dd[j]! =d[j]!):∀j,kk+1<=j->(dd.setIfInBounds kk x)[j]! =d[j]! :=λj a=>by
 rw [<-hd j Y];simp only [getElem!_def,Array.getElem?_setIfInBounds_ne (show kk≠j by omega)]
theorem Pj{d:Array Int}{k:Nat}(h:k<=d.size):(GB d k).toList.take k=d.toList.take k:=by
 unfold GB;simp only [];rw [List.take_append_of_le_length (by simp;omega),List.take_take];simp
theorem Tc{d:Array Int}(h:2<=d.size):DC (d.toList.take 1)=d.toList.take 1:=by
 have e:=J7 (d:=d) (j:=0) Y;rw [Nat.zero_add] at e;rw [e];rfl
theorem Td{d:Array Int}{k:Nat}(hs:DC (d.toList.take k)=d.toList.take k)(h1:k<=d.size)(h2:d.size<=k):d.toList.take d.size=DC d.toList:=by
 rw [show k=d.toList.length by simp;omega,List.take_length] at hs;rw [hs,<-Array.length_toList,List.take_length]
theorem Te{d:Array Int}(h:d.size<2):d.toList.take d.size=DC d.toList:=by
 rw [<-Array.length_toList,List.take_length]
 have:d.toList.length<2:=by simpa using h
 match hd:d.toList,this with
 | [],_=>rfl
 | [x],_=>rfl
 | _ ::_ ::_,h=>simp at h;omega
theorem LE(l:List Int):I9 l=l.mergeSort (λx y=>decide (x<=y)):=sortInt l
theorem IY(l:List Int):(I9 l).length=l.length:=by rw [LE,List.length_mergeSort]
theorem Tf{l:List Int}(h:l≠[]):I9 l≠[]:=λe=>by
 have:=congrArg List.length e
 rw [IY] at this;exact h (List.length_eq_zero_iff.1 this)
end Go.Ns
namespace Go.Ns
open Go.Conc Go.Sort
theorem L9:SWO ltInt:=⟨λx=>by unfold ltInt;simp,λx y z=>by unfold ltInt;simp;omega,λx y z=>by unfold ltInt;simp;omega⟩
theorem Tg{d dd:Array Int}{a b i j:Nat}(h:PermIn a b d dd)(hi:a<=i/\i<b)(hj:a<=j/\j<b)(hb:b<=d.size):PermIn a b d ((dd.setIfInBounds i dd[j]!).setIfInBounds j dd[i]!):=
 permIn_trans _ _ _ a b h (swp_permIn dd a b i j hi.1 hi.2 hj.1 hj.2 (by rw [h.1];exact hb))
theorem sift_end{hi first root:Nat}{dd:Array Int}(h:hi<=2*root+1):siftDown ltInt hi first root dd=dd:=by
 unfold siftDown;rw [dif_pos h]
theorem sift_r{hi first root:Nat}{dd:Array Int}(h:¬hi<=2*root+1)(h1:2*root+1+1<hi)(h1':dd[first+(2*root+1)]! <dd[first+(2*root+1)+1]!)(h2:dd[first+root]! <dd[first+(2*root+1+1)]!) :
  siftDown ltInt hi first root dd=siftDown ltInt hi first (2*root+1+1) (swp dd (first+root) (first+(2*root+1+1))):=by
 have a:dd[first+root]! <dd[first+(2*root+2)]! :=h2
 conv=>lhs;unfold siftDown
 rw [dif_neg h,aU (by unfold ltInt;simpa using ⟨h1,h1'⟩),aT (by unfold ltInt;simpa using a),dif_pos Y]
theorem sift_r0{hi first root:Nat}{dd:Array Int}(h:¬hi<=2*root+1)(h1:2*root+1+1<hi)(h1':dd[first+(2*root+1)]! <dd[first+(2*root+1)+1]!)(h2:¬dd[first+root]! <dd[first+(2*root+1+1)]!) :
  siftDown ltInt hi first root dd=dd:=by
 have a:¬dd[first+root]! <dd[first+(2*root+2)]! :=h2;unfold siftDown;rw [dif_neg h,aU (by unfold ltInt;simpa using ⟨h1,h1'⟩),aU (by unfold ltInt;simpa using a)]
theorem sift_l{hi first root:Nat}{dd:Array Int}(h:¬hi<=2*root+1)(h1:¬(2*root+1+1<hi/\dd[first+(2*root+1)]! <dd[first+(2*root+1)+1]!))(h2:dd[first+root]! <dd[first+(2*root+1)]!) :
  siftDown ltInt hi first root dd=siftDown ltInt hi first (2*root+1) (swp dd (first+root) (first+(2*root+1))):=by
 conv=>lhs;unfold siftDown
 rw [dif_neg h,aT (by unfold ltInt;simpa using h1),aT (by unfold ltInt;simpa using h2)]
theorem sift_l0{hi first root:Nat}{dd:Array Int}(h:¬hi<=2*root+1)(h1:¬(2*root+1+1<hi/\dd[first+(2*root+1)]! <dd[first+(2*root+1)+1]!))(h2:¬dd[first+root]! <dd[first+(2*root+1)]!) :
  siftDown ltInt hi first root dd=dd:=by
 unfold siftDown;rw [dif_neg h,aT (by unfold ltInt;simpa using h1),aU (by unfold ltInt;simpa using h2)]
theorem MA(hi first root:Nat)(d:Array Int):(siftDown ltInt hi first root d).size=d.size:=by
 fun_induction siftDown ltInt hi first root d <;> simp_all [swp]
theorem VX{z a k:Nat}{dd:Array Int}(hk:(0:Int)<=(k:Int)-1):heapBuild ltInt (z-a) a k dd=heapBuild ltInt (z-a) a (k-1) (siftDown ltInt ((z:Int)-(a:Int)).toNat a ((k:Int)-1).toNat dd):=by
 obtain ⟨q,rfl⟩:∃q,k=q+1:=⟨k-1,Y⟩;rw [show ((z:Int)-(a:Int)).toNat=z-a by omega,show (((q+1:Nat):Int)-1).toNat=q by omega];rfl
theorem YG{z a k:Nat}{dd:Array Int}(hk:¬(0:Int)<=(k:Int)-1):heapBuild ltInt (z-a) a k dd=dd:=by
 obtain rfl:k=0:=Y
 rfl
theorem VY{a k:Nat}{dd:Array Int}(hk:(0:Int)<=(k:Int)-1):heapPop ltInt a k dd=heapPop ltInt a (k-1) (siftDown ltInt ((k:Int)-1).toNat a (0:Int).toNat ((dd.setIfInBounds a dd[((a:Int)+((k:Int)-1)).toNat]!).setIfInBounds ((a:Int)+((k:Int)-1)).toNat dd[a]!)):=by
 obtain ⟨q,rfl⟩:∃q,k=q+1:=⟨k-1,Y⟩;rw [show ((a:Int)+(((q+1:Nat):Int)-1)).toNat=a+q by omega,show (((q+1:Nat):Int)-1).toNat=q by omega];rfl
theorem YH{a k:Nat}{dd:Array Int}(hk:¬(0:Int)<=(k:Int)-1):heapPop ltInt a k dd=dd:=by
 obtain rfl:k=0:=Y
 rfl
theorem EG{P:Program}{W:Wk P}{f:FuncId}{b cap m n:Nat}{as:List aV}{h:L}{R:aV->L->Prop}(e:m=n)(x:AT W f (Value.slice (some ⟨b,0,none⟩) m cap ::as).toArray h R):AT W f (Value.slice (some ⟨b,0,none⟩) n cap ::as).toArray h R:=e▸x
def VZ(dd:Array Int)(a j i:Nat):Nat:=scanUp (λx=>ltInt x dd[a]!) dd j i
def YI(dd:Array Int)(a i j:Nat):Nat:=scanDown (λx=> !ltInt x dd[a]!) dd i j
def upE(dd:Array Int)(a j i:Nat):Nat:=scanUp (λx=> !ltInt dd[a]! x) dd j i
def dnE(dd:Array Int)(a i j:Nat):Nat:=scanDown (λx=>ltInt dd[a]! x) dd i j
theorem QN{p:Int->Bool}{dd:Array Int}{j i:Nat}(h1:i<=j)(h2:p dd[i]! =true):scanUp p dd j i=scanUp p dd j (i+1):=by
 conv=>lhs;unfold scanUp
 rw [aU (by simp [h1,h2])]
theorem OO{p:Int->Bool}{dd:Array Int}{j i:Nat}(h:¬(i<=j/\p dd[i]! =true)):scanUp p dd j i=i:=by
 unfold scanUp;rw [aT (by simpa using h)]
theorem Mn{p:Int->Bool}{dd:Array Int}{i j:Nat}(hi:1<=i)(h1:i<=j)(h2:p dd[j]! =true):scanDown p dd i j=scanDown p dd i (j-1):=by
 obtain ⟨q,rfl⟩:∃q,j=q+1:=⟨j-1,Y⟩
 conv=>lhs;unfold scanDown
 rw [aU (by simp [h1,h2])];rfl
theorem LF{p:Int->Bool}{dd:Array Int}{i j:Nat}(h:¬(i<=j/\p dd[j]! =true)):scanDown p dd i j=j:=by
 cases j with
 | zero=>rfl
 | succ q=>unfold scanDown;rw [aT (by simpa using h)]
section
variable {d dd:Array Int} {a z p i j i0 j0:Nat}
theorem Th{J:Int}(h:(i:Int)<=J/\dd[i]! <dd[a]!)(hJ:J=(j:Int)):VZ dd a j i=VZ dd a j (i+1):=QN Y (decide_eq_true h.2)
theorem Xb{J:Int}(h:¬((i:Int)<=J/\dd[i]! <dd[a]!))(hJ:J=(j:Int)):VZ dd a j i=i:=OO λq=>h ⟨Y,of_decide_eq_true q.2⟩
theorem Ti(hi:1<=i)(h:(i:Int)<=(j:Int)/\¬dd[j]! <dd[a]!):YI dd a i j=YI dd a i (j-1):=Mn hi Y (by unfold ltInt;simpa using h.2)
theorem NV(h:¬((i:Int)<=(j:Int)/\¬dd[j]! <dd[a]!)):YI dd a i j=j:=LF λq=>h ⟨Y,by have:=q.2;unfold ltInt at this;simpa using this⟩
theorem upE_next{J:Int}(h:(i:Int)<=J/\¬dd[a]! <dd[i]!)(hJ:J=(j:Int)):upE dd a j i=upE dd a j (i+1):=QN Y (by unfold ltInt;simpa using h.2)
theorem upE_end{J:Int}(h:¬((i:Int)<=J/\¬dd[a]! <dd[i]!))(hJ:J=(j:Int)):upE dd a j i=i:=OO λq=>h ⟨Y,by have:=q.2;unfold ltInt at this;simpa using this⟩
theorem dnE_next(hi:1<=i)(h:(i:Int)<=(j:Int)/\dd[a]! <dd[j]!):dnE dd a i j=dnE dd a i (j-1):=Mn hi Y (decide_eq_true h.2)
theorem Xc(h:¬((i:Int)<=(j:Int)/\dd[a]! <dd[j]!)):dnE dd a i j=j:=LF λq=>h ⟨Y,of_decide_eq_true q.2⟩
theorem QO(hu:VZ dd a j0 i=VZ dd a j0 i0)(hue:VZ dd a j0 i=i)(hv:YI dd a i j=YI dd a i j0)(hve:YI dd a i j=j)(h:j<i):partLoop ltInt a i0 j0 dd=(j,dd):=by
 have b:scanUp (λx=>ltInt x dd[a]!) dd j0 i0=i:=by rw [<-hue,hu];rfl
 have c:scanDown (λx=> !ltInt x dd[a]!) dd i j0=j:=by rw [<-hve,hv];rfl
 rw [partLoop_eq,b,c,aU h]
theorem Tj(hu:VZ dd a j0 i=VZ dd a j0 i0)(hue:VZ dd a j0 i=i)(hv:YI dd a i j=YI dd a i j0)(hve:YI dd a i j=j)(h:¬j<i):partLoop ltInt a i0 j0 dd=partLoop ltInt a (i+1) (j-1) (swp dd i j):=by
 have b:scanUp (λx=>ltInt x dd[a]!) dd j0 i0=i:=by rw [<-hue,hu];rfl
 have c:scanDown (λx=> !ltInt x dd[a]!) dd i j0=j:=by rw [<-hve,hv];rfl
 rw [partLoop_eq,b,c,aT h]
theorem YJ(hu:upE dd a j0 i=upE dd a j0 i0)(hue:upE dd a j0 i=i)(hv:dnE dd a i j=dnE dd a i j0)(hve:dnE dd a i j=j)(h:j<i):partEqLoop ltInt a i0 j0 dd=(i,dd):=by
 have b:scanUp (λx=> !ltInt dd[a]! x) dd j0 i0=i:=by rw [<-hue,hu];rfl
 have c:scanDown (λx=>ltInt dd[a]! x) dd i j0=j:=by rw [<-hve,hv];rfl
 rw [partEqLoop_eq,b,c,aU h]
theorem partE_on(hu:upE dd a j0 i=upE dd a j0 i0)(hue:upE dd a j0 i=i)(hv:dnE dd a i j=dnE dd a i j0)(hve:dnE dd a i j=j)(h:¬j<i):partEqLoop ltInt a i0 j0 dd=partEqLoop ltInt a (i+1) (j-1) (swp dd i j):=by
 have b:scanUp (λx=> !ltInt dd[a]! x) dd j0 i0=i:=by rw [<-hue,hu];rfl
 have c:scanDown (λx=>ltInt dd[a]! x) dd i j0=j:=by rw [<-hve,hv];rfl
 rw [partEqLoop_eq,b,c,aT h]
theorem Tk(h:partLoop ltInt a (a+1) (z-1) (swp d a p)=(j,dd)):∃q,partition ltInt d a z p=(j,q,swp dd j a):=by
 have b:=partition_fst ltInt d a z p;have c:=partition_arr ltInt d a z p;rw [h] at b c;exact ⟨(partition ltInt d a z p).2.1,Prod.ext b (Prod.ext rfl c)⟩
theorem YK(h:partEqLoop ltInt a (a+1) (z-1) (swp d a p)=(i,dd)):partitionEqual ltInt d a z p=(i,dd):=h
theorem ijL{J:Int}{c:Int}(h1:¬((i:Int)<=J/\dd[i]! <c))(hJ:(j:Int)<=J)(h2:¬((i:Int)<=(j:Int)/\¬dd[j]! <c))(h:¬(j:Int)<(i:Int)):i<j:=by
 by_cases e:i=j
 ·subst e;exact absurd (Decidable.not_not.1 λq=>h2 ⟨Y,q⟩) λq=>h1 ⟨hJ,q⟩
 ·omega
theorem ijE{J:Int}{c:Int}(h1:¬((i:Int)<=J/\¬c<dd[i]!))(hJ:(j:Int)<=J)(h2:¬((i:Int)<=(j:Int)/\c<dd[j]!))(h:¬(j:Int)<(i:Int)):i<j:=by
 by_cases e:i=j
 ·subst e;exact absurd (show¬c<dd[i]! from λq=>h2 ⟨Y,q⟩) λq=>h1 ⟨hJ,q⟩
 ·omega
variable {de df:Array Int} {s i2:Nat} {J:Int}
theorem Va(h:(i:Int)<(z:Int)/\¬dd[i]! <dd[((i:Int)-1).toNat]!):scanSorted ltInt dd z i=scanSorted ltInt dd z (i+1):=by
 rw [show ((i:Int)-1).toNat=i-1 by omega] at h
 conv=>lhs;unfold scanSorted
 rw [aU (by unfold ltInt;simp only [Bool.and_eq_true,decide_eq_true_eq,Bool.not_eq_true',decide_eq_false_iff_not];exact ⟨Y,h.2⟩)]
theorem Hz(h:¬((i:Int)<(z:Int)/\¬dd[i]! <dd[((i:Int)-1).toNat]!)):scanSorted ltInt dd z i=i:=by
 rw [show ((i:Int)-1).toNat=i-1 by omega] at h;unfold scanSorted;rw [aT (by unfold ltInt;simp only [Bool.and_eq_true,decide_eq_true_eq,Bool.not_eq_true',decide_eq_false_iff_not];exact λq=>h ⟨Y,q.2⟩)]
theorem SI(hj:1<=j)(h:dd[j]! <dd[((j:Int)-1).toNat]!):shiftDown ltInt j dd=shiftDown ltInt (j-1) ((dd.setIfInBounds j dd[((j:Int)-1).toNat]!).setIfInBounds ((j:Int)-1).toNat dd[j]!):=by
 obtain ⟨q,rfl⟩:∃q,j=q+1:=⟨j-1,Y⟩;rw [show (((q+1:Nat):Int)-1).toNat=q by omega] at h ⊢
 conv=>lhs;unfold shiftDown
 rw [aT (by unfold ltInt;simpa using h)];rfl
theorem Mp(h:¬(1:Int)<=(j:Int)\/¬dd[j]! <dd[((j:Int)-1).toNat]!):shiftDown ltInt j dd=dd:=by
 cases j with
 | zero=>rfl
 | succ q=>
  rw [show (((q+1:Nat):Int)-1).toNat=q by omega] at h;unfold shiftDown;rw [aU (by unfold ltInt;simp only [Bool.not_eq_true',decide_eq_false_iff_not];rcases h with h | h;omega;exact h)]
theorem SJ(hj:(j:Int)<(z:Int))(h1:1<=j)(h:dd[j]! <dd[((j:Int)-1).toNat]!):shiftUp ltInt z j dd=shiftUp ltInt z (j+1) ((dd.setIfInBounds j dd[((j:Int)-1).toNat]!).setIfInBounds ((j:Int)-1).toNat dd[j]!):=by
 rw [show ((j:Int)-1).toNat=j-1 by omega] at h ⊢
 conv=>lhs;unfold shiftUp
 rw [aU Y,aT (by unfold ltInt;simpa using h)];rfl
theorem Mq(h:¬(j:Int)<(z:Int)\/¬dd[j]! <dd[((j:Int)-1).toNat]!):shiftUp ltInt z j dd=dd:=by
 by_cases b:j<z
 ·rw [show ((j:Int)-1).toNat=j-1 by omega] at h;unfold shiftUp;rw [aU b,aU (by unfold ltInt;simp only [Bool.not_eq_true',decide_eq_false_iff_not];rcases h with h | h;omega;exact h)]
 ·unfold shiftUp;rw [aT b]
theorem YL(he:scanSorted ltInt dd z i=i2)(h:i2=z):partialIns ltInt a z (s+1) i dd=(dd,true):=by
 rw [partialIns_succ,he,aU h]
theorem Vb(he:scanSorted ltInt dd z i=i2)(h:¬i2=z)(h2:z-a<50):partialIns ltInt a z (s+1) i dd=(dd,false):=by
 rw [partialIns_succ,he,aT h,aU h2]
theorem MB(he:scanSorted ltInt dd z i=i2)(h:¬i2=z)(h2:¬z-a<50)(hd:de=if i2-a>=2 then shiftDown ltInt (i2-1) (swp dd i2 (i2-1)) else swp dd i2 (i2-1))(hf:df=if z-i2>=2 then shiftUp ltInt z (i2+1) de else de) :
  partialIns ltInt a z (s+1) i dd=partialIns ltInt a z s i2 df:=by
 rw [partialIns_succ,he,aT h,aT h2,hf,hd];rfl
end
section
variable {P:Program} {E:Fb P} {O:Nat->aV} {ds:List Deferred} {h:L} {T:(Nat->aV)->List Deferred->L->Prop} {dst:Option Nat} {ty:aW} {pos:String} {af:Array Edge} {gd:Option (Nat×Bool)} {xt yt:aW} {x y:Operand} {a b:Int}
def Jz(a b:Int):Int:=IntKind.u64.wrap ((BitVec.ofInt 64 a ^^^ BitVec.ofInt 64 b).toNat)
def OP(a b:Int):Int:=IntKind.u64.wrap ((BitVec.ofInt 64 a &&& BitVec.ofInt 64 b).toNat)
def Eo(a b:Int):Int:=IntKind.u64.wrap (a*2 ^ (min b.toNat IntKind.u64.bits))
theorem SK(hx:AL O x=.int .u64 a)(hy:AL O y=.int .u64 b)(k:T (putS O dst (.int .u64 (Jz a b))) ds h):BK E ⟨dst,.binOp .xor xt x y yt,ty,pos,af,gd⟩ O ds h T:=Em hx hy rfl k
theorem ok_andU(hx:AL O x=.int .u64 a)(hy:AL O y=.int .u64 b)(k:T (putS O dst (.int .u64 (OP a b))) ds h):BK E ⟨dst,.binOp .and xt x y yt,ty,pos,af,gd⟩ O ds h T:=Em hx hy rfl k
theorem SL{ke:IntKind}(hx:AL O x=.int .u64 a)(hy:AL O y=.int ke b)(h0:0<=b)(k:T (putS O dst (.int .u64 (Eo a b))) ds h):BK E ⟨dst,.binOp .shl xt x y yt,ty,pos,af,gd⟩ O ds h T:=VD hx hy h0 rfl k
theorem ok_subU(hx:AL O x=.int .u64 a)(hy:AL O y=.int .u64 b)(hr:0<=a-b/\a-b<=18446744073709551615)(k:T (putS O dst (.int .u64 (a-b))) ds h):BK E ⟨dst,.binOp .sub xt x y yt,ty,pos,af,gd⟩ O ds h T:=Em hx hy (by
 show (pure (Value.int .u64 (IntKind.u64.wrap (a-b))):Sem aV)=_;rw [IntWalk.u64_in _ Y]) k
theorem Vc(hb:0<=b/\b<=9223372036854775807):0<=OP a b/\OP a b<=b:=by
 unfold OP;obtain ⟨n,rfl⟩:=Int.eq_ofNat_of_zero_le hb.1;have c:(BitVec.ofInt 64 (n:Int)).toNat=n:=by rw [BitVec.toNat_ofInt];omega
 have d:(BitVec.ofInt 64 a &&& BitVec.ofInt 64 (n:Int)).toNat<=n:=by rw [BitVec.toNat_and,c];exact Nat.and_le_right
 rw [IntWalk.u64_in _ Y];omega
theorem shlU_one{k:Nat}(h:k<=60):Eo 1 (k:Int)=2 ^ k:=by
 unfold Eo
 have:min ((k:Int)).toNat IntKind.u64.bits=k:=by show min ((k:Int)).toNat 64=k;omega
 rw [this,Int.one_mul];have c:(2:Int) ^ k<=2 ^ 60:=by
  have:=Nat.pow_le_pow_right (show 0<2 by decide) h
  exact_mod_cast this
 have d:(0:Int)<=2 ^ k:=by
  have:=Nat.zero_le (2 ^ k)
  exact_mod_cast this
 rw [IntWalk.u64_in _ (by have:(2:Int) ^ 60=1152921504606846976:=rfl;omega)]
def tabOK(s:aX):Bool:=s.size==256 && (List.range 256).all λi=>(s.get! i).toNat==bitsLen i
theorem FF{t:aW}{x ix:Operand}{s:aX}{kd:IntKind}{i:Int}(ht:Mg P t=true)(hx:AL O x=.string s)(hi:AL O ix=.int kd i)(h0:0<=i)(h1:i<((256:Nat):Int))(hs:tabOK s=true)
  (k:T (putS O dst (.int .u8 (bitsLen i.toNat:Int))) ds h):BK E ⟨dst,.index t x ix,ty,pos,af,gd⟩ O ds h T:=by
 unfold tabOK at hs;rw [Bool.and_eq_true,List.all_eq_true] at hs;have f:s.size=256:=by simpa using hs.1
 have e:=hs.2 i.toNat (List.mem_range.2 Y);refine X8 ht hx hi h0 Y ?_;have d:(s[i.toNat]' Y).toNat=bitsLen i.toNat:=by
  rw [<-(show (s.get! i.toNat).toNat=bitsLen i.toNat by simpa using e)];have c:i.toNat<s.size:=Y
  congr 1;show s.data[i.toNat]=s.data[i.toNat]!;rw [getElem!_pos s.data i.toNat c]
 rw [d];exact k
theorem Mr{n k:Nat}(h:2 ^ k<=n):bitsLen n=k+bitsLen (n / 2 ^ k):=by
 have c:0<2 ^ k:=Nat.two_pow_pos k;have d:∀j,bitsLen n<=j↔k+bitsLen (n / 2 ^ k)<=j:=λj=>by
  rw [bitsLen_le_iff];constructor
  ·intro q;have f:k<j:=(Nat.pow_lt_pow_iff_right (aC:1<2)).1 (Nat.lt_of_le_of_lt h q)
   have:=(bitsLen_le_iff (n / 2 ^ k) (j-k)).2 ((Nat.div_lt_iff_lt_mul c).2 (by rw [<-Nat.pow_add,show j-k+k=j by omega];exact q))
   omega
  ·intro q;have g:=(bitsLen_le_iff (n / 2 ^ k) (j-k)).1 Y;have e:=(Nat.div_lt_iff_lt_mul c).1 g;rw [<-Nat.pow_add,show j-k+k=j by omega] at e;exact e
 have i:=(d (bitsLen n)).1 (Nat.le_refl _);have l:=(d (k+bitsLen (n / 2 ^ k))).2 (Nat.le_refl _);omega
theorem Tl{n:Int}(h:65536<=n):(bitsLen n.toNat:Int)=16+bitsLen (n / 65536).toNat:=by
 rw [Mr (n:=n.toNat) (k:=16) Y,show (n / 65536).toNat=n.toNat / 2 ^ 16 by omega];omega
theorem U6{n:Int}(h:256<=n):(bitsLen n.toNat:Int)=8+bitsLen (n / 256).toNat:=by
 rw [Mr (n:=n.toNat) (k:=8) Y,show (n / 256).toNat=n.toNat / 2 ^ 8 by omega];omega
theorem Dl{n:Nat}(h:n<4294967296):bitsLen n<=32:=(bitsLen_le_iff n 32).2 h
end
section
variable {d dd D D' R:Array Int} {a z a0 z0 p mid:Nat} {ap:Bool}
def FS(a0 z0:Nat)(d:Array Int)(a z:Nat)(dd:Array Int):Prop:=a<=z/\z<=dd.size/\dd.size=d.size/\Below ltInt a z dd/\∀R,PermIn a z dd R->SortedIn ltInt a z R->PermIn a0 z0 d R/\SortedIn ltInt a0 z0 R
theorem FS.start(h:a<=z)(hz:z<=d.size)(hB:Below ltInt a z d):FS a z d a z d:=⟨h,hz,rfl,hB,λ_ x y=>⟨x,y⟩⟩
theorem FS.perm(r:FS a0 z0 d a z dd)(x:PermIn a z dd D):FS a0 z0 d a z D:=
 ⟨r.1,by rw [x.1];exact r.2.1,x.1.trans r.2.2.1,r.2.2.2.1.perm r.2.1 x,λR y s=>r.2.2.2.2 R (permIn_trans _ _ _ a z x y) s⟩
theorem FS.done(r:FS a0 z0 d a z dd)(x:PermIn a z dd D)(s:SortedIn ltInt a z D):PermIn a0 z0 d D/\SortedIn ltInt a0 z0 D:=r.2.2.2.2 D x s
theorem FS.ins(r:FS a0 z0 d a z dd):PermIn a0 z0 d (insertionSort ltInt dd a z)/\SortedIn ltInt a0 z0 (insertionSort ltInt dd a z):=
 let x:=insertionSort_holds (lt:=ltInt) L9 dd a z r.1 r.2.1
 r.done x.1 x.2
theorem FS.heap(r:FS a0 z0 d a z dd):PermIn a0 z0 d (heapSort ltInt dd a z)/\SortedIn ltInt a0 z0 (heapSort ltInt dd a z):=
 let x:=heapSort_holds (lt:=ltInt) L9 dd a z r.1 r.2.1
 r.done x.1 x.2
theorem FS.pins(r:FS a0 z0 d a z dd)(h:a<z){fl:Bool}(e:partialInsertionSort ltInt dd a z=(D,fl)):FS a0 z0 d a z D/\(fl=true->PermIn a0 z0 d D/\SortedIn ltInt a0 z0 D):=by
 have x:=partialInsertionSort_holds (lt:=ltInt) L9 dd a z h r.2.1 r.2.2.2.1;rw [e] at x;exact ⟨r.perm x.1,λq=>r.done x.1 (x.2 q)⟩
theorem FS.eq(r:FS a0 z0 d a z dd)(h0:0<a)(hp:a<=p/\p<z)(hl:¬dd[a-1]! <dd[p]!)(e:partitionEqual ltInt dd a z p=(mid,D)):a<mid/\mid<=z/\FS a0 z0 d mid z D:=by
 obtain ⟨f,b,c,g,h⟩:=round_eq L9 (partitionEqual_holds ltInt) h0 hp.1 hp.2 r.2.1 r.2.2.2.1 (decide_eq_false hl) e;exact ⟨f,b,b,by rw [c];exact r.2.1,c.trans r.2.2.1,g,λR x s=>let y:=h R x s;r.2.2.2.2 R y.1 y.2⟩
theorem FS.eq'(r:FS a0 z0 d a z dd)(h0:0<a)(hp:a<=p/\p<z)(hl:¬dd[((a:Int)-1).toNat]! <dd[p]!)(e:partitionEqual ltInt dd a z p=(mid,D)):a<mid/\mid<=z/\FS a0 z0 d mid z D:=
 r.eq h0 hp (by rw [show ((a:Int)-1).toNat=a-1 by omega] at hl;exact hl) e
theorem FS.part(r:FS a0 z0 d a z dd)(hp:a<=p/\p<z)(e:∃q,partition ltInt dd a z p=(mid,q,D)):a<=mid/\mid<z/\D.size=d.size/\z<=D.size/\Below ltInt a mid D/\Below ltInt (mid+1) z D/\
  (∀aO,PermIn a mid D aO->SortedIn ltInt a mid aO->FS a0 z0 d (mid+1) z aO)/\(∀aO,PermIn (mid+1) z D aO->SortedIn ltInt (mid+1) z aO->FS a0 z0 d a mid aO):=by
 obtain ⟨q,e⟩:=e;obtain ⟨i,j,b,k,l,m,n⟩:=round_part L9 (partition_holds ltInt) hp.1 hp.2 r.2.1 r.2.2.2.1 e;have o:=r.2.1;refine ⟨i,j,b.trans r.2.2.1,Y,k,l,λaO x s=>?_,λaO x s=>?_⟩
 ·obtain ⟨c,f⟩:=m aO x s
  have:=x.1
  exact ⟨Y,Y,by rw [x.1,b];exact r.2.2.1,c,λR g h=>let y:=f R g h;r.2.2.2.2 R y.1 y.2⟩
 ·obtain ⟨c,f⟩:=n aO x s
  have:=x.1
  exact ⟨i,Y,by rw [x.1,b];exact r.2.2.1,c,λR g h=>let y:=f R g h;r.2.2.2.2 R y.1 y.2⟩
theorem Vd{D:Array Int}{xs:List Int}(x:PermIn 0 xs.length xs.toArray D)(s:SortedIn ltInt 0 xs.length D):D=(I9 xs).toArray:=by
 have y:=sorted_unique_holds (lt:=ltInt) L9 (λx y c e=>by simp only [ltInt,decide_eq_false_iff_not] at c e;omega) xs.toArray D (by simpa using x) (by simpa using s);rw [LE];apply Array.toList_inj.1;rw [y];congr 1;funext a b;unfold ltInt;simp only [Bool.not_eq_eq_eq_not];by_cases h:a<=b
 ·simp [h]
 ·simp [h];omega
theorem Tm{D d:Array Int}(x:PermIn 0 d.size d D/\SortedIn ltInt 0 d.size D):D=(I9 d.toList).toArray:=
 Vd (xs:=d.toList) (by simpa using x.1) (by simpa using x.2)
end
end Go.Ns
namespace Go.Ns
open Go.Conc
theorem IZ{ag:AV->Bool}{ms:List AD}{mo:Int}(hf:∀k,0<=(ms.getD k AD.z).low/\(ms.getD k AD.z).high<=99):∀f i p,Bd p->∀q ∈ Ax ag ms mo f i p,Bd q
 | 0,_,p,a,q,hq=>by
  unfold Ax at hq;split at hq
  ·rw [List.mem_singleton] at hq;subst hq;exact a
  ·cases hq
 | f+1,i,p,a,q,hq=>by
  rw [Dw,List.mem_flatMap] at hq;obtain ⟨n,b,hq⟩:=hq;rw [QH] at b
  have:=hf i
  unfold Br at hq;rw [List.mem_append] at hq;rcases hq with hq | hq
  ·exact IZ hf f (i+1) _ (a.setMove Y) q hq
  ·split at hq
   ·exact IZ hf f (i+1) _ (a.setMove Y) q hq
   ·cases hq
theorem LG{ag:AV->Bool}{gs:List Good}{ms:List AD}{mo:Int}(hg:∀k,0<=(gs.getD k Good.z).low/\(gs.getD k Good.z).high<=99)(hf:∀k,0<=(ms.getD k AD.z).low/\(ms.getD k AD.z).high<=99) :
  ∀f i p,Bd p->∀q ∈ BL ag gs ms mo f i p,Bd q
 | 0,_,p,b,q,a=>IZ hf _ _ p b q a
 | f+1,i,p,b,q,a=>by
  rw [EY,List.mem_flatMap] at a;obtain ⟨n,c,a⟩:=a;rw [QH] at c
  have:=hg i
  exact LG hg hf f (i+1) _ (b.setFirst Y) q a
theorem GC{d m:Int}{gs:List Good}{ms:List AD}{cs:List AN}(b:Bt d m gs ms cs)(mo:Int):∀k,Bd ((AU d gs ms cs mo).getD k AV.zero):=λk=>by
 by_cases h:k<(AU d gs ms cs mo).length
 ·exact LG (λj=>⟨(b.gfew j).1,(b.gfew j).2.2.1⟩) (λj=>⟨(b.few j).1,(b.few j).2.2.1⟩) _ _ _ Bd.zero _ (EF h)
 ·rw [CM Y];exact Bd.zero
def CN(n:Nat)(f:Nat->Int):List Int:=DC (I9 ((List.range n).map f))
theorem Ia{n:Nat}{f:Nat->Int}(h:0<n):(List.range n).map f≠[]:=by
 intro e
 have:=congrArg List.length e
 simp at this;omega
section
variable (d m:Int) (gs:List Good) (ms:List AD) (cs:List AN)
def CO(g dy:Int):Int:=Am d m gs ms cs [if (decide (0<=g/\g<=(gs.length:Int)-1)) then (0:Int) else 6,if (decide (0<=dy/\dy<=d)) then (0:Int) else 1]
def GR(g dy:Int):List Int:=if CO d m gs ms cs g dy=0 then CN (AU d gs ms cs m).length (λ(i:Nat)=>(AP ms ((AU d gs ms cs m).getD ((i:Int)).toNat AV.zero) g dy).1) else []
def FG(mv:Int):Int:=Am d m gs ms cs [if (decide (0<=mv/\mv<=(ms.length:Int)-1)) then (0:Int) else 6]
def H0(mv:Int):List Int:=if FG d m gs ms cs mv=0 then CN (AU d gs ms cs m).length (λ(i:Nat)=>CY ((AU d gs ms cs m).getD ((i:Int)).toNat AV.zero) (mv).toNat) else []
def DU(mv:Int):Int:=Am d m gs ms cs [if (decide ((0<=mv/\mv<=(ms.length:Int)-1)/\(ms.getD (mv).toNat AD.z).kind=0)) then (0:Int) else 6]
def Ib(ps:List AV)(i:Nat):Nat:=(ps.filter λp=>p.lies i).length
def OQ(n l:Nat):Int:=if n=0 then 2 else if n=l then 1 else 0
def Fo(mv:Int):Int:=if DU d m gs ms cs mv=0 then OQ (Ib (AU d gs ms cs m) (mv).toNat) (AU d gs ms cs m).length else 0
end
theorem OR{p:Prop}[Decidable p]{c:Int}(hc:c≠0){o:List Int}(h:∀k,k<(((if decide p then (0:Int) else c) ::o)).length->(((if decide p then (0:Int) else c) ::o)).getD k 0=0):p:=by
 have:=h 0 aD
 by_cases a:p
 ·exact a
 ·simp [a] at this;exact absurd this hc
theorem OS{x:Int}{o:List Int}(h:∀k,k<(x ::o).length->(x ::o).getD k 0=0):∀k,k<o.length->o.getD k 0=0:=λk a=>by
 have:=h (k+1) (by simp;omega)
 simpa using this
theorem own_2{p q:Prop}[Decidable p][Decidable q]{c e:Int}(hc:c≠0)(he:e≠0){o:List Int}(h:∀k,k<(((if decide p then (0:Int) else c) ::(if decide q then (0:Int) else e) ::o)).length->(((if decide p then (0:Int) else c) ::(if decide q then (0:Int) else e) ::o)).getD k 0=0):p/\q:=
 ⟨OR hc h,OR he (OS h)⟩
theorem own_3{p q r:Prop}[Decidable p][Decidable q][Decidable r]{c e f:Int}(hc:c≠0)(he:e≠0)(hf:f≠0){o:List Int}(h:∀k,k<(((if decide p then (0:Int) else c) ::(if decide q then (0:Int) else e) ::(if decide r then (0:Int) else f) ::o)).length->(((if decide p then (0:Int) else c) ::(if decide q then (0:Int) else e) ::(if decide r then (0:Int) else f) ::o)).getD k 0=0):p/\q/\r:=
 ⟨OR hc h,own_2 he hf (OS h)⟩
theorem HA{U:Type}{l:List U}{k:Nat}(z:U)(h:k<l.length):l.take (k+1)=l.take k++[l.getD k z]:=by
 rw [List.take_add_one,List.getElem?_eq_getElem h,List.getD_eq_getElem?_getD,List.getElem?_eq_getElem h];rfl
theorem lies_t{ps:List AV}{k q i:Nat}(hk:k<ps.length)(h:q=Ib (ps.take k) i)(e:(ps.getD k AV.zero).lies i=true):q+1=Ib (ps.take (k+1)) i:=by
 unfold Ib at *;rw [HA AV.zero hk,List.filter_append,List.length_append,<-h,List.filter_cons,aU e];rfl
theorem lies_f{ps:List AV}{k q i:Nat}(hk:k<ps.length)(h:q=Ib (ps.take k) i)(e:(ps.getD k AV.zero).lies i=false):q=Ib (ps.take (k+1)) i:=by
 unfold Ib at *;rw [HA AV.zero hk,List.filter_append,List.length_append,<-h,List.filter_cons,aT (by rw [e];decide)];rfl
theorem Pm{d m:Int}{gs:List Good}{ms:List AD}{cs:List AN}{mv:Int}(h:¬DU d m gs ms cs mv=0):Fo d m gs ms cs mv=0:=by unfold Fo;rw [aT h]
theorem Ic{d m:Int}{gs:List Good}{ms:List AD}{cs:List AN}{mv:Int}{k q:Nat}(h:DU d m gs ms cs mv=0)(hq:q=Ib ((AU d gs ms cs m).take k) (mv).toNat)(hk:(AU d gs ms cs m).length<=k):Fo d m gs ms cs mv=OQ q (AU d gs ms cs m).length:=by
 unfold Fo;rw [aU h,hq,List.take_of_length_le hk]
theorem JA{ms:List AD}{p:AV}{g dy:Int}(hp:Bd p):∀(f k:Nat)(n low B:Int),-B<=n/\n<=B->-(B+99*(f:Int))<=(Cx ms p g dy f k n low).1/\(Cx ms p g dy f k n low).1<=B+99*(f:Int)
 | 0,k,n,low,B,h=>by unfold Cx;simpa using h
 | f+1,k,n,low,B,h=>by
  unfold Cx;split
  ·show-(B+99*((f+1:Nat):Int))<=n/\n<=B+99*((f+1:Nat):Int);omega
  ·have:=JA (ms:=ms) (g:=g) (dy:=dy) hp f (k+1) (G3 ms p g k n) (F3 ms k low (G3 ms p g k n)) (B+99) (by
    unfold G3
    have:=K7 (k:=(ms.getD k AD.z).kind.toNat) (Ga hp k)
    split <;> omega)
   omega
theorem Hq{ms:List AD}{p:AV}{g dy:Int}(hp:Bd p)(hm:ms.length<=6): -693<=(AP ms p g dy).1/\(AP ms p g dy).1<=693:=by
 have a:=hp.1 g.toNat
 have:=JA (ms:=ms) (g:=g) (dy:=dy) hp ms.length 0 (p.first g.toNat) (p.first g.toNat) 99 Y
 unfold AP;omega
theorem Iv{x:Int}:∀(l acc:List Int),x ∈ l.foldl Iu acc->x ∈ acc\/x ∈ l
 | [],acc,h=>.inl h
 | y ::l,acc,h=>by
  rcases Iv l _ h with h | h
  ·unfold Iu at h;split at h
   ·exact .inl h
   ·rcases List.mem_append.1 h with h | h
    ·exact .inl h
    ·rw [List.mem_singleton] at h;exact .inr (by rw [h];exact List.mem_cons_self ..)
  ·exact .inr (List.mem_cons_of_mem _ h)
theorem JB:∀(l acc:List Int),acc≠[]\/l≠[]->l.foldl Iu acc≠[]
 | [],acc,h=>by
  rcases h with h | h
  ·exact h
  ·exact absurd rfl h
 | y ::l,acc,h=>JB l _ (.inl λe=>by
   have:=ON acc y
   rw [e] at this;cases this)
theorem Jk{n:Nat}(f:Nat->Int)(h:0<n):0<(CN n f).length:=by
 have:CN n f≠[]:=JB _ _ (.inr (Tf (Ia h)))
 exact List.length_pos_iff.2 this
theorem YM{n:Nat}{f:Nat->Int}{x:Int}(h:x ∈ CN n f):∃i,i<n/\f i=x:=by
 rcases Iv _ _ h with h | h
 ·cases h
 ·rw [LE] at h
  have:=List.mem_mergeSort.1 h
  obtain ⟨i,a,e⟩:=List.mem_map.1 this;exact ⟨i,List.mem_range.1 a,e⟩
def B3(l:List Int):Int:=l.getD 0 0
def DL(l:List Int):Int:=l.getD ((l.length:Int)-1).toNat 0
theorem Ve{n:Nat}{f:Nat->Int}{A B:Int}(h:∀i,A<=f i/\f i<=B)(hn:0<n):(A<=B3 (CN n f)/\B3 (CN n f)<=B)/\A<=DL (CN n f)/\DL (CN n f)<=B:=by
 have a:=Jk f hn;have q:∀k,k<(CN n f).length->A<=(CN n f).getD k 0/\(CN n f).getD k 0<=B:=λk b=>by
  obtain ⟨i,_,e⟩:=YM (EF (d:=0) b);rw [<-e];exact h i
 exact ⟨q 0 a,q _ Y⟩
def CZ(ms:List AD)(p:AV)(g a b:Int):Nat->Int
 | 0=>0
 | k+1=>CZ ms p g a b k+(if ((ms.getD k AD.z).kind=2/\(ms.getD k AD.z).good=g)/\a<=(ms.getD k AD.z).day/\(ms.getD k AD.z).day<=b then CY p k else 0)
theorem LH{ms:List AD}{p:AV}{g a b:Int}(hp:Bd p):∀k:Nat,0<=CZ ms p g a b k/\CZ ms p g a b k<=99*(k:Int)
 | 0=>by unfold CZ;omega
 | k+1=>by
  have:=LH (ms:=ms) (g:=g) (a:=a) (b:=b) hp k
  have:=Ga hp k
  unfold CZ;split <;> omega
def CT(gs:List Good)(ms:List AD)(p:AV)(dy:Int):Nat->Int
 | 0=>0
 | k+1=>CT gs ms p dy k+(gs.getD k Good.z).cost*(AP ms p (k:Int) dy).1
theorem Gq{a b A B:Int}(ha:0<=a/\a<=A)(hb: -B<=b/\b<=B): -(A*B)<=a*b/\a*b<=A*B:=by
 have c:0<=B:=Y
 have e:a*B<=A*B:=Int.mul_le_mul_of_nonneg_right ha.2 c;have f:a*b<=a*B:=Int.mul_le_mul_of_nonneg_left hb.2 ha.1;have d:a*(-B)<=a*b:=Int.mul_le_mul_of_nonneg_left hb.1 ha.1;rw [Int.mul_neg] at d;omega
theorem J8{gs:List Good}{ms:List AD}{p:AV}{dy:Int}(hp:Bd p)(hm:ms.length<=6)(hc:∀k,0<=(gs.getD k Good.z).cost/\(gs.getD k Good.z).cost<=999):∀k:Nat,-(692307*(k:Int))<=CT gs ms p dy k/\CT gs ms p dy k<=692307*(k:Int)
 | 0=>by unfold CT;omega
 | k+1=>by
  have:=J8 (dy:=dy) hp hm hc k
  have:=Gq (hc k) (Hq (g:=(k:Int)) (dy:=dy) hp hm)
  unfold CT;omega
theorem Bt.costs{d m:Int}{gs:List Good}{ms:List AD}{cs:List AN}(b:Bt d m gs ms cs):∀k,0<=(gs.getD k Good.z).cost/\(gs.getD k Good.z).cost<=999:=λk=>by
 by_cases h:k<gs.length
 ·exact (b.good' h).1
 ·rw [CM Y];decide
section
variable (d m:Int) (gs:List Good) (ms:List AD) (cs:List AN)
def H1(g a b:Int):Int:=Am d m gs ms cs [if (decide (0<=g/\g<=(gs.length:Int)-1)) then (0:Int) else 6,if (decide (1<=a/\a<=d)) then (0:Int) else 1,if (decide (a<=b/\b<=d)) then (0:Int) else 1]
def Xd(g a b:Int):List Int:=CN (AU d gs ms cs m).length (λ(i:Nat)=>CZ ms ((AU d gs ms cs m).getD ((i:Int)).toNat AV.zero) g a b ms.length)
def SM(g a b:Int):Int:=if H1 d m gs ms cs g a b=0 then B3 (Xd d m gs ms cs g a b) else 0
def SN(g a b:Int):Int:=if H1 d m gs ms cs g a b=0 then DL (Xd d m gs ms cs g a b) else 0
def By(dy:Int):Int:=Am d m gs ms cs [if (decide (0<=dy/\dy<=d)) then (0:Int) else 1]
def LI(dy:Int):List Int:=CN (AU d gs ms cs m).length (λ(i:Nat)=>CT gs ms ((AU d gs ms cs m).getD ((i:Int)).toNat AV.zero) dy gs.length)
def Ch(dy:Int):Int:=if By d m gs ms cs dy=0 then B3 (LI d m gs ms cs dy) else 0
def Ci(dy:Int):Int:=if By d m gs ms cs dy=0 then DL (LI d m gs ms cs dy) else 0
end
def Jl(d:Int)(ms:List AD)(ps:List AV)(g:Int):List Int:=CN ps.length (λ(i:Nat)=>(AP ms (ps.getD ((i:Int)).toNat AV.zero) g d).1)
theorem Tn{d:Int}{ms:List AD}{ps:List AV}{g:Int}(hp:∀k,Bd (ps.getD k AV.zero))(hm:ms.length<=6)(hn:0<ps.length):(-693<=B3 (Jl d ms ps g)/\B3 (Jl d ms ps g)<=693)/\-693<=DL (Jl d ms ps g)/\DL (Jl d ms ps g)<=693:=
 Ve (λ_=>Hq (hp _) hm) hn
section
variable (d m:Int) (gs:List Good) (ms:List AD) (cs:List AN)
def Gr(g r:Int):Int:=Am d m gs ms cs [if (decide (0<=g/\g<=(gs.length:Int)-1)) then (0:Int) else 6,if (decide (1<=r/\r<=99)) then (0:Int) else 1]
def NW(g r:Int):Int:=if Gr d m gs ms cs g r=0 then (B3 (Jl d ms (AU d gs ms cs m) g)).tdiv r else 0
def NX(g r:Int):Int:=if Gr d m gs ms cs g r=0 then (DL (Jl d ms (AU d gs ms cs m) g)).tdiv r else 0
end
theorem AM.offKnown{U:Type}{h0 h:L}{v:aV}{t:aW}{n:Nat}{enc:U->Array aV}{xs:List U}{ms:List AD}{ps:List AV}{r:Nat}(x:AM h0 h v t n enc xs)(m:Af ms ps r h):Bv v r:=λe=>by
 obtain ⟨b,a⟩:=x.cellsAt r e;exact m.neCells a rfl
section
variable (d m:Int) (gs:List Good) (ms:List AD) (cs:List AN)
def HZ(ls:List Int)(r:Int):Int:=Am d m gs ms cs [Aw ls (gs.length:Int),if (decide (0<=r/\r<=99)) then (0:Int) else 1]
def Fp(ls:List Int)(r:Int)(k:Nat):Int:=(max 0 ((ls.getD k 0)*r-(B3 (Jl d ms (AU d gs ms cs m) (k:Int))))+(gs.getD k Good.z).pack-1) / ((gs.getD k Good.z).pack)
def Ep(ls:List Int)(r:Int):Nat->Int
 | 0=>0
 | k+1=>Ep ls r k+(Fp d m gs ms cs ls r k)*((gs.getD k Good.z).pack)*((gs.getD k Good.z).cost)
def YN(ls:List Int)(r:Int):List Int:=if HZ d m gs ms cs ls r=0 then (List.range gs.length).map (Fp d m gs ms cs ls r) else []
def NY(ls:List Int)(r:Int):Int:=if HZ d m gs ms cs ls r=0 then Ep d m gs ms cs ls r gs.length else 0
end
theorem SO{d m:Int}{gs:List Good}{ms:List AD}{cs:List AN}{ls:List Int}{r:Int}{k:Nat}(hl:0<=ls.getD k 0/\ls.getD k 0<=99)(hr:0<=r/\r<=99)(hp:1<=(gs.getD k Good.z).pack/\(gs.getD k Good.z).pack<=20)
  (hs: -693<=B3 (Jl d ms (AU d gs ms cs m) (k:Int))/\B3 (Jl d ms (AU d gs ms cs m) (k:Int))<=693):(0<=Fp d m gs ms cs ls r k/\Fp d m gs ms cs ls r k<=10600):=by
 have e:=Gq (a:=ls.getD k 0) (b:=r) (A:=99) (B:=99) hl Y;unfold Fp;have c:0<=max 0 ((ls.getD k 0)*r-(B3 (Jl d ms (AU d gs ms cs m) (k:Int))))+(gs.getD k Good.z).pack-1:=Y
 refine ⟨Int.ediv_nonneg c Y,Int.le_trans (Int.ediv_le_self _ c) Y⟩
theorem JC{p a c:Int}(hp:0<=p/\p<=10600)(ha:1<=a/\a<=20)(hc:0<=c/\c<=999):(0<=p*a/\p*a<=212000)/\0<=p*a*c/\p*a*c<=211788000:=by
 have e:=Gq (a:=p) (b:=a) (A:=10600) (B:=20) hp Y;have d:0<=p*a:=Int.mul_nonneg hp.1 Y;have f:=Gq (a:=p*a) (b:=c) (A:=212000) (B:=999) Y Y;have g:0<=p*a*c:=Int.mul_nonneg d hc.1;omega
theorem To{d m:Int}{gs:List Good}{ms:List AD}{cs:List AN}{ls:List Int}{r:Int}{k:Nat}(hp:0<=Fp d m gs ms cs ls r k/\Fp d m gs ms cs ls r k<=10600)(ha:1<=(gs.getD k Good.z).pack/\(gs.getD k Good.z).pack<=20)(hc:0<=(gs.getD k Good.z).cost/\(gs.getD k Good.z).cost<=999)
  (h:0<=Ep d m gs ms cs ls r k/\Ep d m gs ms cs ls r k<=211788000*(k:Int)):0<=Ep d m gs ms cs ls r (k+1)/\Ep d m gs ms cs ls r (k+1)<=211788000*((k+1:Nat):Int):=by
 have:=JC hp ha hc
 unfold Ep;omega
theorem nums_few{l:List Int}{n:Int}(h:¬(l.length:Int)=n):(Value.int .i64 2)=.int .i64 (Aw l n):=by unfold Aw;rw [aU h]
theorem nums_any{l:List Int}{n:Int}(h:(l.length:Int)=n):(Value.int .i64 (if (!(l.any (λx=>decide (¬(0<=x/\x<=99))))) then (0:Int) else 1))=.int .i64 (Aw l n):=by
 have e:Aw l n=if l.any (λx=>decide (¬(0<=x/\x<=99))) then 1 else 0:=by unfold Aw;rw [aT (λq=>q h)]
 rw [e];cases l.any (λx=>decide (¬(0<=x/\x<=99))) <;> rfl
section
variable {P:Program} {E:Fb P} {O:Nat->aV} {ds:List Deferred} {h:L} {T:(Nat->aV)->List Deferred->L->Prop}
variable {dst:Option Nat} {ty:aW} {pos:String} {af:Array Edge} {gd:Option (Nat×Bool)}
def fieldP(P:Program)(s:aW)(f:Nat)(cs:Array aV):Option aV:=match P.underlying s with
 | some (.struct fields)=>match fields[f]? with
  | some fl=>Gy P fl.type cs fl.offset
  | none=>none
 | _=>none
theorem YO{t:aW}{x:Operand}{f:Nat}{cs:Array aV}{v:aV}(hx:AL O x=.agg cs)(hp:fieldP P t f cs=some v)(k:T (putS O dst v) ds h):BK E ⟨dst,.field t x f,ty,pos,af,gd⟩ O ds h T:=by
 refine ok_field (v:=v) ?_ k;rw [hx];unfold fieldP at hp;unfold Instr.field;cases a:P.underlying t with
 | none=>rw [a] at hp;cases hp
 | some d=>
  rw [a] at hp;cases d <;> first | (cases hp;done) | skip
  rename_i fields
  refine AC _ _ (Aa a ?_);simp only at hp ⊢;cases b:fields[f]? with
  | none=>rw [b] at hp;cases hp
  | some c=>
   rw [b] at hp;simp only at hp ⊢;exact Gz hp ⟨rfl,rfl⟩
theorem Xe{xt yt:aW}{x y:Operand}{a b:Int}(hx:AL O x=.int .i64 a)(hy:AL O y=.int .i64 b)(ha: -9223372036854775807<=a)(ha':a<=9223372036854775807)(hb:0<b)(k:T (putS O dst (.int .i64 (a.tdiv b))) ds h) :
  BK E ⟨dst,.binOp .quo xt x y yt,ty,pos,af,gd⟩ O ds h T:=Em hx hy (by
 show (if b=0 then _ else (pure (Value.int .i64 (IntKind.i64.wrap (a.tdiv b))):Sem aV))=_;rw [aT Y];have c:(a.tdiv b).natAbs<=a.natAbs:=by rw [Int.natAbs_tdiv];exact Nat.div_le_self _ _
 rw [IntWalk.i64_in _ Y]) k
end
def Eu(hB:L)(ms:List AD)(pasts:List AV)(r:Nat)(h h':L):Prop:=A1 (λb=>b=r) h h'/\(Af ms pasts r h->Af ms pasts r h')/\(hB.Le h->hB.Le h')
section
variable {hB h hc h':L} {ms:List AD} {pasts:List AV} {r:Nat}
theorem Eu.refl(h:L):Eu hB ms pasts r h h:=⟨A1.refl _ _,id,id⟩
theorem Eu.trans(a b c:L)(x:Eu hB ms pasts r a b)(y:Eu hB ms pasts r b c):Eu hB ms pasts r a c:=⟨x.1.trans (λ_ q=>.inl q) y.1,λz=>y.2.1 (x.2.1 z),λz=>y.2.2 (x.2.2 z)⟩
theorem Eu.ofRes(m:Iw hB ms pasts r h h'):Eu hB ms pasts r h h':=⟨m.2.1,λ_=>m.1,λ_=>m.2.2⟩
theorem CJ.rel(y:CJ hB ms pasts r h hc)(m:Eu hB ms pasts r hc h'):CJ hB ms pasts r h h':=⟨m.2.1 y.ok,y.keep.trans (λ_ q=>.inl q) m.1,m.2.2 y.base⟩
theorem CJ.callDel(y:CJ hB ms pasts r h hc)(l:hB.Le (hc.del r))(m:Iw (hc.del r) ms pasts r hc h'):CJ hB ms pasts r h h':=⟨m.1,y.keep.trans (λ_ q=>.inl q) m.2.1,l.trans m.2.2⟩
end
section
variable {P:Program} {E:Fb P} {O:Nat->aV} {ds:List Deferred} {h hB:L} {ms:List AD} {pasts:List AV} {r:Nat}
theorem QP{id:Nat}{l:List Oper}{Q:Post}(n:Nat)(cls:List (List Nat))(Φ:List Pa)(hm:P.follows .mixedOrders=true)(ok:Nq E.N l n cls=true)(mono:E7 (Eu hB ms pasts r) Φ)(x:Kx (Eu hB ms pasts r) E l n Φ O ds h Q n 0 l cls) :
  Tr E (.region id l.toArray true) O ds h Q:=TJ Eu.refl Eu.trans n cls Φ hm ok mono x
end
theorem Dx.leOf{h0 h:L}(k:Dx (λb=>h0 b=none) h0 h):h0.Le h:=λb p o a=>k.1 b p o a λ(e:h0 b=none)=>by rw [a] at e;cases e
theorem AM.offTy{U:Type}{h0 h:L}{v:aV}{t T:aW}{n:Nat}{enc:U->Array aV}{xs:List U}(x:AM h0 h v t n enc xs){r:Nat}{p:Bool}{c:Array aV}{f:Nat×Nat}(hr:h r=some (p,.cells c T f))(ne:t≠T):Bv v r:=λe=>by
 obtain ⟨b,a⟩:=x.cellsAt r e;rw [a] at hr;simp only [Option.some.injEq,Prod.mk.injEq,Obj.cells.injEq] at hr;exact ne hr.2.2.1
section
variable {P:Program} {E:Fb P} {O:Nat->aV} {ds:List Deferred} {h:L} {T:(Nat->aV)->List Deferred->L->Prop}
variable {dst:Option Nat} {ty:aW} {pos:String} {af:Array Edge} {gd:Option (Nat×Bool)}
theorem Tp{t:aW}{a x:Operand}{b N:Nat}{g:Bool}{c cs:Array aV}{et:aW}(ht:Bh P t=some (g,N))(ha:AL O a=.pointer (some ⟨b,0,none⟩))(hv:AL O x=.agg cs)(hb:h b=some (true,.cells c et (0,0)))
  (hc:c.size=N) (hcs:cs.size=N) (hf:Value.fine (.agg cs)=true) (k:∀h',h' b=some (true,.cells cs et (0,0))->(∀x,x≠b->h' x=h x)->T (putS O dst undef) ds h'):BK E ⟨dst,.store t a x,ty,pos,af,gd⟩ O ds h T:=by
 refine AZ (c':=cs) ht ha hv hb hcs hf Y ?_ k;show BD c 0 cs.toList=cs;apply Array.toList_inj.1;rw [DT _ _ _ (by rw [Array.length_toList];omega)]
 have:c.toList.drop (0+cs.toList.length)=[]:=by rw [List.drop_eq_nil_iff];simp;omega
 rw [this];simp
end
section
variable {h h':L} {q r:Nat} {aQ:Int->Option Int}
theorem EX.keepNum(x:EX h q EO EO aQ)(k:A1 (λb=>b=r) h h')(hq:q≠r):EX h' q EO EO aQ:=by
 obtain ⟨d,a,e,y⟩:=x;obtain ⟨o,f,c⟩:=k q _ _ e hq;rcases c with rfl | ⟨c,_⟩
 ·exact ⟨d,a,f,y⟩
 ·cases c
end
section
variable {P:Program} {E:Fb P} {O:Nat->aV} {ds:List Deferred} {h:L} {T:(Nat->aV)->List Deferred->L->Prop}
variable {dst:Option Nat} {ty:aW} {pos:String} {af:Array Edge} {gd:Option (Nat×Bool)}
theorem OT{t kt vt:aW}{x ix:Operand}{r d:Nat}{aQ:Int->Option Int}{a:Int}(ht:Hw P t=some (kt,vt))(hx:AL O x=.map (some r))(hk:AL O ix=.int .i64 a)(hm:EX h r EO EO aQ)(hd:Nat.ble (d+1) 10000=true)
  (hc:∀a,VE P (d+1) kt (EO a)=true) (he:∀a b,Mh P (d+1) kt (EO a) (EO b)=some (a==b)) (hz:(P.info? vt).bind (·.zero)=some (.int .i64 0))
  (k:T (putS O dst (.int .i64 ((aQ a).getD 0))) ds h):BK E ⟨dst,.lookup t x ix false,ty,pos,af,gd⟩ O ds h T:=by
 refine L5 (ek:=EO) (ev:=EO) (a:=a) (z:=.int .i64 0) ht hx hk hm hd (hc _) (λb=>he a b) hz ?_;cases c:aQ a <;> (rw [c] at k;exact k)
theorem YP{t kt vt:aW}{om ok ox:Operand}{r d:Nat}{aQ:Int->Option Int}{a n:Int}(ht:Hw P t=some (kt,vt))(hm':AL O om=.map (some r))(hk:AL O ok=.int .i64 a)(hv:AL O ox=.int .i64 n)(hm:EX h r EO EO aQ)(hd:Nat.ble (d+1) 10000=true)
  (hc:∀a,VE P (d+1) kt (EO a)=true) (he:∀a b,Mh P (d+1) kt (EO a) (EO b)=some (a==b)) (hs:∀a,Instr.sameBits 10000 (EO a) (EO a)=true)
  (k:∀h',EX h' r EO EO (λb=>if b=a then some n else aQ b)->(∀b,b≠r->h' b=h b)->T (putS O dst undef) ds h'):BK E ⟨dst,.mapUpdate t om ok ox,ty,pos,af,gd⟩ O ds h T:=
 IL (a:=a) (v:=n) (ek:=EO) (ev:=EO) ht hm' hk hv hm hd (hc _) (λb=>he a b) (hs _) k
end
theorem SP(a:Int):Instr.sameBits 10000 (EO a) (EO a)=true:=by
 show Instr.sameBits (9999+1) (Value.int .i64 a) (Value.int .i64 a)=true;unfold Instr.sameBits;simp
def GD(f:Nat->Int):Nat->Int->Option Int
 | 0=>λ_=>none
 | k+1=>λb=>if b=f k then some ((GD f k (f k)).getD 0+1) else GD f k b
theorem JD(f:Nat->Int):∀(k:Nat)(b:Int),0<=(GD f k b).getD 0/\(GD f k b).getD 0<=(k:Int)
 | 0,b=>by simp [GD]
 | k+1,b=>by
  have a:=JD f k b;have c:=JD f k (f k);unfold GD;split
  ·show 0<=(GD f k (f k)).getD 0+1/\(GD f k (f k)).getD 0+1<=((k+1:Nat):Int);omega
  ·omega
def J9(f:Nat->Int):Nat->Int
 | 0=>0
 | k+1=>max (J9 f k) ((GD f (k+1) (f k)).getD 0)
def EH(w:Nat->Int)(n:Int):Nat->Int×Int
 | 0=>(-1,n)
 | k+1=>if w k<(EH w n k).2 then ((k:Int),w k) else EH w n k
section
variable (d m:Int) (gs:List Good) (ms:List AD) (cs:List AN)
def Jm:Int:=Am d m gs ms cs []
def HB(g:Nat):Int:=J9 (λi=>(AP ms ((AU d gs ms cs m).getD ((i:Int)).toNat AV.zero) (g:Int) d).1) (AU d gs ms cs m).length
def NZ:Int:=if Jm d m gs ms cs=0 then (EH (HB d m gs ms cs) ((AU d gs ms cs m).length:Int) gs.length).1 else 0
def LJ:Int:=if Jm d m gs ms cs=0 then (EH (HB d m gs ms cs) ((AU d gs ms cs m).length:Int) gs.length).2 else 0
end
end Go.Ns
namespace Go.Ns
open Go.Conc
open Classical in
noncomputable def L.delS (h:L) (X:Nat->Prop):L:=λb=>if X b then none else h b
section
variable {h h0 h':L} {X:Nat->Prop}
theorem L.delS_in{b:Nat}(x:X b):h.delS X b=none:=aU x
theorem L.delS_ne{b:Nat}(x:¬X b):h.delS X b=h b:=aT x
theorem L.delS_le(h:L)(X:Nat->Prop):(h.delS X).Le h:=λb p o a=>by
 by_cases e:X b
 ·rw [L.delS_in e] at a;cases a
 ·rw [L.delS_ne e] at a;exact ⟨o,a,.inl rfl⟩
theorem L.Le.delS(l:h0.Le h)(hX:∀b,X b->h0 b=none):h0.Le (h.delS X):=λb p o a=>by
 have e:¬X b:=λx=>by rw [hX b x] at a;cases a
 rw [L.delS_ne e];exact l b p o a
theorem AR.delS{b off n:Nat}{vs:Array aV}(x:AR h b off n vs)(e:¬X b):AR (h.delS X) b off n vs:=x.same (L.delS_ne e)
theorem AM.slDelS{U:Type}{v:aV}{t:aW}{n:Nat}{enc:U->Array aV}{xs:List U}(x:AM h0 h v t n enc xs)(f:∀b,Bu v=some b->¬X b):AE (h.delS X) v n enc xs:=
 AM.sl (h0:=h0) (x.keep λb o a c=>by rw [L.delS_ne (f b a)];exact c)
theorem AM.rebase{U:Type}{h1:L}{v:aV}{t:aW}{n:Nat}{enc:U->Array aV}{xs:List U}(x:AM h0 h v t n enc xs)(f:∀b,Bu v=some b->h1 b=none):AM h1 h v t n enc xs:=by
 rcases x with x | ⟨b,a,c,rfl,e,d⟩
 ·exact .inl x
 ·exact .inr ⟨b,a,c,rfl,f b rfl,d⟩
end
def mkD(d:Nat):Deferred:={ target:=.collected d,args:=#[] }
def HC(h0 h:L)(ds:List Deferred):Prop:=∃l:List Nat,ds=l.map mkD/\l.Nodup/\∀d ∈ l,h0 d=none/\h d=some (true,.deferred (some []))
theorem HC.nil(h0 h:L):HC h0 h []:=⟨[],rfl,List.nodup_nil,λ_ a=>by cases a⟩
theorem HC.le{h0 h h':L}{ds:List Deferred}(m:HC h0 h ds)(l:h.Le h'):HC h0 h' ds:=by
 obtain ⟨b,e,n,x⟩:=m;exact ⟨b,e,n,λd a=>⟨(x d a).1,l.keep (x d a).2 rfl⟩⟩
theorem HC.cons{h0 h h':L}{ds:List Deferred}{d:Nat}(m:HC h0 h ds)(l:h.Le h')(hn:h d=none)(h0n:h0 d=none)(hd:h' d=some (true,.deferred (some []))):HC h0 h' ({ target:=.collected d,args:=#[] } ::ds):=by
 obtain ⟨a,rfl,n,x⟩:=m;refine ⟨d ::a,rfl,List.nodup_cons.2 ⟨λc=>?_,n⟩,λb hb=>?_⟩
 ·rw [(x d c).2] at hn;cases hn
 ·rcases List.mem_cons.1 hb with rfl | hb
  ·exact ⟨h0n,hd⟩
  ·exact ⟨(x b hb).1,l.keep (x b hb).2 rfl⟩
def SameM(h h':L):Prop:=∀b,h b≠some (true,.deferred (some []))->h' b=h b
theorem AE.sameM{U:Type}{h h':L}{v:aV}{n:Nat}{enc:U->Array aV}{xs:List U}(x:AE h v n enc xs)(s:SameM h h'):AE h' v n enc xs:=by
 obtain ⟨a,d,j,k,l,m⟩:=x;refine ⟨a,d,j,k,l,λi o=>?_⟩;obtain ⟨b,f,r,g⟩:=m i o;refine ⟨b,f,r,g.same (s b λe=>?_)⟩;obtain ⟨p,c,t,z,q,_⟩:=g;rw [e] at q;cases q
theorem OU{P:Program}{fn:Func}{O:Nat->aV}{R:aV->L->Prop}{h0:L}:∀{ds:List Deferred}{h:L},HC h0 h ds->h0.Le h->(∀h',SameM h h'->h0.Le h'->FN P fn O R [] h')->FN P fn O R ds h:=by
 intro ds h ⟨l,e,n,x⟩ g k;subst e
 induction l generalizing h with
 | nil=>exact k h (λ_ _=>rfl) g
 | cons d l j=>
  have f:=x d (List.mem_cons_self ..);refine ⟨d,rfl,_,f.2,rfl,?_⟩;have i:=List.nodup_cons.1 n;have c:∀b,b≠d->(h.set d true (.deferred none)) b=h b:=λb a=>L.set_ne _ _ _ a;refine j i.2 (λb a=>?_) (g.upd f.1 c) λh' s m=>k h' (λb a=>?_) m
  ·have:=x b (List.mem_cons_of_mem _ a)
   exact ⟨this.1,(c b λe=>i.1 (e▸a)).trans this.2⟩
  ·have e:b≠d:=λe=>a (e▸f.2);rw [s b (by rw [c b e];exact a),c b e]
theorem OV{U:Type}{enc:U->Array aV}{n:Nat}:∀{xs:List U},(∀x ∈ xs,(enc x).size=n)->∀(i:Nat)(z:U),i<xs.length->Cw enc xs=Cw enc (xs.take i)++(enc (xs.getD i z)).toList++Cw enc (xs.drop (i+1))
 | [],_,i,z,h=>by simp at h
 | y ::xs,a,0,z,h=>by simp [Cw]
 | y ::xs,a,i+1,z,h=>by
  have:=OV (λx b=>a x (List.mem_cons_of_mem _ b)) i z (by simpa using h)
  show (enc y).toList++Cw enc xs=((enc y).toList++Cw enc (xs.take i))++(enc (xs.getD i z)).toList++Cw enc (xs.drop (i+1));rw [this];simp only [List.append_assoc]
theorem Tq{U:Type}{enc:U->Array aV}:∀{xs:List U}(i:Nat)(x:U),i<xs.length->Cw enc (xs.set i x)=Cw enc (xs.take i)++(enc x).toList++Cw enc (xs.drop (i+1))
 | [],i,x,h=>by simp at h
 | y ::xs,0,x,h=>by simp [Cw]
 | y ::xs,i+1,x,h=>by
  have:=Tq (enc:=enc) (xs:=xs) i x (by simpa using h)
  show (enc y).toList++Cw enc (xs.set i x)=((enc y).toList++Cw enc (xs.take i))++(enc x).toList++Cw enc (xs.drop (i+1));rw [this];simp only [List.append_assoc]
theorem AM.put{U:Type}{h0 h h':L}{t:aW}{n cap b i dl:Nat}{enc:U->Array aV}{xs:List U}{c:Array aV}{vs:List aV}{x':U}(z:U)(x:AM h0 h (.slice (some ⟨b,0,none⟩) xs.length cap) t n enc xs)(hb:h b=some (true,.cells c t (0,0)))
  (hi:i<xs.length) (hz:dl+vs.length<=n) (heq:BD (enc (xs.getD i z)) dl vs=enc x') (hb':h' b=some (true,.cells (BD c (i*n+dl) vs) t (0,0))):AM h0 h' (.slice (some ⟨b,0,none⟩) xs.length cap) t n enc (xs.set i x'):=by
 rcases x with ⟨e,_⟩ | ⟨v,j,w,e,f0,f1,f2,f3,f4,f5,f6⟩
 ·cases e
 simp only [Value.slice.injEq,Option.some.injEq,Addr.mk.injEq] at e;obtain ⟨⟨rfl,_⟩,_,rfl⟩:=e;rw [hb] at f1;simp only [Option.some.injEq,Prod.mk.injEq,Obj.cells.injEq,true_and] at f1;obtain ⟨rfl,_⟩:=f1;have k:(enc (xs.getD i z)).size=n:=f6 _ (EF hi);have f:(enc x').size=n:=by rw [<-heq,F0];exact k
 refine .inr ⟨_,_,_,by rw [List.length_set],f0,hb',by rw [F0];exact f2,by rw [List.length_set];exact f3,by rw [List.length_set];exact f4,?_,λy g=>?_⟩
 ·rw [List.length_set];have o:(Cw enc (xs.take i)).length=i*n:=by
   rw [D3 (n:=n) (λy g=>f6 y (List.mem_of_mem_take g)),List.length_take];congr 1;omega
  have a:(Cw enc xs).length=xs.length*n:=D3 f6;have l:i*n+n<=xs.length*n:=by rw [<-Nat.succ_mul];exact Nat.mul_le_mul_right n hi
  have m:xs.length*n<=c.size:=by rw [f2];exact Nat.mul_le_mul_right n f3
  have p:c.toList=Cw enc xs++c.toList.drop (xs.length*n):=by rw [<-f5,List.take_append_drop]
  have q:(enc x').toList=(enc (xs.getD i z)).toList.take dl++vs++(enc (xs.getD i z)).toList.drop (dl+vs.length):=by rw [<-heq,DT _ _ _ Y]
  have d:(enc (xs.getD i z)).toList.length=n:=by rw [Array.length_toList];exact k
  have D:(Cw enc (xs.take i)).length+n+(Cw enc (xs.drop (i+1))).length=xs.length*n:=by
   rw [<-a];conv=>rhs;rw [OV f6 i z hi]
   rw [List.length_append,List.length_append,d]
  rw [DT _ _ _ Y,Tq i x' hi,q,p,OV f6 i z hi];generalize enc (xs.getD i z)=B at *;generalize Cw enc (xs.take i)=A at *;generalize Cw enc (xs.drop (i+1))=C at *;generalize c.toList.drop (xs.length*n)=R at *;have r:(A++B.toList++C++R).take (i*n+dl)=A++B.toList.take dl:=by
   rw [List.append_assoc,List.append_assoc,<-o,List.take_length_add_append,List.take_append_of_le_length Y]
  have s:(A++B.toList++C++R).drop (i*n+dl+vs.length)=B.toList.drop (dl+vs.length)++C++R:=by
   rw [List.append_assoc,List.append_assoc,show i*n+dl+vs.length=A.length+(dl+vs.length) by omega,List.drop_length_add_append,List.drop_append_of_le_length Y,List.append_assoc]
  rw [r,s];have u:A++B.toList.take dl++vs++(B.toList.drop (dl+vs.length)++C++R)=(A++(B.toList.take dl++vs++B.toList.drop (dl+vs.length))++C)++R:=by simp only [List.append_assoc]
  rw [u,List.take_left' ?_];simp only [List.length_append,List.length_take,List.length_drop,d];omega
 ·rcases List.mem_or_eq_of_mem_set g with h | rfl
  ·exact f6 y h
  ·exact f
theorem AM.opened{U:Type}{h0 h:L}{v:aV}{t:aW}{n k:Nat}{enc:U->Array aV}{xs:List U}(x:AM h0 h v t n enc xs)(hk:k<xs.length):∃b cap c,v=.slice (some ⟨b,0,none⟩) xs.length cap/\h b=some (true,.cells c t (0,0)):=by
 rcases x with ⟨_,rfl⟩ | ⟨b,cap,c,a,_,d,_⟩
 ·simp at hk
 ·exact ⟨b,cap,c,a,d⟩
theorem AM.room{U:Type}{h0 h:L}{t:aW}{n cap b k:Nat}{enc:U->Array aV}{xs:List U}{c:Array aV}(x:AM h0 h (.slice (some ⟨b,0,none⟩) xs.length cap) t n enc xs)(hb:h b=some (true,.cells c t (0,0)))(hk:k<xs.length):k*n+n<=c.size:=by
 rcases x with ⟨e,_⟩ | ⟨d,a,f,e,f0,f1,f2,f3,_⟩
 ·cases e
 simp only [Value.slice.injEq,Option.some.injEq,Addr.mk.injEq] at e;obtain ⟨⟨rfl,_⟩,_,rfl⟩:=e;rw [hb] at f1;simp only [Option.some.injEq,Prod.mk.injEq,Obj.cells.injEq,true_and] at f1;obtain ⟨rfl,_⟩:=f1;rw [f2,<-Nat.succ_mul];exact Nat.mul_le_mul_right n Y
def clearAt(ms:List AD)(i:Nat):List AD:=ms.set i { ms.getD i AD.z with low:=0,high:=0 }
def Dm(ms:List AD)(l:List Int):List AD:=l.foldl (λms i=>clearAt ms i.toNat) ms
theorem Ts{ms:List AD}{l:List Int}{k:Nat}(hk:k<l.length):Dm ms (l.take (k+1))=clearAt (Dm ms (l.take k)) (l.getD k 0).toNat:=by
 unfold Dm;rw [HA 0 hk,List.foldl_append];rfl
theorem HD(ms:List AD)(i:Nat):(clearAt ms i).length=ms.length:=by unfold clearAt;rw [List.length_set]
theorem Pn(ms:List AD):∀(l:List Int),(Dm ms l).length=ms.length:=by
 intro l;unfold Dm
 induction l generalizing ms with
 | nil=>rfl
 | cons i l a=>show (l.foldl _ (clearAt ms i.toNat)).length=_;rw [a,HD]
theorem Gf(ms:List AD)(i k:Nat):(clearAt ms i).getD k AD.z=ms.getD k AD.z\/(clearAt ms i).getD k AD.z={ ms.getD k AD.z with low:=0,high:=0 }:=by
 unfold clearAt;rw [List.getD_eq_getElem?_getD,List.getElem?_set];split
 ·rename_i e
  subst e;split
  ·exact .inr rfl
  ·rename_i h
   refine .inl ?_;rw [List.getD_eq_getElem?_getD,List.getElem?_eq_none Y]
 ·refine .inl ?_;rw [<-List.getD_eq_getElem?_getD]
theorem YQ{d:Int}{gs:List Good}{ms:List AD}{k:Nat}(h1:0<=(ms.getD k AD.z).kind/\(ms.getD k AD.z).kind<=4)(h2:0<=(ms.getD k AD.z).good/\(ms.getD k AD.z).good<=(gs.length:Int)-1)
  (h3:1<=(ms.getD k AD.z).day/\(ms.getD k AD.z).day<=d) (h4:FQ ms k<=(ms.getD k AD.z).day) (h5:GQ (ms.getD k AD.z).low (ms.getD k AD.z).high):Fl d gs ms k=0:=by
 unfold Fl;rw [aT (not_not_intro h1),aT (not_not_intro h2),aT (not_not_intro h3),aT Y,aT (not_not_intro h5)]
theorem Bt.clearAt{d m:Int}{gs:List Good}{ms:List AD}{cs:List AN}(b:Bt d m gs ms cs)(i:Nat):Bt d m gs (clearAt ms i) cs:=by
 refine ⟨b.days,b.most,b.glen,b.good,by rw [HD];exact b.mlen,λk c=>?_,b.clen,b.count⟩;rw [HD] at c;have a:∀k,((Go.Ns.clearAt ms i).getD k AD.z).day=(ms.getD k AD.z).day:=λk=>by rcases Gf ms i k with e | e <;> rw [e]
 have f:FQ (Go.Ns.clearAt ms i) k=FQ ms k:=by unfold FQ;rw [a]
 obtain ⟨g,h,j,l,n⟩:=b.move' c;refine YQ ?_ ?_ ?_ ?_ ?_
 ·rcases Gf ms i k with e | e <;> rw [e] <;> exact g
 ·rcases Gf ms i k with e | e <;> rw [e] <;> exact h
 ·rw [a];exact j
 ·rw [f,a];exact l
 ·rcases Gf ms i k with e | e <;> rw [e]
  ·exact n
  ·show GQ 0 0;decide
theorem Bt.clear{d m:Int}{gs:List Good}{cs:List AN}:∀{l:List Int}{ms:List AD},Bt d m gs ms cs->Bt d m gs (Dm ms l) cs
 | [],_,b=>b
 | i ::l,_,b=>Bt.clear (l:=l) (b.clearAt i.toNat)
def FT(ms:List AD)(mask:Int)(k:Nat):Bool:=(List.range k).all λi=> !G8 mask i || EA ms i
def Ev(d:Int)(gs:List Good)(ms:List AD)(cs:List AN)(mask:Nat):Option (List Int):=
 if FT ms (mask:Int) ms.length=true then
  if AU d gs (Dm ms (BG (mask:Int) ms.length)) cs 0=[] then none else some (BG (mask:Int) ms.length)
 else none
def Da(d:Int)(gs:List Good)(ms:List AD)(cs:List AN)(k:Nat):List (List Int):=(List.range k).filterMap (Ev d gs ms cs)
theorem LK{d:Int}{gs:List Good}{ms:List AD}{cs:List AN}{k:Nat}(h:Ev d gs ms cs k=none):Da d gs ms cs (k+1)=Da d gs ms cs k:=by
 unfold Da;rw [List.range_succ,List.filterMap_append];simp [h]
theorem SQ{d:Int}{gs:List Good}{ms:List AD}{cs:List AN}{k:Nat}{l:List Int}(h:Ev d gs ms cs k=some l):Da d gs ms cs (k+1)=Da d gs ms cs k++[l]:=by
 unfold Da;rw [List.range_succ,List.filterMap_append];simp [h]
theorem pow_64{n:Nat}(h:n<=6):1<=(2:Int) ^ n/\(2:Int) ^ n<=64:=by
 have:n=0\/n=1\/n=2\/n=3\/n=4\/n=5\/n=6:=Y
 rcases this with rfl | rfl | rfl | rfl | rfl | rfl | rfl <;> decide
theorem YR(mask:Int)(n q:Nat):q<(BG mask n).length->0<=(BG mask n).getD q 0/\(BG mask n).getD q 0<(n:Int):=λa=>by
 have:=EF (d:=(0:Int)) a
 unfold BG at this ⊢;obtain ⟨i,b,e⟩:=List.mem_map.1 this
 have:=List.mem_range.1 (List.mem_filter.1 b).1
 rw [<-e];omega
theorem Po(ms:List AD)(mask:Int):FT ms mask 0=true:=rfl
theorem KA{ms:List AD}{mask:Int}{j:Nat}(h:FT ms mask j=true)(e:mask.fdiv (2 ^ j)%2=0\/EA ms (j:Int)=true):FT ms mask (j+1)=true:=by
 unfold FT at *;rw [List.range_succ,List.all_append,h];rcases e with e | e
 ·have:G8 mask j=false:=by unfold G8;rw [decide_eq_false Y]
  simp [this]
 ·simp [e]
theorem Vf{d:Int}{gs:List Good}{ms:List AD}{cs:List AN}{k j:Nat}(hj:j<ms.length)(hb:¬(k:Int).fdiv (2 ^ j)%2=0)(hn:¬((0<=(j:Int)/\(j:Int)<=(ms.length:Int)-1)/\(ms.getD ((j:Int)).toNat AD.z).kind=0)):Ev d gs ms cs k=none:=by
 unfold Ev;rw [aT];unfold FT;rw [List.all_eq_true];intro h
 have:=h j (List.mem_range.2 hj)
 have a:G8 (k:Int) j=true:=by unfold G8;rw [decide_eq_true];omega
 have b:EA ms (j:Int)=false:=by unfold EA;exact decide_eq_false hn
 rw [a,b] at this;cases this
theorem blame_no{d:Int}{gs:List Good}{ms:List AD}{cs:List AN}{k j q:Nat}(hj:j<=ms.length)(hj':¬(j:Int)<(ms.length:Int))(ha:FT ms (k:Int) j=true)(hq:¬(q:Int)<((BG (k:Int) j).length:Int))(h:AU d gs (Dm ms ((BG (k:Int) j).take q)) cs 0=[]):Ev d gs ms cs k=none:=by
 obtain rfl:j=ms.length:=Y
 rw [List.take_of_length_le Y] at h;unfold Ev;rw [aU ha,aU h]
theorem YS{d:Int}{gs:List Good}{ms:List AD}{cs:List AN}{k j q:Nat}(hj:j<=ms.length)(hj':¬(j:Int)<(ms.length:Int))(ha:FT ms (k:Int) j=true)(hq:¬(q:Int)<((BG (k:Int) j).length:Int))(h:AU d gs (Dm ms ((BG (k:Int) j).take q)) cs 0≠[]):Ev d gs ms cs k=some (BG (k:Int) j):=by
 obtain rfl:j=ms.length:=Y
 rw [List.take_of_length_le Y] at h;unfold Ev;rw [aU ha,aT h]
theorem OW{fl:List Sl}{v:aV}{xs:List Int}{l:List (List Int)}(h:B4 fl=l):B4 (fl++[(v,xs)])=l++[xs]:=by unfold B4 at *;rw [List.map_append,h];rfl
theorem B2.drop{h:L}{l:List Sl}(a:B2 h l)(n:Nat):B2 h (l.drop n):=λk=>by
 have:=a (n+k)
 rw [List.getD_eq_getElem?_getD] at this ⊢;rw [List.getElem?_drop];exact this
section
variable (d m:Int) (gs:List Good) (ms:List AD) (cs:List AN)
def EM:Int:=if An d m gs ms cs=0 then (if (Da d gs ms cs (2 ^ ms.length)).length=0 then 9 else 0) else An d m gs ms cs
def HE:List Int:=if EM d m gs ms cs=0 then It ((Da d gs ms cs (2 ^ ms.length)).getD 0 []) ((Da d gs ms cs (2 ^ ms.length)).drop 1) else []
end
section
variable {d m:Int} {gs:List Good} {ms:List AD} {cs:List AN} {fl:List Sl} {k:Nat}
theorem KB(h:¬An d m gs ms cs=0):EM d m gs ms cs=An d m gs ms cs:=by unfold EM;rw [aT h]
theorem LL(h:An d m gs ms cs=0):EM d m gs ms cs=if (Da d gs ms cs (2 ^ ms.length)).length=0 then 9 else 0:=by unfold EM;rw [aU h]
theorem SR(n:Nat):((2 ^ n:Nat):Int)=(2:Int) ^ n:=by induction n with
 | zero=>rfl
 | succ n a=>rw [Nat.pow_succ,Int.pow_succ,<-a];rfl
theorem MC(hk:(k:Int)<=(2:Int) ^ ((ms.length:Int)).toNat)(hk':¬(k:Int)<(2:Int) ^ ((ms.length:Int)).toNat):k=2 ^ ms.length:=by
 have:=SR ms.length
 rw [Int.toNat_natCast] at hk hk';omega
theorem C1(l:List Sl):(B4 l).length=l.length:=by unfold B4;simp
theorem Vg(h:¬An d m gs ms cs=0):(.tuple #[.slice none 0 0,.int .i64 (An d m gs ms cs)]:aV)=.tuple #[.slice none 0 0,.int .i64 (EM d m gs ms cs)]:=by rw [KB h]
theorem JE(hfl:B4 fl=Da d gs ms cs k)(hk:(k:Int)<=(2:Int) ^ ((ms.length:Int)).toNat)(hk':¬(k:Int)<(2:Int) ^ ((ms.length:Int)).toNat)(hb:¬¬An d m gs ms cs=0)(h0:(fl.length:Int)=0):EM d m gs ms cs=9:=by
 obtain rfl:=MC hk hk';rw [LL (Decidable.not_not.1 hb),<-hfl,C1,aU Y]
theorem JF(hfl:B4 fl=Da d gs ms cs k)(hk:(k:Int)<=(2:Int) ^ ((ms.length:Int)).toNat)(hk':¬(k:Int)<(2:Int) ^ ((ms.length:Int)).toNat)(hb:¬¬An d m gs ms cs=0)(h0:¬(fl.length:Int)=0):EM d m gs ms cs=0:=by
 obtain rfl:=MC hk hk';rw [LL (Decidable.not_not.1 hb),<-hfl,C1,aT Y]
theorem Vh(h:¬An d m gs ms cs=0):HE d m gs ms cs=[]:=by unfold HE;rw [KB h,aT h]
theorem Tt(hfl:B4 fl=Da d gs ms cs k)(hk:(k:Int)<=(2:Int) ^ ((ms.length:Int)).toNat)(hk':¬(k:Int)<(2:Int) ^ ((ms.length:Int)).toNat)(hb:¬¬An d m gs ms cs=0)(h0:(fl.length:Int)=0):HE d m gs ms cs=[]:=by
 unfold HE;rw [JE hfl hk hk' hb h0,aT aC]
theorem YT(hfl:B4 fl=Da d gs ms cs k)(hk:(k:Int)<=(2:Int) ^ ((ms.length:Int)).toNat)(hk':¬(k:Int)<(2:Int) ^ ((ms.length:Int)).toNat)(hb:¬¬An d m gs ms cs=0)(h0:¬(fl.length:Int)=0):HE d m gs ms cs=It (fl.getD 0 Sl.z).2 (B4 (fl.drop 1)):=by
 have e:=MC hk hk';unfold HE;rw [JF hfl hk hk' hb h0,aU rfl];subst e;rw [<-hfl,E9 Y];congr 1;unfold B4;rw [List.map_drop]
end
theorem fl_len{d:Int}{gs:List Good}{ms:List AD}{cs:List AN}{fl:List Sl}{k:Nat}(h:B4 fl=Da d gs ms cs k):fl.length<=k:=by
 rw [<-C1,h];unfold Da
 have:=List.length_filterMap_le (Ev d gs ms cs) (List.range k)
 rw [List.length_range] at this;exact this
theorem Tu{v:aV}(h:v.cells=#[v]):Instr.fill (λi=>some (i*1,1)) ((Array.range (1*1)).map (#[Value.slice none 0 0][·% #[Value.slice none 0 0].size]!)) [(0,v)]=some #[v]:=by
 have e:((Array.range (1*1)).map (#[Value.slice none 0 0][·% #[Value.slice none 0 0].size]!))=#[Value.slice none 0 0]:=aB
 rw [e];simp [Instr.fill,h]
def JFnd{U:Type}(hB:L)(r:Nat)(T t:aW)(wf:aV)(fl:List Sl)(pre:List U)(aN:Nat->Prop)(h:L):Prop:=
 pre=[]/\h r=some (true,.cells #[wf] T (0,0))/\AM hB h wf t 1 OG fl/\Bv wf r/\hB r=none/\∀b,aN b↔b=r\/Bu wf=some b
def SFnd{U:Type}(hB:L)(r:Nat)(T t:aW)(fl:List Sl)(cd:Code)(all:List U)(c:Code)(h:L):Prop:=
 c=cd/\(∃w,h r=some (true,.cells #[w] T (0,0))/\AM hB h w t 1 OG fl/\Bv w r)/\all≠[]
theorem QQ{U:Type}(hB:L)(r:Nat)(T t:aW)(wf:aV)(fl:List Sl):G5 hB (JFnd (U:=U) hB r T t wf fl):=by
 refine ⟨?_,?_⟩
 ·rintro d l h b ⟨_,f,g,j,k,a⟩ i;rcases (a b).1 i with rfl | h5
  ·exact ⟨_,_,f,rfl⟩
  ·obtain ⟨c,m⟩:=g.cellsAt b h5;exact ⟨_,_,m,rfl⟩
 ·rintro d l h p ⟨e,f,g,j,k,a⟩ same q;exact ⟨e,by rw [same r ((a r).2 (.inl rfl))];exact f,g.keep λb o i n=>by rw [same b ((a b).2 (.inr i))];exact n,j,k,a⟩
theorem Vi{U:Type}{hK h:L}{r:Nat}{T t:aW}{wf:aV}{fl:List Sl}(x:h r=some (true,.cells #[wf] T (0,0)))(o:AM hK h wf t 1 OG fl)(f:Bv wf r) :
  JFnd (U:=U) (h.delS λb=>b=r\/Bu wf=some b) r T t wf fl [] (λb=>b=r\/Bu wf=some b) h:=
 ⟨rfl,x,o.rebase λ_ q=>L.delS_in (.inr q),f,L.delS_in (.inl rfl),λ_=>Iff.rfl⟩
theorem Tv{U:Type}{hB:L}{r:Nat}{T t:aW}{fl:List Sl}{cd:Code}{all:List U}:∀c (h h':L) l lo,SFnd hB r T t fl cd all c h->h l=some (true,.loop lo)->(∀b,b≠l->h' b=h b)->SFnd hB r T t fl cd all c h':=by
 rintro c h h' l lo ⟨j,⟨w,f,g,k⟩,m⟩ a i;refine ⟨j,⟨w,(i _ λe=>by subst e;rw [f] at a;cases a).trans f,g.keep λb o n d=>?_,k⟩,m⟩;obtain ⟨c,p⟩:=g.cellsAt b n;exact (i b λe=>by subst e;rw [p] at a;cases a).trans d
end Go.Ns
