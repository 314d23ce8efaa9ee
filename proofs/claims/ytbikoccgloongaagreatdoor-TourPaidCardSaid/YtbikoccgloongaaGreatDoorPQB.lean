/- Rules and walks, part 2 of 6. No conditions. -/
import Derived.Sort.AssemblyPlain
import Derived.Sort.LotD3
import Derived.Test.YtbikoccgloongaaGreatDoorPQA
set_option linter.unusedVariables false
set_option linter.unusedSimpArgs false
set_option linter.unnecessarySimpa false
set_option linter.unusedSectionVars false
set_option linter.constructorNameAsVariable false
namespace Go.Ns
open Go.Conc
section
variable {P:Program} {E:Gb P} {O:Nat->aZ} {ds:List Deferred} {h:Y} {T:(Nat->aZ)->List Deferred->Y->Prop}
variable {dst:Option Nat} {ty:bA} {pos:String} {af:Array Edge} {gd:Option (Nat×Bool)}
def UponV(W:Wk P)(R:aZ->Y->Prop):Next->Y->Prop
 | .enter f args,h=>AT W f args h R
 | .round l f tmps a c,h=>BS W l f tmps a c h R
 | _,_=>False
def Bi(W:Wk P)(fv:aZ)(args:Array aZ)(h:Y)(R:aZ->Y->Prop):Prop:=
 (do let d<-Deferred.ofValue fv args;invoke d.target d.args:Sem Next).gh P h (UponV W R)
theorem Bi.mono{W:Wk P}{fv:aZ}{args:Array aZ}{h:Y}{R R':aZ->Y->Prop}(x:Bi W fv args h R)(hr:∀v h',R v h'->R' v h'):Bi W fv args h R':=by
 refine FH _ (λa h' y=>?_) h x;cases a <;> first | exact y | exact AT.mono y hr | exact BS.mono y hr
theorem Lb{f:Operand}{args:Array Operand}{tys:Array bA}{fv:aZ}{vs:Array aZ}(hv:AN O f=fv)(ha:args.map (AN O)=vs)(x:Bi E.wk fv vs h λv h'=>T (putS O dst v) ds h') :
  BR E ⟨dst,.call ⟨.value f,args,tys⟩,ty,pos,af,gd⟩ O ds h T:=by
 unfold BR execOp;simp only [];unfold resolve;simp only [hv,ha];refine FH _ (λa h' y=>?_) h x;cases a <;> first | exact y | exact y.elim
theorem DV{f x:Operand}{tys:Array bA}{fv v1:aZ}(hv:AN O f=fv)(h1:AN O x=v1)(y:Bi E.wk fv #[v1] h λv h'=>T (putS O dst v) ds h') :
  BR E ⟨dst,.call ⟨.value f,#[x],tys⟩,ty,pos,af,gd⟩ O ds h T:=Lb hv (by simp [h1]) y
theorem BB{W:Wk P}{g:FuncId}{fn:Func}{first cap args vs:Array aZ}{R:aZ->Y->Prop}(hf:P.funcs[g]? =some fn)(hc:AK fn=true)(ha:first++args++cap=vs)(x:AT W g vs h R):Bi W (.func (.func g) first cap) args h R:=by
 subst ha;unfold Bi;simp only [Deferred.ofValue];refine AE _ _ (Ak ?_);exact N2 hf hc x
theorem JN{l:Nat}{p:Bool}{lo:Loop}{Q:Loop->Y->Prop}(hl:h l=some (p,.loop lo))(q:Q lo h):(Instr.getLoop l).gh P h Q:=by
 unfold Instr.getLoop;exact AE _ _ ⟨p,_,hl,rfl,rfl,q⟩
theorem Pg{W:Wk P}{l:Nat}{p:Bool}{lo:Loop}{args:Array aZ}{R:aZ->Y->Prop}(hl:h l=some (p,.loop lo))(hn:args.size=lo.params.size)
  (x:BS W l lo.fn ((lo.params.zip args).foldl (λtmps x=>tmps.setIfInBounds x.1 x.2) lo.tmps) lo.assign lo.body h R):Bi W (.func (.yield l) #[] #[]) args h R:=by
 unfold Bi;simp only [Deferred.ofValue];refine AE _ _ (Ak ?_);unfold invoke;simp only [];unfold Instr.yield;refine AE _ _ (JN hl ?_);have e:#[]++args=args:=aD
 rw [e,aX (by rw [hn];simp)];exact x
def XJ(Q:Post)(O:Nat->aZ)(ds:List Deferred)(l:Nat)(h:Y):Prop:=
 ∃lo,h l=some (true,.loop lo)/\(lo.state==.busy)=false/\match lo.pending with
  | none=>Q .normal O ds (h.set l true (.loop { lo with state:=.exhausted }))
  | some (.exit id)=>Q (.exit id) O ds (h.set l true (.loop { lo with state:=.exhausted }))
  | some .ret=>Q .ret O ds (h.set l true (.loop { lo with state:=.exhausted }))
  | some _=>False
theorem MK{f:Operand}{params:Array Tmp}{assign body:Code}{Q:Post}(hrd:E.rd=none)
  (x:∀(t:Array aZ) d l,BT t E.N O->h d=none->h l=none->l≠d->
   Bi E.wk (AN O f) #[.func (.yield l) #[] #[]] ((h.set d true (.deferred (some []))).set l true (.loop { state:=.ready,pending:=none,fn:=E.fn,tmps:=t,params,assign,body,defers:=d }))
    λ_ h'=>XJ Q O ({ target:=.collected d,args:=#[] } ::ds) l h'):Tr E (.rangeFunc f params assign body) O ds h Q:=by
 intro b k j aP t hb hr hl n D;refine E.wk.closed _ _ rfl λw F=>?_;have e1:(Instr.enterLoop b.fn t params assign body b.roundOf).gh P h λr h'=>∃d l,h d=none/\h l=none/\l≠d/\r=(l,[{ target:=.collected d,args:=#[] }])/\
   h'=(h.set d true (.deferred (some []))).set l true (.loop { state:=.ready,pending:=none,fn:=b.fn,tmps:=t,params,assign,body,defers:=d }):=by
  rw [hr,hrd];unfold Instr.enterLoop;refine AE _ _ (λd H=>?_);refine AE _ _ (Ak ?_);refine AE _ _ (λl g=>?_);have i:l≠d:=λe=>by subst e;rw [Y.set_same] at g;cases g
  rw [Y.set_ne _ _ _ i] at g;exact ⟨d,l,H,g,i,rfl,rfl⟩
 obtain ⟨r,w1,h1,p,r1,r2,d,l,H,g,i,rfl,rfl⟩:=JF F e1;have y:=x t d l n H g i;rw [<-hb] at y;let mark:List Deferred:=[{ target:=.collected d,args:=#[] }];have I:(Cd b t (mark++ds) (.inRangeFunc l ::k)).eval=AN O:=funext λo=>by rw [L9 n]
 have y':(do let d<-resolve (Cd b t (mark++ds) (.inRangeFunc l ::k)).eval { callee:=.value f,args:=#[.const (.func (.yield l) #[] #[])],argTypes:=#[] } 0;invoke d.target d.args:Sem Next).gh P
   ((h.set d true (.deferred (some []))).set l true (.loop { state:=.ready,pending:=none,fn:=b.fn,tmps:=t,params,assign,body,defers:=d })) (UponV E.wk λ_ h'=>XJ Q O ({ target:=.collected d,args:=#[] } ::ds) l h'):=by
  rw [I];unfold resolve;simpa [AN,Bi] using y
 obtain ⟨nx,M,R,m,q1,q2,W⟩:=JF r2.fits y';have hstep:stepG P E.wk.main (G (Cd b t ds (.code (.rangeFunc f params assign body) ::k)) j) w=
   GStep.after (seen P b.fn p) (stepG.apply P true (Cd b t (mark++ds) (.inRangeFunc l ::k)) j none
    (do let d<-resolve (Cd b t (mark++ds) (.inRangeFunc l ::k)).eval { callee:=.value f,args:=#[.const (.func (.yield l) #[] #[])],argTypes:=#[] } 0;invoke d.target d.args) w1):=by
  rw [A6];unfold stepG.exec;simp only [Cd,r1];rfl
 have s:∀q:Bool,∀e ∈ seen P b.fn (if q then #[] else m),e ∈ m:=λq e he=>by
  have:=mem_seen he
  cases q with
  | true=>simp at this
  | false=>simpa using this
 have u:∀q:Bool,Bf h w (seen P b.fn p++(seen P b.fn (if q then #[] else m)++ #[])) R M:=λq=>
  (r2.trans q2).sub λe he=>by
   rw [Array.append_empty,Array.mem_append] at he;rw [Array.mem_append];rcases he with he | he
   ·exact .inl (mem_seen he)
   ·exact .inr (s q e he)
 have CS:∀(v:aZ) h',XJ Q O ({ target:=.collected d,args:=#[] } ::ds) l h'->E.wk.K (G ((Cd b t (mark++ds) (.inRangeFunc l ::k)).finish v) j) h':=by
  rintro v h' ⟨B,A,X,z⟩;show E.wk.K (G (Cd b t (mark++ds) (.endRangeFunc l ::k)) j) h';refine E.wk.closed _ _ rfl λw F=>?_;have e2:(Instr.endLoop l).gh P h' λjump h''=>jump=B.pending/\h''=h'.set l true (.loop { B with state:=.exhausted }):=by
   unfold Instr.endLoop;refine AE _ _ (JN A ?_);rw [X];refine AE _ _ ⟨_,A,rfl,rfl,rfl,?_⟩;exact ⟨rfl,rfl⟩
  obtain ⟨jump,w3,h3,es3,p1,p2,rfl,rfl⟩:=JF F e2;refine ⟨G (Cd b t (mark++ds) ((B.pending.map Item.code).toList++k)) j,w3,_,_,?_,p2.sub (es':=seen P b.fn es3++ #[]) λe he=>?_,?_⟩
  ·rw [A6];unfold stepG.exec;simp only [Cd,p1];rfl
  ·rw [Array.append_empty] at he;exact mem_seen he
  ·cases hp:B.pending with
   | none=>
    rw [hp] at z;exact D _ _ _ _ z t n
   | some c=>
    rw [hp] at z;cases c with
    | ret=>
     have:=D _ _ _ _ z t n
     exact hl.ret t _ _ k this
    | exit id=>
     have:=D _ _ _ _ z t n
     show E.wk.K (G (Cd b t (mark++ds) (.code (.exit id) ::k)) j) _;cases C:exitTo id k with
     | none=>simp only [DI,C] at this;exact hl.exit id t _ _ k C this
     | some k'=>
      simp only [DI,C] at this;exact Wk.go (Cd b t (mark++ds) k') (λw=>by rw [A6];simp [stepG.exec,Cd,G,C]) this
    | _=>exact z.elim
 cases nx with
 | enter f' args=>
  refine ⟨_,M,_,R,?_,u (b.kind==.early),W (Cd b t (mark++ds) (.inRangeFunc l ::k)) j CS⟩;rw [hstep];simp only [stepG.apply,q1,if_true];rfl
 | round l' f' tmps a c=>
  refine ⟨_,M,_,R,?_,u (b.kind==.early),W (Cd b t (mark++ds) (.inRangeFunc l ::k)) j CS⟩;rw [hstep];simp only [stepG.apply,q1,if_true];rfl
 | _=>exact W.elim
theorem N6{W:Wk P}{l:Nat}{f:FuncId}{tmps:Array aZ}{N:Nat}{assign body:Code}{R:aZ->Y->Prop}(hN:tmps.size=N)
  (x:Tr ⟨W,f,some l,N⟩ assign (λi=>tmps.getD i undef) [] h λe O ds h'=>e=.normal/\∃lo,h' l=some (true,.loop lo)/\lo.state=.ready/\
   Tr ⟨W,f,some l,N⟩ body O ds (h'.set l true (.loop { lo with state:=.busy })) λe _ _ h''=>∃lo',h'' l=some (true,.loop lo')/\match e with
    | .normal=>R (.bool true) (h''.set l true (.loop { lo' with state:=.ready,pending:=none }))
    | .exit id=>R (.bool false) (h''.set l true (.loop { lo' with state:=.done,pending:=some (.exit id) }))
    | .ret=>R (.bool false) (h''.set l true (.loop { lo' with state:=.done,pending:=some .ret }))
    | _=>False):BS W l f tmps assign body h R:=by
 intro c cs hc;let b:Frame:=Frame.round l f tmps assign body .normal;show W.K (G (Cd b tmps [] [.code assign,.beginRound,.code body]) (c ::cs)) h;have leave:∀(jump:Option Code)(v:aZ)(t:Array aZ)(ds:List Deferred)(k:List Item)(h'':Y)(lo':Loop),h'' l=some (true,.loop lo')->
   (∀w,stepG P W.main (G (Cd b t ds k) (c ::cs)) w=GStep.after (seen P f ((Instr.endRound l jump).runT P w #[]).2) (match ((Instr.endRound l jump).runT P w #[]).1 with
    | .ok v w=>doReturn P W.main (Cd b t ds k) (c ::cs) none v w
    | .halt _ w=>.ended (.stuck "range over a function: no such loop" ((Cd b t ds k).pos P)) w))->v=.bool jump.isNone->
   R v (h''.set l true (.loop { lo' with state:=if jump.isNone then .ready else .done,pending:=jump }))->W.K (G (Cd b t ds k) (c ::cs)) h'':=by
  rintro jump v t ds k h'' lo' hlo hstep rfl hR;refine W.closed _ _ rfl λw fw=>?_;have e2:(Instr.endRound l jump).gh P h'' λv h3=>v=.bool jump.isNone/\h3=h''.set l true (.loop { lo' with state:=if jump.isNone then .ready else .done,pending:=jump }):=by
   unfold Instr.endRound;refine AE _ _ (JN hlo ?_);refine AE _ _ ⟨_,hlo,rfl,rfl,rfl,?_⟩;exact ⟨rfl,rfl⟩
  obtain ⟨v,w3,h3,es3,p1,p2,rfl,rfl⟩:=JF fw e2;refine ⟨G (c.finish (.bool jump.isNone)) cs,w3,_,_,?_,p2.sub (es':=seen P f es3++ #[]) λe he=>?_,hc _ _ hR⟩
  ·rw [hstep,p1];rfl
  ·rw [Array.append_empty] at he;exact mem_seen he
 let aP:Lv:=λj t ds h''=>∃lo',h'' l=some (true,.loop lo')/\match j with
  | none=>R (.bool true) (h''.set l true (.loop { lo' with state:=.ready,pending:=none }))
  | some (.exit id)=>R (.bool false) (h''.set l true (.loop { lo' with state:=.done,pending:=some (.exit id) }))
  | some .ret=>R (.bool false) (h''.set l true (.loop { lo' with state:=.done,pending:=some .ret }))
  | some _=>False
 have hL:MA W b (c ::cs) aP:=by
  refine ⟨?_,?_,?_⟩
  ·rintro t ds h'' ⟨lo',h1,h2⟩;exact leave none _ t ds [] h'' lo' h1 (λw=>by rw [A6];rfl) rfl (by simpa using h2)
  ·rintro t ds h'' k ⟨lo',h1,h2⟩;exact leave (some .ret) _ t ds (.code .ret ::k) h'' lo' h1 (λw=>by rw [A6];rfl) rfl (by simpa using h2)
  ·rintro id t ds h'' k hk ⟨lo',h1,h2⟩;exact leave (some (.exit id)) _ t ds (.code (.exit id) ::k) h'' lo' h1 (λw=>by rw [A6];simp only [stepG.exec,Cd,hk,Option.elim];rfl) rfl (by simpa using h2)
 refine x b [.beginRound,.code body] (c ::cs) aP tmps rfl rfl hL ⟨hN,λi=>rfl⟩ ?_;rintro e O ds h' ⟨rfl,lo,h1,h2,h3⟩ t' ht';show W.K (G (Cd b t' ds [.beginRound,.code body]) (c ::cs)) h';refine W.closed _ _ rfl λw fw=>?_;have e3:(do (some l).elim (stuck "beginRound: no round") Instr.beginRound;pure Next.skip:Sem Next).gh P h' λnx h''=>nx=.skip/\h''=h'.set l true (.loop { lo with state:=.busy }):=by
  show Sem.gh P (do Instr.beginRound l;pure Next.skip:Sem Next) h' _;unfold Instr.beginRound;refine AE _ _ (AE _ _ (JN h1 ?_));refine AE _ _ ⟨_,h1,rfl,rfl,rfl,?_⟩;rw [h2];exact ⟨rfl,rfl⟩
 obtain ⟨nx,w3,h4,es3,p1,p2,rfl,rfl⟩:=JF fw e3;refine ⟨G (Cd b t' ds [.code body]) (c ::cs),w3,_,_,?_,p2.sub (es':=seen P f es3++ #[]) λe he=>?_,?_⟩
 ·rw [A6];unfold stepG.exec;simp only [Cd];unfold stepG.apply;have hb:b.roundOf=some l:=rfl;simp only [hb,p1,if_true];rfl
 ·rw [Array.append_empty] at he;exact mem_seen he
 ·refine h3 b [] (c ::cs) aP t' rfl rfl hL ht' ?_;rintro e σ' ds' h'' ⟨lo',g1,g2⟩ t2 ht2;cases e with
  | normal=>
   exact hL.stop t2 ds' h'' ⟨lo',g1,g2⟩
  | exit id=>exact ⟨lo',g1,g2⟩
  | ret=>exact ⟨lo',g1,g2⟩
  | _=>exact g2.elim
end
end Go.Ns
namespace Go.Ns
open Go.Conc
section
variable {P:Program} {E:Gb P} {O:Nat->aZ} {ds:List Deferred} {h:Y} {T:(Nat->aZ)->List Deferred->Y->Prop}
variable {dst:Option Nat} {ty:bA} {pos:String} {af:Array Edge} {gd:Option (Nat×Bool)}
variable {aQ:Type}
def GK(R:Y->Y->Prop):List Sd->Prop
 | []=>True
 | φ ::l=>(∀v h h',R h h'->φ v h->φ v h')/\GK R l
theorem GK.mono{R:Y->Y->Prop}:∀{Φ:List Sd},GK R Φ->∀k v h h',R h h'->MH Φ k v h->MH Φ k v h'
 | [],_,k,v,h,h',_,x=>by cases k <;> exact x
 | φ ::l,a,0,v,h,h',r,x=>a.1 v h h' r x
 | φ ::l,a,k+1,v,h,h',r,x=>GK.mono a.2 k v h h' r x
theorem tr_drawn{R:Y->Y->Prop}(rr:∀h,R h h)(rt:∀a b c,R a b->R b c->R a c){id:Nat}{l:List Oper}{Q:Post}(n:Nat)(cls:List (List Nat))(Φ:List Sd)
  (hm:P.follows .mixedOrders=true) (ok:UF E.N l n cls=true) (mono:GK R Φ) (x:N3 R E l n Φ O ds h Q n 0 l cls):Tr E (.region id l.toArray true) O ds h Q:=
 tr_draw R n cls Φ hm ok rr rt mono.mono x
theorem Lc{id:Nat}{l:List Oper}{Q:Post}(n:Nat)(cls:List (List Nat))(Φ:List Sd)
  (hm:P.follows .mixedOrders=true) (ok:UF E.N l n cls=true) (mono:GK Y.Le Φ) (x:N3 Y.Le E l n Φ O ds h Q n 0 l cls):Tr E (.region id l.toArray true) O ds h Q:=
 tr_drawn Y.Le.refl (λ_ _ _=>Y.Le.trans) n cls Φ hm ok mono x
theorem trL_opg{ops:Array Oper}{o:Oper}{l:List Oper}{Q:Post}{j d:Nat}{want:Bool}{oj:Oper}(hg:o.guard=some (j,want))(hj:ops[j]? =some oj)(hjd:oj.dst=some d)(hv:O d=.bool want)(hdj:Nat.blt d E.N=true)
  (hdf:E.rd=none\/C2 o.op=false) (hd:Cy o.dst E.N=true) (x:BR E o O ds h λσ' ds' h'=>DK E ops l σ' ds' h' Q):DK E ops (o ::l) O ds h Q:=T7 hg hj hjd hv hdj hdf hd x
theorem A8{ops:Array Oper}{o:Oper}{l:List Oper}{Q:Post}{j d:Nat}{want:Bool}{oj:Oper}(hg:o.guard=some (j,want))(hj:ops[j]? =some oj)(hjd:oj.dst=some d)(hv:O d=undef)(hdj:Nat.blt d E.N=true)
  (hd:Cy o.dst E.N=true) (x:DK E ops l (putS O o.dst undef) ds h Q):DK E ops (o ::l) O ds h Q:=by
 intro i b k n p t g q r s c u;have m:ops[i]? =some o:=by simpa using (g 0).symm
 have v:yielded ops t j=none:=by
  have a:d<t.size:=by rw [c.1];exact Nat.blt_eq▸hdj
  have e:=c.2 d;rw [hv] at e;have y:t[d]? =some undef:=by
   simp only [Array.getD_eq_getD_getElem?,Array.getElem?_eq_getElem a,Option.getD_some] at e;rw [Array.getElem?_eq_getElem a,e]
  simp [yielded,hj,hjd,y,undef]
 refine Wk.go (Cd b (W9 t o.dst undef) ds (.inRegion ops (List.range' (i+1) l.length) ::k)) (λw=>?_) ?_
 ·have f:((ops[i]?).map (Region.wanted · (yielded ops t))).getD false=false:=by
   simp only [m,Option.map_some,Option.getD_some,Region.wanted,hg,v];cases want <;> rfl
  rw [<-C3 m (rest:=List.range' (i+1) l.length),List.length_cons,List.range'_succ,A6];unfold stepG.exec;simp only [Cd,f,Bool.false_eq_true,↓reduceIte];rfl
 ·exact x (i+1) b k n p _ (λj=>by have:=g (j+1);simpa [Nat.add_assoc,Nat.add_comm 1 j] using this) q r s (c.putS hd undef) u
theorem Aj{ops:Array Oper}{l:List Oper}{Q:Post}{p:Prop}[Decidable p](a:p->DK E ops l O ds h Q)(a':¬p->DK E ops l O ds h Q):DK E ops l O ds h Q:=if h:p then a h else a' h
theorem Iz{ops:Array Oper}{l:List Oper}{Q:Post}{b:Bool}(a:b=true->DK E ops l O ds h Q)(a':b=false->DK E ops l O ds h Q):DK E ops l O ds h Q:=by
 cases b with
 | true=>exact a rfl
 | false=>exact a' rfl
theorem FK{f:Fn}{x1:Operand}{v1:aZ}(h1:AN O x1=v1)(k:T (putS O dst (.func f #[] #[v1])) ds h):BR E ⟨dst,.makeFunc f #[] #[x1],ty,pos,af,gd⟩ O ds h T:=EU (by simp [h1]) k
theorem GL{f:Fn}{x1 x2:Operand}{v1 v2:aZ}(h1:AN O x1=v1)(h2:AN O x2=v2)(k:T (putS O dst (.func f #[] #[v1,v2])) ds h):BR E ⟨dst,.makeFunc f #[] #[x1,x2],ty,pos,af,gd⟩ O ds h T:=EU (by simp [h1,h2]) k
theorem JO{f:Fn}{x1 x2 x3:Operand}{v1 v2 v3:aZ}(h1:AN O x1=v1)(h2:AN O x2=v2)(h3:AN O x3=v3)(k:T (putS O dst (.func f #[] #[v1,v2,v3])) ds h):BR E ⟨dst,.makeFunc f #[] #[x1,x2,x3],ty,pos,af,gd⟩ O ds h T:=EU (by simp [h1,h2,h3]) k
theorem ML{f:Fn}{x1 x2 x3 x4:Operand}{v1 v2 v3 v4:aZ}(h1:AN O x1=v1)(h2:AN O x2=v2)(h3:AN O x3=v3)(h4:AN O x4=v4)(k:T (putS O dst (.func f #[] #[v1,v2,v3,v4])) ds h):BR E ⟨dst,.makeFunc f #[] #[x1,x2,x3,x4],ty,pos,af,gd⟩ O ds h T:=EU (by simp [h1,h2,h3,h4]) k
theorem MM{f:Fn}{x1 x2 x3 x4 x5:Operand}{v1 v2 v3 v4 v5:aZ}(h1:AN O x1=v1)(h2:AN O x2=v2)(h3:AN O x3=v3)(h4:AN O x4=v4)(h5:AN O x5=v5)(k:T (putS O dst (.func f #[] #[v1,v2,v3,v4,v5])) ds h):BR E ⟨dst,.makeFunc f #[] #[x1,x2,x3,x4,x5],ty,pos,af,gd⟩ O ds h T:=EU (by simp [h1,h2,h3,h4,h5]) k
theorem CT{v:aZ}{p:Prop}[Decidable p](e:v=.bool (decide p))(g:v=.bool false):¬p:=by
 rw [e] at g;simpa using g
theorem AO.fresh{h0 h:Y}{v:aZ}{t:bA}{n:Nat}{enc:aQ->Array aZ}{xs:List aQ}(x:AO h0 h v t n enc xs):∀b,CS v=some b->h0 b=none:=by
 intro b a;rcases x with ⟨rfl,_⟩ | ⟨f,d,c,rfl,e,_⟩
 ·cases a
 ·simp [CS] at a;subst a;exact e
theorem AO.inDom{h0 h:Y}{v:aZ}{t:bA}{n:Nat}{enc:aQ->Array aZ}{xs:List aQ}(x:AO h0 h v t n enc xs):∀b,CS v=some b->∃o,h b=some o:=by
 intro b a;rcases x with ⟨rfl,_⟩ | ⟨f,d,c,rfl,g,e,_⟩
 ·cases a
 ·simp [CS] at a;subst a;exact ⟨_,e⟩
def BD(v:aZ)(b:Nat):Prop:=CS v≠some b
def Apart(v w:aZ):Prop:=∀b,CS v=some b->CS w≠some b
theorem Apart.symm{v w:aZ}(a:Apart v w):Apart w v:=λb h c=>a b c h
theorem BD.nil{b:Nat}:BD (.slice none 0 0) b:=by intro h;cases h
theorem Apart.nil{w:aZ}:Apart (.slice none 0 0) w:=by intro b h;cases h
theorem BD.old{h0 h:Y}{v:aZ}{t:bA}{n:Nat}{enc:aQ->Array aZ}{xs:List aQ}(x:AO h0 h v t n enc xs){b:Nat}{o:Bool×Obj}(hb:h0 b=some o):BD v b:=λe=>by
 rw [x.fresh b e] at hb;cases hb
theorem BD.new{h0 h:Y}{v:aZ}{t:bA}{n:Nat}{enc:aQ->Array aZ}{xs:List aQ}(x:AO h0 h v t n enc xs){b:Nat}(hb:h b=none):BD v b:=λe=>by
 obtain ⟨o,a⟩:=x.inDom b e;rw [hb] at a;cases a
def Gc(h h':Y)(v v':aZ):Prop:=(∀b o,h b=some o->CS v≠some b->h' b=some o)/\(CS v'=CS v\/((∃r,CS v'=some r/\h r=none)/\∀b o,h b=some o->h' b=some o))
theorem BD.grown{h h':Y}{v v':aZ}(g:Gc h h' v v'){b:Nat}{o:Bool×Obj}(hb:h b=some o)(x:BD v b):BD v' b:=λe=>by
 rcases g.2 with q | ⟨⟨r,a,c⟩,_⟩
 ·exact x (q▸e)
 ·rw [a] at e;cases e;rw [c] at hb;cases hb
theorem Apart.grown{h h' h0:Y}{v v' w:aZ}(g:Gc h h' v v'){t:bA}{n:Nat}{enc:aQ->Array aZ}{xs:List aQ}(y:AO h0 h w t n enc xs)(x:Apart v w):Apart v' w:=λb e a=>by
 obtain ⟨o,c⟩:=y.inDom b a;rcases g.2 with q | ⟨⟨r,d,f⟩,_⟩
 ·exact x b (q▸e) a
 ·rw [d] at e;cases e;rw [f] at c;cases c
theorem AO.grown{h h' h0:Y}{v v' w:aZ}(g:Gc h h' v v'){t:bA}{n:Nat}{enc:aQ->Array aZ}{xs:List aQ}(y:AO h0 h w t n enc xs)(x:Apart v w):AO h0 h' w t n enc xs:=
 y.keep λb o a c=>g.1 b o c λe=>x b e a
theorem Y.Le.grown{h1 h h':Y}{v v':aZ}(g:Gc h h' v v')(l:h1.Le h)(f:∀b,CS v=some b->h1 b=none):h1.Le h':=λb p o a=>by
 obtain ⟨c,d,i⟩:=l b p o a;exact ⟨c,g.1 b _ d λe=>(by rw [f b e] at a;cases a),i⟩
theorem DL{h h':Y}{v v':aZ}(g:Gc h h' v v'){b:Nat}{o:Bool×Obj}(hb:h b=some o)(x:BD v b):h' b=some o:=g.1 b o hb x
theorem AO.stored{h0 h h':Y}{v:aZ}{t:bA}{n:Nat}{enc:aQ->Array aZ}{xs:List aQ}(y:AO h0 h v t n enc xs){r:Nat}(x:BD v r)(ho:∀b,b≠r->h' b=h b):AO h0 h' v t n enc xs:=
 y.keep λb o c a=>by rw [ho b λe=>by subst e;exact x c];exact a
theorem BM{s x:bA}{o1 o2:Operand}{h0:Y}{v w:aZ}{e n bytes:Nat}{enc:aQ->Array aZ}{xs ys:List aQ}(ht:Iy P s x=some (e,n,bytes))(h1:AN O o1=v)(h2:AN O o2=w)
  (hv:AO h0 h v e n enc xs) (hw:AG h w n enc ys) (l0:∀r,h r=none->h0 r=none) (hb:(2*(xs.length+ys.length)+512)*bytes<=2 ^ 48) (hfine:∀y ∈ ys,(enc y).toList.all (·.oneCell')=true)
  (k:∀v' h',AO h0 h' v' e n enc (xs++ys)->Gc h h' v v'->T (putS O dst v') ds h') :
  BR E ⟨dst,.call ⟨.builtin .append,#[o1,o2],#[s,x]⟩,ty,pos,af,gd⟩ O ds h T:=
 AAe ht h1 h2 hv hw l0 hb hfine λv' h' a b c=>k v' h' a ⟨b,c⟩
theorem AW{h0:Y}{t:bA}{x ix:Operand}{n:Nat}{enc:aQ->Array aZ}{xs:List aQ}{v:aZ}{kd:IntKind}{i:Int}(ht:D0 P t=some n)(hs:AG h0 v n enc xs)(hx:AN O x=v)(hi:AN O ix=.int kd i)(h0':0<=i)(h1:i<xs.length)
  (k:∀b off,AU h0 b off n (enc (xs[i.toNat]' U))->T (putS O dst (.pointer (some ⟨b,off,none⟩))) ds h):BR E ⟨dst,.indexAddr t x ix,ty,pos,af,gd⟩ O ds h T:=by
 obtain ⟨a,c,rfl,_,_,d⟩:=hs;obtain ⟨b,off,rfl,e⟩:=d i.toNat U;exact Bh ht hx hi h0' h1 (k b _ e)
theorem AO.built{h h':Y}{r:Nat}{t:bA}{n:Nat}{enc:aQ->Array aZ}{xs:List aQ}{c:Array aZ}{m:Nat}(hr:h r=none)(hb:h' r=some (true,.cells c t (0,0)))(hm:xs.length=m)(hml:Nat.ble m 16777216=true)(hn:∀x ∈ xs,(enc x).size=n)(hc:c.toList=DR enc xs) :
  AO h h' (.slice (some ⟨r,0,none⟩) m m) t n enc xs:=by
 subst hm
 have:=Nat.le_of_ble_eq_true hml
 refine .inr ⟨r,_,c,rfl,hr,hb,?_,Nat.le_refl _,U,?_,hn⟩
 ·rw [<-EV hn,<-hc,Array.length_toList]
 ·rw [hc,<-EV hn,List.take_length]
theorem AX{t:bA}{len n:Nat}{z cells:Array aZ}{e:bA}{parts:Array (Nat×Operand)}(hs:DZ P t=some (n,z,e))(hl:len*n<=2 ^ 24)(hn:(len*n=0)=False)
  (hf:Instr.fill (λi=>some (i*n,n)) ((Array.range (len*n)).map (z[·%z.size]!)) (parts.map λ(i,x)=>(i,AN O x)).toList=some cells)
  (k:∀r h',h r=none->h.Le h'->h' r=some (true,.cells cells e (0,0))->(∀b,b≠r->h' b=h b)->T (putS O dst (.slice (some ⟨r,0,none⟩) len len)) ds h'):BR E ⟨dst,.buildSlice t len parts,ty,pos,af,gd⟩ O ds h T:=
 SA hs hl hn hf λr a=>k r _ a (Y.Le.new a _ _) (Y.set_same _ _ _ _) λb c=>Y.set_ne _ _ _ c
theorem ok_copy'{s x:bA}{o1 o2:Operand}{b off dl cap n:Nat}{e:bA}{enc:aQ->Array aZ}{ys:List aQ}{w:aZ}{c c':Array aZ}(ht:D0 P s=some n)(h1:AN O o1=.slice (some ⟨b,off,none⟩) dl cap)(h2:AN O o2=w)
  (hb:h b=some (true,.cells c e (0,0))) (hn:off+dl*n<=c.size) (hw:AG h w n enc ys) (hl:ys.length<=dl) (hfine:∀y ∈ ys,(enc y).toList.all (·.oneCell')=true) (hsz:∀y ∈ ys,(enc y).size=n) (hc:BU c off (DR enc ys)=c')
  (k:∀h',h' b=some (true,.cells c' e (0,0))->(∀x,x≠b->h' x=h x)->T (putS O dst (.int .i64 ys.length)) ds h') :
  BR E ⟨dst,.call ⟨.builtin .copy,#[o1,o2],#[s,x]⟩,ty,pos,af,gd⟩ O ds h T:=
 ok_copy ht h1 h2 hb hn hw hl hfine hsz (k _ (by rw [hc];exact Y.set_same _ _ _ _) λx a=>Y.set_ne _ _ _ a)
theorem DW{t:bA}{n:Nat}{z:Array aZ}{e:bA}(hs:DZ P t=some (n,z,e))(k:∀r h',h r=none->h.Le h'->h' r=some (true,.cells #[] e (0,0))->(∀b,b≠r->h' b=h b)->T (putS O dst (.slice (some ⟨r,0,none⟩) 0 0)) ds h') :
  BR E ⟨dst,.buildSlice t 0 #[],ty,pos,af,gd⟩ O ds h T:=by
 unfold BR execOp;refine Fg ?_;unfold DZ at hs;unfold Instr.buildSlice;cases c:P.underlying t with
 | none=>rw [c] at hs;cases hs
 | some d=>
  rw [c] at hs;cases d <;> first | (cases hs;done) | skip
  rename_i f
  simp only at hs;cases a:B0 P f with
  | none=>rw [a] at hs;cases hs
  | some x=>
   cases g:BZ P f with
   | none=>rw [a,g] at hs;cases hs
   | some o=>
    rw [a,g] at hs;simp only [Option.some.injEq,Prod.mk.injEq] at hs;obtain ⟨rfl,rfl,rfl⟩:=hs;refine AE _ _ (Ai c ?_);refine AE _ _ (Fy (by rw [a];rfl) ?_);rw [Nat.zero_mul,aX aC];dsimp only;rw [aY rfl];refine AE _ _ (Ak ?_);have l:Instr.fill (λi=>some (i*x.snd,x.snd)) (Array.map (λy=>(#[]:Array aZ)[y%(#[]:Array aZ).size]!) (Array.range 0)) (Array.map (λy:Nat×Operand=>(y.fst,AN O y.snd)) #[]).toList=some #[]:=by
     simp [Instr.fill]
    rw [l];dsimp only;refine AE _ _ ?_;unfold newRow;refine AE _ _ (λr j=>?_);exact k r _ j (Y.Le.new j _ _) (Y.set_same _ _ _ _) λb m=>Y.set_ne _ _ _ m
end
end Go.Ns
namespace Go.Ns
open Go.Conc
section
variable {P:Program} {E:Gb P}
def Hg:Op->Option (List Operand)
 | .move x | .assign x | .box _ x | .unOp _ _ x | .convert _ _ x | .load _ x | .fieldAddr _ x _ | .field _ x _ | .nilCheck x | .extract x _ | .makeInterface _ x | .makeChan _ x | .typeAssert x _ _ _=>some [x]
 | .pick c a b=>some [c,a,b]
 | .alloc _=>some []
 | .build _ ps | .buildSlice _ _ ps=>some (ps.toList.map (·.2))
 | .store _ a x | .binOp _ _ a x _ | .indexAddr _ a x | .index _ a x | .lookup _ a x _ | .makeSlice _ a x=>some [a,x]
 | .makeFunc _ f c=>some (f.toList++c.toList)
 | .makeMap _ r=>some r.toList
 | .slice _ x lo hi mx=>some (x ::(lo.toList++(hi.toList++mx.toList)))
 | .mapUpdate _ m k x=>some [m,k,x]
 | .call c=>some (c.args.toList++match c.callee with | .value f=>[f] | .invoke r _=>[r] | .builtin _=>[])
 | _=>none
theorem Ph{ρ ρ':Operand->aZ}{a:Array Operand}(e:∀x ∈ a.toList,ρ x=ρ' x):a.map ρ=a.map ρ':=by
 apply Array.toList_inj.1;rw [Array.toList_map,Array.toList_map];exact List.map_congr_left e
theorem VQ{ρ ρ':Operand->aZ}{a:Array (Nat×Operand)}(e:∀x ∈ a.toList.map (·.2),ρ x=ρ' x):(a.map λ(i,x)=>(i,ρ x))=a.map λ(i,x)=>(i,ρ' x):=by
 apply Array.toList_inj.1;rw [Array.toList_map,Array.toList_map];exact List.map_congr_left λx b=>by
  have:=e x.2 (List.mem_map.2 ⟨x,b,rfl⟩)
  obtain ⟨i,y⟩:=x;exact congrArg (Prod.mk i) this
theorem Z0{ρ ρ':Operand->aZ}{a:Option Operand}(e:∀x ∈ a.toList,ρ x=ρ' x):a.map ρ=a.map ρ':=by
 cases a with
 | none=>rfl
 | some x=>simp [e x aD]
theorem MN{ρ ρ':Operand->aZ}{o:Oper}{xs:List Operand}(hx:Hg o.op=some xs)(e:∀x ∈ xs,ρ x=ρ' x):execOp ρ o=execOp ρ' o:=by
 obtain ⟨h,op,k,i,l,p⟩:=o;cases op <;> simp only [Hg,Option.some.injEq,reduceCtorEq] at hx
 case call c=>
  subst hx;have j:=Ph (a:=c.args) λx hx=>e x (List.mem_append_left _ hx);simp only [execOp,resolve,j];cases d:c.callee with
  | builtin b=>rfl
  | value f=>simp only [];rw [e f (List.mem_append_right _ (by rw [d];simp))]
  | invoke r m=>simp only [];rw [e r (List.mem_append_right _ (by rw [d];simp))]
 case makeFunc f a b=>
  subst hx;simp only [execOp];rw [Ph (a:=a) λx hx=>e x (List.mem_append_left _ hx),Ph (a:=b) λx hx=>e x (List.mem_append_right _ hx)]
 case slice t x lo hi mx=>
  subst hx;simp only [execOp];rw [e x aD,Z0 (a:=lo) λy g=>e y aE,Z0 (a:=hi) λy g=>e y aE,Z0 (a:=mx) λy g=>e y aE]
 case build t ps=>subst hx;simp only [execOp];rw [VQ e]
 case buildSlice t n ps=>subst hx;simp only [execOp];rw [VQ e]
 case makeMap t r=>subst hx;simp only [execOp];rw [Z0 e]
 all_goals
  subst hx;simp only [List.mem_cons,or_false,forall_eq_or_imp,forall_eq,List.not_mem_nil,false_implies,implies_true] at e;simp [execOp,e]
def IX(xs:List Operand):List Nat:=xs.filterMap λx=>match x with | .tmp t=>some t | _=>none
theorem N7{O σ':Nat->aZ}{xs:List Operand}(e:∀t ∈ IX xs,O t=σ' t):∀x ∈ xs,AN O x=AN σ' x:=λx a=>by
 cases x with
 | tmp t=>exact e t (List.mem_filterMap.2 ⟨_,a,rfl⟩)
 | const v=>rfl
 | global g=>rfl
 | func f=>rfl
def LI:Op->Bool
 | .call c=>match c.callee with
  | .builtin b=>b==.len || b==.cap || b==.min || b==.max
  | _=>false
 | .move _ | .assign _ | .nilCheck _ | .pick .. | .build .. | .load .. | .binOp .. | .unOp .. | .convert .. | .makeFunc .. | .fieldAddr .. | .field .. | .indexAddr .. | .index .. | .extract .. | .lookup .. | .slice .. | .makeInterface .. | .typeAssert .. =>true
 | _=>false
theorem Kn{β:Type}{s:Sem β}{f:β->aZ}{h:Y}{Q:Next->Y->Prop}:(s.bind λx=>(Sem.pure (Next.value (f x)):Sem Next)).gh P h Q->(s.bind λx=>(Sem.pure (Next.value (f x)):Sem Next)).gh P h λa h'=>Q a h'/\∃v,a=.value v:=by
 induction s generalizing h with
 | pure a=>intro x;exact ⟨x,_,rfl⟩
 | load m a k b=>rintro ⟨i,j,p,c,t,f,v,e,d,z⟩;exact ⟨i,j,p,c,t,f,v,e,d,b v z⟩
 | store m a v k b=>rintro ⟨i,j,u,c,t,f,e,d,g,z⟩;exact ⟨i,j,u,c,t,f,e,d,g,b z⟩
 | new o k b=>intro x r w;exact b r (x r w)
 | shape r k b=>rintro ⟨p,c,t,f,y,z⟩;exact ⟨p,c,t,f,y,b _ z⟩
 | freeze a n k b=>
  rintro (⟨y,z⟩ | ⟨y,c,t,f,d,z⟩)
  ·exact .inl ⟨y,b z⟩
  ·exact .inr ⟨y,c,t,f,d,b z⟩
 | frozen a k b=>rintro ⟨p,c,t,f,y,z⟩;exact ⟨p,c,t,f,y,b _ z⟩
 | getObj r k b=>rintro ⟨p,o,e,d,g,z⟩;exact ⟨p,o,e,d,g,b _ z⟩
 | setObj r o k b=>rintro ⟨A,e,d,l,g,z⟩;exact ⟨A,e,d,l,g,b z⟩
 | choose q k b=>rintro ⟨y,z⟩;exact ⟨λx=>b _ (y x),λx t=>b _ (z x t)⟩
 | sys c k b=>intro x;exact x.elim
 | program k b=>intro x;exact b _ x
 | mark m k b=>rintro ⟨y,z⟩;exact ⟨y,b z⟩
 | halt x=>intro y;exact y.elim
def H8(P:Program)(e:Sem Next):Prop:=∀(h:Y)(Q:Next->Y->Prop),e.gh P h Q->e.gh P h λa h'=>Q a h'/\∃v,a=.value v
theorem H8.bind{β:Type}{s:Sem β}{f:β->Sem Next}(hf:∀a,H8 P (f a)):H8 P (s.bind f):=by
 induction s with
 | pure a=>exact hf a
 | load m a k b=>rintro h Q ⟨i,j,p,c,t,f,v,e,d,z⟩;exact ⟨i,j,p,c,t,f,v,e,d,b v _ _ z⟩
 | store m a v k b=>rintro h Q ⟨i,j,u,c,t,f,e,d,g,z⟩;exact ⟨i,j,u,c,t,f,e,d,g,b _ _ z⟩
 | new o k b=>intro h Q x r w;exact b r _ _ (x r w)
 | shape r k b=>rintro h Q ⟨p,c,t,f,y,z⟩;exact ⟨p,c,t,f,y,b _ _ _ z⟩
 | freeze a n k b=>
  rintro h Q (⟨y,z⟩ | ⟨y,c,t,f,d,z⟩)
  ·exact .inl ⟨y,b _ _ z⟩
  ·exact .inr ⟨y,c,t,f,d,b _ _ z⟩
 | frozen a k b=>rintro h Q ⟨p,c,t,f,y,z⟩;exact ⟨p,c,t,f,y,b _ _ _ z⟩
 | getObj r k b=>rintro h Q ⟨p,o,e,d,g,z⟩;exact ⟨p,o,e,d,g,b _ _ _ z⟩
 | setObj r o k b=>rintro h Q ⟨A,e,d,l,g,z⟩;exact ⟨A,e,d,l,g,b _ _ z⟩
 | choose q k b=>rintro h Q ⟨y,z⟩;exact ⟨λx=>b _ _ _ (y x),λx t=>b _ _ _ (z x t)⟩
 | sys c k b=>intro h Q x;exact x.elim
 | program k b=>intro h Q x;exact b _ _ _ x
 | mark m k b=>rintro h Q ⟨y,z⟩;exact ⟨y,b _ _ z⟩
 | halt x=>intro h Q y;exact y.elim
theorem H8.value(v:aZ):H8 P (pure (.value v)):=λ_ _ x=>⟨x,v,rfl⟩
theorem leaf_val{ρ:Operand->aZ}{o:Oper}(hv:LI o.op=true){h:Y}{Q:Next->Y->Prop}(x:(execOp ρ o).gh P h Q):(execOp ρ o).gh P h λa h'=>Q a h'/\∃v,a=.value v:=by
 obtain ⟨d,op,i,g,j,k⟩:=o;cases op
 case nilCheck a=>
  have l:H8 P (runtimePanic .nilDeref:Sem Next):=λ_ _ y=>by first | exact y.elim | exact H8.bind (λ_=>λ_ _ z=>z.elim) _ _ y
  have t:H8 P (execOp ρ ⟨d,.nilCheck a,i,g,j,k⟩):=by
   unfold execOp;dsimp only;split
   ·exact l
   ·exact l
   ·exact l
   ·split
    ·exact l
    ·refine H8.bind λp=>H8.bind λr=>?_;split
     ·exact H8.bind λ_=>H8.value _
     ·exact H8.value _
    ·exact H8.value _
   ·exact H8.value _
  exact t _ _ x
 case call c=>
  simp only [LI] at hv;have e:∀s:Sem aZ,execOp ρ ⟨d,.call c,i,g,j,k⟩=s.bind (λx=>Sem.pure (Next.value x))->(execOp ρ ⟨d,.call c,i,g,j,k⟩).gh P h λa h'=>Q a h'/\∃v,a=.value v:=λs q=>by
   rw [q] at x ⊢;exact Kn (f:=λx=>x) x
  cases n:c.callee with
  | value f=>rw [n] at hv;cases hv
  | invoke r m=>rw [n] at hv;cases hv
  | builtin b=>
   rw [n] at hv;have q:execOp ρ ⟨d,.call c,i,g,j,k⟩=builtin b c.argTypes i (c.args.map fun | .const _=>true | _=>false) (c.args.map ρ):=by
    show (resolve ρ c i).bind _=_;unfold resolve;rw [n];rfl
   cases b <;> first | (simp at hv;done) | exact e _ q
 all_goals first | (simp [LI] at hv;done) | skip
 all_goals first | exact Kn (s:=Sem.pure _) (f:=λ_=>_) x | exact Kn (f:=λx=>x) x | exact Kn (β:=Bool) x
theorem Y.Le.get{h h':Y}(l:h.Le h'){b:Nat}{x:Bool×Obj}(hb:h b=some x):h' b=some x:=l.keep (p:=x.1) (o:=x.2) hb rfl
theorem Y.Le.of{h h':Y}(x:∀b y,h b=some y->h' b=some y):h.Le h':=λb p o a=>⟨o,x b _ a,.inl rfl⟩
def over(h' h2:Y):Y:=λb=>match h' b with
 | some x=>some x
 | none=>h2 b
theorem Sh{h h2:Y}(l:h.Le h2):over h h2=h2:=funext λb=>by
 unfold over;split
 ·rename_i x a;exact (l.get a).symm
 ·rfl
theorem Y.Le.set2{h h2:Y}(l:h.Le h2)(r:Nat)(p:Bool)(o:Obj):(h.set r p o).Le (h2.set r p o):=.of λb y a=>by
 by_cases e:b=r
 ·subst e;rw [Y.set_same] at a ⊢;exact a
 ·rw [Y.set_ne h p o e] at a;rw [Y.set_ne h2 p o e];exact l.get a
def VR(h h':Y):Prop:=∀b,(∃x,h b=some x)->∃x,h' b=some x
theorem MO{h h' h2:Y}{r:Nat}{p:Bool}{o:Obj}(d:VR (h.set r p o) h'):over h' (h2.set r p o)=over h' h2:=funext λb=>by
 unfold over;by_cases e:b=r
 ·subst e;obtain ⟨x,a⟩:=d b ⟨_,Y.set_same h b p o⟩;rw [a]
 ·rw [Y.set_ne h2 p o e]
theorem VR.set{h h':Y}{r:Nat}{p:Bool}{o:Obj}(d:VR (h.set r p o) h'):VR h h':=λb ⟨x,a⟩=>by
 by_cases e:b=r
 ·subst e;exact d b ⟨_,Y.set_same h b p o⟩
 ·exact d b ⟨x,by rw [Y.set_ne h p o e];exact a⟩
theorem gh_over{aQ:Type}(e:Sem aQ){Q:aQ->Y->Prop}:∀{h h2:Y},h.Le h2->e.gh P h Q->e.gh P h2 λa h3=>∃h',VR h h'/\Q a h'/\h3=over h' h2:=by
 induction e with
 | pure a=>intro h h2 l x;exact ⟨h,λ_ y=>y,x,(Sh l).symm⟩
 | load m a k b=>rintro h h2 l ⟨s,u,p,c,t,f,v,i,g,z⟩;exact ⟨s,u,p,c,t,f,v,l.get i,g,b v l z⟩
 | store m a v k b=>
  rintro h h2 l ⟨s,u,C,c,t,f,i,g,j,z⟩;exact ⟨s,u,C,c,t,f,l.get i,g,j,FH _ (λ_ _ ⟨h',d,q,r⟩=>⟨h',d.set,q,r.trans (MO d)⟩) _ (b (l.set2 _ _ _) z)⟩
 | new o k b=>
  intro h h2 l x r B;have w:h r=none:=by
   cases D:h r with
   | none=>rfl
   | some y=>rw [l.get D] at B;cases B
  exact FH _ (λ_ _ ⟨h',d,q,r⟩=>⟨h',d.set,q,r.trans (MO d)⟩) _ (b r (l.set2 _ _ _) (x r w))
 | shape r k b=>rintro h h2 l ⟨p,c,t,f,y,z⟩;exact ⟨p,c,t,f,l.get y,b _ l z⟩
 | freeze a n k b=>
  rintro h h2 l (⟨y,z⟩ | ⟨y,c,t,f,g,z⟩)
  ·exact .inl ⟨y,b l z⟩
  ·exact .inr ⟨y,c,t,f,l.get g,FH _ (λ_ _ ⟨h',d,q,r⟩=>⟨h',d.set,q,r.trans (MO d)⟩) _ (b (l.set2 _ _ _) z)⟩
 | frozen a k b=>rintro h h2 l ⟨p,c,t,f,y,z⟩;exact ⟨p,c,t,f,l.get y,b _ l z⟩
 | getObj r k b=>rintro h h2 l ⟨p,o,i,g,j,z⟩;exact ⟨p,o,l.get i,g,j,b _ l z⟩
 | setObj r o k b=>
  rintro h h2 l ⟨F,i,g,A,j,z⟩;exact ⟨F,l.get i,g,A,j,FH _ (λ_ _ ⟨h',d,q,r⟩=>⟨h',d.set,q,r.trans (MO d)⟩) _ (b (l.set2 _ _ _) z)⟩
 | choose q k b=>rintro h h2 l ⟨y,z⟩;exact ⟨λx=>b _ l (y x),λx t=>b _ l (z x t)⟩
 | sys c k b=>intro h h2 l x;exact x.elim
 | program k b=>intro h h2 l x;exact b _ l x
 | mark m k b=>rintro h h2 l ⟨y,z⟩;exact ⟨y,b l z⟩
 | halt x=>intro h h2 l y;exact y.elim
def UH(E:Gb P)(o:Oper)(O:Nat->aZ)(ds:List Deferred)(h:Y)(v:aZ):Prop:=BR E o O ds h λσ' ds' h'=>σ'=putS O o.dst v/\ds'=ds/\h'=h
theorem UH.move{o:Oper}{xs:List Operand}{O σ2:Nat->aZ}{ds:List Deferred}{h h2:Y}{v:aZ}(hv:LI o.op=true)(hx:Hg o.op=some xs)(e:∀t ∈ IX xs,O t=σ2 t)(l:h.Le h2)
  (y:UH E o O ds h v):UH E o σ2 ds h2 v:=by
 unfold UH BR at y ⊢;rw [<-MN hx (N7 e)];refine FH _ ?_ _ (gh_over _ l (leaf_val hv y));rintro a f ⟨g,_,⟨q,i,rfl⟩,rfl⟩;obtain ⟨b,_,rfl⟩:=q;refine ⟨?_,rfl,Sh l⟩;cases c:o.dst with
 | none=>rfl
 | some d=>
  have:=congrFun b d
  simp only [c,putS,upd_same] at this;rw [this]
theorem BR.move{o:Oper}{xs:List Operand}{O σ2:Nat->aZ}{ds:List Deferred}{h:Y}{T T2:(Nat->aZ)->List Deferred->Y->Prop}(hx:Hg o.op=some xs)(e:∀t ∈ IX xs,O t=σ2 t)
  (ht:∀x ds' h',T (putS O o.dst x) ds' h'->T2 (putS σ2 o.dst x) ds' h') (y:BR E o O ds h T):BR E o σ2 ds h T2:=by
 unfold BR at y ⊢;rw [<-MN hx (N7 e)];refine FH _ (λb h' q=>?_) _ y;cases b <;> first | exact ht _ _ _ q | exact AT.mono q λv a r=>ht _ _ _ r | exact BS.mono q λv a r=>ht _ _ _ r | exact q
inductive Kd where
 | p | r | e | w | a | l | b
 deriving DecidableEq
def Kd.fix:Kd->Bool
 | .a | .l | .b=>false
 | _=>true
def isB:aZ->Bool->Bool
 | .bool is,w=>is==w
 | _,_=>false
def Gd(l:List Oper)(o:Oper)(O:Nat->aZ)(b:Bool):Prop:=match o.guard with
 | none=>b=true
 | some (g,w)=>∃og d is,l[g]? =some og/\og.dst=some d/\O d=is/\b=isB is w
theorem Gd.iff{l:List Oper}{o:Oper}{O:Nat->aZ}{b:Bool}(x:Gd l o O b):DQ l o O↔b=true:=by
 unfold Gd at x;unfold DQ;cases a:o.guard with
 | none=>rw [a] at x;simp only at x;simp [x]
 | some y=>
  obtain ⟨g,w⟩:=y;rw [a] at x;obtain ⟨h,d,is,c,e,f,rfl⟩:=x;simp only [c,e,f];cases is <;> simp [isB]
def Gw(fl:Bool)(h hx:Y):Prop:=h.Le hx/\(fl=false->hx=h)
theorem Gw.refl(fl:Bool)(h:Y):Gw fl h h:=⟨Y.Le.refl h,λ_=>rfl⟩
def zOf(P:Program)(t:bA):Array aZ:=(BZ P t).getD #[]
def skS:Kd->(Nat->aZ)->Option Nat->Nat->aZ
 | .l,O,_=>O
 | _,O,d=>putS O d undef
def TD(E:Gb P)(l:List Oper)(n:Nat)(fl:Bool)(hs:Y)(ds:List Deferred)(Lw:Nat->aZ->Y->Prop)(F:(Nat->aZ)->Y->Prop):List (Kd×Nat)->(Nat->aZ)->Y->Prop
 | [],O,h=>∀hx,Gw fl h hx->F O hx
 | (kd,k) ::π,O,h=>∃o b,l[k]? =some o/\Gd l o O b/\(b=false->TD E l n fl hs ds Lw F π (skS kd O o.dst) h)/\(b=true->match kd with
  | .p=>∃v,(∀hx,Lw n undef hx->UH E o O ds hx v)/\TD E l n fl hs ds Lw F π (putS O o.dst v) h
  | .r=>∃v,UH E o O ds h v/\TD E l n fl hs ds Lw F π (putS O o.dst v) h
  | .e=>∀hx,Gw fl h hx->BR E o O ds hx λσ' ds' h'=>ds'=ds/\∃v,σ'=putS O o.dst v/\hx.Le h'/\TD E l n fl hs ds Lw F π (putS O o.dst v) h'
  | .w=>∀hx,Gw fl h hx->BR E o O ds hx λσ' ds' h'=>ds'=ds/\∃v,σ'=putS O o.dst v/\Lw n undef h'/\TD E l n false hs ds Lw F π (putS O o.dst v) h'
  | .a=>∀t r hx,o.op=.alloc t->h.Le hx->hs r=none->hx r=some (true,.cells (zOf P t) t (0,0))->TD E l n fl hs ds Lw F π (putS O o.dst (.pointer (some ⟨r,0,none⟩))) hx
  | .l=>(∀hx,h.Le hx->BR E o O ds hx λσ' ds' h'=>ds'=ds/\∃v,σ'=putS O o.dst v/\hx.Le h'/\Lw k v h')/\TD E l n fl hs ds Lw F π O h
  | .b=>∀v hx,h.Le hx->Lw k v hx->TD E l n fl hs ds Lw F π (putS O o.dst v) hx)
def HY(l:List Oper)(n:Nat)(cl seen:List Nat)(t:Nat):Bool:= !(Dd l n).contains t || seen.any λj=>cl.contains j && match l[j]? with
 | some oj=>oj.dst==some t
 | none=>false
def In(l:List Oper)(n:Nat)(cls:List (List Nat))(seen:List Nat)(k t:Nat):Bool:=(List.range n).any λj=> !seen.contains j && (cls.getD j []).contains k && match l[j]? with
 | some oj=>oj.dst==some t
 | none=>false
def UI(P:Program):Op->Bool
 | .alloc t=>(BZ P t).isSome
 | _=>false
def GM(P:Program)(l:List Oper)(n:Nat)(cls:List (List Nat))(fl:Bool):List (Kd×Nat)->List Nat->List Nat->List Nat->Bool->Bool
 | [],seen,_,_,_=>(List.range n).all seen.contains
 | (kd,k) ::π,seen,effs,rds,wr=>match l[k]? with
  | none=>false
  | some o=>(match Hg o.op with
    | none=>false
    | some xs=>Nat.blt k n && !seen.contains k && (IX xs).all λt=>HY l n (cls.getD k []) seen t || (kd.fix && In l n cls seen k t)) &&
   (match o.guard with
    | none=>true
    | some (g,_)=>seen.contains g && (cls.getD k []).contains g) &&
   (match kd with
    | .p=>LI o.op && effs.all (cls.getD k []).contains && GM P l n cls fl π (k ::seen) effs rds wr
    | .r=>LI o.op && effs.all (cls.getD k []).contains && GM P l n cls fl π (k ::seen) effs (k ::rds) wr
    | .e=>effs.all (cls.getD k []).contains && GM P l n cls fl π (k ::seen) (k ::effs) rds wr
    | .w=>effs.all (cls.getD k []).contains && rds.all (cls.getD k []).contains && GM P l n cls fl π (k ::seen) (k ::effs) rds true
    | .a=>fl && !wr && UI P o.op && o.dst.isSome && o.guard.isNone && GM P l n cls fl π (k ::seen) (k ::effs) rds wr
    | .l=>fl && o.dst.isSome && effs.all (cls.getD k []).contains && GM P l n cls fl π seen effs rds wr
    | .b=>fl && !wr && o.dst.isSome && GM P l n cls fl π (k ::seen) (k ::effs) rds wr)
structure PF(E:Gb P)(l:List Oper)(n:Nat)(cls:List (List Nat))(ds:List Deferred)(Lw:Nat->aZ->Y->Prop)(σ0:Nat->aZ)(seen rds:List Nat)(σr:Nat->aZ)(h':Y)(k:Nat)(o:Oper)(xs:List Operand)(b:Bool)(v:aZ):Prop where
 at':l[k]? =some o
 op:Hg o.op=some xs
 val:LI o.op=true
 gfix:∀g w,o.guard=some (g,w)->g ∈ seen/\g ∈ cls.getD k []
 gd:Gd l o σr b
 vop:b=true->∃σk,(∀t ∈ IX xs,(HY l n (cls.getD k []) seen t=true/\σk t=σr t)\/(In l n cls [] k t=true/\σk t=σ0 t))/\UH E o σk ds h' v/\(k ∈ rds\/∀hx,Lw n undef hx->UH E o σk ds hx v)
 is:∀d,o.dst=some d->σr d=if b=true then v else undef
def Prm(E:Gb P)(l:List Oper)(n:Nat)(cls:List (List Nat))(ds:List Deferred)(Lw:Nat->aZ->Y->Prop)(seen:List Nat)(σr:Nat->aZ)(h':Y)(k:Nat):Prop:=
 ∃o xs b,l[k]? =some o/\Hg o.op=some xs/\(∀t ∈ IX xs,HY l n (cls.getD k []) seen t=true)/\(∀g w,o.guard=some (g,w)->g ∈ seen/\g ∈ cls.getD k [])/\Gd l o σr b/\(b=true->
  ∀σ2 hx,(∀t ∈ IX xs,σr t=σ2 t)->h'.Le hx->BR E o σ2 ds hx λσ'' ds' h2=>ds'=ds/\∃v,σ''=putS σ2 o.dst v/\hx.Le h2/\Lw k v h2)
structure Hh(E:Gb P)(l:List Oper)(n:Nat)(cls:List (List Nat))(fl:Bool)(hs:Y)(ds:List Deferred)(Lw:Nat->aZ->Y->Prop)(F:(Nat->aZ)->Y->Prop)(σ0:Nat->aZ)(seen effs rds:List Nat)(wr:Bool)(π:List (Kd×Nat))(σr:Nat->aZ)(hr:Y)
  (D:Nat->Bool) (σ':Nat->aZ) (h':Y):Prop where
 td:TD E l n (fl && !wr) hs ds Lw F π σr hr
 ok:GM P l n cls fl π seen effs rds wr=true
 gw:Gw (fl && !wr) hr h'
 base:∀t,(Dd l n).contains t=false->σ' t=σr t
 lt:∀k ∈ seen,k<n
 eff:∀k ∈ effs,D k=true
 rest:∀kd k,(kd,k) ∈ π->kd.fix=true->D k=false
 done:∀k ∈ seen,D k=true->∀o d,l[k]? =some o->o.dst=some d->σ' d=σr d
 pend:∀k ∈ seen,D k=false->∃o xs b v,PF E l n cls ds Lw σ0 seen rds σr h' k o xs b v
 flo:∀k,(Kd.a,k) ∈ π->D k=true->∀o t d,l[k]? =some o->o.op=.alloc t->o.dst=some d->∃r,σ' d=.pointer (some ⟨r,0,none⟩)/\hs r=none/\h' r=some (true,.cells (zOf P t) t (0,0))
 flb:∀k,(Kd.b,k) ∈ π->D k=false->(Kd.l,k) ∈ π\/Prm E l n cls ds Lw seen σr h' k
 fld:∀k,(Kd.b,k) ∈ π->D k=true->∀o d,l[k]? =some o->o.dst=some d->∃b,Gd l o σ' b/\(b=true->Lw k (σ' d) h')/\(b=false->σ' d=undef)
 mono:∀k v h1 h2,Y.Le h1 h2->Lw k v h1->Lw k v h2
 frm:Lw n undef h'
 pre:wr=false->hs.Le h'
 clos:∀k,k<n->D k=true->∀q ∈ cls.getD k [],D q=true
 iniR:∀j,j<n->j ∉ seen->∀o t,l[j]? =some o->o.dst=some t->σr t=σ0 t
 iniS:∀j,j<n->D j=false->∀o t,l[j]? =some o->o.dst=some t->σ' t=σ0 t
theorem Lf{l:List Oper}{n:Nat}{cls:List (List Nat)}{seen:List Nat}{k t:Nat}(x:In l n cls seen k t=true):∃j o,j<n/\j ∉ seen/\k ∈ cls.getD j []/\l[j]? =some o/\o.dst=some t:=by
 unfold In at x;obtain ⟨j,b,y⟩:=List.any_eq_true.1 x;rw [Bool.and_eq_true,Bool.and_eq_true] at y;cases a:l[j]? with
 | none=>rw [a] at y;simp at y
 | some c=>
  rw [a] at y;exact ⟨j,c,List.mem_range.1 b,(λd=>by rw [List.contains_iff_mem.2 d] at y;simp at y),List.contains_iff_mem.1 y.1.2,a,by simpa using y.2⟩
theorem Pi{l:List Oper}{n:Nat}{cls:List (List Nat)}{seen:List Nat}{k t:Nat}(x:In l n cls seen k t=true):In l n cls [] k t=true:=by
 unfold In at x ⊢;obtain ⟨j,a,y⟩:=List.any_eq_true.1 x;rw [Bool.and_eq_true,Bool.and_eq_true] at y;exact List.any_eq_true.2 ⟨j,a,by rw [Bool.and_eq_true,Bool.and_eq_true];exact ⟨⟨rfl,y.1.2⟩,y.2⟩⟩
theorem J4{l:List Oper}{n:Nat}{cl seen:List Nat}{k t:Nat}(x:HY l n cl seen t=true):HY l n cl (k ::seen) t=true:=by
 unfold HY at x ⊢;rw [Bool.or_eq_true] at x ⊢;rcases x with x | x
 ·exact .inl x
 ·exact .inr (by rw [List.any_cons,x];simp)
theorem NI{l:List Oper}{n:Nat}{cl seen:List Nat}{k t d:Nat}{o:Oper}(nd:(Dd l n).Nodup)(hlt:∀k ∈ seen,k<n)(hk:k<n)(hs:k ∉ seen)(ho:l[k]? =some o)(hd:o.dst=some d)(x:HY l n cl seen t=true):t≠d:=by
 intro e;subst e;unfold HY at x;rw [Bool.or_eq_true] at x;rcases x with x | x
 ·have:t ∈ Dd l n:=by
   simp only [Dd,List.mem_filterMap];refine ⟨o,?_,hd⟩
   have:(l.take n)[k]? =some o:=by rw [List.getElem?_take];simp [hk,ho]
   exact List.mem_of_getElem? this
  simp [this] at x
 ·rw [List.any_eq_true] at x;obtain ⟨j,b,y⟩:=x;rw [Bool.and_eq_true] at y;cases a:l[j]? with
  | none=>rw [a] at y;simp at y
  | some c=>
   rw [a] at y;have f:c.dst=some t:=by simpa using y.2
   exact EF nd hk (hlt j b) (λe=>hs (e▸b)) ho a hd f rfl
theorem Cp{O:Nat->aZ}{o:Oper}{v:aZ}{t:Nat}(h:∀d,o.dst=some d->t≠d):putS O o.dst v t=O t:=by
 cases a:o.dst with
 | none=>rfl
 | some d=>exact upd_ne O v (UG (h d a))
theorem Hi{l:List Oper}{n k t:Nat}{o:Oper}(hk:k<n)(ho:l[k]? =some o)(ht:(Dd l n).contains t=false):∀d,o.dst=some d->t≠d:=λd a e=>by
 subst e;rw [VJ hk ho a] at ht;cases ht
section
variable {l:List Oper} {n:Nat} {cls:List (List Nat)} {fl:Bool} {hs:Y} {ds:List Deferred} {Lw:Nat->aZ->Y->Prop} {F:(Nat->aZ)->Y->Prop} {seen effs rds:List Nat} {wr:Bool} {π:List (Kd×Nat)} {σ0 σr σ':Nat->aZ} {hr h':Y} {D:Nat->Bool}
theorem Gd.put{o ok:Oper}{k:Nat}{b:Bool}{v:aZ}(nd:(Dd l n).Nodup)(hlt:∀k ∈ seen,k<n)(hk:k<n)(hks:k ∉ seen)(hok:l[k]? =some ok)(hg:∀g w,o.guard=some (g,w)->g ∈ seen)(x:Gd l o σr b):Gd l o (putS σr ok.dst v) b:=by
 unfold Gd at x ⊢;cases a:o.guard with
 | none=>rw [a] at x;exact x
 | some y=>
  obtain ⟨g,w⟩:=y;rw [a] at x;obtain ⟨j,d,is,h,i,m,p⟩:=x;have c:=hg g w a;exact ⟨j,d,is,h,i,by rw [Cp λq f=>EF nd hk (hlt g c) (λe=>hks (e▸c)) hok h f i];exact m,p⟩
theorem PF.put{k j:Nat}{o ok:Oper}{xs:List Operand}{b:Bool}{v w:aZ}(nd:(Dd l n).Nodup)(hlt:∀k ∈ seen,k<n)(hk:k<n)(hks:k ∉ seen)(hok:l[k]? =some ok)(hj:j ∈ seen)(l2:hr.Le h')
  (x:PF E l n cls ds Lw σ0 seen rds σr hr j o xs b v):PF E l n cls ds Lw σ0 (k ::seen) rds (putS σr ok.dst w) h' j o xs b v where
 at':=x.at'
 op:=x.op
 val:=x.val
 gfix:=λg a c=>⟨List.mem_cons_of_mem _ (x.gfix g a c).1,(x.gfix g a c).2⟩
 gd:=x.gd.put nd hlt hk hks hok λg a c=>(x.gfix g a c).1
 vop:=λi=>by
  obtain ⟨σk,m,p,r⟩:=x.vop i;exact ⟨σk,λt s=>(m t s).imp (λq=>⟨J4 q.1,q.2.trans (Cp λd f=>NI nd hlt hk hks hok f q.1).symm⟩) id,p.move x.val x.op (λ_ _=>rfl) l2,r⟩
 is:=λd f=>by rw [Cp λu h=>EF nd hk (hlt j hj) (λe=>hks (e▸hj)) hok x.at' h f];exact x.is d f
theorem PF.more{j:Nat}{o:Oper}{xs:List Operand}{b:Bool}{v:aZ}{k:Nat}(x:PF E l n cls ds Lw σ0 seen rds σr h' j o xs b v):PF E l n cls ds Lw σ0 seen (k ::rds) σr h' j o xs b v:=
 { x with vop:=λa=>by obtain ⟨σk,c,d,e⟩:=x.vop a;exact ⟨σk,c,d,e.imp (List.mem_cons_of_mem _) id⟩ }
theorem Prm.put{k j:Nat}{ok:Oper}{w:aZ}(nd:(Dd l n).Nodup)(hlt:∀k ∈ seen,k<n)(hk:k<n)(hks:k ∉ seen)(hok:l[k]? =some ok)(x:Prm E l n cls ds Lw seen σr h' j):Prm E l n cls ds Lw (k ::seen) (putS σr ok.dst w) h' j:=by
 obtain ⟨o,m,b,p,q,i,f,h,r⟩:=x;exact ⟨o,m,b,p,q,λt a=>J4 (i t a),λg c e=>⟨List.mem_cons_of_mem _ (f g c e).1,(f g c e).2⟩,h.put nd hlt hk hks hok λg c e=>(f g c e).1,
  λs σ2 u e v=>r s σ2 u (λt a=>(Cp λd y=>NI nd hlt hk hks hok y (i t a)).symm.trans (e t a)) v⟩
theorem Prm.le{j:Nat}{h2:Y}(l2:h'.Le h2)(x:Prm E l n cls ds Lw seen σr h' j):Prm E l n cls ds Lw seen σr h2 j:=by
 obtain ⟨o,c,b,d,f,g,h,a,i⟩:=x;exact ⟨o,c,b,d,f,g,h,a,λk σ2 m e p=>i k σ2 m e (l2.trans p)⟩
theorem GN{kd kd2:Kd}{k j:Nat}(h:(kd2,j) ∈ (kd,k) ::π)(ne:kd2≠kd):(kd2,j) ∈ π:=by
 rcases List.mem_cons.1 h with e | h
 ·cases e;exact absurd rfl ne
 ·exact h
def headOK(P:Program)(l:List Oper)(n:Nat)(cls:List (List Nat))(fl:Bool)(π:List (Kd×Nat))(seen effs rds:List Nat)(wr:Bool)(k:Nat)(o:Oper):Kd->Prop
 | .p=>LI o.op=true/\(∀q ∈ effs,q ∈ cls.getD k [])/\GM P l n cls fl π (k ::seen) effs rds wr=true
 | .r=>LI o.op=true/\(∀q ∈ effs,q ∈ cls.getD k [])/\GM P l n cls fl π (k ::seen) effs (k ::rds) wr=true
 | .e=>(∀q ∈ effs,q ∈ cls.getD k [])/\GM P l n cls fl π (k ::seen) (k ::effs) rds wr=true
 | .w=>(∀q ∈ effs,q ∈ cls.getD k [])/\(∀q ∈ rds,q ∈ cls.getD k [])/\GM P l n cls fl π (k ::seen) (k ::effs) rds true=true
 | .a=>fl=true/\wr=false/\UI P o.op=true/\o.dst.isSome=true/\o.guard=none/\GM P l n cls fl π (k ::seen) (k ::effs) rds wr=true
 | .l=>fl=true/\o.dst.isSome=true/\(∀q ∈ effs,q ∈ cls.getD k [])/\GM P l n cls fl π seen effs rds wr=true
 | .b=>fl=true/\wr=false/\o.dst.isSome=true/\GM P l n cls fl π (k ::seen) (k ::effs) rds wr=true
theorem El{kd:Kd}{k:Nat}(x:GM P l n cls fl ((kd,k) ::π) seen effs rds wr=true) :
  ∃o xs,l[k]? =some o/\Hg o.op=some xs/\k<n/\k ∉ seen/\(∀t ∈ IX xs,HY l n (cls.getD k []) seen t=true\/(kd.fix=true/\In l n cls seen k t=true))/\(∀g w,o.guard=some (g,w)->g ∈ seen/\g ∈ cls.getD k [])/\
  headOK P l n cls fl π seen effs rds wr k o kd:=by
 unfold GM at x;cases e:l[k]? with
 | none=>rw [e] at x;cases x
 | some o=>
  rw [e] at x;simp only [Bool.and_eq_true] at x;obtain ⟨⟨b,c⟩,a⟩:=x;cases d:Hg o.op with
  | none=>rw [d] at b;cases b
  | some xs=>
   rw [d] at b;simp only [Bool.and_eq_true,Bool.or_eq_true,Bool.not_eq_true',List.all_eq_true] at b;obtain ⟨⟨h,f⟩,i⟩:=b;refine ⟨o,xs,rfl,d,Nat.blt_eq▸h,(λj=>by rw [List.contains_iff_mem.2 j] at f;cases f),i,λg w m=>?_,?_⟩
   ·rw [m] at c;simp only [Bool.and_eq_true] at c;exact ⟨List.contains_iff_mem.1 c.1,List.contains_iff_mem.1 c.2⟩
   ·cases kd <;> unfold headOK <;> simp only [Bool.and_eq_true,List.all_eq_true,List.contains_iff_mem,Bool.not_eq_true',Option.isNone_iff_eq_none] at a ⊢
    ·exact ⟨a.1.1,a.1.2,a.2⟩
    ·exact ⟨a.1.1,a.1.2,a.2⟩
    ·exact a
    ·exact ⟨a.1.1,a.1.2,a.2⟩
    ·exact ⟨a.1.1.1.1.1,a.1.1.1.1.2,a.1.1.1.2,a.1.1.2,a.1.2,a.2⟩
    ·exact ⟨a.1.1.1,a.1.1.2,a.1.2,a.2⟩
    ·exact ⟨a.1.1.1,a.1.1.2,a.1.2,a.2⟩
theorem Gj{kd:Kd}{k:Nat}(x:GM P l n cls fl ((kd,k) ::π) seen effs rds wr=true):∃seen' effs' rds' wr',GM P l n cls fl π seen' effs' rds' wr'=true/\(∀q ∈ seen,q ∈ seen')/\(kd≠.l->seen'=k ::seen)/\(kd=.l->seen'=seen)/\(∀q ∈ effs,q ∈ effs')/\(kd=.e\/kd=.w\/kd=.a\/kd=.b->k ∈ effs'):=by
 obtain ⟨o,c,_,_,_,_,_,_,y⟩:=El x;cases kd with
 | p=>exact ⟨_,_,_,_,y.2.2,λ_ q=>List.mem_cons_of_mem _ q,λ_=>rfl,(λe=>by cases e),λ_ q=>q,λe=>by rcases e with e | e | e | e <;> cases e⟩
 | r=>exact ⟨_,_,_,_,y.2.2,λ_ q=>List.mem_cons_of_mem _ q,λ_=>rfl,(λe=>by cases e),λ_ q=>q,λe=>by rcases e with e | e | e | e <;> cases e⟩
 | e=>exact ⟨_,_,_,_,y.2,λ_ q=>List.mem_cons_of_mem _ q,λ_=>rfl,(λe=>by cases e),λ_ q=>List.mem_cons_of_mem _ q,λ_=>List.mem_cons_self⟩
 | w=>exact ⟨_,_,_,_,y.2.2,λ_ q=>List.mem_cons_of_mem _ q,λ_=>rfl,(λe=>by cases e),λ_ q=>List.mem_cons_of_mem _ q,λ_=>List.mem_cons_self⟩
 | a=>exact ⟨_,_,_,_,y.2.2.2.2.2,λ_ q=>List.mem_cons_of_mem _ q,λ_=>rfl,(λe=>by cases e),λ_ q=>List.mem_cons_of_mem _ q,λ_=>List.mem_cons_self⟩
 | l=>exact ⟨_,_,_,_,y.2.2.2,λ_ q=>q,(λe=>absurd rfl e),λ_=>rfl,λ_ q=>q,λe=>by rcases e with e | e | e | e <;> cases e⟩
 | b=>exact ⟨_,_,_,_,y.2.2.2,λ_ q=>List.mem_cons_of_mem _ q,λ_=>rfl,(λe=>by cases e),λ_ q=>List.mem_cons_of_mem _ q,λ_=>List.mem_cons_self⟩
theorem Dh:∀{π:List (Kd×Nat)} {seen effs rds:List Nat} {wr:Bool},GM P l n cls fl π seen effs rds wr=true->∀kd k,(kd,k) ∈ π->k ∉ seen/\k<n
 | [],_,_,_,_,_,kd,k,h=>by cases h
 | (b,g) ::π,seen,effs,rds,wr,x,kd,k,h=>by
  obtain ⟨o,i,_,_,c,d,_⟩:=El x;rcases List.mem_cons.1 h with e | h
  ·cases e;exact ⟨d,c⟩
  ·obtain ⟨seen',effs',a,f,y,z,_⟩:=Gj x
   have:=Dh y kd k h
   exact ⟨λq=>this.1 (z _ q),this.2⟩
theorem Pj:∀{π:List (Kd×Nat)} {seen effs rds:List Nat} {wr:Bool},GM P l n cls fl π seen effs rds wr=true->∀i,i<n->i ∈ seen\/∃kd,(kd,i) ∈ π/\kd≠.l
 | [],seen,_,_,_,x,i,b=>by
  unfold GM at x;exact .inl (List.contains_iff_mem.1 (List.all_eq_true.1 x i (List.mem_range.2 b)))
 | (a,k) ::π,seen,effs,rds,wr,x,i,b=>by
  obtain ⟨seen',effs',d,f,y,_,g,j,_⟩:=Gj x;rcases Pj y i b with h | ⟨kd,h,c⟩
  ·by_cases e:a=.l
   ·rw [j e] at h;exact .inl h
   ·rw [g e] at h;rcases List.mem_cons.1 h with rfl | h
    ·exact .inr ⟨a,List.mem_cons_self,e⟩
    ·exact .inl h
  ·exact .inr ⟨kd,List.mem_cons_of_mem _ h,c⟩
theorem Pm:∀{π:List (Kd×Nat)} {seen effs rds:List Nat} {wr:Bool},GM P l n cls fl π seen effs rds wr=true->∀kd k,(kd,k) ∈ π->kd≠.a->kd≠.b->∀q ∈ effs,q ∈ cls.getD k []
 | [],_,_,_,_,_,kd,k,h=>by cases h
 | (g,m) ::π,seen,effs,rds,wr,x,kd,k,h=>by
  intro d f q c;rcases List.mem_cons.1 h with e | h
  ·cases e;obtain ⟨o,s,_,_,_,_,_,_,y⟩:=El x;cases g with
   | p=>exact y.2.1 q c
   | r=>exact y.2.1 q c
   | e=>exact y.1 q c
   | w=>exact y.1 q c
   | a=>exact absurd rfl d
   | l=>exact y.2.2.1 q c
   | b=>exact absurd rfl f
  ·obtain ⟨seen',effs',i,j,y,_,_,_,z,_⟩:=Gj x;exact Pm y kd k h d f q (z q c)
theorem Hj{n k:Nat}{seen:List Nat}(h:∀q ∈ seen,q<n)(hk:k<n):∀q ∈ k ::seen,q<n:=λq hq=>by
 rcases List.mem_cons.1 hq with rfl | hq
 ·exact hk
 ·exact h q hq
theorem DM:∀{π:List (Kd×Nat)} {seen effs rds:List Nat} {wr:Bool},GM P l n cls fl π seen effs rds wr=true->(∀q ∈ seen,q<n)->∀kd k,(kd,k) ∈ π->kd=.a\/kd=.b->fl=true/\wr=false/\k<n/\∃o,l[k]? =some o/\(kd=.a->UI P o.op=true/\o.guard=none)/\o.dst.isSome=true/\∀g w,o.guard=some (g,w)->g<n/\g ∈ cls.getD k []
 | [],_,_,_,_,_,_,kd,k,h=>by cases h
 | (s,u) ::π,seen,effs,rds,wr,x,c,kd,k,h=>by
  intro d;obtain ⟨o,v,t,y,i,z,A,m,f⟩:=El x;rcases List.mem_cons.1 h with e | h6
  ·cases e;rcases d with rfl | rfl
   ·exact ⟨f.1,f.2.1,i,o,t,λ_=>⟨f.2.2.1,f.2.2.2.2.1⟩,f.2.2.2.1,λg w j=>⟨c g (m g w j).1,(m g w j).2⟩⟩
   ·exact ⟨f.1,f.2.1,i,o,t,(λe=>by cases e),f.2.2.1,λg w j=>⟨c g (m g w j).1,(m g w j).2⟩⟩
  ·cases s with
   | p=>exact DM f.2.2 (Hj c i) kd k h6 d
   | r=>exact DM f.2.2 (Hj c i) kd k h6 d
   | e=>exact DM f.2 (Hj c i) kd k h6 d
   | w=>have:=(DM f.2.2 (Hj c i) kd k h6 d).2.1;cases this
   | a=>exact DM f.2.2.2.2.2 (Hj c i) kd k h6 d
   | l=>exact DM f.2.2.2 c kd k h6 d
   | b=>exact DM f.2.2.2 (Hj c i) kd k h6 d
theorem Gd.other{o ok:Oper}{k:Nat}{b:Bool}{v:aZ}{O:Nat->aZ}(nd:(Dd l n).Nodup)(hk:k<n)(hok:l[k]? =some ok)(hg:∀g w,o.guard=some (g,w)->g<n/\g≠k)(x:Gd l o O b):Gd l o (putS O ok.dst v) b:=by
 unfold Gd at x ⊢;cases a:o.guard with
 | none=>rw [a] at x;exact x
 | some y=>
  obtain ⟨g,w⟩:=y;rw [a] at x;obtain ⟨m,d,is,i,j,p,q⟩:=x;obtain ⟨c,f⟩:=hg g w a;exact ⟨m,d,is,i,j,by rw [Cp λr h=>EF nd hk c (λe=>f e.symm) hok i h j];exact p,q⟩
theorem Gd.uniq{o:Oper}{O:Nat->aZ}{b b':Bool}(x:Gd l o O b)(y:Gd l o O b'):b=b':=by
 have a:=x.iff;have c:=y.iff;rw [a] at c;cases b <;> cases b' <;> simp_all
theorem I0{k:Nat}:HX D k k=true:=by simp [HX]
theorem Bd{k j:Nat}(h:j≠k):HX D k j=D j:=by unfold HX;rw [aX (λe=>h e.symm)]
theorem Ft{k j:Nat}(h:D j=true):HX D k j=true:=by unfold HX;split <;> simp [h]
theorem Hh.agree(x:Hh E l n cls fl hs ds Lw F σ0 seen effs rds wr π σr hr D σ' h'){cl:List Nat}(hcl:∀q ∈ cl,D q=true){t:Nat}(y:HY l n cl seen t=true):σr t=σ' t:=by
 unfold HY at y;rw [Bool.or_eq_true] at y;rcases y with y | y
 ·exact (x.base t (by simpa using y)).symm
 ·rw [List.any_eq_true] at y;obtain ⟨j,b,z⟩:=y;rw [Bool.and_eq_true] at z;cases a:l[j]? with
  | none=>rw [a] at z;simp at z
  | some c=>
   rw [a] at z;exact (x.done j b (hcl j (List.contains_iff_mem.1 z.1)) c t a (by simpa using z.2)).symm
theorem Hh.late(x:Hh E l n cls fl hs ds Lw F σ0 seen effs rds wr π σr hr D σ' h'){k t:Nat}(hkD:D k=false)(y:In l n cls [] k t=true):σ' t=σ0 t:=by
 obtain ⟨j,o,a,_,b,c,d⟩:=Lf y;refine x.iniS j a ?_ o t c d;cases e:D j with
 | false=>rfl
 | true=>have:=x.clos j a e k b;rw [hkD] at this;cases this
theorem Hh.agree2(x:Hh E l n cls fl hs ds Lw F σ0 seen effs rds wr π σr hr D σ' h'){k:Nat}{kd:Kd}(hcl:∀q ∈ cls.getD k [],D q=true)(hkD:D k=false){t:Nat}(y:HY l n (cls.getD k []) seen t=true\/(kd.fix=true/\In l n cls seen k t=true)):σr t=σ' t:=by
 rcases y with y | ⟨_,y⟩
 ·exact x.agree hcl y
 ·obtain ⟨j,o,b,a,_,c,d⟩:=Lf y;rw [x.iniR j b a o t c d,x.late hkD (Pi y)]
theorem Hh.iniR'(x:Hh E l n cls fl hs ds Lw F σ0 seen effs rds wr π σr hr D σ' h')(nd:(Dd l n).Nodup){k:Nat}{o:Oper}{v:aZ}(hkn:k<n)(ho:l[k]? =some o):∀j,j<n->j ∉ k ::seen->∀o' t,l[j]? =some o'->o'.dst=some t->putS σr o.dst v t=σ0 t:=λj f a o' t b c=>by
 rw [Cp λd g=>EF nd hkn f (λe=>a (by rw [e];exact List.mem_cons_self)) ho b g c];exact x.iniR j f (λq=>a (List.mem_cons_of_mem _ q)) o' t b c
theorem Hh.iniS'(x:Hh E l n cls fl hs ds Lw F σ0 seen effs rds wr π σr hr D σ' h')(nd:(Dd l n).Nodup){k:Nat}{o:Oper}{v:aZ}(hkn:k<n)(ho:l[k]? =some o):∀j,j<n->HX D k j=false->∀o' t,l[j]? =some o'->o'.dst=some t->putS σ' o.dst v t=σ0 t:=λj f c o' t a b=>by
 have e:k≠j:=λe=>by subst e;rw [I0] at c;cases c
 rw [Cp λd g=>EF nd hkn f e ho a g b];rw [Bd e.symm] at c;exact x.iniS j f c o' t a b
theorem Hh.guard(x:Hh E l n cls fl hs ds Lw F σ0 seen effs rds wr π σr hr D σ' h'){cl:List Nat}(hcl:∀q ∈ cl,D q=true){o:Oper}{b:Bool}(hg:∀g w,o.guard=some (g,w)->g ∈ seen/\g ∈ cl)(y:Gd l o σr b):Gd l o σ' b:=by
 unfold Gd at y ⊢;cases a:o.guard with
 | none=>rw [a] at y;exact y
 | some z=>
  obtain ⟨g,w⟩:=z;rw [a] at y;obtain ⟨c,d,is,e,f,h,i⟩:=y;exact ⟨c,d,is,e,f,by rw [x.done g (hg g w a).1 (hcl g (hg g w a).2) c d e f];exact h,i⟩
theorem Hh.unfoldV{kd:Kd}{k:Nat}(nd:(Dd l n).Nodup)(hkd:kd=.p\/kd=.r)(x:Hh E l n cls fl hs ds Lw F σ0 seen effs rds wr ((kd,k) ::π) σr hr D σ' h') :
  ∃rds' σr',Hh E l n cls fl hs ds Lw F σ0 (k ::seen) effs rds' wr π σr' hr D σ' h':=by
 obtain ⟨o,xs,h,C,a,f,H,Q,I⟩:=El x.ok;obtain ⟨y,b,R,T,hF,hT⟩:=x.td;obtain rfl:y=o:=Option.some.inj (R.symm.trans h);have W:D k=false:=x.rest kd k List.mem_cons_self (by rcases hkd with e | e <;> rw [e] <;> rfl);have u:LI y.op=true:=by rcases hkd with rfl | rfl <;> exact I.1
 have i:∀(v:aZ)(rds':List Nat),(rds'=rds\/rds'=k ::rds)->GM P l n cls fl π (k ::seen) effs rds' wr=true->TD E l n (fl && !wr) hs ds Lw F π (putS σr y.dst (if b=true then v else undef)) hr->
   (b=true->UH E y σr ds h' v/\(k ∈ rds'\/∀C,Lw n undef C->UH E y σr ds C v))->Hh E l n cls fl hs ds Lw F σ0 (k ::seen) effs rds' wr π (putS σr y.dst (if b=true then v else undef)) hr D σ' h':=by
  intro v rds' K X td' hv;refine ⟨td',X,x.gw,λt N=>?_,λj hj=>?_,x.eff,λkd' j hj hne=>x.rest kd' j (List.mem_cons_of_mem _ hj) hne,λj hj c A d m B=>?_,λj hj c=>?_,λj hj=>x.flo j (List.mem_cons_of_mem _ hj),λj hj c=>(x.flb j (List.mem_cons_of_mem _ hj) c).imp (λq=>GN q (by rcases hkd with e | e <;> rw [e] <;> decide)) (Prm.put nd x.lt a f h),λj hj=>x.fld j (List.mem_cons_of_mem _ hj),x.mono,x.frm,x.pre,x.clos,x.iniR' nd a h,x.iniS⟩
  ·rw [Cp (Hi a h N)];exact x.base t N
  ·rcases List.mem_cons.1 hj with rfl | hj
   ·exact a
   ·exact x.lt j hj
  ·rcases List.mem_cons.1 hj with rfl | hj
   ·rw [W] at c;cases c
   ·rw [Cp λd' z=>EF nd a (x.lt j hj) (λe=>f (e▸hj)) h m z B];exact x.done j hj c A d m B
  ·rcases List.mem_cons.1 hj with rfl | hj
   ·refine ⟨y,xs,b,v,h,C,u,λg w s=>⟨List.mem_cons_of_mem _ (Q g w s).1,(Q g w s).2⟩,T.put nd x.lt a f h λg w s=>(Q g w s).1,λhb=>?_,λd B=>?_⟩
    ·obtain ⟨y1,y2⟩:=hv hb;refine ⟨σr,λt N=>?_,y1,y2⟩;rcases H t N with q | ⟨_,q⟩
     ·exact .inl ⟨J4 q,(Cp λd B=>NI nd x.lt a f h B q).symm⟩
     ·obtain ⟨j',A,hj',hns,_,m,z⟩:=Lf q;exact .inr ⟨Pi q,x.iniR j' hj' hns A t m z⟩
    ·rw [B];exact upd_same _ _ _
   ·obtain ⟨A,M,b',v',pf⟩:=x.pend j hj c
    have:=pf.put (w:=if b=true then v else undef) nd x.lt a f h hj (Y.Le.refl _)
    rcases K with rfl | rfl
    ·exact ⟨A,M,b',v',this⟩
    ·exact ⟨A,M,b',v',this.more⟩
 cases b with
 | false=>
  rcases hkd with rfl | rfl
  ·exact ⟨_,_,i undef _ (.inl rfl) I.2.2 (hF rfl) (λe=>by cases e)⟩
  ·exact ⟨_,_,i undef _ (.inr rfl) I.2.2 (hF rfl) (λe=>by cases e)⟩
 | true=>
  rcases hkd with rfl | rfl
  ·obtain ⟨v,O,h2⟩:=hT rfl;exact ⟨_,_,i v _ (.inl rfl) I.2.2 h2 (λ_=>⟨O _ x.frm,.inr O⟩)⟩
  ·obtain ⟨v,O,h2⟩:=hT rfl;exact ⟨_,_,i v _ (.inr rfl) I.2.2 h2 (λ_=>⟨O.move u C (λ_ _=>rfl) x.gw.1,.inl List.mem_cons_self⟩)⟩
theorem Hh.unfoldA{k:Nat}(nd:(Dd l n).Nodup)(hD:D k=true)(x:Hh E l n cls fl hs ds Lw F σ0 seen effs rds wr ((Kd.a,k) ::π) σr hr D σ' h') :
  ∃σr',Hh E l n cls fl hs ds Lw F σ0 (k ::seen) (k ::effs) rds wr π σr' h' D σ' h':=by
 obtain ⟨o,xs,g,hx,f,h,K,hg,O⟩:=El x.ok;obtain ⟨s,b,w,i,hF,Q⟩:=x.td;obtain rfl:s=o:=Option.some.inj (w.symm.trans g);obtain ⟨R,T,u,y,z,A⟩:=O;obtain rfl:b=true:=by unfold Gd at i;rw [z] at i;exact i
 obtain ⟨t,CX⟩:∃t,s.op=.alloc t:=by
  cases W:s.op <;> rw [W] at u <;> first | exact ⟨_,rfl⟩ | cases u
 obtain ⟨d,B⟩:=Option.isSome_iff_exists.1 y;obtain ⟨r,X,h2,h3⟩:=x.flo k List.mem_cons_self hD s t d g CX B;refine ⟨putS σr s.dst (.pointer (some ⟨r,0,none⟩)),Q rfl t r h' CX x.gw.1 h2 h3,A,Gw.refl _ _,λt M=>?_,λj hj=>?_,λj hj=>?_,λC j hj H=>x.rest C j (List.mem_cons_of_mem _ hj) H,λj hj c v N m p=>?_,λj hj c=>?_,
  λj hj=>x.flo j (List.mem_cons_of_mem _ hj),λj hj c=>(x.flb j (List.mem_cons_of_mem _ hj) c).imp (λq=>GN q aC) (Prm.put nd x.lt f h g),λj hj=>x.fld j (List.mem_cons_of_mem _ hj),x.mono,x.frm,x.pre,x.clos,x.iniR' nd f g,x.iniS⟩
 ·rw [Cp (Hi f g M)];exact x.base t M
 ·rcases List.mem_cons.1 hj with rfl | hj
  ·exact f
  ·exact x.lt j hj
 ·rcases List.mem_cons.1 hj with rfl | hj
  ·exact hD
  ·exact x.eff j hj
 ·rcases List.mem_cons.1 hj with rfl | hj
  ·obtain rfl:v=s:=Option.some.inj (m.symm.trans g);obtain rfl:N=d:=Option.some.inj (p.symm.trans B);rw [X,B];exact (upd_same _ _ _).symm
  ·rw [Cp λe he=>EF nd f (x.lt j hj) (λe=>h (e▸hj)) g m he p];exact x.done j hj c v N m p
 ·rcases List.mem_cons.1 hj with rfl | hj
  ·rw [hD] at c;cases c
  ·obtain ⟨v,I,b',v',pf⟩:=x.pend j hj c;exact ⟨v,I,b',v',pf.put nd x.lt f h g hj (Y.Le.refl _)⟩
theorem Hh.unfoldB{k:Nat}(nd:(Dd l n).Nodup)(hD:D k=true)(x:Hh E l n cls fl hs ds Lw F σ0 seen effs rds wr ((Kd.b,k) ::π) σr hr D σ' h') :
  ∃σr' hr',Hh E l n cls fl hs ds Lw F σ0 (k ::seen) (k ::effs) rds wr π σr' hr' D σ' h':=by
 obtain ⟨o,xs,f,hx,a,g,I,N,O⟩:=El x.ok;obtain ⟨m,b,r,s,Q,R⟩:=x.td;obtain rfl:m=o:=Option.some.inj (r.symm.trans f);obtain ⟨T,W,u,v⟩:=O;obtain ⟨d,w⟩:=Option.isSome_iff_exists.1 u;obtain ⟨X,y,hL,hU⟩:=x.fld k List.mem_cons_self hD m d f w;obtain rfl:b=X:=(x.guard (x.clos k a hD) N s).uniq y;obtain ⟨hr',z,A⟩:∃hr',Gw (fl && !wr) hr' h'/\TD E l n (fl && !wr) hs ds Lw F π (putS σr m.dst (σ' d)) hr':=by
  cases b with
  | true=>exact ⟨h',Gw.refl _ _,R rfl (σ' d) h' x.gw.1 (hL rfl)⟩
  | false=>exact ⟨hr,x.gw,by rw [hU rfl];exact Q rfl⟩
 refine ⟨putS σr m.dst (σ' d),hr',A,v,z,λt K=>?_,λj hj=>?_,λj hj=>?_,λB j hj C=>x.rest B j (List.mem_cons_of_mem _ hj) C,λj hj c p M h i=>?_,λj hj c=>?_,
  λj hj=>x.flo j (List.mem_cons_of_mem _ hj),λj hj c=>(x.flb j (List.mem_cons_of_mem _ hj) c).imp (λq=>GN q aC) (Prm.put nd x.lt a g f),λj hj=>x.fld j (List.mem_cons_of_mem _ hj),x.mono,x.frm,x.pre,x.clos,x.iniR' nd a f,x.iniS⟩
 ·rw [Cp (Hi a f K)];exact x.base t K
 ·rcases List.mem_cons.1 hj with rfl | hj
  ·exact a
  ·exact x.lt j hj
 ·rcases List.mem_cons.1 hj with rfl | hj
  ·exact hD
  ·exact x.eff j hj
 ·rcases List.mem_cons.1 hj with rfl | hj
  ·obtain rfl:p=m:=Option.some.inj (h.symm.trans f);obtain rfl:M=d:=Option.some.inj (i.symm.trans w);rw [w];exact (upd_same _ _ _).symm
  ·rw [Cp λe he=>EF nd a (x.lt j hj) (λe=>g (e▸hj)) f h he i];exact x.done j hj c p M h i
 ·rcases List.mem_cons.1 hj with rfl | hj
  ·rw [hD] at c;cases c
  ·obtain ⟨p,H,b',v',pf⟩:=x.pend j hj c;exact ⟨p,H,b',v',pf.put nd x.lt a g f hj (Y.Le.refl _)⟩
theorem Hh.unfoldL{k:Nat}(x:Hh E l n cls fl hs ds Lw F σ0 seen effs rds wr ((Kd.l,k) ::π) σr hr D σ' h') :
  Hh E l n cls fl hs ds Lw F σ0 seen effs rds wr π σr hr D σ' h':=by
 obtain ⟨o,C,u,w,H,I,c,K,M⟩:=El x.ok;obtain ⟨y,b,f,g,N,A⟩:=x.td;obtain rfl:y=o:=Option.some.inj (f.symm.trans u);obtain ⟨O,h,B,i⟩:=M;obtain ⟨d,Q⟩:=Option.isSome_iff_exists.1 h;have td:TD E l n (fl && !wr) hs ds Lw F π σr hr:=by
  cases b with
  | true=>exact (A rfl).2
  | false=>exact N rfl
 refine ⟨td,i,x.gw,x.base,x.lt,x.eff,λm j a p=>x.rest m j (List.mem_cons_of_mem _ a) p,x.done,x.pend,λj a=>x.flo j (List.mem_cons_of_mem _ a),λj a r=>?_,λj a=>x.fld j (List.mem_cons_of_mem _ a),x.mono,x.frm,x.pre,x.clos,x.iniR,x.iniS⟩;by_cases e:j=k
 ·subst e;refine .inr ⟨y,C,b,u,w,λt R=>(c t R).resolve_right (λq=>by cases q.1),K,g,λT σ2 s e W=>?_⟩;have X:=(A T).1;refine BR.move w e (λz ds' h2 q=>?_) (X s (x.gw.1.trans W));obtain ⟨rfl,v,hv,l3,hL⟩:=q;have hz:z=v:=by
   have:=congrFun hv d
   simp only [Q,putS,upd_same] at this;exact this
  exact ⟨rfl,v,by rw [hz],l3,hL⟩
 ·refine (x.flb j (List.mem_cons_of_mem _ a) r).imp (λq=>?_) id;rcases List.mem_cons.1 q with e2 | q
  ·cases e2;exact absurd rfl e
  ·exact q
theorem Hh.fldPut(x:Hh E l n cls fl hs ds Lw F σ0 seen effs rds wr π σr hr D σ' h')(nd:(Dd l n).Nodup){k:Nat}{o:Oper}{v:aZ}{h2:Y}(hkn:k<n)(ho:l[k]? =some o)(hkD:D k=false)(l2:h'.Le h2){j:Nat}(hj:(Kd.b,j) ∈ π)(hjk:j≠k)(hDj:D j=true)
  {o':Oper} {d':Nat} (ho':l[j]? =some o') (hd':o'.dst=some d'):∃b,Gd l o' (putS σ' o.dst v) b/\(b=true->Lw j (putS σ' o.dst v d') h2)/\(b=false->putS σ' o.dst v d'=undef):=by
 obtain ⟨_,_,c,h,f,_,_,i⟩:=DM x.ok x.lt _ j hj (.inr rfl);obtain rfl:h=o':=Option.some.inj (f.symm.trans ho');obtain ⟨b,m,p,r⟩:=x.fld j hj hDj h d' ho' hd';have e:putS σ' o.dst v d'=σ' d':=Cp λe s=>EF nd hkn c (λq=>hjk q.symm) ho ho' s hd';refine ⟨b,m.other nd hkn ho λg w d=>⟨(i g w d).1,λq=>?_⟩,λa=>by rw [e];exact x.mono _ _ _ _ l2 (p a),λa=>by rw [e];exact r a⟩
 have:=x.clos j c hDj g (i g w d).2
 rw [q,hkD] at this;cases this
theorem Hh.ran{kd:Kd}{k:Nat}{o:Oper}{xs:List Operand}{v:aZ}{hr2 h2:Y}{wr':Bool}(nd:(Dd l n).Nodup)(hkD:D k=false)(hkl:kd≠.l)(ho:l[k]? =some o)(hkn:k<n)(hks:k ∉ seen)(hcl:∀q ∈ cls.getD k [],D q=true)
  (x:Hh E l n cls fl hs ds Lw F σ0 seen effs rds wr ((kd,k) ::π) σr hr D σ' h') (td:TD E l n (fl && !wr') hs ds Lw F π (putS σr o.dst v) hr2) (ok':GM P l n cls fl π (k ::seen) (k ::effs) rds wr'=true) (gw:Gw (fl && !wr') hr2 h2)
  (how:(wr'=wr/\h'.Le h2)\/(wr'=true/\(∀q ∈ rds,D q=true)/\Lw n undef h2)) :
  Hh E l n cls fl hs ds Lw F σ0 (k ::seen) (k ::effs) rds wr' π (putS σr o.dst v) hr2 (HX D k) (putS σ' o.dst v) h2:=by
 refine ⟨td,ok',gw,λt z=>?_,λj hj=>?_,λj hj=>?_,λw j hj h=>?_,λj hj a i y d f=>?_,λj hj a=>?_,λj hj a i t y d CX f=>?_,λj hj a=>?_,λj hj a i y d f=>?_,x.mono,(by rcases how with ⟨_,g⟩ | ⟨_,_,O⟩;exact x.mono _ _ _ _ g x.frm;exact O),λm=>?_,λj A a q N=>?_,x.iniR' nd hkn ho,x.iniS' nd hkn ho⟩
 ·rw [Cp (Hi hkn ho z),Cp (Hi hkn ho z)];exact x.base t z
 ·rcases List.mem_cons.1 hj with rfl | hj
  ·exact hkn
  ·exact x.lt j hj
 ·rcases List.mem_cons.1 hj with rfl | hj
  ·exact I0
  ·exact Ft (x.eff j hj)
 ·have b:=(Dh ok' w j hj).1;rw [Bd λe=>b (by rw [e];exact List.mem_cons_self)];exact x.rest w j (List.mem_cons_of_mem _ hj) h
 ·rcases List.mem_cons.1 hj with rfl | hj
  ·obtain rfl:i=o:=Option.some.inj (d.symm.trans ho);rw [f];exact (upd_same _ _ _).trans (upd_same _ _ _).symm
  ·have c:j≠k:=λe=>hks (e▸hj);rw [Bd c] at a;have h:∀e,o.dst=some e->y≠e:=λe B=>EF nd hkn (x.lt j hj) (λe=>c e.symm) ho d B f;rw [Cp h,Cp h];exact x.done j hj a i y d f
 ·rcases List.mem_cons.1 hj with rfl | hj
  ·rw [I0] at a;cases a
  ·have c:j≠k:=λe=>hks (e▸hj);rw [Bd c] at a;obtain ⟨i,u,C,H,p⟩:=x.pend j hj a;rcases how with ⟨_,g⟩ | ⟨_,I,K⟩
   ·exact ⟨i,u,C,H,p.put nd x.lt hkn hks ho hj g⟩
   ·have M:PF E l n cls ds Lw σ0 seen rds σr h2 j i u C H:=⟨p.at',p.op,p.val,p.gfix,p.gd,λQ=>by obtain ⟨σk,R,y1,T⟩:=p.vop Q;exact ⟨σk,R,T.elim (λW=>by rw [I j W] at a;cases a) λs=>⟨s h2 K,.inr s⟩⟩,p.is⟩;exact ⟨i,u,C,H,M.put nd x.lt hkn hks ho hj (Y.Le.refl _)⟩
 ·have b:=(Dh ok' _ j hj);have c:j≠k:=λe=>b.1 (by rw [e];exact List.mem_cons_self);rw [Bd c] at a;obtain ⟨r,X,h3,h4⟩:=x.flo j (List.mem_cons_of_mem _ hj) a i t y d CX f;rcases how with ⟨_,g⟩ | ⟨m,_⟩
  ·exact ⟨r,by rw [Cp λe B=>EF nd hkn b.2 (λe=>c e.symm) ho d B f];exact X,h3,g.get h4⟩
  ·have:=(DM ok' (Hj x.lt hkn) _ j hj (.inl rfl)).2.1;rw [m] at this;cases this
 ·have b:=(Dh ok' _ j hj);have c:j≠k:=λe=>b.1 (by rw [e];exact List.mem_cons_self);rw [Bd c] at a;rcases how with ⟨_,g⟩ | ⟨m,_⟩
  ·exact (x.flb j (List.mem_cons_of_mem _ hj) a).imp (λq=>GN q hkl.symm) λq=>(q.put nd x.lt hkn hks ho).le g
  ·have:=(DM ok' (Hj x.lt hkn) _ j hj (.inr rfl)).2.1;rw [m] at this;cases this
 ·have b:=(Dh ok' _ j hj);have c:j≠k:=λe=>b.1 (by rw [e];exact List.mem_cons_self);rw [Bd c] at a;rcases how with ⟨_,g⟩ | ⟨m,_⟩
  ·exact x.fldPut nd hkn ho hkD g (List.mem_cons_of_mem _ hj) c a d f
  ·have:=(DM ok' (Hj x.lt hkn) _ j hj (.inr rfl)).2.1;rw [m] at this;cases this
 ·rcases how with ⟨e,g⟩ | ⟨e,_⟩
  ·exact (x.pre (e▸m)).trans g
  ·rw [e] at m;cases m
 ·by_cases e:j=k
  ·subst e;exact Ft (hcl q N)
  ·rw [Bd e] at a;exact Ft (x.clos j A a q N)
def TdAt(E:Gb P)(l:List Oper)(n:Nat)(cls:List (List Nat))(fl:Bool)(hs:Y)(ds:List Deferred)(Lw:Nat->aZ->Y->Prop)(F:(Nat->aZ)->Y->Prop)(σ0:Nat->aZ)(D:Nat->Bool)(σ':Nat->aZ)(h':Y):Prop:=
 ∃seen effs rds wr π σr hr,Hh E l n cls fl hs ds Lw F σ0 seen effs rds wr π σr hr D σ' h'
abbrev RunK(E:Gb P)(l:List Oper)(n:Nat)(cls:List (List Nat))(fl:Bool)(hs:Y)(ds:List Deferred)(Lw:Nat->aZ->Y->Prop)(F:(Nat->aZ)->Y->Prop)(σ0:Nat->aZ)(D:Nat->Bool)(σ':Nat->aZ)(h':Y)(k:Nat)(o:Oper):Prop:=
 (DQ l o σ'->BR E o σ' ds h' λσ'' ds'' h''=>ds''=ds/\TdAt E l n cls fl hs ds Lw F σ0 (HX D k) σ'' h'')/\(¬DQ l o σ'->TdAt E l n cls fl hs ds Lw F σ0 (HX D k) (putS σ' o.dst undef) h')
theorem Hh.runV{k:Nat}{o:Oper}(nd:(Dd l n).Nodup)(ho:l[k]? =some o)(hks:k ∈ seen)(hkD:D k=false)(hcl:∀q ∈ cls.getD k [],D q=true)(x:Hh E l n cls fl hs ds Lw F σ0 seen effs rds wr π σr hr D σ' h') :
  RunK E l n cls fl hs ds Lw F σ0 D σ' h' k o:=by
 obtain ⟨C,xs,b,v,m⟩:=x.pend k hks hkD;obtain rfl:C=o:=Option.some.inj (m.at'.symm.trans ho);have i:=x.lt k hks;have p:=(x.guard hcl m.gfix m.gd).iff;have s:Hh E l n cls fl hs ds Lw F σ0 seen effs rds wr π σr hr (HX D k) (putS σ' C.dst (if b=true then v else undef)) h':=by
  refine ⟨x.td,x.ok,x.gw,λt B=>?_,x.lt,λj g=>Ft (x.eff j g),λu j g H=>?_,λj g a w A h f=>?_,λj g a=>?_,λj g a w t A h CX f=>?_,λj g a=>?_,λj g a w A h f=>?_,x.mono,x.frm,x.pre,λj I a q N=>?_,x.iniR,x.iniS' nd i ho⟩
  ·rw [Cp (Hi i ho B)];exact x.base t B
  ·have d:=(Dh x.ok u j g).1;rw [Bd λ(e:j=k)=>d (by rw [e];exact hks)];exact x.rest u j g H
  ·by_cases c:j=k
   ·subst c;obtain rfl:w=C:=Option.some.inj (h.symm.trans ho);rw [m.is A f,f];exact upd_same _ _ _
   ·rw [Bd c] at a;rw [Cp λe K=>EF nd i (x.lt j g) (λe=>c e.symm) ho h K f];exact x.done j g a w A h f
  ·by_cases c:j=k
   ·subst c;rw [I0] at a;cases a
   ·rw [Bd c] at a;exact x.pend j g a
  ·have d:=Dh x.ok _ j g;have c:j≠k:=λe=>d.1 (by rw [e];exact hks);rw [Bd c] at a;obtain ⟨r,O,Q⟩:=x.flo j g a w t A h CX f;exact ⟨r,by rw [Cp λe K=>EF nd i d.2 (λe=>c e.symm) ho h K f];exact O,Q⟩
  ·have d:=Dh x.ok _ j g;have c:j≠k:=λe=>d.1 (by rw [e];exact hks);rw [Bd c] at a;exact x.flb j g a
  ·have d:=Dh x.ok _ j g;have c:j≠k:=λe=>d.1 (by rw [e];exact hks);rw [Bd c] at a;exact x.fldPut nd i ho hkD (Y.Le.refl _) g c a h f
  ·by_cases e:j=k
   ·subst e;exact Ft (hcl q N)
   ·rw [Bd e] at a;exact Ft (x.clos j I a q N)
 refine ⟨λM=>?_,λM=>?_⟩
 ·obtain rfl:=p.1 M;obtain ⟨σk,R,T,_⟩:=m.vop rfl;have y:=T.move (σ2:=σ') m.val m.op (λt B=>(R t B).elim (λq=>q.2.trans (x.agree hcl q.1)) λq=>q.2.trans (x.late hkD q.1).symm) (Y.Le.refl _);refine BR.move m.op (λ_ _=>rfl) (λz W X q=>?_) y;obtain ⟨q1,rfl,rfl⟩:=q;exact ⟨rfl,_,_,_,_,_,_,_,by rw [q1];exact s⟩
 ·cases b with
  | true=>exact absurd (p.2 rfl) M
  | false=>exact ⟨_,_,_,_,_,_,_,s⟩
theorem TD.grow{E:Gb P}{fl2:Bool}:∀{π:List (Kd×Nat)} {seen effs rds:List Nat} {wr fl:Bool} {O:Nat->aZ} {h h':Y},GM P l n cls fl2 π seen effs rds wr=true->Gw fl h h'->TD E l n fl hs ds Lw F π O h->TD E l n false hs ds Lw F π O h'
 | [],_,_,_,_,fl,O,h,h',_,g,x=>λy i=>by rw [i.2 rfl];exact x h' g
 | (C,k) ::π,_,_,_,_,fl,O,h,h',z,g,⟨o,b,A,s,H,I⟩=>by
  obtain ⟨B,W,u,y,_,_,_,_,K⟩:=El z;obtain rfl:B=o:=Option.some.inj (u.symm.trans A);obtain ⟨_,_,_,_,d,_⟩:=Gj z;refine ⟨B,b,A,s,λe=>TD.grow d g (H e),λe=>?_⟩;have c:=I e;cases C with
  | p=>obtain ⟨v,a,j⟩:=c;exact ⟨v,a,TD.grow d g j⟩
  | r=>obtain ⟨v,a,j⟩:=c;exact ⟨v,a.move K.1 y (λ_ _=>rfl) g.1,TD.grow d g j⟩
  | e=>intro f i;rw [i.2 rfl];exact (c h' g).mono λ_ _ _ ⟨M,v,N,Q,j⟩=>⟨M,v,N,Q,TD.grow d (Gw.refl _ _) j⟩
  | w=>intro f i;rw [i.2 rfl];exact c h' g
  | a=>intro t r f R m hr T;exact TD.grow d (Gw.refl _ _) (c t r f R (g.1.trans m) hr T)
  | l=>exact ⟨λf m=>c.1 f (g.1.trans m),TD.grow d g c.2⟩
  | b=>intro v f m q;exact TD.grow d (Gw.refl _ _) (c v f (g.1.trans m) q)
theorem Hh.runE{kd:Kd}{k:Nat}{o:Oper}(nd:(Dd l n).Nodup)(hkd:kd=.e\/kd=.w)(ho:l[k]? =some o)(hcl:∀q ∈ cls.getD k [],D q=true)(x:Hh E l n cls fl hs ds Lw F σ0 seen effs rds wr ((kd,k) ::π) σr hr D σ' h') :
  RunK E l n cls fl hs ds Lw F σ0 D σ' h' k o:=by
 obtain ⟨K,xs,m,M,c,f,g,Q,h⟩:=El x.ok;obtain rfl:K=o:=Option.some.inj (m.symm.trans ho);obtain ⟨i,b,p,r,N,O⟩:=x.td;obtain rfl:i=K:=Option.some.inj (p.symm.trans ho);have j:=(x.guard hcl Q r).iff;have a:D k=false:=x.rest kd k List.mem_cons_self (by rcases hkd with e | e <;> rw [e] <;> rfl);refine ⟨λs=>?_,λs=>?_⟩
 ·obtain rfl:=j.1 s;rcases hkd with rfl | rfl
  ·refine (O rfl h' x.gw).move M (λt u=>x.agree2 hcl a (g t u)) λz y A q=>?_;obtain ⟨rfl,v,B,R,td⟩:=q;refine ⟨rfl,?_⟩;have e:putS σ' i.dst z=putS σ' i.dst v:=by
    cases C:i.dst with
    | none=>rfl
    | some d=>
     have:=congrFun B d
     simp only [C,putS,upd_same] at this;rw [this]
   rw [e];exact ⟨_,_,_,_,_,_,_,x.ran (xs:=xs) nd a aC ho c f hcl td h.2 (Gw.refl _ _) (.inl ⟨rfl,R⟩)⟩
  ·refine (O rfl h' x.gw).move M (λt u=>x.agree2 hcl a (g t u)) λz y A q=>?_;obtain ⟨rfl,v,B,H,td⟩:=q;refine ⟨rfl,?_⟩;have e:putS σ' i.dst z=putS σ' i.dst v:=by
    cases C:i.dst with
    | none=>rfl
    | some d=>
     have:=congrFun B d
     simp only [C,putS,upd_same] at this;rw [this]
   rw [e];exact ⟨_,_,_,_,_,_,_,x.ran (xs:=xs) nd a aC ho c f hcl (by rw [Bool.not_true,Bool.and_false];exact td) h.2.2 (Gw.refl _ _) (.inr ⟨rfl,λq I=>hcl q (h.2.1 q I),H⟩)⟩
 ·cases b with
  | true=>exact absurd (j.2 rfl) s
  | false=>
   rcases hkd with rfl | rfl
   ·exact ⟨_,_,_,_,_,_,_,x.ran (xs:=xs) nd a aC ho c f hcl (N rfl) h.2 x.gw (.inl ⟨rfl,Y.Le.refl _⟩)⟩
   ·exact ⟨_,_,_,_,_,_,_,x.ran (xs:=xs) nd a aC ho c f hcl (by rw [Bool.not_true,Bool.and_false];exact TD.grow h.2.2 x.gw (N rfl)) h.2.2 (Gw.refl _ _) (.inr ⟨rfl,λq I=>hcl q (h.2.1 q I),x.frm⟩)⟩
theorem Hx:∀{π:List (Kd×Nat)} {seen effs rds:List Nat} {wr:Bool},GM P l n cls fl π seen effs rds wr=true->∀{kd1 kd2:Kd}{j:Nat},(kd1,j) ∈ π->(kd2,j) ∈ π->kd1≠.l->kd2≠.l->kd1=kd2
 | [],_,_,_,_,_,_,_,_,h,_,_,_=>by cases h
 | (i,k) ::π,seen,effs,rds,wr,x,kd1,kd2,j,f,g,b,c=>by
  obtain ⟨seen',m,o,p,a,_,z,_⟩:=Gj x;rcases List.mem_cons.1 f with d | h3 <;> rcases List.mem_cons.1 g with e | h4
  ·cases d;cases e;rfl
  ·cases d;exact absurd (by rw [z b];exact List.mem_cons_self) (Dh a _ _ h4).1
  ·cases e;exact absurd (by rw [z c];exact List.mem_cons_self) (Dh a _ _ h3).1
  ·exact Hx a h3 h4 b c
theorem Hh.runA{k:Nat}{o:Oper}(nd:(Dd l n).Nodup)(hk:(Kd.a,k) ∈ π)(hkD:D k=false)(ho:l[k]? =some o)(hcl:∀q ∈ cls.getD k [],D q=true)(x:Hh E l n cls fl hs ds Lw F σ0 seen effs rds wr π σr hr D σ' h') :
  RunK E l n cls fl hs ds Lw F σ0 D σ' h' k o:=by
 obtain ⟨R,A,h,N,T,B,C,_⟩:=DM x.ok x.lt _ k hk (.inl rfl);obtain ⟨i,H⟩:=B rfl;obtain rfl:N=o:=Option.some.inj (T.symm.trans ho);have I:=(Dh x.ok _ k hk).1;obtain ⟨t,CX⟩:∃t,N.op=.alloc t:=by
  cases O:N.op <;> rw [O] at i <;> first | exact ⟨_,rfl⟩ | cases i
 have W:BZ P t=some (zOf P t):=by
  rw [CX] at i;obtain ⟨z,W⟩:=Option.isSome_iff_exists.1 (show (BZ P t).isSome=true from i);unfold zOf;rw [W];rfl
 refine ⟨λ_=>?_,λhG=>absurd (by unfold DQ;rw [H];trivial) hG⟩;obtain ⟨dst,op,ty,pos,af,gd⟩:=N;simp only at CX C H;subst CX;obtain ⟨d,rfl⟩:=Option.isSome_iff_exists.1 C;refine AS W λr h2 K v X hoth=>⟨rfl,seen,effs,rds,wr,π,σr,hr,x.td,x.ok,⟨x.gw.1.trans v,λe=>by rw [R,A] at e;cases e⟩,λt' ht=>?_,x.lt,λj c=>Ft (x.eff j c),λkd' j c m=>?_,λj c b w Q f g=>?_,λj c b=>?_,λj c b w t' Q f u g=>?_,λj c b=>?_,λj c b w Q f g=>?_,x.mono,x.mono _ _ _ _ v x.frm,λhw=>(x.pre hw).trans v,λj hjn b q O=>?_,x.iniR,x.iniS' nd h ho⟩
 ·rw [Cp (Hi h ho ht)];exact x.base t' ht
 ·by_cases e:j=k
  ·subst e;rw [Hx x.ok c hk (by rintro rfl;cases m) aC] at m;cases m
  ·rw [Bd e];exact x.rest kd' j c m
 ·have p:j≠k:=λe=>I (e▸c);rw [Bd p] at b;rw [Cp λe he=>EF nd h (x.lt j c) (λe=>p e.symm) ho f he g];exact x.done j c b w Q f g
 ·have p:j≠k:=λe=>I (e▸c);rw [Bd p] at b;obtain ⟨w,xs',b',v',s⟩:=x.pend j c b;exact ⟨w,xs',b',v',s.at',s.op,s.val,s.gfix,s.gd,λhb=>by obtain ⟨σk,y0,y1,y2⟩:=s.vop hb;exact ⟨σk,y0,y1.move s.val s.op (λ_ _=>rfl) v,y2⟩,s.is⟩
 ·by_cases e:j=k
  ·subst e;cases f.symm.trans ho;cases g;cases u;have hb0:hs r=none:=by
    cases hb:hs r with
    | none=>rfl
    | some y=>rw [(x.pre A).get hb] at K;cases K
   exact ⟨r,upd_same _ _ _,hb0,X⟩
  ·rw [Bd e] at b;have M:=Dh x.ok _ j c;obtain ⟨r',h1,h3,h4⟩:=x.flo j c b w t' Q f u g;exact ⟨r',by rw [Cp λe' he=>EF nd h M.2 (λq=>e q.symm) ho f he g];exact h1,h3,v.get h4⟩
 ·have e:j≠k:=λe=>by subst e;cases Hx x.ok c hk aC aC
  rw [Bd e] at b;exact (x.flb j c b).imp id (Prm.le v)
 ·have e:j≠k:=λe=>by subst e;cases Hx x.ok c hk aC aC
  rw [Bd e] at b;exact x.fldPut nd h ho hkD v c e b f g
 ·by_cases e:j=k
  ·subst e;exact Ft (hcl q O)
  ·rw [Bd e] at b;exact Ft (x.clos j hjn b q O)
theorem Hh.reachB{k:Nat}(nd:(Dd l n).Nodup)(hkD:D k=false)(hcl:∀q ∈ cls.getD k [],D q=true):∀{π:List (Kd×Nat)} {seen effs rds:List Nat} {wr:Bool} {σr:Nat->aZ} {hr:Y},
  Hh E l n cls fl hs ds Lw F σ0 seen effs rds wr π σr hr D σ' h'->(Kd.b,k) ∈ π->∃seen effs rds wr π' σr hr,Hh E l n cls fl hs ds Lw F σ0 seen effs rds wr π' σr hr D σ' h'/\(Kd.b,k) ∈ π'/\Prm E l n cls ds Lw seen σr h' k:=by
 intro π
 induction π with
 | nil=>intro _ _ _ _ _ _ _ h;cases h
 | cons y π j=>
  intro seen effs rds wr σr hr x f;obtain ⟨d,u⟩:=y;rcases x.flb k f hkD with v | hp
  ·by_cases o:d=.l
   ·subst o;exact j x.unfoldL (GN f aC)
   ·have s:=GN v (Ne.symm o);have c:d=.e\/d=.w\/d=.a\/d=.b->D u=true:=λA=>by
     obtain ⟨C,H,I,K,t,_,_,_,_,z⟩:=Gj x.ok;exact hcl _ (Pm t .l k s aC aC u (z A))
    cases d with
    | p=>obtain ⟨m,σr',g⟩:=x.unfoldV nd (.inl rfl);exact j g (GN f aC)
    | r=>obtain ⟨m,σr',g⟩:=x.unfoldV nd (.inr rfl);exact j g (GN f aC)
    | e=>have:=x.rest _ _ List.mem_cons_self rfl;rw [c (.inl rfl)] at this;cases this
    | w=>have:=x.rest _ _ List.mem_cons_self rfl;rw [c (.inr (.inl rfl))] at this;cases this
    | a=>obtain ⟨σr',g⟩:=x.unfoldA nd (c (.inr (.inr (.inl rfl))));exact j g (GN f aC)
    | l=>exact absurd rfl o
    | b=>
     have i:=c (.inr (.inr (.inr rfl)));obtain ⟨σr',B,g⟩:=x.unfoldB nd i;rcases List.mem_cons.1 f with e | hm2
     ·cases e;rw [hkD] at i;cases i
     ·exact j g hm2
  ·exact ⟨_,_,_,_,_,_,_,x,f,hp⟩
theorem Hh.runB{k:Nat}{o:Oper}(nd:(Dd l n).Nodup)(hk0:(Kd.b,k) ∈ π)(hkD:D k=false)(ho:l[k]? =some o)(hcl:∀q ∈ cls.getD k [],D q=true)(x0:Hh E l n cls fl hs ds Lw F σ0 seen effs rds wr π σr hr D σ' h') :
  RunK E l n cls fl hs ds Lw F σ0 D σ' h' k o:=by
 obtain ⟨seen,effs,rds,wr,π,σr,hr,x,R,hp⟩:=x0.reachB nd hkD hcl hk0;obtain ⟨W,X,i,o2,ho2,_,hds,_⟩:=DM x.ok x.lt _ k R (.inr rfl);obtain rfl:o2=o:=Option.some.inj (ho2.symm.trans ho);have y:=(Dh x.ok _ k R).1;obtain ⟨H,xs,b,ho3,hx,I,hg,hgd,K⟩:=hp;obtain rfl:H=o2:=Option.some.inj (ho3.symm.trans ho);obtain ⟨d,hd⟩:=Option.isSome_iff_exists.1 hds;have A:=x.guard hcl hg hgd;have hgo:∀v,Gd l H (putS σ' H.dst v) b:=λv=>A.other nd i ho λg w e=>⟨x.lt g (hg g w e).1,λq=>y (q▸(hg g w e).1)⟩;have M:∀(v:aZ)(C:Y),h'.Le C->(b=true->Lw k v C)->(b=false->v=undef)->TdAt E l n cls fl hs ds Lw F σ0 (HX D k) (putS σ' H.dst v) C:=by
  intro v C m hL hU;refine ⟨seen,effs,rds,wr,π,σr,hr,x.td,x.ok,⟨x.gw.1.trans m,λe=>by rw [W,X] at e;cases e⟩,λt' T=>?_,x.lt,λj c=>Ft (x.eff j c),λkd' j c p=>?_,λj c a B u h f=>?_,λj c a=>?_,λj c a B t' u h N f=>?_,λj c a=>?_,λj c a B u h f=>?_,x.mono,x.mono _ _ _ _ m x.frm,λhw=>(x.pre hw).trans m,λj hjn a q hq=>?_,x.iniR,x.iniS' nd i ho⟩
  ·rw [Cp (Hi i ho T)];exact x.base t' T
  ·by_cases e:j=k
   ·subst e;rw [Hx x.ok c R (by rintro rfl;cases p) aC] at p;cases p
   ·rw [Bd e];exact x.rest kd' j c p
  ·have r:j≠k:=λe=>y (e▸c);rw [Bd r] at a;rw [Cp λe he=>EF nd i (x.lt j c) (λe=>r e.symm) ho h he f];exact x.done j c a B u h f
  ·have r:j≠k:=λe=>y (e▸c);rw [Bd r] at a;obtain ⟨B,xs',b',v',s⟩:=x.pend j c a;exact ⟨B,xs',b',v',s.at',s.op,s.val,s.gfix,s.gd,λO=>by obtain ⟨σk,y0,y1,y2⟩:=s.vop O;exact ⟨σk,y0,y1.move s.val s.op (λ_ _=>rfl) m,y2⟩,s.is⟩
  ·have e:j≠k:=λe=>by subst e;cases Hx x.ok c R aC aC
   rw [Bd e] at a;have Q:=Dh x.ok _ j c;obtain ⟨r',h1,h3,h4⟩:=x.flo j c a B t' u h N f;exact ⟨r',by rw [Cp λe' he=>EF nd i Q.2 (λq=>e q.symm) ho h he f];exact h1,h3,m.get h4⟩
  ·have e:j≠k:=λe=>by subst e;rw [I0] at a;cases a
   rw [Bd e] at a;exact (x.flb j c a).imp id (Prm.le m)
  ·by_cases e:j=k
   ·subst e;obtain rfl:B=H:=Option.some.inj (h.symm.trans ho);refine ⟨b,hgo v,λO=>?_,λO=>?_⟩
    ·rw [f,show putS σ' (some u) v u=v from upd_same _ _ _];exact hL O
    ·rw [f,show putS σ' (some u) v u=v from upd_same _ _ _];exact hU O
   ·rw [Bd e] at a;exact x.fldPut nd i ho hkD m c e a h f
  ·by_cases e:j=k
   ·subst e;exact Ft (hcl q hq)
   ·rw [Bd e] at a;exact Ft (x.clos j hjn a q hq)
 refine ⟨λhG=>?_,λhG=>?_⟩
 ·obtain rfl:=A.iff.1 hG;refine BR.move hx (λ_ _=>rfl) (λz ds' C q=>?_) (K rfl σ' h' (λt T=>x.agree hcl (I t T)) (Y.Le.refl _));obtain ⟨rfl,v,hv,m,hL⟩:=q;rw [hv];exact ⟨rfl,M v C m (λ_=>hL) (λe=>by cases e)⟩
 ·cases b with
  | true=>exact absurd (A.iff.2 rfl) hG
  | false=>exact M undef h' (Y.Le.refl _) (λe=>by cases e) (λ_=>rfl)
theorem Hh.reach{kd:Kd}{i:Nat}(nd:(Dd l n).Nodup)(hne:kd.fix=true)(hcl:∀q ∈ cls.getD i [],D q=true):∀{π:List (Kd×Nat)} {seen effs rds:List Nat} {wr:Bool} {σr:Nat->aZ} {hr:Y},
  Hh E l n cls fl hs ds Lw F σ0 seen effs rds wr π σr hr D σ' h'->(kd,i) ∈ π->∃seen effs rds wr π' σr hr,Hh E l n cls fl hs ds Lw F σ0 seen effs rds wr ((kd,i) ::π') σr hr D σ' h':=by
 intro π
 induction π with
 | nil=>intro _ _ _ _ _ _ _ h;cases h
 | cons y π g=>
  intro seen effs rds wr σr hr x t;obtain ⟨c,m⟩:=y;rcases List.mem_cons.1 t with e | hm2
  ·cases e;exact ⟨_,_,_,_,_,_,_,x⟩
  ·have o:c=.p\/c=.r->∃seen effs rds wr π' σr hr,Hh E l n cls fl hs ds Lw F σ0 seen effs rds wr ((kd,i) ::π') σr hr D σ' h':=λj=>by
    obtain ⟨s,σr',f⟩:=x.unfoldV nd j;exact g f hm2
   have d:c=.e\/c=.w\/c=.a\/c=.b->D m=true:=λj=>by
    obtain ⟨v,A,B,C,k,_,_,_,_,z⟩:=Gj x.ok;exact hcl _ (Pm k kd i hm2 (by rintro rfl;cases hne) (by rintro rfl;cases hne) m (z j))
   cases c with
   | p=>exact o (.inl rfl)
   | r=>exact o (.inr rfl)
   | e=>have:=x.rest _ _ List.mem_cons_self rfl;rw [d (.inl rfl)] at this;cases this
   | w=>have:=x.rest _ _ List.mem_cons_self rfl;rw [d (.inr (.inl rfl))] at this;cases this
   | a=>
    obtain ⟨σr',f⟩:=x.unfoldA nd (d (.inr (.inr (.inl rfl))));exact g f hm2
   | l=>exact g x.unfoldL hm2
   | b=>
    obtain ⟨σr',u,f⟩:=x.unfoldB nd (d (.inr (.inr (.inr rfl))));exact g f hm2
theorem Hh.ends(nd:(Dd l n).Nodup)(hall:∀i,i<n->D i=true):∀{π:List (Kd×Nat)} {seen effs rds:List Nat} {wr:Bool} {σr:Nat->aZ} {hr:Y},
  Hh E l n cls fl hs ds Lw F σ0 seen effs rds wr π σr hr D σ' h'->F σ' h':=by
 intro π
 induction π with
 | nil=>
  intro seen effs rds wr σr hr x;have e:σ'=σr:=funext λt=>by
   cases f:(Dd l n).contains t with
   | false=>exact x.base t f
   | true=>
    rw [List.contains_iff_mem] at f;simp only [Dd,List.mem_filterMap] at f;obtain ⟨o,s,u⟩:=f;obtain ⟨k,c⟩:=List.mem_iff_getElem?.1 s;have d:k<n:=by
     have:=(List.getElem?_eq_some_iff.1 c).1
     simp at this;omega
    have g:l[k]? =some o:=by rw [List.getElem?_take] at c;simpa [d] using c
    rcases Pj x.ok k d with h | ⟨_,h,_⟩
    ·exact x.done k h (hall k d) o t g u
    ·cases h
  rw [e];exact x.td h' x.gw
 | cons y π j=>
  intro seen effs rds wr σr hr x;obtain ⟨q,k⟩:=y;have c:=(Dh x.ok q k List.mem_cons_self).2;cases q with
  | a=>obtain ⟨σr',m⟩:=x.unfoldA nd (hall k c);exact j m
  | b=>obtain ⟨σr',v,m⟩:=x.unfoldB nd (hall k c);exact j m
  | l=>exact j x.unfoldL
  | p=>have:=x.rest _ k List.mem_cons_self rfl;rw [hall k c] at this;cases this
  | r=>have:=x.rest _ k List.mem_cons_self rfl;rw [hall k c] at this;cases this
  | e=>have:=x.rest _ k List.mem_cons_self rfl;rw [hall k c] at this;cases this
  | w=>have:=x.rest _ k List.mem_cons_self rfl;rw [hall k c] at this;cases this
end
def UJ(c:List Nat)(k:List Nat->Bool):Bool:=match c with
 | []=>k []
 | x ::xs=>UJ xs λxs'=>k (x ::xs')
theorem Si:∀(c:List Nat)(k:List Nat->Bool),UJ c k=k c
 | [],_=>rfl
 | x ::a,k=>by unfold UJ;rw [Si a]
def UK(cls:List (List Nat))(k:List (List Nat)->Bool):Bool:=match cls with
 | []=>k []
 | c ::cs=>UK cs λcs'=>k (c ::cs')
theorem Sj:∀(cls:List (List Nat))(k:List (List Nat)->Bool),UK cls k=k cls
 | [],_=>rfl
 | c ::a,k=>by unfold UK;exact Sj a _
def Pn(l:List Oper):List Oper->Nat->List (List Nat)->(List (List Nat)->Bool)->Bool
 | [],_,acc,c=>UK acc.reverse c
 | o ::os,k,acc,c=>UJ ((List.range k).filter λj=>IW o j || (List.range k).any λe=>IW o e && (acc.getD (k-1-e) []).contains j) λx=>Pn l os (k+1) (x ::acc) c
theorem H9{l:List Oper}{c:List (List Nat)->Bool}:∀{os:List Oper}{k:Nat}{acc:List (List Nat)},Pn l os k acc c=true->∃cls,c cls=true
 | [],k,acc,h=>⟨acc.reverse,(Sj acc.reverse c).symm.trans h⟩
 | o ::os,k,acc,h=>by unfold Pn at h;rw [Si] at h;exact H9 h
def Po(P:Program)(N:Nat)(l:List Oper)(n:Nat)(cls:List (List Nat))(fl:Bool)(π:List (Kd×Nat)):Bool:=GJ N l n cls && GM P l n cls fl π [] [] [] false && π.all λx=>x.1 !=.b || π.contains (.l,x.2)
theorem Z1{Lw:Nat->aZ->Y->Prop}{F:(Nat->aZ)->Y->Prop}{id:Nat}{l:List Oper}{O:Nat->aZ}{ds:List Deferred}{h:Y}(n:Nat)(cls:List (List Nat))(fl:Bool)(π:List (Kd×Nat))(hm:P.follows .mixedOrders=true)
  (hL:∀k v h1 h2,Y.Le h1 h2->Lw k v h1->Lw k v h2) (hF:Lw n undef h) (ok:Po P E.N l n cls fl π=true) (x:TD E l n fl h ds Lw F π O h) {b:Frame} {k:List Item} {cs:List Frame} {t:Array aZ} (hb:b.fn=E.fn) (hr:b.roundOf=E.rd) (hs:BT t E.N O)
  (y:∀σ' h',F σ' h'->∀t',BT t' E.N σ'->E.wk.K (G (Cd b t' ds (.inRegion l.toArray (List.range' n (l.drop n).length) ::k)) cs) h') :
  E.wk.K (G (Cd b t ds (.code (.region id l.toArray true) ::k)) cs) h:=by
 unfold Po at ok;rw [Bool.and_eq_true,Bool.and_eq_true] at ok;obtain ⟨⟨s,H⟩,I⟩:=ok;have g:(Dd l n).Nodup:=by
  have:=s
  unfold GJ at this;simp only [Bool.and_eq_true] at this;exact of_decide_eq_true this.1.2
 refine PZ n cls (TdAt E l n cls fl h ds Lw F O) hm s ?_ ?_ hb hr hs ?_
 ·exact ⟨[],[],[],false,π,O,h,by rw [Bool.not_false,Bool.and_true];exact x,H,Gw.refl _ _,λ_ _=>rfl,(λ_ f=>by cases f),(λ_ f=>by cases f),(λ_ _ _ _=>rfl),(λ_ f=>by cases f),(λ_ f=>by cases f),(λ_ _ u=>by cases u),(λk f _=>.inl (by have:=List.all_eq_true.1 I _ f;simpa using this)),(λ_ _ u=>by cases u),hL,hF,(λ_=>Y.Le.refl _),(λ_ _ u=>by cases u),(λ_ _ _ _ _ _ _=>rfl),(λ_ _ _ _ _ _ _=>rfl)⟩
 ·rintro D σ' h' i o ⟨seen,effs,A,X,π',σr,hr,m⟩ M j q c hgl;rcases Pj m.ok i M with hs | ⟨Q,f,R⟩
  ·exact m.runV g q hs j c
  ·by_cases d:Q.fix=false
   ·cases Q with
    | a=>exact m.runA g f j q c
    | b=>exact m.runB g f j q c
    | l=>exact absurd rfl R
    | p=>cases d
    | r=>cases d
    | e=>cases d
    | w=>cases d
   ·obtain ⟨seen,effs,A,X,π'',σr,hr,z⟩:=m.reach g (by simpa using d) c f;cases Q with
    | p=>
     obtain ⟨B,σr',T⟩:=z.unfoldV g (.inl rfl);exact T.runV g q List.mem_cons_self j c
    | r=>
     obtain ⟨B,σr',T⟩:=z.unfoldV g (.inr rfl);exact T.runV g q List.mem_cons_self j c
    | e=>exact z.runE g (.inl rfl) q c
    | w=>exact z.runE g (.inr rfl) q c
    | a=>exact absurd rfl d
    | l=>exact absurd rfl d
    | b=>exact absurd rfl d
 ·rintro D σ' h' ⟨seen,effs,A,X,π',σr,hr,m⟩ C t' W;exact y _ _ (m.ends g C) t' W
theorem tr_td{Lw:Nat->aZ->Y->Prop}{F:(Nat->aZ)->Y->Prop}{id:Nat}{l:List Oper}{O:Nat->aZ}{ds:List Deferred}{h:Y}{Q:Post}(n:Nat)(cls:List (List Nat))(fl:Bool)(π:List (Kd×Nat))(hm:P.follows .mixedOrders=true)
  (hL:∀k v h1 h2,Y.Le h1 h2->Lw k v h1->Lw k v h2) (hF:Lw n undef h) (ok:Po P E.N l n cls fl π=true) (x:TD E l n fl h ds Lw F π O h) (y:∀σ' h',F σ' h'->DK E l.toArray (l.drop n) σ' ds h' Q):Tr E (.region id l.toArray true) O ds h Q:=λb k e g t c d i m o=>
 Z1 n cls fl π hm hL hF ok x c d m λσ' h' f p a=>y σ' h' f n b k e g p (λj=>aD) c d i a o
def FrW(n:Nat)(Fr:Y->Prop)(k:Nat)(_:aZ)(h:Y):Prop:=k=n->Fr h
theorem FrW.mono{n:Nat}{Fr:Y->Prop}(m:∀h1 h2,Y.Le h1 h2->Fr h1->Fr h2):∀k v h1 h2,Y.Le h1 h2->FrW n Fr k v h1->FrW n Fr k v h2:=λ_ _ _ _ l x e=>m _ _ l (x e)
abbrev LoIs(O:Nat->aZ)(o:Option Operand)(lo d:Nat):Prop:=match o with
 | none=>lo=d
 | some o=>∃kd,AN O o=.int kd lo
def LC(m:Nat):Kd×Nat:=if 1000<=m then (if m%2=0 then .l else .b,(m-1000) / 2) else (match m%5 with | 0=>.p | 1=>.r | 2=>.e | 3=>.w | _=>.a,m / 5)
def dK:List Nat->List (Kd×Nat)
 | []=>[]
 | m ::l=>LC m ::dK l
theorem CF{id:Nat}{l:List Oper}{O:Nat->aZ}{ds:List Deferred}{h:Y}{Q:Post}(n:Nat)(fl:Bool)(π:List Nat)(hm:P.follows .mixedOrders=true)
  (ok:Pn l (l.take n) 0 [] (λcls=>Po P E.N l n cls fl (dK π))=true) (x:TD E l n fl h ds (λ_ _ _=>True) (λσ' h'=>DK E l.toArray (l.drop n) σ' ds h' Q) (dK π) O h):Tr E (.region id l.toArray true) O ds h Q:=
 let ⟨cls,h1⟩:=H9 ok
 tr_td n cls fl (dK π) hm (λ_ _ _ _ _ y=>y) trivial h1 x λ_ _ y=>y
theorem J5{id:Nat}{l:List Oper}{O:Nat->aZ}{ds:List Deferred}{h:Y}{Q:Post}(F:(Nat->aZ)->Y->Prop)(n:Nat)(fl:Bool)(π:List Nat)(hm:P.follows .mixedOrders=true)
  (ok:Pn l (l.take n) 0 [] (λcls=>Po P E.N l n cls fl (dK π))=true) (x:TD E l n fl h ds (λ_ _ _=>True) F (dK π) O h) (y:∀σ' h',F σ' h'->DK E l.toArray (l.drop n) σ' ds h' Q):Tr E (.region id l.toArray true) O ds h Q:=
 let ⟨cls,h1⟩:=H9 ok
 tr_td n cls fl (dK π) hm (λ_ _ _ _ _ y=>y) trivial h1 x y
theorem NJ{id:Nat}{l:List Oper}{O:Nat->aZ}{ds:List Deferred}{h:Y}{Q:Post}(n:Nat)(Lw:Nat->aZ->Y->Prop)(hL:∀k v h1 h2,Y.Le h1 h2->Lw k v h1->Lw k v h2)(hF:Lw n undef h)(fl:Bool)(π:List Nat)(hm:P.follows .mixedOrders=true)
  (ok:Pn l (l.take n) 0 [] (λcls=>Po P E.N l n cls fl (dK π))=true) (x:TD E l n fl h ds Lw (λσ' h'=>DK E l.toArray (l.drop n) σ' ds h' Q) (dK π) O h):Tr E (.region id l.toArray true) O ds h Q:=
 let ⟨cls,h1⟩:=H9 ok
 tr_td n cls fl (dK π) hm hL hF h1 x λ_ _ y=>y
section
variable {l:List Oper} {n:Nat} {fl:Bool} {hs:Y} {ds:List Deferred} {Lw:Nat->aZ->Y->Prop} {F:(Nat->aZ)->Y->Prop} {π:List Nat} {O:Nat->aZ} {h:Y} {m k g d:Nat} {dst:Option Nat} {op:Op} {ty:bA} {pos:String} {af:Array Edge} {v:aZ} {w is:Bool} {og:Oper}
theorem vz{aQ β γ:Type}{a:aQ}{b:β}{c:γ}:a=a/\b=b/\c=c:=⟨rfl,rfl,rfl⟩
theorem tP(hk:LC m=(.p,k))(ho:l[k]? =some ⟨dst,op,ty,pos,af,none⟩)(x:∀hx,UH E ⟨dst,op,ty,pos,af,none⟩ O ds hx v)(y:TD E l n fl hs ds Lw F (dK π) (putS O dst v) h):TD E l n fl hs ds Lw F (dK (m ::π)) O h:=by
 unfold dK;rw [hk];exact ⟨_,true,ho,rfl,λe=>(by cases e),λ_=>⟨v,λhx _=>x hx,y⟩⟩
theorem tR(hk:LC m=(.r,k))(ho:l[k]? =some ⟨dst,op,ty,pos,af,none⟩)(x:UH E ⟨dst,op,ty,pos,af,none⟩ O ds h v)(y:TD E l n fl hs ds Lw F (dK π) (putS O dst v) h):TD E l n fl hs ds Lw F (dK (m ::π)) O h:=by
 unfold dK;rw [hk];exact ⟨_,true,ho,rfl,λe=>(by cases e),λ_=>⟨v,x,y⟩⟩
theorem tE(hk:LC m=(.e,k))(ho:l[k]? =some ⟨dst,op,ty,pos,af,none⟩)
  (x:BR E ⟨dst,op,ty,pos,af,none⟩ O ds h λσ' ds' h'=>ds'=ds/\∃v,σ'=putS O dst v/\h.Le h'/\TD E l n false hs ds Lw F (dK π) (putS O dst v) h'):TD E l n false hs ds Lw F (dK (m ::π)) O h:=by
 unfold dK;rw [hk];exact ⟨_,true,ho,rfl,λe=>(by cases e),λ_ b a=>by rw [a.2 rfl];exact x⟩
theorem tEf(hk:LC m=(.e,k))(ho:l[k]? =some ⟨dst,op,ty,pos,af,none⟩)
  (x:∀hx,h.Le hx->BR E ⟨dst,op,ty,pos,af,none⟩ O ds hx λσ' ds' h'=>ds'=ds/\∃v,σ'=putS O dst v/\hx.Le h'/\TD E l n true hs ds Lw F (dK π) (putS O dst v) h'):TD E l n true hs ds Lw F (dK (m ::π)) O h:=by
 unfold dK;rw [hk];exact ⟨_,true,ho,rfl,λe=>(by cases e),λ_ hx a=>x hx a.1⟩
theorem tW(hk:LC m=(.w,k))(ho:l[k]? =some ⟨dst,op,ty,pos,af,none⟩)
  (x:BR E ⟨dst,op,ty,pos,af,none⟩ O ds h λσ' ds' h'=>ds'=ds/\∃v,σ'=putS O dst v/\TD E l n false hs ds (λ_ _ _=>True) F (dK π) (putS O dst v) h'):TD E l n false hs ds (λ_ _ _=>True) F (dK (m ::π)) O h:=by
 unfold dK;rw [hk];exact ⟨_,true,ho,rfl,λe=>(by cases e),λ_ b a=>by rw [a.2 rfl];exact x.mono λ_ _ _ q=>⟨q.1,by obtain ⟨v,e,y⟩:=q.2;exact ⟨v,e,trivial,y⟩⟩⟩
theorem tWf(hk:LC m=(.w,k))(ho:l[k]? =some ⟨dst,op,ty,pos,af,none⟩)
  (x:∀hx,h.Le hx->BR E ⟨dst,op,ty,pos,af,none⟩ O ds hx λσ' ds' h'=>ds'=ds/\∃v,σ'=putS O dst v/\TD E l n false hs ds (λ_ _ _=>True) F (dK π) (putS O dst v) h'):TD E l n true hs ds (λ_ _ _=>True) F (dK (m ::π)) O h:=by
 unfold dK;rw [hk];exact ⟨_,true,ho,rfl,λe=>(by cases e),λ_ hx a=>(x hx a.1).mono λ_ _ _ q=>⟨q.1,by obtain ⟨v,e,y⟩:=q.2;exact ⟨v,e,trivial,y⟩⟩⟩
theorem tWL(hk:LC m=(.w,k))(ho:l[k]? =some ⟨dst,op,ty,pos,af,none⟩)
  (x:BR E ⟨dst,op,ty,pos,af,none⟩ O ds h λσ' ds' h'=>ds'=ds/\∃v,σ'=putS O dst v/\Lw n undef h'/\TD E l n false hs ds Lw F (dK π) (putS O dst v) h'):TD E l n false hs ds Lw F (dK (m ::π)) O h:=by
 unfold dK;rw [hk];exact ⟨_,true,ho,rfl,λe=>(by cases e),λ_ b a=>by rw [a.2 rfl];exact x⟩
theorem tWfL(hk:LC m=(.w,k))(ho:l[k]? =some ⟨dst,op,ty,pos,af,none⟩)
  (x:∀hx,h.Le hx->BR E ⟨dst,op,ty,pos,af,none⟩ O ds hx λσ' ds' h'=>ds'=ds/\∃v,σ'=putS O dst v/\Lw n undef h'/\TD E l n false hs ds Lw F (dK π) (putS O dst v) h'):TD E l n true hs ds Lw F (dK (m ::π)) O h:=by
 unfold dK;rw [hk];exact ⟨_,true,ho,rfl,λe=>(by cases e),λ_ hx a=>x hx a.1⟩
theorem tA{t:bA}{z:Array aZ}(hk:LC m=(.a,k))(ho:l[k]? =some ⟨dst,.alloc t,ty,pos,af,none⟩)(hz:BZ P t=some z)
  (x:∀r hx,h.Le hx->hs r=none->hx r=some (true,.cells z t (0,0))->TD E l n true hs ds Lw F (dK π) (putS O dst (.pointer (some ⟨r,0,none⟩))) hx):TD E l n true hs ds Lw F (dK (m ::π)) O h:=by
 unfold dK;rw [hk];refine ⟨_,true,ho,rfl,λe=>(by cases e),λ_ i r hx e b c f=>?_⟩;cases e;exact x r hx b c (by rw [f];unfold zOf;rw [hz];rfl)
theorem tF(hk:LC m=(.p,k))(ho:l[k]? =some ⟨dst,op,ty,pos,af,none⟩)(x:∀hx,Lw n undef hx->UH E ⟨dst,op,ty,pos,af,none⟩ O ds hx v)(y:TD E l n fl hs ds Lw F (dK π) (putS O dst v) h):TD E l n fl hs ds Lw F (dK (m ::π)) O h:=by
 unfold dK;rw [hk];exact ⟨_,true,ho,rfl,λe=>(by cases e),λ_=>⟨v,x,y⟩⟩
theorem tL(hk:LC m=(.l,k))(ho:l[k]? =some ⟨dst,op,ty,pos,af,none⟩)
  (x:∀hx,h.Le hx->BR E ⟨dst,op,ty,pos,af,none⟩ O ds hx λσ' ds' h'=>ds'=ds/\∃v,σ'=putS O dst v/\hx.Le h'/\Lw k v h') (y:TD E l n fl hs ds Lw F (dK π) O h):TD E l n fl hs ds Lw F (dK (m ::π)) O h:=by
 unfold dK;rw [hk];exact ⟨_,true,ho,rfl,λe=>(by cases e),λ_=>⟨x,y⟩⟩
theorem tB(hk:LC m=(.b,k))(ho:l[k]? =some ⟨dst,op,ty,pos,af,none⟩)(x:∀v hx,h.Le hx->Lw k v hx->TD E l n fl hs ds Lw F (dK π) (putS O dst v) hx):TD E l n fl hs ds Lw F (dK (m ::π)) O h:=by
 unfold dK;rw [hk];exact ⟨_,true,ho,rfl,λe=>(by cases e),λ_=>x⟩
theorem Hk(h1:l[g]? =some og)(h2:og.dst=some d)(h3:O d=.bool w):Gd l ⟨dst,op,ty,pos,af,some (g,w)⟩ O true:=⟨og,d,.bool w,h1,h2,h3,by cases w <;> rfl⟩
theorem tPg(hk:LC m=(.p,k))(ho:l[k]? =some ⟨dst,op,ty,pos,af,some (g,w)⟩)(h1:l[g]? =some og)(h2:og.dst=some d)(h3:O d=.bool w)(x:∀hx,UH E ⟨dst,op,ty,pos,af,some (g,w)⟩ O ds hx v)
  (y:TD E l n fl hs ds Lw F (dK π) (putS O dst v) h):TD E l n fl hs ds Lw F (dK (m ::π)) O h:=by
 unfold dK;rw [hk];exact ⟨_,true,ho,Hk h1 h2 h3,λe=>(by cases e),λ_=>⟨v,λhx _=>x hx,y⟩⟩
theorem tRg(hk:LC m=(.r,k))(ho:l[k]? =some ⟨dst,op,ty,pos,af,some (g,w)⟩)(h1:l[g]? =some og)(h2:og.dst=some d)(h3:O d=.bool w)(x:UH E ⟨dst,op,ty,pos,af,some (g,w)⟩ O ds h v)
  (y:TD E l n fl hs ds Lw F (dK π) (putS O dst v) h):TD E l n fl hs ds Lw F (dK (m ::π)) O h:=by
 unfold dK;rw [hk];exact ⟨_,true,ho,Hk h1 h2 h3,λe=>(by cases e),λ_=>⟨v,x,y⟩⟩
theorem Sm(hk:LC m=(.e,k))(ho:l[k]? =some ⟨dst,op,ty,pos,af,some (g,w)⟩)(h1:l[g]? =some og)(h2:og.dst=some d)(h3:O d=.bool w)
  (x:BR E ⟨dst,op,ty,pos,af,some (g,w)⟩ O ds h λσ' ds' h'=>ds'=ds/\∃v,σ'=putS O dst v/\h.Le h'/\TD E l n false hs ds Lw F (dK π) (putS O dst v) h'):TD E l n false hs ds Lw F (dK (m ::π)) O h:=by
 unfold dK;rw [hk];exact ⟨_,true,ho,Hk h1 h2 h3,λe=>(by cases e),λ_ b a=>by rw [a.2 rfl];exact x⟩
theorem tS{kd:Kd}(hk:LC m=(kd,k))(ho:l[k]? =some ⟨dst,op,ty,pos,af,some (g,w)⟩)(h1:l[g]? =some og)(h2:og.dst=some d)(h3:O d=.bool is)(hne:(is==w)=false)
  (y:TD E l n fl hs ds Lw F (dK π) (putS O dst undef) h) (hl:(kd !=Kd.l)=true:=by rfl):TD E l n fl hs ds Lw F (dK (m ::π)) O h:=by
 unfold dK;rw [hk];exact ⟨_,false,ho,⟨og,d,.bool is,h1,h2,h3,hne.symm⟩,λ_=>(by cases kd <;> first | exact y | cases hl),λe=>(by cases e)⟩
theorem tSL(hk:LC m=(.l,k))(ho:l[k]? =some ⟨dst,op,ty,pos,af,some (g,w)⟩)(h1:l[g]? =some og)(h2:og.dst=some d)(h3:O d=.bool is)(hne:(is==w)=false)
  (y:TD E l n fl hs ds Lw F (dK π) O h):TD E l n fl hs ds Lw F (dK (m ::π)) O h:=by
 unfold dK;rw [hk];exact ⟨_,false,ho,⟨og,d,.bool is,h1,h2,h3,hne.symm⟩,λ_=>y,λe=>(by cases e)⟩
theorem tEfg(hk:LC m=(.e,k))(ho:l[k]? =some ⟨dst,op,ty,pos,af,some (g,w)⟩)(h1:l[g]? =some og)(h2:og.dst=some d)(h3:O d=.bool w)
  (x:∀hx,h.Le hx->BR E ⟨dst,op,ty,pos,af,some (g,w)⟩ O ds hx λσ' ds' h'=>ds'=ds/\∃v,σ'=putS O dst v/\hx.Le h'/\TD E l n true hs ds Lw F (dK π) (putS O dst v) h'):TD E l n true hs ds Lw F (dK (m ::π)) O h:=by
 unfold dK;rw [hk];exact ⟨_,true,ho,Hk h1 h2 h3,λe=>(by cases e),λ_ hx a=>x hx a.1⟩
theorem tWfLg(hk:LC m=(.w,k))(ho:l[k]? =some ⟨dst,op,ty,pos,af,some (g,w)⟩)(h1:l[g]? =some og)(h2:og.dst=some d)(h3:O d=.bool w)
  (x:∀hx,h.Le hx->BR E ⟨dst,op,ty,pos,af,some (g,w)⟩ O ds hx λσ' ds' h'=>ds'=ds/\∃v,σ'=putS O dst v/\Lw n undef h'/\TD E l n false hs ds Lw F (dK π) (putS O dst v) h'):TD E l n true hs ds Lw F (dK (m ::π)) O h:=by
 unfold dK;rw [hk];exact ⟨_,true,ho,Hk h1 h2 h3,λe=>(by cases e),λ_ hx a=>x hx a.1⟩
theorem tLg(hk:LC m=(.l,k))(ho:l[k]? =some ⟨dst,op,ty,pos,af,some (g,w)⟩)(h1:l[g]? =some og)(h2:og.dst=some d)(h3:O d=.bool w)
  (x:∀hx,h.Le hx->BR E ⟨dst,op,ty,pos,af,some (g,w)⟩ O ds hx λσ' ds' h'=>ds'=ds/\∃v,σ'=putS O dst v/\hx.Le h'/\Lw k v h') (y:TD E l n fl hs ds Lw F (dK π) O h):TD E l n fl hs ds Lw F (dK (m ::π)) O h:=by
 unfold dK;rw [hk];exact ⟨_,true,ho,Hk h1 h2 h3,λe=>(by cases e),λ_=>⟨x,y⟩⟩
theorem tBg(hk:LC m=(.b,k))(ho:l[k]? =some ⟨dst,op,ty,pos,af,some (g,w)⟩)(h1:l[g]? =some og)(h2:og.dst=some d)(h3:O d=.bool w)(x:∀v hx,h.Le hx->Lw k v hx->TD E l n fl hs ds Lw F (dK π) (putS O dst v) hx):TD E l n fl hs ds Lw F (dK (m ::π)) O h:=by
 unfold dK;rw [hk];exact ⟨_,true,ho,Hk h1 h2 h3,λe=>(by cases e),λ_=>x⟩
theorem tN(x:F O h):TD E l n false hs ds Lw F (dK []) O h:=λb a=>by rw [a.2 rfl];exact x
theorem tNf(x:∀hx,h.Le hx->F O hx):TD E l n true hs ds Lw F (dK []) O h:=λhx a=>x hx a.1
section
variable {aQ:Type} {enc:aQ->Array aZ} {xs:List aQ} {h0:Y} {t:bA} {a ix:Operand} {z:Nat} {sv:aZ} {kd:IntKind} {i:Int}
theorem tI(hk:LC m=(.p,k))(ho:l[k]? =some ⟨dst,.indexAddr t a ix,ty,pos,af,none⟩)(ht:D0 P t=some z)(hs':AG h0 sv z enc xs)(hx:AN O a=sv)(hi:AN O ix=.int kd i)(h0':0<=i)(h1:i<xs.length)
  (y:∀b off,AU h0 b off z (enc (xs[i.toNat]' U))->TD E l n fl hs ds Lw F (dK π) (putS O dst (.pointer (some ⟨b,off,none⟩))) h):TD E l n fl hs ds Lw F (dK (m ::π)) O h:=by
 obtain ⟨p,c,rfl,_,_,e⟩:=hs';obtain ⟨b,off,rfl,f⟩:=e i.toNat U;exact tP hk ho (λ_=>Bh ht hx hi h0' h1 vz) (y b _ f)
theorem tSl{olo ohi:Option Operand}(lo hi:Nat)(hk:LC m=(.p,k))(ho:l[k]? =some ⟨dst,.slice t a olo ohi none,ty,pos,af,none⟩)(ht:D0 P t=some z)(hs':AG h0 sv z enc xs)(hx:AN O a=sv)
  (hlo:LoIs O olo lo 0) (hhi:LoIs O ohi hi xs.length) (h1:lo<=hi) (h2:hi<=xs.length)
  (y:∀v',AG h0 v' z enc ((xs.take hi).drop lo)->TD E l n fl hs ds Lw F (dK π) (putS O dst v') h):TD E l n fl hs ds Lw F (dK (m ::π)) O h:=by
 have b:=hs';obtain ⟨p,c,rfl,e,_,_⟩:=hs';exact tP hk ho (λ_=>Kk lo hi ht e hx hlo hhi h1 h2 vz) (y _ (b.part h1 h2))
theorem tIg(hk:LC m=(.p,k))(ho:l[k]? =some ⟨dst,.indexAddr t a ix,ty,pos,af,some (g,w)⟩)(h1':l[g]? =some og)(h2':og.dst=some d)(h3':O d=.bool w)(ht:D0 P t=some z)(hs':AG h0 sv z enc xs)(hx:AN O a=sv)(hi:AN O ix=.int kd i)(h0':0<=i)(h1:i<xs.length)
  (y:∀b off,AU h0 b off z (enc (xs[i.toNat]' U))->TD E l n fl hs ds Lw F (dK π) (putS O dst (.pointer (some ⟨b,off,none⟩))) h):TD E l n fl hs ds Lw F (dK (m ::π)) O h:=by
 obtain ⟨p,c,rfl,_,_,e⟩:=hs';obtain ⟨b,off,rfl,f⟩:=e i.toNat U;exact tPg hk ho h1' h2' h3' (λ_=>Bh ht hx hi h0' h1 vz) (y b _ f)
end
theorem eT{h':Y}{π':List (Kd×Nat)}(l2:h.Le h')(y:TD E l n fl hs ds Lw F π' (putS O dst v) h'):ds=ds/\∃v',putS O dst v=putS O dst v'/\h.Le h'/\TD E l n fl hs ds Lw F π' (putS O dst v') h':=⟨rfl,v,rfl,l2,y⟩
theorem wTL{h':Y}{π':List (Kd×Nat)}(fr:Lw n undef h')(y:TD E l n fl hs ds Lw F π' (putS O dst v) h'):ds=ds/\∃v',putS O dst v=putS O dst v'/\Lw n undef h'/\TD E l n fl hs ds Lw F π' (putS O dst v') h':=⟨rfl,v,rfl,fr,y⟩
theorem wT{h':Y}{π':List (Kd×Nat)}(y:TD E l n fl hs ds Lw F π' (putS O dst v) h'):ds=ds/\∃v',putS O dst v=putS O dst v'/\TD E l n fl hs ds Lw F π' (putS O dst v') h':=⟨rfl,v,rfl,y⟩
end
theorem Ko{X:Prop}{p:Prop}[Decidable p](a:p->X)(b:¬p->X):X:=if h:p then a h else b h
theorem Pp{X:Prop}{b:Bool}(x:b=true->X)(y:b=false->X):X:=by cases b with
 | true=>exact x rfl
 | false=>exact y rfl
end
end Go.Ns
namespace Go.Ns
def eI(i:Int):Array aZ:=#[.int .i64 i]
def eB(i:Int):Array aZ:=#[.int .u8 i]
def eH(i:Int):Array aZ:=#[.int .u16 i]
structure Good where
 name:bB
 cost:Int
 pack:Int
 low:Int
 high:Int
structure IU where
 kind:Int
 good:Int
 day:Int
 low:Int
 high:Int
structure Jw where
 good:Int
 day:Int
 low:Int
 high:Int
structure UL where
 first:Nat->Int
 many:Nat->Int
 lies:Nat->Bool
def realOf(p:UL)(i:Nat):Int:=if p.lies i then 0 else p.many i
def Good.z:Good:=⟨⟨#[]⟩,0,0,0,0⟩
def IU.z:IU:=⟨0,0,0,0,0⟩
def Jw.z:Jw:=⟨0,0,0,0⟩
theorem Dy{aQ:Type}{xs:List aQ}{i:Nat}(d:aQ)(hi:i<xs.length):xs.getD i d=xs[i]'hi:=by
 simp [List.getD_eq_getElem?_getD,List.getElem?_eq_getElem hi]
theorem AU.getD{aQ:Type}{h:Y}{b off n:Nat}{enc:aQ->Array aZ}{xs:List aQ}{i:Nat}{hi:i<xs.length}(d:aQ)(x:AU h b off n (enc (xs[i]'hi))):AU h b off n (enc (xs.getD i d)):=by
 rw [Dy d hi];exact x
theorem Em{aQ:Type}{a:List aQ}{k:Nat}(d:aQ)(ha:k<a.length):a.take (k+1)=a.take k++[a.getD k d]:=by
 rw [List.take_succ_eq_append_getElem ha,Dy d ha]
theorem Pq{aQ:Type}{a b:List aQ}{k:Nat}(d:aQ)(h:a.take k=b.take k)(ha:k<a.length)(hb:k<b.length)(e:a.getD k d=b.getD k d):a.take (k+1)=b.take (k+1):=by
 rw [Em d ha,Em d hb,h,e]
theorem UM{a b:List Int}{k:Nat}(h:a.take k=b.take k)(hk:k<=a.length)(hk':¬(k:Int)<a.length)(hl:(a.length:Int)=b.length):a=b:=by
 have c:k=a.length:=U
 have d:b.length=a.length:=U
 rw [c,List.take_length,<-d,List.take_length] at h;exact h
theorem ne_len{aQ:Type}{a b:List aQ}(h:¬(a.length:Int)=b.length):¬a=b:=λe=>h (by rw [e])
theorem ne_getD{aQ:Type}{a b:List aQ}{k:Nat}{d:aQ}(e:¬a.getD k d=b.getD k d):¬a=b:=λh=>e (by rw [h])
theorem has_hit{a:List Int}{k:Nat}{n:Int}(hk:(k:Int)<a.length)(e:a.getD k 0=n):n ∈ a:=by
 have b:k<a.length:=U
 rw [Dy 0 b] at e;exact e▸List.getElem_mem b
theorem has_next{a:List Int}{k:Nat}{n:Int}(hk:(k:Int)<a.length)(h:¬n ∈ a.take k)(e:¬a.getD k 0=n):¬n ∈ a.take (k+1):=by
 rw [Em 0 U];simp only [List.mem_append,List.mem_singleton,not_or];exact ⟨h,λq=>e q.symm⟩
theorem has_end{a:List Int}{k:Nat}{n:Int}(hk:¬(k:Int)<a.length)(h:¬n ∈ a.take k):¬n ∈ a:=by
 rwa [List.take_of_length_le U] at h
def E3(c:Int):Prop:=97<=c/\c<=122
def FL(c:Int):Prop:=48<=c/\c<=57
instance (c:Int):Decidable (E3 c):=inferInstanceAs (Decidable (_/\_))
instance (c:Int):Decidable (FL c):=inferInstanceAs (Decidable (_/\_))
def idxOf{aQ:Type}(p:aQ->Bool):List aQ->Int
 | []=> -1
 | x ::l=>if p x then 0 else if idxOf p l<0 then-1 else idxOf p l+1
theorem Pr{aQ:Type}(p:aQ->Bool):∀l:List aQ,-1<=idxOf p l
 | []=>by simp [idxOf]
 | x ::l=>by have:=Pr p l;unfold idxOf;split <;> (try split) <;> omega
theorem FM{aQ:Type}(p:aQ->Bool):∀l:List aQ,(0<=idxOf p l)↔l.any p=true
 | []=>by simp [idxOf]
 | x ::l=>by
  have:=FM p l
  have b:=Pr p l;unfold idxOf;cases a:p x with
  | true=>simp [a]
  | false=>
   simp only [Bool.false_eq_true,if_false,List.any_cons,a,Bool.false_or];rw [<-this];split <;> omega
theorem Hy{aQ:Type}{p:aQ->Bool}{l:List aQ}{k:Nat}{d:aQ}(hk:(k:Int)<l.length)(h:(l.take k).any p=false)(e:p (l.getD k d)=true):idxOf p l=k:=by
 induction l generalizing k with
 | nil=>simp at hk;omega
 | cons x l a=>
  unfold idxOf;cases k with
  | zero=>simp at e;simp [e]
  | succ k=>
   simp only [List.take_succ_cons,List.any_cons,Bool.or_eq_false_iff] at h;rw [h.1]
   have:=a (k:=k) (by simp at hk;omega) h.2 (by simpa using e)
   rw [this];simp only [Bool.false_eq_true,if_false];rw [aX U];omega
theorem Gk{aQ:Type}{p:aQ->Bool}{l:List aQ}{k:Nat}(hk:¬(k:Int)<l.length)(h:(l.take k).any p=false):idxOf p l= -1:=by
 rw [List.take_of_length_le U] at h
 have:=FM p l
 have a:=Pr p l;rw [h] at this;simp at this;omega
theorem Eh{aQ:Type}{p:aQ->Bool}{l:List aQ}{k:Nat}{d:aQ}(hk:(k:Int)<l.length)(h:(l.take k).any p=false)(e:p (l.getD k d)=false):(l.take (k+1)).any p=false:=by
 rw [Em d U,List.any_append,h];simp only [Bool.false_or,List.any_cons,List.any_nil,Bool.or_false,e]
theorem BV{aQ:Type}{l:List aQ}{k:Nat}{d:aQ}(hk:k<l.length):l.getD k d ∈ l:=by
 rw [Dy d hk];exact List.getElem_mem hk
def Cv(f:Nat->Int):Nat->Nat->Int
 | _,0=>0
 | i,n+1=>if f i=0 then Cv f (i+1) n else f i
theorem Ps{f:Nat->Int}{c:Int}:∀{n i k:Nat},(∀j,i<=j->j<i+k->f j=0)->k<n->f (i+k)=c->c≠0->Cv f i n=c
 | 0,i,k,_,b,_,_=>U
 | n+1,i,0,_,_,e,a=>by unfold Cv;rw [Nat.add_zero] at e;rw [e,aX a]
 | n+1,i,k+1,h,b,e,a=>by
  unfold Cv;rw [aY (h i (Nat.le_refl _) U)];exact Ps (k:=k) (λj d g=>h j U U) U (by rw [<-e];congr 1;omega) a
theorem N8{f:Nat->Int}:∀{n i:Nat},(∀j,i<=j->j<i+n->f j=0)->Cv f i n=0
 | 0,_,_=>rfl
 | n+1,i,h=>by
  unfold Cv;rw [aY (h i (Nat.le_refl _) U)];exact N8 λj a b=>h j U U
theorem Dr{f:Nat->Int}{k:Nat}(h:∀j,j<k->f j=0)(e:f k=0):∀j,j<k+1->f j=0:=λj a=>by
 rcases Nat.lt_or_ge j k with q | q
 ·exact h j q
 ·rw [show j=k by omega];exact e
theorem BN{f:Nat->Int}{c:Int}{n k:Nat}(h:∀j,j<k->f j=0)(hk:k<n)(e:f k=c)(hc:c≠0):Cv f 0 n=c:=
 Ps (i:=0) (k:=k) (λj _ a=>h j U) hk (by rw [Nat.zero_add];exact e) hc
theorem CG{f:Nat->Int}{n k:Nat}(h:∀j,j<k->f j=0)(hk:n<=k):Cv f 0 n=0:=N8 λj _ a=>h j U
def Io(s:bB)(k:Nat):Int:=if¬E3 ((bytesOf s).getD k 0)/\(k=0\/¬FL ((bytesOf s).getD k 0)) then 1 else 0
def E4(s:bB):Bool:=decide (Cv (Io s) 0 s.size=0) && decide (1<=(s.size:Int)/\(s.size:Int)<=10)
theorem LJ(s:bB)(k:Nat):0<=(bytesOf s).getD k 0/\(bytesOf s).getD k 0<=255:=by
 by_cases h:k<(bytesOf s).length
 ·rw [Dy 0 h];have a:k<s.data.toList.length:=by rw [C5] at h;rw [Array.length_toList];exact h
  have e:(bytesOf s)[k]'h=((s.data.toList[k]'a).toNat:Int):=List.getElem_map _;rw [e]
  have:=(s.data.toList[k]'a).toNat_lt
  omega
 ·simp only [List.getD_eq_getElem?_getD];rw [List.getElem?_eq_none U];decide
theorem Pu{s:bB}{k:Nat}(h:∀j,j<k->Io s j=0)(hk:k<s.size)(e:Io s k=1):E4 s=false:=by
 unfold E4;rw [BN h hk e aC];simp
theorem Pv{s:bB}{k:Nat}(h:∀j,j<k->Io s j=0)(hk:s.size<=k):E4 s=decide (1<=(s.size:Int)/\(s.size:Int)<=10):=by
 unfold E4;rw [CG h hk];simp
theorem Hz{q:Nat->Prop}{k:Nat}(h:∀j,j<k->q j)(e:q k):∀j,j<k+1->q j:=λj a=>by
 rcases Nat.lt_or_ge j k with r | r
 ·exact h j r
 ·rw [show j=k by omega];exact e
end Go.Ns
namespace Go.Ns
open Go.Conc
def Cf(lo:Int)(k:Nat):List Int:=(List.range k).map λ(j:Nat)=>lo+(j:Int)
def I2(lo hi:Int):List Int:=Cf lo (hi-lo+1).toNat
theorem N9(lo:Int)(k:Nat):Cf lo (k+1)=Cf lo k++[lo+(k:Int)]:=by
 simp [Cf,List.range_succ]
theorem XK{lo n:Int}{k:Nat}:n ∈ Cf lo k↔lo<=n/\n<lo+k:=by
 simp only [Cf,List.mem_map,List.mem_range];constructor
 ·rintro ⟨j,a,rfl⟩;omega
 ·rintro ⟨b,c⟩;exact ⟨(n-lo).toNat,U,U⟩
theorem mem_spanL{lo hi n:Int}:n ∈ I2 lo hi↔lo<=n/\n<=hi:=by
 unfold I2;rw [XK];omega
theorem XL{β:Type}{f:Int->List β}{lo hi:Int}{k:Nat}(h:¬lo+(k:Int)<=hi)(hk:(k:Int)<=hi-lo+1\/k=0):(Cf lo k).flatMap f=(I2 lo hi).flatMap f:=by
 unfold I2;congr 2;omega
theorem OA{β:Type}{f:Int->List β}{lo:Int}{k:Nat}:(Cf lo (k+1)).flatMap f=(Cf lo k).flatMap f++f (lo+k):=by
 rw [N9,List.flatMap_append];simp
def BO(X:Nat->Prop)(h h':Y):Prop:=∀b p o,h b=some (p,o)->¬X b->∃o',h' b=some (p,o')/\(o'=o\/(J0 o=true/\J0 o'=true))
theorem BO.refl(X:Nat->Prop)(h:Y):BO X h h:=λ_ _ o x _=>⟨o,x,.inl rfl⟩
theorem Y.Le.keepX{h h':Y}(l:h.Le h')(X:Nat->Prop):BO X h h':=λb p o x _=>l b p o x
theorem BO.trans{X X1:Nat->Prop}{a b c:Y}(x:BO X a b)(hX:∀r,X1 r->X r\/a r=none)(y:BO X1 b c):BO X a c:=λr p o d f=>by
 obtain ⟨g,h,h2⟩:=x r p o d f;obtain ⟨i,j,h4⟩:=y r p g h λq=>(hX r q).elim f λe=>by rw [e] at d;cases d
 refine ⟨i,j,?_⟩;rcases h2 with rfl | h2
 ·exact h4
 ·rcases h4 with rfl | h4
  ·exact .inr h2
  ·exact .inr ⟨h2.1,h4.2⟩
theorem BO.box{X:Nat->Prop}{h h':Y}(x:BO X h h'){b:Nat}{p:Bool}{o:Obj}(hb:h b=some (p,o))(hX:¬X b)(ho:J0 o=false):h' b=some (p,o):=by
 obtain ⟨d,c,rfl | ⟨a,_⟩⟩:=x b p o hb hX
 ·exact c
 ·rw [ho] at a;cases a
theorem BO.store{X:Nat->Prop}{h h1 h2:Y}(x:BO X h h1){r:Nat}(hr:h r=none)(ho:∀b,b≠r->h2 b=h1 b):BO X h h2:=λb p o a c=>by
 rw [ho b λe=>by subst e;rw [hr] at a;cases a];exact x b p o a c
structure Fh{aQ:Type}(hB:Y)(I:List aQ->(Nat->Prop)->Y->Prop):Prop where
 dom:∀pre X h b,I pre X h->X b->∃p o,h b=some (p,o)/\J0 o=false
 stable:∀pre X h h',I pre X h->(∀b,X b->h' b=h b)->hB.Le h'->I pre X h'
theorem Fh.le{aQ:Type}{hB:Y}{I:List aQ->(Nat->Prop)->Y->Prop}(P:Fh hB I){pre:List aQ}{X:Nat->Prop}{h h':Y}(x:I pre X h)(l:h.Le h')(lB:hB.Le h'):I pre X h':=
 P.stable pre X h h' x (λb c=>by
  obtain ⟨p,o,a,d⟩:=P.dom pre X h b x c;rw [l.keep a d,a]) lB
theorem Fh.store{aQ:Type}{hB:Y}{I:List aQ->(Nat->Prop)->Y->Prop}(P:Fh hB I){pre:List aQ}{X:Nat->Prop}{h h':Y}(x:I pre X h){r:Nat}(hr:¬X r)(ho:∀b,b≠r->h' b=h b)(lB:hB.Le h'):I pre X h':=
 P.stable pre X h h' x (λb a=>ho b λe=>hr (e▸a)) lB
theorem Fh.off{aQ:Type}{hB:Y}{I:List aQ->(Nat->Prop)->Y->Prop}(P:Fh hB I){pre:List aQ}{X:Nat->Prop}{h:Y}(x:I pre X h){r:Nat}(hr:h r=none):¬X r:=λq=>by
 obtain ⟨p,o,a,_⟩:=P.dom pre X h r x q;rw [hr] at a;cases a
theorem Jz{X X1:Nat->Prop}{h:Y}(hX:∀r,X1 r->X r\/h r=none){r:Nat}{o:Bool×Obj}(hr:h r=some o)(n:¬X r):¬X1 r:=λq=>(hX r q).elim n λe=>by rw [e] at hr;cases hr
def EG{aQ:Type}(hB:Y)(I:List aQ->(Nat->Prop)->Y->Prop)(aN:Y->Prop)(pre:List aQ)(X:Nat->Prop)(h:Y)(l:List aQ)(v:aZ)(h':Y):Prop:=
 ∃ok X',v=.bool ok/\(∀b,X' b->X b\/h b=none)/\BO X h h'/\hB.Le h'/\(ok=true->I (pre++l) X' h')/\(ok=false->aN h')
structure J6{aQ:Type}{P:Program}(W:Wk P)(hB:Y)(yv:aZ)(enc:aQ->Array aZ)(I:List aQ->(Nat->Prop)->Y->Prop)(aN:Y->Prop)(all:List aQ):Prop where
 prom:Fh hB I
 one:yv.cells=#[yv]
 call:∀pre p post X h,all=pre++p ::post->I pre X h->hB.Le h->Bi W yv #[.agg (enc p)] h (EG hB I aN pre X h [p])
structure D1{aQ:Type}(hB:Y)(I:List aQ->(Nat->Prop)->Y->Prop)(X0:Nat->Prop)(h:Y)(pre:List aQ)(X:Nat->Prop)(hc:Y):Prop where
 inv:I pre X hc
 sub:∀b,X b->X0 b\/h b=none
 keep:BO X0 h hc
 base:hB.Le hc
section
variable {aQ:Type} {hB:Y} {I:List aQ->(Nat->Prop)->Y->Prop} {aN:Y->Prop} {X0 X X1:Nat->Prop} {h hc h':Y} {pre l:List aQ}
theorem D1.start(x:I pre X h)(lB:hB.Le h):D1 hB I X h pre X h:=⟨x,λ_ q=>.inl q,BO.refl _ _,lB⟩
theorem D1.le(P:Fh hB I)(y:D1 hB I X0 h pre X hc)(l:hc.Le h'):D1 hB I X0 h pre X h':=
 ⟨P.le y.inv l (y.base.trans l),y.sub,y.keep.trans (λ_ q=>.inl q) (l.keepX X0),y.base.trans l⟩
theorem D1.store(P:Fh hB I)(y:D1 hB I X0 h pre X hc){r:Nat}(hr:h r=none)(rB:hB r=none)(hn:¬X r)(ho:∀b,b≠r->h' b=hc b):D1 hB I X0 h pre X h':=
 ⟨P.store y.inv hn ho (y.base.upd rB ho),y.sub,y.keep.store hr ho,y.base.upd rB ho⟩
theorem subX(s:∀b,X b->X0 b\/h b=none)(k:BO X0 h hc)(s':∀b,X1 b->X b\/hc b=none):∀b,X1 b->X0 b\/h b=none:=λb q=>by
 rcases s' b q with q | q
 ·exact s b q
 ·by_cases a:X0 b
  ·exact .inl a
  ·refine .inr ?_;cases c:h b with
   | none=>rfl
   | some x=>
    obtain ⟨e,d,_⟩:=k b x.1 x.2 c a;rw [d] at q;cases q
theorem D1.call(y:D1 hB I X0 h pre X hc){v:aZ}(r:EG hB I aN pre X hc l v h') :
  ∃ok X',v=.bool ok/\(∀b,X' b->X b\/hc b=none)/\BO X hc h'/\(ok=true->D1 hB I X0 h (pre++l) X' h')/\(ok=false->∀l',EG hB I aN pre X0 h l' (.bool false) h'):=by
 obtain ⟨ok,X',i,a,c,d,j,k⟩:=r;have f:BO X0 h h':=y.keep.trans y.sub c;have g:=subX y.sub y.keep a;exact ⟨ok,X',i,a,c,λe=>⟨j e,g,f,d⟩,λe l'=>⟨false,X',rfl,g,f,d,(λx=>by cases x),λ_=>k e⟩⟩
theorem D1.done(y:D1 hB I X0 h (pre++l) X hc):EG hB I aN pre X0 h l (.bool true) hc:=⟨true,X,rfl,y.sub,y.keep,y.base,λ_=>y.inv,λx=>by cases x⟩
theorem D1.pass{aQ:Type}{hB:Y}{I:List aQ->(Nat->Prop)->Y->Prop}{aN:Y->Prop}{X0 X:Nat->Prop}{h hc h':Y}{pre:List aQ}{l:List aQ}{v:aZ}(y:D1 hB I X0 h pre X hc)(r:EG hB I aN pre X hc l v h'):EG hB I aN pre X0 h l v h':=by
 obtain ⟨a,X',b,c,d,e,f,g⟩:=r;exact ⟨a,X',b,subX y.sub y.keep c,y.keep.trans y.sub d,e,f,g⟩
theorem EG.stopped{pre':List aQ}{v:aZ}(hv:v=.bool false)(r:∀l',EG hB I aN pre X0 h l' (.bool false) h'):EG hB I aN pre' X0 h l v h':=by
 obtain ⟨f,X',e,a,b,c,_,d⟩:=r [];cases e;exact ⟨false,X',hv,a,b,c,(λx=>by cases x),d⟩
end
def Bw{aQ:Type}(all pre l:List aQ):Prop:=∃post,all=pre++l++post
section
variable {aQ:Type} {all pre a b:List aQ}
theorem Bw.left(w:Bw all pre (a++b)):Bw all pre a:=by
 obtain ⟨post,h⟩:=w;exact ⟨b++post,by rw [h];simp⟩
theorem Bw.right(w:Bw all pre (a++b)):Bw all (pre++a) b:=by
 obtain ⟨post,h⟩:=w;exact ⟨post,by rw [h];simp⟩
theorem Bw.one{p:aQ}(w:Bw all pre [p]):∃post,all=pre++p ::post:=by
 obtain ⟨post,h⟩:=w;exact ⟨post,by rw [h];simp⟩
theorem XM(lo:Int)(i j:Nat):Cf lo (i+j)=Cf lo i++Cf (lo+i) j:=by
 unfold Cf;rw [List.range_add,List.map_append,List.map_map];congr 1;apply List.map_congr_left;intro x _;simp only [Function.comp];omega
theorem Bw.round{lo hi:Int}{k:Nat}{F:Int->List aQ}(w:Bw all pre ((I2 lo hi).flatMap F))(hk:lo+(k:Int)<=hi):Bw all (pre++(Cf lo k).flatMap F) (F (lo+k)):=by
 have e:I2 lo hi=Cf lo k++([lo+(k:Int)]++Cf (lo+((k+1:Nat):Int)) ((hi-lo+1).toNat-(k+1))):=by
  unfold I2;rw [<-List.append_assoc,<-N9,<-XM];congr 1;omega
 rw [e,List.flatMap_append,List.flatMap_append] at w;have c:=w.right.left;simpa using c
theorem Bw.roundEnd{lo hi:Int}{k:Nat}{F:Int->List aQ}(h:¬lo+(k:Int)<=hi)(hk:(k:Int)<=hi-lo+1\/k=0):(I2 lo hi).flatMap F=(Cf lo k).flatMap F:=(XL h hk).symm
end
section
variable {ag:UL->Bool} {gs:List Good} {ms:List IU} {mo:Int} {f i k:Nat} {p pc:UL} {all pre:List UL} {lo hi x:Int}
end
theorem DX{f:Nat->Int}:∀{n i:Nat},Cv f i n=0->∀j,i<=j->j<i+n->f j=0
 | 0,i,_,j,a,b=>U
 | n+1,i,h,j,a,b=>by
  unfold Cv at h;split at h
  ·rename_i e
   rcases Nat.eq_or_lt_of_le a with rfl | h3
   ·exact e
   ·exact DX h j h3 U
  ·rename_i e;exact absurd h e
section
variable {d m:Int} {gs:List Good} {ms:List IU} {cs:List Jw}
theorem Bl{aQ:Type}{l:List aQ}{k:Nat}{z:aQ}(h:l.length<=k):l.getD k z=z:=by
 simp [List.getD_eq_getElem?_getD,List.getElem?_eq_none h]
variable {f y l:List Int}
end
section
variable {d m:Int} {gs:List Good} {ms:List IU} {cs:List Jw} {f y l:List Int}
end
theorem VS{aQ β:Type}{f:aQ->List β}{c:Nat}:∀{l:List aQ},(∀x ∈ l,(f x).length<=c)->(l.flatMap f).length<=l.length*c
 | [],_=>aD
 | x ::l,h=>by
  rw [List.flatMap_cons,List.length_append,List.length_cons,Nat.succ_mul];have b:=h x aD;have d:=VS (l:=l) λy a=>h y (by simp [a]);omega
theorem pre_len{aQ:Type}{all pre post:List aQ}{p:aQ}(h:all=pre++p ::post){n:Nat}(hn:all.length<=n):pre.length+1<=n:=by
 rw [h,List.length_append,List.length_cons] at hn;omega
theorem AG.one{aQ:Type}{h:Y}{v:aZ}{n:Nat}{enc:aQ->Array aZ}{xs:List aQ}(x:AG h v n enc xs):v.cells=#[v]/\v.oneCell'=true:=by
 obtain ⟨a,b,rfl,_⟩:=x;exact ⟨rfl,rfl⟩
theorem GO{v:aZ}(h:v.cells=#[v]/\v.oneCell'=true):Value.fine v=true:=by unfold Value.fine;rw [h.1];simp [h.2]
theorem GP{v:aZ}(h:v.cells=#[v]/\v.oneCell'=true):v.cells.size=1:=by rw [h.1];rfl
theorem IA{v:aZ}(h:v.cells=#[v]/\v.oneCell'=true){c c':Array aZ}{o:Nat}(e:BU c o [v]=c'):BU c o v.cells.toList=c':=by rw [h.1];exact e
end Go.Ns
namespace Go.Ns
open Go.Conc
section
variable {P:Program} {E:Gb P} {O:Nat->aZ} {ds:List Deferred} {aQ:Type}
def VT(hB:Y)(J:List aQ->(Nat->Prop)->Y->Prop)(Stop:Code->Y->Prop)(pre:List aQ)(aO:Nat->Prop)(h:Y)(l:Nat)(lo:Loop):Post:=λe _ _ h3=>
 h3 l=some (true,.loop { lo with state:=.busy })/\∃Y',(∀b,Y' b->aO b\/h b=none)/\BO (λb=>aO b\/b=l) h h3/\hB.Le h3/\match e with
  | .normal=>J pre Y' h3
  | .exit id=>Stop (.exit id) h3
  | .ret=>Stop .ret h3
  | _=>False
def OB(J:List aQ->(Nat->Prop)->Y->Prop)(l d:Nat)(lo:Loop)(pre:List aQ)(X:Nat->Prop)(h:Y):Prop:=
 ∃aO,J pre aO h/\(∀b,X b↔aO b\/b=l\/b=d)/\¬aO l/\¬aO d/\h l=some (true,.loop lo)/\h d=some (true,.deferred (some []))
def Sn(Stop:Code->Y->Prop)(l d:Nat)(lo:Loop)(h:Y):Prop:=
 ∃c,Stop c h/\h l=some (true,.loop { lo with state:=.done,pending:=some c })/\h d=some (true,.deferred (some []))
def YEnd(hB:Y)(I:List aQ->(Nat->Prop)->Y->Prop)(Sp:Y->Prop)(all:List aQ)(X:Nat->Prop)(h h':Y):Prop:=
 ∃X',(∀b,X' b->X b\/h b=none)/\BO X h h'/\hB.Le h'/\(I all X' h'\/Sp h')
theorem EG.final{hB:Y}{I:List aQ->(Nat->Prop)->Y->Prop}{Sp:Y->Prop}{all:List aQ}{X:Nat->Prop}{h h':Y}{v:aZ}(r:EG hB I Sp [] X h all v h'):YEnd hB I Sp all X h h':=by
 obtain ⟨d,X',g,a,b,c,e,f⟩:=r;cases d with
 | true=>exact ⟨X',a,b,c,.inl (e rfl)⟩
 | false=>exact ⟨X',a,b,c,.inr (f rfl)⟩
theorem VU{enc:aQ->Array aZ}{all:List aQ}{hB hc:Y}{J:List aQ->(Nat->Prop)->Y->Prop}{Stop:Code->Y->Prop}{Y0:Nat->Prop}{par:Tmp}{f:Operand}{assign body:Code}{Q:Post}
  (hrd:E.rd=none) (hpar:Nat.blt par E.N=true) (hJ:Fh hB J) (hB0:hB.Le hc) (j0:J [] Y0 hc)
  (hS:∀c (h h':Y) l lo,Stop c h->h l=some (true,.loop lo)->(∀b,b≠l->h' b=h b)->Stop c h')
  (src:∀(yv:aZ)(I:List aQ->(Nat->Prop)->Y->Prop)(Sp:Y->Prop)(X:Nat->Prop)(h:Y),J6 E.wk hB yv enc I Sp all->hB.Le h->I [] X h->Bi E.wk (AN O f) #[yv] h λ_ h'=>YEnd hB I Sp all X h h')
  (round:∀(l d:Nat)(lo:Loop)(pre:List aQ)(p:aQ)(post:List aQ)(aO:Nat->Prop)(h:Y),all=pre++p ::post->J pre aO h->hB.Le h->hB l=none->¬aO l->h l=some (true,.loop lo)->
   Tr ⟨E.wk,E.fn,some l,E.N⟩ assign (upd O par (.agg (enc p))) [] h λe σ' ds' h1=>e=.normal/\h1 l=some (true,.loop lo)/\∀h2,h2 l=some (true,.loop { lo with state:=.busy })->(∀b,b≠l->h2 b=h1 b)->
    Tr ⟨E.wk,E.fn,some l,E.N⟩ body σ' ds' h2 (VT hB J Stop (pre++[p]) aO h l lo))
  (fin:∀(d l:Nat)(h':Y),hB.Le h'->hB d=none->hB l=none->hc d=none->h' d=some (true,.deferred (some []))->
   (∀aO,J all aO h'->(∀b,aO b->b≠d)->Q .normal O ({ target:=.collected d,args:=#[] } ::ds) h')/\
   (∀c,Stop c h'->match c with
    | .exit id=>Q (.exit id) O ({ target:=.collected d,args:=#[] } ::ds) h'
    | .ret=>Q .ret O ({ target:=.collected d,args:=#[] } ::ds) h'
    | _=>False)):Tr E (.rangeFunc f #[par] assign body) O ds hc Q:=by
 refine MK hrd λt d l hs F W k=>?_;have m:hB l=none:=hB0.nothing W;have H:hB d=none:=hB0.nothing F;let lo:Loop:={ state:=.ready,pending:=none,fn:=E.fn,tmps:=t,params:=#[par],assign,body,defers:=d };have nYl:¬Y0 l:=hJ.off j0 W;have nYd:¬Y0 d:=hJ.off j0 F;have hL1:((hc.set d true (.deferred (some []))).set l true (.loop lo)) l=some (true,.loop lo):=Y.set_same _ _ _ _;have hL2:((hc.set d true (.deferred (some []))).set l true (.loop lo)) d=some (true,.deferred (some [])):=by rw [Y.set_ne _ _ _ (Ne.symm k)];exact Y.set_same _ _ _ _
 have hL3:∀b,b≠l->b≠d->((hc.set d true (.deferred (some []))).set l true (.loop lo)) b=hc b:=λb h1 h2=>by rw [Y.set_ne _ _ _ h1,Y.set_ne _ _ _ h2]
 have K:hB.Le ((hc.set d true (.deferred (some []))).set l true (.loop lo)):=(hB0.trans (Y.Le.new F _ _)).trans (Y.Le.new (by rw [Y.set_ne _ _ _ k];exact W) _ _);have hI0:OB J l d lo [] (λb=>Y0 b\/b=l\/b=d) ((hc.set d true (.deferred (some []))).set l true (.loop lo)):=by
  refine ⟨Y0,hJ.stable _ _ hc _ j0 (λb a=>hL3 b (λe=>nYl (e▸a)) (λe=>nYd (e▸a))) K,λb=>Iff.rfl,nYl,nYd,hL1,hL2⟩
 have prom:Fh hB (OB J l d lo):=by
  refine ⟨?_,?_⟩
  ·rintro pre X h b ⟨aO,j,n,_,_,h1,h2⟩ a;rcases (n b).1 a with r | rfl | rfl
   ·exact hJ.dom _ _ _ _ j r
   ·exact ⟨_,_,h1,rfl⟩
   ·exact ⟨_,_,h2,rfl⟩
  ·rintro pre X h h' ⟨aO,j,n,B,C,h1,h2⟩ same lB;refine ⟨aO,hJ.stable _ _ h h' j (λb a=>same b ((n b).2 (.inl a))) lB,n,B,C,?_,?_⟩
   ·rw [same l ((n l).2 (.inr (.inl rfl)))];exact h1
   ·rw [same d ((n d).2 (.inr (.inr rfl)))];exact h2
 have yk:J6 E.wk hB (.func (.yield l) #[] #[]) enc (OB J l d lo) (Sn Stop l d lo) all:=by
  refine ⟨prom,rfl,?_⟩;rintro pre p post X h M ⟨aO,j,n,B,C,h1,h2⟩ lB;refine Pg h1 rfl ?_;have ef:(lo.params.zip #[Value.agg (enc p)]).foldl (λtmps x=>tmps.setIfInBounds x.1 x.2) lo.tmps=t.setIfInBounds par (.agg (enc p)):=by simp [lo]
  rw [ef];show BS E.wk l E.fn (t.setIfInBounds par (.agg (enc p))) assign body h _;have u:=hs.put hpar (.agg (enc p));refine N6 (N:=E.N) u.1 ?_;have e0:(λi=>(t.setIfInBounds par (.agg (enc p))).getD i undef)=upd O par (.agg (enc p)):=funext u.2;rw [e0];refine Kf ?_ (round l d lo pre p post aO h M j lB m B h1);rintro e σ' ds' ha ⟨rfl,ha1,a⟩;refine ⟨rfl,lo,ha1,rfl,?_⟩;refine Kf ?_ (a _ (Y.set_same _ _ _ _) λb a=>Y.set_ne _ _ _ a);rintro e σ2 ds2 r ⟨g1,Y',g2,g3,g4,D⟩;have w:r d=some (true,.deferred (some [])):=g3.box h2 (λq=>q.elim C (λe=>k e.symm)) rfl;have nl:¬Y' l:=λq=>(g2 l q).elim B λe=>by rw [h1] at e;cases e
  have nd:¬Y' d:=λq=>(g2 d q).elim C λe=>by rw [h2] at e;cases e
  have y:∀(g:Loop)(T:Bool),(if T then J (pre++[p]) Y' (r.set l true (.loop g))/\g=lo else Sn Stop l d lo (r.set l true (.loop g)))->EG hB (OB J l d lo) (Sn Stop l d lo) pre X h [p] (.bool T) (r.set l true (.loop g)):=by
   intro g T A;refine ⟨T,λb=>Y' b\/b=l\/b=d,rfl,?_,?_,?_,?_,?_⟩
   ·rintro b (a | rfl | rfl)
    ·exact (g2 b a).imp (λq=>(n b).2 (.inl q)) id
    ·exact .inl ((n _).2 (.inr (.inl rfl)))
    ·exact .inl ((n _).2 (.inr (.inr rfl)))
   ·intro b q o a hn;have nb:b≠l:=λe=>hn ((n b).2 (.inr (.inl e)));rw [Y.set_ne _ _ _ nb];exact g3 b q o a λq=>q.elim (λz=>hn ((n b).2 (.inl z))) nb
   ·exact g4.upd m λb a=>Y.set_ne _ _ _ a
   ·rintro rfl;simp only [if_true] at A;obtain ⟨hj,rfl⟩:=A;exact ⟨Y',hj,λb=>Iff.rfl,nl,nd,Y.set_same _ _ _ _,by rw [Y.set_ne _ _ _ (Ne.symm k)];exact w⟩
   ·rintro rfl;simpa using A
  have js:∀(g:Loop),J (pre++[p]) Y' r->J (pre++[p]) Y' (r.set l true (.loop g)):=λg hj=>hJ.store hj nl (λb a=>Y.set_ne _ _ _ a) (g4.upd m λb a=>Y.set_ne _ _ _ a);have ss:∀c (g:Loop),Stop c r->Stop c (r.set l true (.loop g)):=λc g hc=>hS c r _ l _ hc g1 λb a=>Y.set_ne _ _ _ a;refine ⟨_,g1,?_⟩;cases e with
  | normal=>exact y _ true (by simp only [if_true];exact ⟨js _ D,rfl⟩)
  | exit id=>exact y _ false (by simp only [Bool.false_eq_true,if_false];exact ⟨_,ss _ _ D,Y.set_same _ _ _ _,by rw [Y.set_ne _ _ _ (Ne.symm k)];exact w⟩)
  | ret=>exact y _ false (by simp only [Bool.false_eq_true,if_false];exact ⟨_,ss _ _ D,Y.set_same _ _ _ _,by rw [Y.set_ne _ _ _ (Ne.symm k)];exact w⟩)
  | goto _=>exact D.elim
  | panic _=>exact D.elim
  | outgrown=>exact D.elim
 refine (src _ _ _ _ _ yk K hI0).mono ?_;rintro v h' ⟨X',u,hk,R,hor⟩;rcases hor with ⟨aO,j,n,B,C,h1,h2⟩ | ⟨c,hst,h1,h2⟩
 ·refine ⟨lo,h1,rfl,?_⟩;show Q .normal O _ _;have s:=R.upd m (λb a=>Y.set_ne h' true (.loop { lo with state:=.exhausted }) a);refine (fin d l _ s H m F (by rw [Y.set_ne _ _ _ (Ne.symm k)];exact h2)).1 aO (hJ.store j B (λb a=>Y.set_ne _ _ _ a) s) λb a e=>C (e▸a)
 ·refine ⟨_,h1,rfl,?_⟩;have s:=R.upd m (λb a=>Y.set_ne h' true (.loop { { lo with state:=.done,pending:=some c } with state:=.exhausted }) a)
  have:=(fin d l _ s H m F (by rw [Y.set_ne _ _ _ (Ne.symm k)];exact h2)).2 c (hS c h' _ l _ hst h1 λb a=>Y.set_ne _ _ _ a)
  cases c with
  | exit id=>exact this
  | ret=>exact this
  | _=>exact this.elim
structure OC(hB:Y)(X:Nat->Prop)(h hc:Y):Prop where
 keep:BO X h hc
 base:hB.Le hc
 dom:∀b,X b->∃o,hc b=some o
section
variable {hB h hc h':Y} {X:Nat->Prop}
theorem Y.Le.someOf{h h':Y}(l:h.Le h'){b:Nat}(x:∃o,h b=some o):∃o,h' b=some o:=by
 obtain ⟨o,a⟩:=x;obtain ⟨d,c,_⟩:=l b o.1 o.2 a;exact ⟨_,c⟩
theorem OC.start(lB:hB.Le h)(d:∀b,X b->∃o,h b=some o):OC hB X h h:=⟨BO.refl _ _,lB,d⟩
theorem OC.le(r:OC hB X h hc)(l:hc.Le h'):OC hB X h h':=⟨r.keep.trans (λ_ q=>.inl q) (l.keepX X),r.base.trans l,λb a=>l.someOf (r.dom b a)⟩
theorem OC.nothing(r:OC hB X h hc){q:Nat}(hq:hc q=none):h q=none:=by
 cases d:h q with
 | none=>rfl
 | some x=>
  by_cases a:X q
  ·obtain ⟨o,b⟩:=r.dom q a;rw [hq] at b;cases b
  ·obtain ⟨e,c,_⟩:=r.keep q x.1 x.2 d a;rw [hq] at c;cases c
theorem OC.store(r:OC hB X h hc){q:Nat}(hq:X q\/h q=none)(rB:hB q=none)(ho:∀b,b≠q->h' b=hc b)(hn:∃o,h' q=some o):OC hB X h h':=
 ⟨λb p o a c=>by
   have d:b≠q:=λe=>by
    subst e;rcases hq with hq | hq
    ·exact c hq
    ·rw [hq] at a;cases a
   rw [ho b d];exact r.keep b p o a c,
  r.base.upd rB ho,λb a=>by
   by_cases e:b=q
   ·subst e;exact hn
   ·rw [ho b e];exact r.dom b a⟩
theorem BO.app{v v':aZ}(k:BO X h hc)(g:Gc hc h' v v')(hv:∀b,CS v=some b->X b):BO X h h':=λb p o c a=>by
 obtain ⟨d,f,i⟩:=k b p o c a;exact ⟨d,g.1 b _ f λe=>a (hv b e),i⟩
theorem BO.store'{q:Nat}(k:BO X h hc)(hq:X q\/h q=none)(ho:∀b,b≠q->h' b=hc b):BO X h h':=λb p o a c=>by
 have d:b≠q:=λe=>by
  subst e;rcases hq with hq | hq
  ·exact c hq
  ·rw [hq] at a;cases a
 rw [ho b d];exact k b p o a c
theorem BO.le'(k:BO X h hc)(l:hc.Le h'):BO X h h':=k.trans (λ_ q=>.inl q) (l.keepX X)
end
def Y.del(h:Y)(r:Nat):Y:=λb=>if b=r then none else h b
theorem Y.del_le(h:Y)(r:Nat):(h.del r).Le h:=λb p o a=>by
 unfold Y.del at a;split at a
 ·cases a
 ·exact ⟨o,a,.inl rfl⟩
theorem Y.del_none(h:Y)(r:Nat):h.del r r=none:=aY rfl
theorem Y.del_ne{h:Y}{r b:Nat}(e:b≠r):h.del r b=h b:=aX e
theorem Y.Le.del{h0 h:Y}(l:h0.Le h){r:Nat}(hr:h0 r=none):h0.Le (h.del r):=λb p o a=>by
 rw [Y.del_ne (Y.ne_of a hr)];exact l b p o a
theorem AU.del{h:Y}{r b off n:Nat}{vs:Array aZ}(x:AU h b off n vs)(e:b≠r):AU (h.del r) b off n vs:=x.same (Y.del_ne e)
theorem PA{W:Wk P}{x v:aZ}{args:Array aZ}{h:Y}{R:aZ->Y->Prop}(e:x=v)(k:Bi W v args h R):Bi W x args h R:=e▸k
def JCol{aQ:Type}(hB:Y)(r:Nat)(T t:bA)(n:Nat)(enc:aQ->Array aZ)(pre:List aQ)(aO:Nat->Prop)(h:Y):Prop:=
 ∃w,h r=some (true,.cells #[w] T (0,0))/\AO hB h w t n enc pre/\BD w r/\hB r=none/\∀b,aO b↔b=r\/CS w=some b
theorem AO.cellsAt{aQ:Type}{h0 h:Y}{v:aZ}{t:bA}{n:Nat}{enc:aQ->Array aZ}{xs:List aQ}(x:AO h0 h v t n enc xs):∀b,CS v=some b->∃c,h b=some (true,.cells c t (0,0)):=by
 intro b a;rcases x with ⟨rfl,_⟩ | ⟨f,d,c,rfl,g,e,_⟩
 ·cases a
 ·simp [CS] at a;subst a;exact ⟨_,e⟩
theorem Ss{aQ:Type}(hB:Y)(r:Nat)(T t:bA)(n:Nat)(enc:aQ->Array aZ):Fh hB (JCol hB r T t n enc):=by
 refine ⟨?_,?_⟩
 ·rintro d k h b ⟨w,e,f,i,j,a⟩ g;rcases (a b).1 g with rfl | h5
  ·exact ⟨_,_,e,rfl⟩
  ·obtain ⟨c,l⟩:=f.cellsAt b h5;exact ⟨_,_,l,rfl⟩
 ·rintro d k h p ⟨w,e,f,i,j,a⟩ same q;refine ⟨w,by rw [same r ((a r).2 (.inl rfl))];exact e,f.keep λb o g m=>by rw [same b ((a b).2 (.inr g))];exact m,i,j,a⟩
theorem XN{aQ:Type}{hB h:Y}{r:Nat}{T t:bA}{n:Nat}{enc:aQ->Array aZ}(x:h r=some (true,.cells #[.slice none 0 0] T (0,0)))(h0:hB r=none):JCol hB r T t n enc [] (λb=>b=r) h:=
 ⟨_,x,AO.nil _ _ _ _ _,BD.nil,h0,λ_=>⟨.inl,λq=>q.elim id λe=>by cases e⟩⟩
theorem jcol_end{aQ:Type}{hB h h' ha hb:Y}{r:Nat}{T t:bA}{n:Nat}{enc:aQ->Array aZ}{pre:List aQ}{w w':aZ}{aO:Nat->Prop}(hY:∀b,aO b↔b=r\/CS w=some b)(g:Gc ha hb w w')(hn:∀q,ha q=none->h q=none)
  (x:h' r=some (true,.cells #[w'] T (0,0))) (o:AO hB h' w' t n enc pre) (f:BD w' r) (h0:hB r=none) :
  ∃Y',(∀b,Y' b->aO b\/h b=none)/\JCol hB r T t n enc pre Y' h':=by
 refine ⟨λb=>b=r\/CS w'=some b,?_,w',x,o,f,h0,λ_=>Iff.rfl⟩;rintro b (rfl | hb)
 ·exact .inl ((hY _).2 (.inl rfl))
 ·rcases g.2 with e | ⟨⟨q,a,c⟩,_⟩
  ·exact .inl ((hY _).2 (.inr (by rw [<-e];exact hb)))
  ·rw [a] at hb;cases hb;exact .inr (hn _ c)
theorem Kp{fn:Func}{O:Nat->aZ}{R:aZ->Y->Prop}{d:Nat}{ds:List Deferred}{h:Y}(hd:h d=some (true,.deferred (some [])))(x:∀h',(∀b,b≠d->h' b=h b)->Gf P fn O R ds h') :
  Gf P fn O R ({ target:=.collected d,args:=#[] } ::ds) h:=⟨d,rfl,_,hd,rfl,x _ λb a=>Y.set_ne _ _ _ a⟩
end
end Go.Ns
namespace Go.Ns
open Go.Conc
section
variable {P:Program} {E:Gb P}
abbrev Law2:=(Nat->aZ)->aZ->Y->Prop
def KeepD(aN:Nat->Prop)(h h':Y):Prop:=BO aN h h'/\∀b,(∃o,h b=some o)->∃o,h' b=some o
section
variable {Pre:Nat->Y->Prop} {Φ:List Law2} {aN:Nat->Prop} {k:Nat} {cl:List Nat} {h h':Y}
end
theorem AO.apartTy{aQ β:Type}{h0 h1 h:Y}{v w:aZ}{t t':bA}{n n':Nat}{enc:aQ->Array aZ}{enc':β->Array aZ}{xs:List aQ}{ys:List β}(x:AO h0 h v t n enc xs)(y:AO h1 h w t' n' enc' ys)(ne:t≠t'):Apart v w:=λb e a=>by
 rcases x with ⟨rfl,_⟩ | ⟨f,_,g,rfl,_,d,_⟩
 ·cases e
 ·rcases y with ⟨rfl,_⟩ | ⟨i,_,j,rfl,_,c,_⟩
  ·cases a
  ·simp only [CS,Option.some.injEq] at e a;subst e;subst a;rw [d] at c;simp only [Option.some.injEq,Prod.mk.injEq,Obj.cells.injEq] at c;exact ne c.2.2.1
end
end Go.Ns
namespace Go.Ns
open Go.Conc
section
variable {P:Program} {E:Gb P} {O:Nat->aZ} {ds:List Deferred} {h:Y} {T:(Nat->aZ)->List Deferred->Y->Prop}
variable {dst:Option Nat} {ty:bA} {pos:String} {af:Array Edge} {gd:Option (Nat×Bool)}
def XO:aZ->Bool
 | .slice none _ _=>true
 | _=>false
theorem ok_eqlNil{xt yt:bA}{x y:Operand}{a:Option Addr}{l c:Nat}(ht:Iw P xt=true)(hx:AN O x=.slice a l c)(hy:AN O y=.slice none 0 0)(k:T (putS O dst (.bool (XO (.slice a l c)))) ds h) :
  BR E ⟨dst,.binOp .eql xt x y yt,ty,pos,af,gd⟩ O ds h T:=by
 unfold BR execOp;simp only [hx,hy];refine Fg (AE _ _ ?_);show Sem.gh P (do pure (Value.bool (<-Op.equal xt (.slice a l c) (.slice none 0 0))):Sem aZ) h _;refine AE _ _ ?_;unfold Op.equal Op.maxDepth;show (Op.equalIn (9999+1) xt (.slice a l c) (.slice none 0 0)).gh P h _;unfold Op.equalIn;unfold Iw at ht;cases b:P.underlying xt with
 | none=>rw [b] at ht;cases ht
 | some d=>
  rw [b] at ht;refine AE _ _ (Ai b ?_);cases d <;> first | (cases ht;done) | skip
  cases a with
  | none=>exact k
  | some a=>exact k
theorem IB{aQ:Type}{xt yt:bA}{x y:Operand}{v:aZ}{n:Nat}{enc:aQ->Array aZ}{xs:List aQ}(ht:Iw P xt=true)(s:AG h v n enc xs)(hx:AN O x=v)(hy:AN O y=.slice none 0 0)(k:T (putS O dst (.bool (XO v))) ds h) :
  BR E ⟨dst,.binOp .eql xt x y yt,ty,pos,af,gd⟩ O ds h T:=by
 obtain ⟨a,b,rfl,_⟩:=s;exact ok_eqlNil ht hx hy k
theorem IC{aQ:Type}{v:aZ}{n:Nat}{enc:aQ->Array aZ}{xs:List aQ}(s:AG h v n enc xs)(e:XO v=true):xs=[]:=by
 obtain ⟨a,c,rfl,_,_,q⟩:=s;cases a with
 | some a=>cases e
 | none=>
  cases xs with
  | nil=>rfl
  | cons x xs=>obtain ⟨b,d,f,_⟩:=q 0 aD;cases f
theorem shr_eq{a:Int}{k:Nat}(h:k<=63):a.fdiv (2 ^ (min ((k:Int)).toNat IntKind.i64.bits))=a.fdiv (2 ^ k):=by
 have:min ((k:Int)).toNat IntKind.i64.bits=k:=by
  show min ((k:Int)).toNat 64=k;omega
 rw [this]
theorem shl_eq{k:Nat}(h:k<=60):IntKind.i64.wrap (1*2 ^ (min ((k:Int)).toNat IntKind.i64.bits))=2 ^ k:=by
 have:min ((k:Int)).toNat IntKind.i64.bits=k:=by
  show min ((k:Int)).toNat 64=k;omega
 rw [this,Int.one_mul];have a:(2:Int) ^ k<=2 ^ 60:=by
  have:=Nat.pow_le_pow_right (show 0<2 by decide) h
  exact_mod_cast this
 have b:(0:Int)<=2 ^ k:=by
  have:=Nat.zero_le (2 ^ k)
  exact_mod_cast this
 exact IntWalk.i64_in _ U
end
theorem Pw{a:Int}(h:0<=a/\a<=65535)(k:Nat):0<=a.fdiv (2 ^ k)/\a.fdiv (2 ^ k)<=65535:=by
 have b:(0:Int)<2 ^ k:=by
  have:=Nat.pow_pos (n:=k) (show 0<2 by decide)
  exact_mod_cast this
 rw [Int.fdiv_eq_ediv_of_nonneg _ (Int.le_of_lt b)];refine ⟨Int.ediv_nonneg h.1 (Int.le_of_lt b),Int.le_trans (Int.ediv_le_self _ h.1) h.2⟩
def OD(mask:Int)(k:Nat):Bool:=decide (mask.fdiv (2 ^ k)%2=1)
def D2(mask:Int)(k:Nat):List Int:=((List.range k).filter (OD mask)).map λ(i:Nat)=>(i:Int)
theorem J7{p:Nat->Bool}{k:Nat}(h:p k=true):(List.range (k+1)).filter p=(List.range k).filter p++[k]:=by
 rw [List.range_succ,List.filter_append];simp [h]
theorem J8{p:Nat->Bool}{k:Nat}(h:p k=false):(List.range (k+1)).filter p=(List.range k).filter p:=by
 rw [List.range_succ,List.filter_append];simp [h]
theorem pickI_t{mask:Int}{k:Nat}(h:mask.fdiv (2 ^ k)%2=1):D2 mask (k+1)=D2 mask k++[(k:Int)]:=by
 unfold D2;rw [J7 (by unfold OD;rw [decide_eq_true h]),List.map_append];rfl
theorem pickI_f{mask:Int}{k:Nat}(h:¬mask.fdiv (2 ^ k)%2=1):D2 mask (k+1)=D2 mask k:=by
 unfold D2;rw [J8 (by unfold OD;rw [decide_eq_false h])]
theorem St(mask:Int)(k:Nat):(D2 mask k).length<=k:=by
 unfold D2;rw [List.length_map]
 have:=List.length_filter_le (OD mask) (List.range k)
 rwa [List.length_range] at this
def IV(a b:Int):Int:=if a<b then-1 else if b<a then 1 else 0
def Ey(a b:List Int):Nat->Nat->Int
 | 0,_=>if (a.length:Int)<b.length then-1 else 0
 | f+1,k=>if (b.length:Int)<=k then 1 else if¬IV (a.getD k 0) (b.getD k 0)=0 then IV (a.getD k 0) (b.getD k 0) else Ey a b f (k+1)
def Hl(a b:List Int):Int:=Ey a b a.length 0
theorem OE{a b:List Int}{k:Nat}(hk:¬(k:Int)<a.length):Ey a b (a.length-k) k=if (a.length:Int)<b.length then-1 else 0:=by
 rw [show a.length-k=0 by omega];rfl
theorem Lg{a b:List Int}{k:Nat}(hk:k<a.length):Ey a b (a.length-k) k=if (b.length:Int)<=k then 1 else if¬IV (a.getD k 0) (b.getD k 0)=0 then IV (a.getD k 0) (b.getD k 0) else Ey a b (a.length-(k+1)) (k+1):=by
 rw [show a.length-k=(a.length-(k+1))+1 by omega];rfl
abbrev Sl:=aZ×List Int
def Sl.z:Sl:=(.slice none 0 0,[])
def Jx(x:Sl):Array aZ:=#[x.1]
def Hb(h:Y)(l:List Sl):Prop:=∀k,AG h (l.getD k Sl.z).1 1 eI (l.getD k Sl.z).2
theorem Hb.le{h h':Y}{l:List Sl}(x:Hb h l)(e:h.Le h'):Hb h' l:=λk=>(x k).le e
def A5(l:List Sl):List (List Int):=l.map (·.2)
theorem F1{l:List Sl}{k:Nat}(hk:k<l.length):(A5 l).getD k []=(l.getD k Sl.z).2:=by
 unfold A5;rw [Dy [] (by simpa using hk),Dy Sl.z hk];simp
end Go.Ns
namespace Go.Ns
open Go.Conc
def Dz(n:Int):aZ:=.int .i64 n
section
variable {hB h hc h':Y} {ms:List IU} {pasts:List UL} {r:Nat}
end
section
variable {P:Program} {E:Gb P} {O:Nat->aZ} {ds:List Deferred} {h:Y} {T:(Nat->aZ)->List Deferred->Y->Prop}
variable {dst:Option Nat} {ty:bA} {pos:String} {af:Array Edge} {gd:Option (Nat×Bool)}
end
section
variable {hB h hc h':Y} {ms:List IU} {pasts:List UL} {r:Nat}
theorem AO.keepX{aQ:Type}{X:Nat->Prop}{h0:Y}{v:aZ}{t:bA}{n:Nat}{enc:aQ->Array aZ}{xs:List aQ}(x:AO h0 h v t n enc xs)(k:BO X h h')(hS:∀b,CS v=some b->¬X b):AO h0 h' v t n enc xs:=by
 rcases x with x | ⟨b,a,c,rfl,d,e,f⟩
 ·exact .inl x
 ·exact .inr ⟨b,a,c,rfl,d,k.box e (hS b rfl) rfl,f⟩
theorem AG.slDel{aQ:Type}{v:aZ}{n:Nat}{enc:aQ->Array aZ}{xs:List aQ}(x:AG h v n enc xs){p:Bool}{es:Array MapEntry}{clk:Nat}(hr:h r=some (p,.map es clk)):AG (h.del r) v n enc xs:=by
 obtain ⟨a,d,l,hc,m,o⟩:=x;refine ⟨a,d,l,hc,m,λi q=>?_⟩;obtain ⟨b,g,s,j⟩:=o i q;refine ⟨b,g,s,j.del λe=>?_⟩;obtain ⟨u,c,t,f,k,_⟩:=j;rw [e,hr] at k;cases k
end
section
variable {P:Program} {E:Gb P} {O:Nat->aZ} {ds:List Deferred} {h:Y}
end
section
variable {d m:Int} {gs:List Good} {ms:List IU} {cs:List Jw} {o:List Int}
end
end Go.Ns
namespace Go.Ns
open Go.Conc Go.Sort
def Es(rest:List aZ)(d:Array Int):Array aZ:=(d.toList.map (λx=>Value.int .i64 x)++rest).toArray
theorem H0(rest:List aZ)(d:Array Int):(Es rest d).size=d.size+rest.length:=by simp [Es]
theorem ID{rest:List aZ}{d:Array Int}{i:Nat}(h:i<d.size):(Es rest d)[0+i*1]? =some (.int .i64 d[i]!):=by
 have a:i<(d.toList.map (λx=>Value.int .i64 x)).length:=by simpa using h
 rw [Nat.zero_add,Nat.mul_one];unfold Es;rw [List.getElem?_toArray,List.getElem?_append_left a,List.getElem?_map];simp [h,getElem!_pos]
theorem Px{rest:List aZ}{d:Array Int}{i:Nat}{v:Int}(h:i<d.size):BU (Es rest d) (0+i*1) [.int .i64 v]=Es rest (d.setIfInBounds i v):=by
 rw [Nat.zero_add,Nat.mul_one];show (Es rest d).setIfInBounds i (.int .i64 v)=_;unfold Es;apply Array.toList_inj.1;have a:i<(d.toList.map (λx=>Value.int .i64 x)).length:=by simpa using h
 rw [Array.toList_setIfInBounds];simp only [];rw [List.set_append_left _ _ a,Array.toList_setIfInBounds,List.map_set]
structure D3(b:Nat)(h hc:Y):Prop where
 keep:BO (λx=>x=b) h hc
 dom:∃o,hc b=some o
section
variable {b:Nat} {h hc h':Y}
theorem D3.start(x:∃o,h b=some o):D3 b h h:=⟨BO.refl _ _,x⟩
theorem D3.put(y:D3 b h hc)(ho:∀x,x≠b->h' x=hc x)(x:∃o,h' b=some o):D3 b h h':=⟨y.keep.store' (.inl rfl) ho,x⟩
theorem D3.call(y:D3 b h hc)(k:BO (λx=>x=b) hc h')(x:∃o,h' b=some o):D3 b h h':=⟨y.keep.trans (λ_ q=>.inl q) k,x⟩
end
def HF(d:Array Int)(off:Nat):Array Int:=(d.toList.take off++List.replicate (d.size-off) 0).toArray
theorem SB(d:Array Int)(off:Nat):(HF d off).size=d.size:=by simp [HF];omega
theorem ins_round{a j:Nat}{dd:Array Int}(h:(a:Int)<(j:Int)/\dd[j]! <dd[((j:Int)-1).toNat]!) :
  insInner ltInt a j dd=insInner ltInt a (j-1) ((dd.setIfInBounds j dd[((j:Int)-1).toNat]!).setIfInBounds ((j:Int)-1).toNat dd[j]!):=by
 obtain ⟨c,b⟩:=h;cases j with
 | zero=>omega
 | succ j=>
  have e:(((j+1:Nat):Int)-1).toNat=j:=U
  rw [e] at b ⊢
  conv=>lhs;unfold insInner
  rw [aY (by unfold ltInt;simp;exact ⟨U,b⟩)];rfl
theorem ins_stop{a j:Nat}{dd:Array Int}(h:¬((a:Int)<(j:Int)/\dd[j]! <dd[((j:Int)-1).toNat]!)):insInner ltInt a j dd=dd:=by
 cases j with
 | zero=>rfl
 | succ j=>
  have e:(((j+1:Nat):Int)-1).toNat=j:=U
  rw [e] at h;unfold insInner;rw [aX (by unfold ltInt;simp;intro q;exact Int.not_lt.1 λr=>h ⟨U,r⟩)]
theorem SC{a b i:Nat}{dd:Array Int}(h:i<b):insOuter ltInt a b i dd=insOuter ltInt a b (i+1) (insInner ltInt a i dd):=by
 conv=>lhs;unfold insOuter
 rw [aY h]
theorem UN{a b i:Nat}{dd:Array Int}(h:¬(i:Int)<b):insOuter ltInt a b i dd=dd:=by
 unfold insOuter;rw [aX U]
def Du(l:List Int):List Int:=(Go.Sort.sort ltInt l.toArray).toList
theorem pdq_small{d:Array Int}{a b limit:Nat}{x y:Bool}(h:b-a<=12):pdq ltInt d a b limit x y=insertionSort ltInt d a b:=by
 unfold pdq;rw [aY h]
theorem JP{a r:Int}{k:Nat}(h:k<=63)(e:a / 2 ^ k=r):a.fdiv (2 ^ (min ((k:Int)).toNat IntKind.u64.bits))=r:=by
 have:min ((k:Int)).toNat IntKind.u64.bits=k:=by
  show min ((k:Int)).toNat 64=k;omega
 have b:(0:Int)<=2 ^ k:=by
  have:=Nat.zero_le (2 ^ k)
  exact_mod_cast this
 rw [this,Int.fdiv_eq_ediv_of_nonneg _ b,e]
section
variable {P:Program} {E:Gb P} {O:Nat->aZ} {ds:List Deferred} {h:Y} {T:(Nat->aZ)->List Deferred->Y->Prop}
variable {dst:Option Nat} {ty:bA} {pos:String} {af:Array Edge} {gd:Option (Nat×Bool)}
theorem F6{t:bA}{x ix:Operand}{s:bB}{kd:IntKind}{i:Int}(ht:PW P t=true)(hx:AN O x=.string s)(hi:AN O ix=.int kd i)(h0:0<=i)(h1:i<((256:Nat):Int))(hs:s.size=256)
  (k:∀n:Int,0<=n->n<=255->T (putS O dst (.int .u8 n)) ds h):BR E ⟨dst,.index t x ix,ty,pos,af,gd⟩ O ds h T:=
 Sf ht hx hi h0 U (k _ U (by have:=(s[i.toNat]' U).toNat_lt;omega))
end
theorem LK(lt:Int->Int->Bool)(a:Nat):∀(j:Nat)(d:Array Int),(insInner lt a j d).size=d.size
 | 0,d=>rfl
 | j+1,d=>by
  unfold insInner;split
  ·rw [LK lt a j];simp [swp]
  ·rfl
theorem LL(lt:Int->Int->Bool)(a b:Nat):∀(n i:Nat)(d:Array Int),b-i<=n->(insOuter lt a b i d).size=d.size
 | 0,i,d,h=>by unfold insOuter;rw [aX U]
 | n+1,i,d,h=>by
  unfold insOuter;split
  ·rw [LL lt a b n (i+1) _ U,LK]
  ·rfl
theorem Lh(d:Array Int)(a b:Nat):(insertionSort ltInt d a b).size=d.size:=LL _ _ _ _ _ _ (Nat.le_refl _)
theorem VV{l:List Int}(h:l.length<=12):Du l=(insertionSort ltInt l.toArray 0 l.toArray.size).toList:=by
 unfold Du Go.Sort.sort;rw [pdq_small (by simpa using h)]
theorem Z2(l:List Int):DR eI l=l.map (λx=>Value.int .i64 x):=by
 induction l with
 | nil=>rfl
 | cons x l a=>show (eI x).toList++DR eI l=_;rw [a];rfl
theorem AO.row{h0 h:Y}{v:aZ}{xs:List Int}(x:AO h0 h v 3 1 eI xs)(hne:xs≠[]) :
  ∃b cap rest,v=.slice (some ⟨b,0,none⟩) xs.toArray.size cap/\h b=some (true,.cells (Es rest xs.toArray) 3 (0,0)):=by
 rcases x with ⟨_,e⟩ | ⟨b,cap,c,rfl,f,a,g,i,j,d,k⟩
 ·exact absurd e hne
 ·refine ⟨b,cap,c.toList.drop xs.length,aD,?_⟩;have e:c=Es (c.toList.drop xs.length) xs.toArray:=by
   apply Array.toList_inj.1;unfold Es;simp only [];rw [<-Z2,<-d,Nat.mul_one,List.take_append_drop]
  rw [<-e];exact a
theorem AO.ofRow{h0 h h':Y}{b cap:Nat}{rest:List aZ}{xs:List Int}{D:Array Int}(x:AO h0 h (.slice (some ⟨b,0,none⟩) xs.toArray.size cap) 3 1 eI xs)(hne:xs≠[])(hD:D.size=xs.length)(hb:h b=some (true,.cells (Es rest xs.toArray) 3 (0,0)))(hb':h' b=some (true,.cells (Es rest D) 3 (0,0))) :
  AO h0 h' (.slice (some ⟨b,0,none⟩) xs.toArray.size cap) 3 1 eI D.toList:=by
 rcases x with ⟨e,_⟩ | ⟨k,g,c,e,j,a,i,l,m,n,o⟩
 ·cases e
 ·simp only [Value.slice.injEq,Option.some.injEq,Addr.mk.injEq] at e;obtain ⟨⟨rfl,_⟩,_,rfl⟩:=e;rw [hb] at a;simp only [Option.some.injEq,Prod.mk.injEq,Obj.cells.injEq,true_and,and_true] at a;subst a;have d:D.toList.length=xs.length:=by rw [Array.length_toList];exact hD
  refine .inr ⟨b,cap,_,by rw [d];simp,j,hb',?_,U,U,?_,λy _=>rfl⟩
  ·rw [H0] at i ⊢;rw [hD];simpa using i
  ·unfold Es;simp only [Nat.mul_one];rw [Z2,<-List.length_map (f:=λx=>Value.int .i64 x),List.take_append_of_le_length (Nat.le_refl _),List.take_length]
theorem BO.grownSame{h h':Y}{b cap n:Nat}(k:BO (λx=>x=b) h h'):Gc h h' (.slice (some ⟨b,0,none⟩) n cap) (.slice (some ⟨b,0,none⟩) n cap):=
 ⟨λr o a c=>(by
  obtain ⟨g,d,rfl | ⟨f,_⟩⟩:=k r o.1 o.2 a (λe=>c (by rw [e];rfl))
  ·exact d
  ·cases f),.inl rfl⟩
section
variable {P:Program} {E:Gb P} {O:Nat->aZ} {ds:List Deferred} {h:Y} {T:(Nat->aZ)->List Deferred->Y->Prop}
variable {dst:Option Nat} {ty:bA} {pos:String} {af:Array Edge} {gd:Option (Nat×Bool)}
theorem XP{t:bA}{x o:Operand}{b len cap hi:Nat}(ht:D0 P t=some 1)(hc:len<=cap)(hx:AN O x=.slice (some ⟨b,0,none⟩) len cap)(ho:∃kd,AN O o=.int kd hi)(h2:hi<=len)(k:T (putS O dst (.slice (some ⟨b,0,none⟩) hi cap)) ds h) :
  BR E ⟨dst,.slice t x none (some o) none,ty,pos,af,gd⟩ O ds h T:=by
 refine Kk (olo:=none) (ohi:=some o) 0 hi ht hc hx rfl ho (Nat.zero_le _) h2 ?_;have e:(if cap=0 then (some ⟨b,0,none⟩:Option Addr) else (some ⟨b,0,none⟩:Option Addr).map (·.add (0*1)))=some ⟨b,0,none⟩:=by
  split
  ·rfl
  ·simp [Il]
 rw [e];exact k
theorem MP{t:bA}{x o:Operand}{b len cap lo:Nat}(ht:D0 P t=some 1)(hc:len<=cap)(hx:AN O x=.slice (some ⟨b,0,none⟩) len cap)(ho:∃kd,AN O o=.int kd lo)(h2:lo<len)(k:T (putS O dst (.slice (some ⟨b,lo,none⟩) (len-lo) (cap-lo))) ds h) :
  BR E ⟨dst,.slice t x (some o) none none,ty,pos,af,gd⟩ O ds h T:=by
 refine Kk (olo:=some o) (ohi:=none) lo len ht hc hx ho rfl (Nat.le_of_lt h2) (Nat.le_refl _) ?_;have e:(if cap=lo then (some ⟨b,0,none⟩:Option Addr) else (some ⟨b,0,none⟩:Option Addr).map (·.add (lo*1)))=some ⟨b,lo,none⟩:=by
  rw [aX U];simp [Il]
 rw [e];exact k
theorem VW{t e:bA}{x:Operand}{b off len cap:Nat}{rest:List aZ}{d:Array Int}{z:Nat}(ht:DZ P t=some (1,#[.int .i64 0],e))(hx:AN O x=.slice (some ⟨b,off,none⟩) len cap)(hb:h b=some (true,.cells (Es rest d) z (0,0)))(hn:off+len=d.size)(hl:0<len)
  (k:∀h',h' b=some (true,.cells (Es rest (HF d off)) z (0,0))->(∀x,x≠b->h' x=h x)->T (putS O dst (.tuple #[])) ds h') :
  BR E ⟨dst,.call ⟨.builtin .clear,#[x],#[t]⟩,ty,pos,af,gd⟩ O ds h T:=by
 refine F0 (vs:=#[.slice (some ⟨b,off,none⟩) len cap]) (s:=Builtin.clear_ #[t] ty #[.slice (some ⟨b,off,none⟩) len cap]) (by simp [hx]) (λ_=>rfl) ?_;unfold DZ at ht;cases l:P.underlying t with
 | none=>rw [l] at ht;cases ht
 | some r=>
 rw [l] at ht;cases r <;> first | (cases ht;done) | skip
 rename_i j
 simp only at ht;cases f:B0 P j with
 | none=>rw [f] at ht;cases ht
 | some g=>
 cases c:BZ P j with
 | none=>rw [f,c] at ht;cases ht
 | some B=>
 rw [f,c] at ht;simp only [Option.some.injEq,Prod.mk.injEq] at ht;obtain ⟨_,rfl,rfl⟩:=ht;unfold Builtin.clear_;simp only [List.getElem?_toArray,List.getElem?_cons_zero];refine AE _ _ (Ai l ?_);obtain ⟨len,rfl⟩:∃m,len=m+1:=⟨len-1,U⟩;have hzero:∀{Q:aZ->Y->Prop}{h:Y},(∀v,v.cells=#[.int .i64 0]->Q v h)->(zeroValue j).gh P h Q:=λ{Q h} q=>by
  unfold BZ at c;unfold zeroValue;cases n:P.info? j with
  | none=>rw [n] at c;cases c
  | some i=>
   rw [n] at c;simp only [Option.map_eq_some_iff] at c;obtain ⟨v,u,e⟩:=c;refine AE _ _ (CU n ?_);rw [u];exact q v e
 refine AE _ _ (hzero λvz o=>?_);rw [o];have hcells:(Builtin.zeroCells #[.int .i64 0] (len+1)).toList=List.replicate (len+1) (.int .i64 0):=by
  unfold Builtin.zeroCells;apply List.ext_getElem
  ·simp
  ·intro i p C;simp [Nat.mod_one]
 rw [hcells];have w:d.size=d.toList.length:=aD
 refine AE _ _ (G1 (a:=⟨b,off,none⟩) rfl _ 0 (Es rest d) h ?_ hb ?_ ?_)
 ·intro y A;rw [List.eq_of_mem_replicate A];rfl
 ·rw [H0,List.length_replicate];show off+0+(len+1)<=_;omega
 ·refine Ak (k _ ?_ λx hx=>Y.set_ne _ _ _ hx);have e:BU (Es rest d) (off+0) (List.replicate (len+1) (.int .i64 0))=Es rest (HF d off):=by
   apply Array.toList_inj.1;rw [Eg _ _ _ (by rw [H0,List.length_replicate];omega)];unfold Es HF;simp only [List.length_replicate,Nat.add_zero,List.map_append,List.map_take,List.map_replicate];have p:off<=(d.toList.map (λx=>Value.int .i64 x)).length:=by simp;omega
   rw [List.take_append_of_le_length p,show d.size-off=len+1 by omega];congr 1;rw [show off+(len+1)=(d.toList.map (λx=>Value.int .i64 x)).length by simp;omega,List.drop_left]
  rw [<-e];exact Y.set_same _ _ _ _
end
def OF(acc:List Int)(x:Int):List Int:=if acc.getLast? =some x then acc else acc++[x]
def Dv(l:List Int):List Int:=l.foldl OF []
theorem XQ(acc:List Int)(x:Int):(OF acc x).getLast? =some x:=by
 unfold OF;split
 ·assumption
 ·simp
theorem IE{d:Array Int}{j:Nat}(hj:j<d.size):Dv (d.toList.take (j+1))=OF (Dv (d.toList.take j)) d[j]! :=by
 have e:d.toList.take (j+1)=d.toList.take j++[d[j]!]:=by
  rw [List.take_succ_eq_append_getElem (by simpa using hj)];simp [getElem!_pos,hj]
 rw [e];unfold Dv;rw [List.foldl_append];rfl
theorem XR{d:Array Int}{j:Nat}(hj:j<d.size):(Dv (d.toList.take (j+1))).getLast? =some d[j]! :=by
 rw [IE hj];exact XQ _ _
theorem NK{rest:List aZ}{d:Array Int}{o i:Nat}(h:o+i<d.size):(Es rest d)[o+i*1]? =some (.int .i64 d[o+i]!):=by
 have:=ID (rest:=rest) h
 rw [Nat.zero_add,Nat.mul_one] at this;rw [Nat.mul_one];exact this
theorem LM{d:Array Int}{j:Nat}(hj:j<d.size):d.toList.take (j+1)=d.toList.take j++[d[j]!]:=by
 rw [List.take_succ_eq_append_getElem (by simpa using hj)];simp [getElem!_pos,hj]
theorem JQ{d:Array Int}{j:Nat}(h1:1<=j)(hj:j<=d.size):(Dv (d.toList.take j)).getLast? =some d[j-1]! :=by
 obtain ⟨i,rfl⟩:∃i,j=i+1:=⟨j-1,U⟩;exact XR U
theorem UO{d:Array Int}{k:Nat}(h1:1<=k)(hk:k<d.size)(h:¬d[k]! =d[((k:Int)-1).toNat]!)(hs:Dv (d.toList.take k)=d.toList.take k):Dv (d.toList.take (k+1))=d.toList.take (k+1):=by
 rw [IE hk,LM hk];unfold OF;rw [JQ h1 U,aX (by rw [show ((k:Int)-1).toNat=k-1 by omega] at h;simpa using λe=>h e.symm),hs]
theorem UP{d:Array Int}{k:Nat}(h1:1<=k)(hk:k<d.size)(h:d[k]! =d[((k:Int)-1).toNat]!)(hs:Dv (d.toList.take k)=d.toList.take k):d.toList.take k=Dv (d.toList.take (k+1)):=by
 rw [IE hk];unfold OF;rw [JQ h1 U,aY (by rw [show ((k:Int)-1).toNat=k-1 by omega] at h;rw [h]),hs]
theorem XS{d dd:Array Int}{k q kk:Nat}(hq:1<=q/\k+q<d.size)(hkk:k<=kk/\kk+1<=k+q)(hsz:dd.size=d.size)(hd:∀j,kk<=j->dd[j]! =d[j]!)(hdd:dd.toList.take kk=Dv (d.toList.take (k+q)))(h:¬dd[k+q]! =dd[k+((q:Int)-1).toNat]!) :
  (dd.setIfInBounds kk dd[k+q]!).toList.take (kk+1)=Dv (d.toList.take (k+(q+1))):=by
 have a:((q:Int)-1).toNat=q-1:=U
 rw [a,hd _ U,hd _ U] at h;rw [show k+(q+1)=(k+q)+1 by omega,IE hq.2];unfold OF;rw [JQ U U,aX (by rw [show k+q-1=k+(q-1) by omega];simpa using λe=>h e.symm),<-hdd,hd _ U,Array.toList_setIfInBounds];rw [List.take_succ_eq_append_getElem (by simp;omega),List.take_set_of_le U];simp
theorem XT{d dd:Array Int}{k q kk:Nat}(hq:1<=q/\k+q<d.size)(hkk:k<=kk/\kk+1<=k+q)(hd:∀j,kk<=j->dd[j]! =d[j]!)(hdd:dd.toList.take kk=Dv (d.toList.take (k+q)))(h:dd[k+q]! =dd[k+((q:Int)-1).toNat]!) :
  dd.toList.take kk=Dv (d.toList.take (k+(q+1))):=by
 have a:((q:Int)-1).toNat=q-1:=U
 rw [a,hd _ U,hd _ U] at h;rw [show k+(q+1)=(k+q)+1 by omega,IE hq.2];unfold OF;rw [JQ U U,aY (by rw [show k+q-1=k+(q-1) by omega,h]),hdd]
theorem set_other{d dd:Array Int}{kk:Nat}{x:Int}(hd:∀j,kk<=j->dd[j]! =d[j]!):∀j,kk+1<=j->(dd.setIfInBounds kk x)[j]! =d[j]! :=λj a=>by
 rw [<-hd j U];simp only [getElem!_def,Array.getElem?_setIfInBounds_ne (show kk≠j by omega)]
theorem SD{d:Array Int}{k:Nat}(h:k<=d.size):(HF d k).toList.take k=d.toList.take k:=by
 unfold HF;simp only [];rw [List.take_append_of_le_length (by simp;omega),List.take_take];simp
theorem VX{d:Array Int}(h:2<=d.size):Dv (d.toList.take 1)=d.toList.take 1:=by
 have e:=LM (d:=d) (j:=0) U;rw [Nat.zero_add] at e;rw [e];rfl
theorem VY{d:Array Int}{k:Nat}(hs:Dv (d.toList.take k)=d.toList.take k)(h1:k<=d.size)(h2:d.size<=k):d.toList.take d.size=Dv d.toList:=by
 rw [show k=d.toList.length by simp;omega,List.take_length] at hs;rw [hs,<-Array.length_toList,List.take_length]
theorem VZ{d:Array Int}(h:d.size<2):d.toList.take d.size=Dv d.toList:=by
 rw [<-Array.length_toList,List.take_length]
 have:d.toList.length<2:=by simpa using h
 match hd:d.toList,this with
 | [],_=>rfl
 | [x],_=>rfl
 | _ ::_ ::_,h=>simp at h;omega
theorem I3(l:List Int):Du l=l.mergeSort (λx y=>decide (x<=y)):=sortInt l
theorem D9(l:List Int):(Du l).length=l.length:=by rw [I3,List.length_mergeSort]
theorem sortI_ne{l:List Int}(h:l≠[]):Du l≠[]:=λe=>by
 have:=congrArg List.length e
 rw [D9] at this;exact h (List.length_eq_zero_iff.1 this)
end Go.Ns
namespace Go.Ns
open Go.Conc Go.Sort
section
variable {d dd:Array Int} {a z p i j i0 j0:Nat}
variable {de df:Array Int} {s i2:Nat} {J:Int}
end
section
variable {P:Program} {E:Gb P} {O:Nat->aZ} {ds:List Deferred} {h:Y} {T:(Nat->aZ)->List Deferred->Y->Prop} {dst:Option Nat} {ty:bA} {pos:String} {af:Array Edge} {gd:Option (Nat×Bool)} {xt yt:bA} {x y:Operand} {a b:Int}
end
section
variable {d dd D D' R:Array Int} {a z a0 z0 p mid:Nat} {ap:Bool}
end
end Go.Ns
namespace Go.Ns
open Go.Conc
section
variable (d m:Int) (gs:List Good) (ms:List IU) (cs:List Jw)
end
def lostTo(ms:List IU)(p:UL)(g a b:Int):Nat->Int
 | 0=>0
 | k+1=>lostTo ms p g a b k+(if ((ms.getD k IU.z).kind=2/\(ms.getD k IU.z).good=g)/\a<=(ms.getD k IU.z).day/\(ms.getD k IU.z).day<=b then realOf p k else 0)
section
variable (d m:Int) (gs:List Good) (ms:List IU) (cs:List Jw)
end
section
variable (d m:Int) (gs:List Good) (ms:List IU) (cs:List Jw)
end
section
variable (d m:Int) (gs:List Good) (ms:List IU) (cs:List Jw)
end
section
variable {P:Program} {E:Gb P} {O:Nat->aZ} {ds:List Deferred} {h:Y} {T:(Nat->aZ)->List Deferred->Y->Prop}
variable {dst:Option Nat} {ty:bA} {pos:String} {af:Array Edge} {gd:Option (Nat×Bool)}
def fieldP(P:Program)(s:bA)(f:Nat)(cs:Array aZ):Option aZ:=match P.underlying s with
 | some (.struct fields)=>match fields[f]? with
  | some fl=>H6 P fl.type cs fl.offset
  | none=>none
 | _=>none
theorem Su{t:bA}{x:Operand}{f:Nat}{cs:Array aZ}{v:aZ}(hx:AN O x=.agg cs)(hp:fieldP P t f cs=some v)(k:T (putS O dst v) ds h):BR E ⟨dst,.field t x f,ty,pos,af,gd⟩ O ds h T:=by
 refine ok_field (v:=v) ?_ k;rw [hx];unfold fieldP at hp;unfold Instr.field;cases a:P.underlying t with
 | none=>rw [a] at hp;cases hp
 | some d=>
  rw [a] at hp;cases d <;> first | (cases hp;done) | skip
  rename_i fields
  refine AE _ _ (Ai a ?_);simp only at hp ⊢;cases b:fields[f]? with
  | none=>rw [b] at hp;cases hp
  | some c=>
   rw [b] at hp;simp only at hp ⊢;exact H7 hp ⟨rfl,rfl⟩
end
section
variable {hB h hc h':Y} {ms:List IU} {pasts:List UL} {r:Nat}
end
section
variable {P:Program} {E:Gb P} {O:Nat->aZ} {ds:List Deferred} {h hB:Y} {ms:List IU} {pasts:List UL} {r:Nat}
end
theorem KeepD.leOf{h0 h:Y}(k:KeepD (λb=>h0 b=none) h0 h):h0.Le h:=λb p o a=>k.1 b p o a λ(e:h0 b=none)=>by rw [a] at e;cases e
theorem AO.offTy{aQ:Type}{h0 h:Y}{v:aZ}{t T:bA}{n:Nat}{enc:aQ->Array aZ}{xs:List aQ}(x:AO h0 h v t n enc xs){r:Nat}{p:Bool}{c:Array aZ}{f:Nat×Nat}(hr:h r=some (p,.cells c T f))(ne:t≠T):BD v r:=λe=>by
 obtain ⟨b,a⟩:=x.cellsAt r e;rw [a] at hr;simp only [Option.some.injEq,Prod.mk.injEq,Obj.cells.injEq] at hr;exact ne hr.2.2.1
section
variable {P:Program} {E:Gb P} {O:Nat->aZ} {ds:List Deferred} {h:Y} {T:(Nat->aZ)->List Deferred->Y->Prop}
variable {dst:Option Nat} {ty:bA} {pos:String} {af:Array Edge} {gd:Option (Nat×Bool)}
end
section
variable {h h':Y} {q r:Nat} {M:Int->Option Int}
theorem Cl.leNum(x:Cl h q Dz Dz M)(l:h.Le h'):Cl h' q Dz Dz M:=by
 obtain ⟨b,a,c,y⟩:=x;exact ⟨b,a,l.keep c rfl,y⟩
end
section
variable {P:Program} {E:Gb P} {O:Nat->aZ} {ds:List Deferred} {h:Y} {T:(Nat->aZ)->List Deferred->Y->Prop}
variable {dst:Option Nat} {ty:bA} {pos:String} {af:Array Edge} {gd:Option (Nat×Bool)}
theorem P0{t kt vt:bA}{x ix:Operand}{r d:Nat}{M:Int->Option Int}{a:Int}(ht:MI P t=some (kt,vt))(hx:AN O x=.map (some r))(hk:AN O ix=.int .i64 a)(hm:Cl h r Dz Dz M)(hd:Nat.ble (d+1) 10000=true)
  (hc:∀a,ckP P (d+1) kt (Dz a)=true) (he:∀a b,Pd P (d+1) kt (Dz a) (Dz b)=some (a==b)) (hz:(P.info? vt).bind (·.zero)=some (.int .i64 0))
  (k:T (putS O dst (.int .i64 ((M a).getD 0))) ds h):BR E ⟨dst,.lookup t x ix false,ty,pos,af,gd⟩ O ds h T:=by
 refine Sg (ek:=Dz) (ev:=Dz) (a:=a) (z:=.int .i64 0) ht hx hk hm hd (hc _) (λb=>he a b) hz ?_;cases c:M a <;> (rw [c] at k;exact k)
theorem ok_putNum{t kt vt:bA}{om ok ox:Operand}{r d:Nat}{M:Int->Option Int}{a n:Int}(ht:MI P t=some (kt,vt))(hm':AN O om=.map (some r))(hk:AN O ok=.int .i64 a)(hv:AN O ox=.int .i64 n)(hm:Cl h r Dz Dz M)(hd:Nat.ble (d+1) 10000=true)
  (hc:∀a,ckP P (d+1) kt (Dz a)=true) (he:∀a b,Pd P (d+1) kt (Dz a) (Dz b)=some (a==b)) (hs:∀a,Instr.sameBits 10000 (Dz a) (Dz a)=true)
  (k:∀h',Cl h' r Dz Dz (λb=>if b=a then some n else M b)->(∀b,b≠r->h' b=h b)->T (putS O dst undef) ds h'):BR E ⟨dst,.mapUpdate t om ok ox,ty,pos,af,gd⟩ O ds h T:=
 MJ (a:=a) (v:=n) (ek:=Dz) (ev:=Dz) ht hm' hk hv hm hd (hc _) (λb=>he a b) (hs _) k
end
theorem UQ(a:Int):Instr.sameBits 10000 (Dz a) (Dz a)=true:=by
 show Instr.sameBits (9999+1) (Value.int .i64 a) (Value.int .i64 a)=true;unfold Instr.sameBits;simp
def IF(f:Nat->Int):Nat->Int->Option Int
 | 0=>λ_=>none
 | k+1=>λb=>if b=f k then some ((IF f k (f k)).getD 0+1) else IF f k b
theorem J9(f:Nat->Int):∀(k:Nat)(b:Int),0<=(IF f k b).getD 0/\(IF f k b).getD 0<=(k:Int)
 | 0,b=>by simp [IF]
 | k+1,b=>by
  have a:=J9 f k b;have c:=J9 f k (f k);unfold IF;split
  ·show 0<=(IF f k (f k)).getD 0+1/\(IF f k (f k)).getD 0+1<=((k+1:Nat):Int);omega
  ·omega
def LN(f:Nat->Int):Nat->Int
 | 0=>0
 | k+1=>max (LN f k) ((IF f (k+1) (f k)).getD 0)
def askTo(w:Nat->Int)(n:Int):Nat->Int×Int
 | 0=>(-1,n)
 | k+1=>if w k<(askTo w n k).2 then ((k:Int),w k) else askTo w n k
section
variable (d m:Int) (gs:List Good) (ms:List IU) (cs:List Jw)
end
end Go.Ns
namespace Go.Ns
open Go.Conc
section
variable {h h0 h':Y} {X:Nat->Prop}
end
theorem P1{aQ:Type}{enc:aQ->Array aZ}{n:Nat}:∀{xs:List aQ},(∀x ∈ xs,(enc x).size=n)->∀(i:Nat)(z:aQ),i<xs.length->DR enc xs=DR enc (xs.take i)++(enc (xs.getD i z)).toList++DR enc (xs.drop (i+1))
 | [],_,i,z,h=>by simp at h
 | y ::xs,a,0,z,h=>by simp [DR]
 | y ::xs,a,i+1,z,h=>by
  have:=P1 (λx b=>a x (List.mem_cons_of_mem _ b)) i z (by simpa using h)
  show (enc y).toList++DR enc xs=((enc y).toList++DR enc (xs.take i))++(enc (xs.getD i z)).toList++DR enc (xs.drop (i+1));rw [this];simp only [List.append_assoc]
theorem Va{aQ:Type}{enc:aQ->Array aZ}:∀{xs:List aQ}(i:Nat)(x:aQ),i<xs.length->DR enc (xs.set i x)=DR enc (xs.take i)++(enc x).toList++DR enc (xs.drop (i+1))
 | [],i,x,h=>by simp at h
 | y ::xs,0,x,h=>by simp [DR]
 | y ::xs,i+1,x,h=>by
  have:=Va (enc:=enc) (xs:=xs) i x (by simpa using h)
  show (enc y).toList++DR enc (xs.set i x)=((enc y).toList++DR enc (xs.take i))++(enc x).toList++DR enc (xs.drop (i+1));rw [this];simp only [List.append_assoc]
theorem AO.put{aQ:Type}{h0 h h':Y}{t:bA}{n cap b i dl:Nat}{enc:aQ->Array aZ}{xs:List aQ}{c:Array aZ}{vs:List aZ}{x':aQ}(z:aQ)(x:AO h0 h (.slice (some ⟨b,0,none⟩) xs.length cap) t n enc xs)(hb:h b=some (true,.cells c t (0,0)))
  (hi:i<xs.length) (hz:dl+vs.length<=n) (heq:BU (enc (xs.getD i z)) dl vs=enc x') (hb':h' b=some (true,.cells (BU c (i*n+dl) vs) t (0,0))):AO h0 h' (.slice (some ⟨b,0,none⟩) xs.length cap) t n enc (xs.set i x'):=by
 rcases x with ⟨e,_⟩ | ⟨v,j,w,e,f0,f1,f2,f3,f4,f5,f6⟩
 ·cases e
 simp only [Value.slice.injEq,Option.some.injEq,Addr.mk.injEq] at e;obtain ⟨⟨rfl,_⟩,_,rfl⟩:=e;rw [hb] at f1;simp only [Option.some.injEq,Prod.mk.injEq,Obj.cells.injEq,true_and] at f1;obtain ⟨rfl,_⟩:=f1;have k:(enc (xs.getD i z)).size=n:=f6 _ (BV hi);have f:(enc x').size=n:=by rw [<-heq,G0];exact k
 refine .inr ⟨_,_,_,by rw [List.length_set],f0,hb',by rw [G0];exact f2,by rw [List.length_set];exact f3,by rw [List.length_set];exact f4,?_,λy g=>?_⟩
 ·rw [List.length_set];have o:(DR enc (xs.take i)).length=i*n:=by
   rw [EV (n:=n) (λy g=>f6 y (List.mem_of_mem_take g)),List.length_take];congr 1;omega
  have a:(DR enc xs).length=xs.length*n:=EV f6;have l:i*n+n<=xs.length*n:=by rw [<-Nat.succ_mul];exact Nat.mul_le_mul_right n hi
  have m:xs.length*n<=c.size:=by rw [f2];exact Nat.mul_le_mul_right n f3
  have p:c.toList=DR enc xs++c.toList.drop (xs.length*n):=by rw [<-f5,List.take_append_drop]
  have q:(enc x').toList=(enc (xs.getD i z)).toList.take dl++vs++(enc (xs.getD i z)).toList.drop (dl+vs.length):=by rw [<-heq,Eg _ _ _ U]
  have d:(enc (xs.getD i z)).toList.length=n:=by rw [Array.length_toList];exact k
  have D:(DR enc (xs.take i)).length+n+(DR enc (xs.drop (i+1))).length=xs.length*n:=by
   rw [<-a];conv=>rhs;rw [P1 f6 i z hi]
   rw [List.length_append,List.length_append,d]
  rw [Eg _ _ _ U,Va i x' hi,q,p,P1 f6 i z hi];generalize enc (xs.getD i z)=B at *;generalize DR enc (xs.take i)=A at *;generalize DR enc (xs.drop (i+1))=C at *;generalize c.toList.drop (xs.length*n)=R at *;have r:(A++B.toList++C++R).take (i*n+dl)=A++B.toList.take dl:=by
   rw [List.append_assoc,List.append_assoc,<-o,List.take_length_add_append,List.take_append_of_le_length U]
  have s:(A++B.toList++C++R).drop (i*n+dl+vs.length)=B.toList.drop (dl+vs.length)++C++R:=by
   rw [List.append_assoc,List.append_assoc,show i*n+dl+vs.length=A.length+(dl+vs.length) by omega,List.drop_length_add_append,List.drop_append_of_le_length U,List.append_assoc]
  rw [r,s];have u:A++B.toList.take dl++vs++(B.toList.drop (dl+vs.length)++C++R)=(A++(B.toList.take dl++vs++B.toList.drop (dl+vs.length))++C)++R:=by simp only [List.append_assoc]
  rw [u,List.take_left' ?_];simp only [List.length_append,List.length_take,List.length_drop,d];omega
 ·rcases List.mem_or_eq_of_mem_set g with h | rfl
  ·exact f6 y h
  ·exact f
theorem AO.opened{aQ:Type}{h0 h:Y}{v:aZ}{t:bA}{n k:Nat}{enc:aQ->Array aZ}{xs:List aQ}(x:AO h0 h v t n enc xs)(hk:k<xs.length):∃b cap c,v=.slice (some ⟨b,0,none⟩) xs.length cap/\h b=some (true,.cells c t (0,0)):=by
 rcases x with ⟨_,rfl⟩ | ⟨b,cap,c,a,_,d,_⟩
 ·simp at hk
 ·exact ⟨b,cap,c,a,d⟩
theorem AO.room{aQ:Type}{h0 h:Y}{t:bA}{n cap b k:Nat}{enc:aQ->Array aZ}{xs:List aQ}{c:Array aZ}(x:AO h0 h (.slice (some ⟨b,0,none⟩) xs.length cap) t n enc xs)(hb:h b=some (true,.cells c t (0,0)))(hk:k<xs.length):k*n+n<=c.size:=by
 rcases x with ⟨e,_⟩ | ⟨d,a,f,e,f0,f1,f2,f3,_⟩
 ·cases e
 simp only [Value.slice.injEq,Option.some.injEq,Addr.mk.injEq] at e;obtain ⟨⟨rfl,_⟩,_,rfl⟩:=e;rw [hb] at f1;simp only [Option.some.injEq,Prod.mk.injEq,Obj.cells.injEq,true_and] at f1;obtain ⟨rfl,_⟩:=f1;rw [f2,<-Nat.succ_mul];exact Nat.mul_le_mul_right n U
section
variable (d m:Int) (gs:List Good) (ms:List IU) (cs:List Jw)
end
section
variable {d m:Int} {gs:List Good} {ms:List IU} {cs:List Jw} {fl:List Sl} {k:Nat}
theorem B5(l:List Sl):(A5 l).length=l.length:=by unfold A5;simp
end
theorem I4{v:aZ}(h:v.cells=#[v]):Instr.fill (λi=>some (i*1,1)) ((Array.range (1*1)).map (#[Value.slice none 0 0][·% #[Value.slice none 0 0].size]!)) [(0,v)]=some #[v]:=by
 have e:((Array.range (1*1)).map (#[Value.slice none 0 0][·% #[Value.slice none 0 0].size]!))=#[Value.slice none 0 0]:=aB
 rw [e];simp [Instr.fill,h]
end Go.Ns
namespace Go.Ns
open Go.Conc
section
variable {P:Program} {M:Type}
structure NL(P:Program)(M:Type) where
 W:Wk P
 Rep:Nat->M->aZ->Y->Prop
 main:Bool
 fn:FuncId
 rd:Option Nat
 N:Nat
def NL.wk(F:NL P M):Option (Ck M)->Wk P
 | none=>F.W
 | some s=>⟨F.main,ET P F.main (Ij P F.Rep F.W.K s F.main),MC _ _⟩
abbrev NL.env(F:NL P M)(i:Option (Ck M)):Gb P:=⟨F.wk i,F.fn,F.rd,F.N⟩
abbrev P2(M:Type):=Option (Ck M)->Exit->(Nat->aZ)->List Deferred->Y->Prop
def Ow(F:NL P M)(c:Code)(i:Option (Ck M))(O:Nat->aZ)(ds:List Deferred)(h:Y)(Q:P2 M):Prop:=
 ∀(b:Frame)(k:List Item)(cs:List Frame)(aP:Option (Ck M)->Lv)(t:Array aZ),b.fn=F.fn->b.roundOf=F.rd->(∀i,MA (F.wk i) b cs (aP i))->BT t F.N O->
  (∀i e σ' ds' h',Q i e σ' ds' h'->∀t',BT t' F.N σ'->DI (F.wk i) (aP i) b k cs e t' ds' h')->(F.wk i).K (G (Cd b t ds (.code c ::k)) cs) h
def GY(F:NL P M)(ops:Array Oper)(l:List Oper)(i:Option (Ck M))(O:Nat->aZ)(ds:List Deferred)(h:Y)(Q:P2 M):Prop:=
 ∀(n:Nat)(b:Frame)(k:List Item)(cs:List Frame)(aP:Option (Ck M)->Lv)(t:Array aZ),(∀j,l[j]? =ops[n+j]?)->b.fn=F.fn->b.roundOf=F.rd->(∀i,MA (F.wk i) b cs (aP i))->BT t F.N O->
  (∀i e σ' ds' h',Q i e σ' ds' h'->∀t',BT t' F.N σ'->DI (F.wk i) (aP i) b k cs e t' ds' h')->(F.wk i).K (G (Cd b t ds (.inRegion ops (List.range' n l.length) ::k)) cs) h
variable {F:NL P M} {i:Option (Ck M)} {O:Nat->aZ} {ds:List Deferred} {h:Y} {Q:P2 M}
theorem I5{c:Code}(x:Tr (F.env i) c O ds h (Q i)):Ow F c i O ds h Q:=λb k a d t e f g j l=>x b k a (d i) t e f (g i) j (l i)
theorem G3{x y:Code}(a:Ow F x i O ds h (λi e σ' ds' h'=>match e with | .normal=>Ow F y i σ' ds' h' Q | e=>Q i e σ' ds' h')):Ow F (.seq x y) i O ds h Q:=by
 intro b k g j t m n o p d;refine Wk.go (Cd b t ds (.code x ::.code y ::k)) (λw=>by rw [A6];simp [stepG.exec,Cd,G]) ?_;refine a b (.code y ::k) g j t m n o p λi e σ' ds' h' q f c=>?_;cases e with
 | normal=>exact q b k g j f m n o c d
 | exit id=>exact DI.push rfl aD (d _ _ _ _ _ q f c)
 | ret=>exact DI.push rfl aD (d _ _ _ _ _ q f c)
 | goto l=>exact DI.push rfl aD (d _ _ _ _ _ q f c)
 | panic l=>exact DI.push rfl aD (d _ _ _ _ _ q f c)
 | outgrown=>exact DI.push rfl aD (d _ _ _ _ _ q f c)
theorem Bb{x y:Code}(a:Tr (F.env i) x O ds h (λe σ' ds' h'=>match e with | .normal=>Ow F y i σ' ds' h' Q | e=>Q i e σ' ds' h')):Ow F (.seq x y) i O ds h Q:=
 G3 (I5 (Q:=λi e σ' ds' h'=>match e with | .normal=>Ow F y i σ' ds' h' Q | e=>Q i e σ' ds' h') a)
theorem En{id:Nat}{c:Code}(a:Ow F c i O ds h (λi e σ' ds' h'=>match e with | .normal=>Q i .normal σ' ds' h' | .exit id'=>if id'=id then Q i .normal σ' ds' h' else Q i (.exit id') σ' ds' h' | e=>Q i e σ' ds' h')) :
  Ow F (.block id c) i O ds h Q:=by
 intro b k n o t p r s u j;refine Wk.go (Cd b t ds (.code c ::.inBlock id ::k)) (λw=>by rw [A6];simp [stepG.exec,Cd,G]) ?_;refine a b (.inBlock id ::k) n o t p r s u λi e σ' ds' h' q g d=>?_;cases e with
 | normal=>exact Wk.go (Cd b g ds' k) (λw=>by rw [A6];simp [stepG.exec,Cd,G]) (j _ _ _ _ _ q g d)
 | exit id'=>
  by_cases f:id'=id
  ·simp only [f,if_true] at q
   have:=j _ _ _ _ _ q g d
   simp only [DI,exitTo,f,beq_self_eq_true,if_true];exact this
  ·simp only [f,if_false] at q
   have:=j _ _ _ _ _ q g d
   have m:(id==id')=false:=by simp;exact λh=>f h.symm
   simp only [DI,exitTo,m] at this ⊢;exact this
 | ret=>exact j _ _ _ _ _ q g d
 | goto l=>exact j _ _ _ _ _ q g d
 | panic l=>exact j _ _ _ _ _ q g d
 | outgrown=>exact j _ _ _ _ _ q g d
theorem KA{c:Code}(I:Nat->Option (Ck M)->(Nat->aZ)->List Deferred->Y->Prop){n:Nat}(i0:I n i O ds h)
  (round:∀n i O ds h,I n i O ds h->Ow F c i O ds h (λi e σ' ds' h'=>match e with | .normal=>∃m,m<n/\I m i σ' ds' h' | e=>Q i e σ' ds' h')):Ow F (.loop c) i O ds h Q:=by
 intro b k p r t s u v g f;refine Wk.go (Cd b t ds (.code c ::.inLoop c ::k)) (λw=>by rw [A6];simp [stepG.exec,Cd,G]) ?_;have j:∀n i O ds h t,I n i O ds h->BT t F.N O->(F.wk i).K (G (Cd b t ds (.code c ::.inLoop c ::k)) p) h:=by
  intro n
  induction n using Nat.strongRecOn with
  | ind n x=>
   intro i O ds h t y g;refine round n i O ds h y b (.inLoop c ::k) p r t s u v g λi e σ' ds' h' q d a=>?_;cases e with
   | normal=>
    obtain ⟨m,z,o⟩:=q;exact Wk.go (Cd b d ds' (.code c ::.inLoop c ::k)) (λw=>by rw [A6];simp [stepG.exec,Cd,G]) (x m z _ _ _ _ _ o a)
   | exit id=>exact DI.push rfl aD (f _ _ _ _ _ q d a)
   | ret=>exact DI.push rfl aD (f _ _ _ _ _ q d a)
   | goto l=>exact DI.push rfl aD (f _ _ _ _ _ q d a)
   | panic l=>exact DI.push rfl aD (f _ _ _ _ _ q d a)
   | outgrown=>exact DI.push rfl aD (f _ _ _ _ _ q d a)
 exact j n i O ds h t i0 g
theorem F2{id:Nat}{l:List Oper}(a:GY F l.toArray l i O ds h Q):Ow F (.region id l.toArray false) i O ds h Q:=by
 intro b k c d t e f g j m;refine Wk.go (Cd b t ds (.inRegion l.toArray (List.range' 0 l.length) ::k)) (λw=>?_) (a 0 b k c d t aD e f g j m);rw [A6];simp [stepG.exec,Cd,G,List.range_eq_range']
theorem Fi{ops:Array Oper}(q:Q i .normal O ds h):GY F ops [] i O ds h Q:=by
 intro n b k d e t f g j l a c;exact Wk.go (Cd b t ds k) (λw=>by rw [A6];simp [stepG.exec,Cd,G]) (c _ _ _ _ _ q t a)
theorem EH{ops:Array Oper}{o:Oper}{l:List Oper}(hg:o.guard=none)(hdf:F.rd=none\/C2 o.op=false)(hd:Cy o.dst F.N=true)
  (x:BR (F.env i) o O ds h λσ' ds' h'=>GY F ops l i σ' ds' h' Q):GY F ops (o ::l) i O ds h Q:=by
 intro n b k e f t c g d m p q;have r:ops[n]? =some o:=by simpa using (c 0).symm
 refine Kg (E:=F.env i) (rest:=List.range' (n+1) l.length) r (by simp [Region.wanted,hg]) (d▸hdf) hd p x λσ' ds' h' y s a=>?_;exact y (n+1) b k e f s (λj=>by have:=c (j+1);simpa [Nat.add_assoc,Nat.add_comm 1 j] using this) g d m a q
theorem P3{main:Bool}{b:Frame}{t:Array aZ}{ops:Array Oper}{n:Nat}{rest:List Nat}{k:List Item}{cs:List Frame}{o:Oper}{N:Nat}(hs:BT t N O)(ho:ops[n]? =some o)(hw:Region.wanted o (yielded ops t)=true)
  (hdf:b.roundOf=none\/C2 o.op=false) (w:World):stepG P main (G (Cd b t ds (.inRegion ops (n ::rest) ::k)) cs) w=stepG.apply P true (Cd b t ds (.inRegion ops (n ::rest) ::k)) cs none (execOp (AN O) o) w:=by
 have a:=L9 (b:=b) (ds:=ds) (k:=.inRegion ops (n ::rest) ::k) hs;rw [<-a];have c:((ops[n]?).map (Region.wanted · (yielded ops t))).getD false=true:=by simp [ho,hw]
 rw [A6];unfold stepG.exec;simp only [Cd,c,↓reduceIte];unfold stepG.oper;simp only [Frame.oper?,ho];rcases hdf with e | e
 ·simp only [e]
 ·cases d:o.op <;> first | rfl | (rw [d] at e;cases e;done) | (cases b.roundOf <;> rfl)
theorem UR{main:Bool}{b:Frame}{t:Array aZ}{ops:Array Oper}{n:Nat}{rest:List Nat}{k:List Item}{cs:List Frame}{o:Oper}{N:Nat}{w:World}{cc:Array CommCase}{bl:Bool}{sh:CommShape}(hs:BT t N O)(ho:ops[n]? =some o)(hw:Region.wanted o (yielded ops t)=true)
  (hdf:b.roundOf=none\/C2 o.op=false) (hr:(execOp (AN O) o).runT P w #[]=(.ok (.comm cc bl sh) w,#[])) :
  stepG P main (G (Cd b t ds (.inRegion ops (n ::rest) ::k)) cs) w=.comm (G (Cd b t ds (.inRegion ops (n ::rest) ::k)) cs) cc bl sh w #[]:=by
 rw [P3 hs ho hw hdf];simp only [stepG.apply,hr,if_true,ite_self,seen_none];rfl
theorem spawn_at{main:Bool}{b:Frame}{t:Array aZ}{ops:Array Oper}{n:Nat}{rest:List Nat}{k:List Item}{cs:List Frame}{o:Oper}{N:Nat}{w:World}{f:Fn}{cap args:Array aZ}(hs:BT t N O)(ho:ops[n]? =some o)(hw:Region.wanted o (yielded ops t)=true)
  (hdf:b.roundOf=none\/C2 o.op=false) (hr:(execOp (AN O) o).runT P w #[]=(.ok (.spawn { target:=.fn f cap,args:=args }) w,#[])) :
  stepG P main (G (Cd b t ds (.inRegion ops (n ::rest) ::k)) cs) w=.spawn (G ((Cd b t ds (.inRegion ops (n ::rest) ::k)).finish undef) cs) (born P { target:=.fn f cap,args:=args }) w #[]:=by
 rw [P3 hs ho hw hdf];simp only [stepG.apply,hr,if_true,ite_self,seen_none];simp [GStep.after,G,born]
variable {ops:Array Oper} {o:Oper} {l:List Oper}
theorem Sv{c:Code}:Ow F c (some .never) O ds h Q:=λb k a d t e f _ g j=>ET.stop rfl
theorem trLI_send{c:Nat}{m:M}{nx:Ck M}{v z:aZ}{hm h1:Y}(hg:o.guard=none)(hdf:C2 o.op=false)(hd:Cy o.dst F.N=true)
  (hr:∀w,(execOp (AN O) o).runT P w #[]=(.ok (.comm #[scase c v z] true .send) w,#[])) (hsp:Y.Split h h1 hm) (hrep:F.Rep c m v hm) (hnx:¬nx.isDone)
  (x:GY F ops l (some nx) (putS O o.dst undef) ds h1 Q):GY F ops (o ::l) (some (.send c m nx)) O ds h Q:=by
 intro n b k d q t e r a s g u;have p:ops[n]? =some o:=by simpa using (e 0).symm
 refine ET.stop ⟨_,d,v,z,hm,h1,rfl,⟨λw f=>?_,hsp,hrep,?_⟩⟩
 ·rw [List.length_cons,List.range'_succ];exact UR g p (by simp [Region.wanted,hg]) (.inr hdf) (hr w)
 ·rw [HC hnx,List.length_cons,List.range'_succ,C3 p];exact x (n+1) b k d q _ (λj=>by have:=e (j+1);simpa [Nat.add_assoc,Nat.add_comm 1 j] using this) r a s (g.putS hd undef) u
theorem trLI_recv{c:Nat}{f:Option M->Ck M}{z:aZ}{ok:Bool}(hg:o.guard=none)(hdf:C2 o.op=false)(hd:Cy o.dst F.N=true)
  (hr:∀w,(execOp (AN O) o).runT P w #[]=(.ok (.comm #[rcase c z] true (.recv ok)) w,#[])) (hnx:∀o,¬(f o).isDone)
  (x:∀m v hm,F.Rep c m v hm->h.Compat hm->GY F ops l (some (f (some m))) (putS O o.dst (recvd ok v true)) ds (h.join hm) Q)
  (y:GY F ops l (some (f none)) (putS O o.dst (recvd ok z false)) ds h Q):GY F ops (o ::l) (some (.recv c f)) O ds h Q:=by
 intro n b k e s t g u a A p B;have q:ops[n]? =some o:=by simpa using (g 0).symm
 refine ET.stop ⟨_,e,z,ok,rfl,⟨λw C=>?_,λm v hm d r=>?_,?_⟩⟩
 ·rw [List.length_cons,List.range'_succ];exact UR p q (by simp [Region.wanted,hg]) (.inr hdf) (hr w)
 ·show Fb P F.Rep F.W.K (f (some m)) F.main _ _;rw [HC (hnx _),List.length_cons,List.range'_succ,C3 q];exact x m v hm d r (n+1) b k e s _ (λj=>by have:=g (j+1);simpa [Nat.add_assoc,Nat.add_comm 1 j] using this) u a A (p.putS hd _) B
 ·show Fb P F.Rep F.W.K (f none) F.main _ _;rw [HC (hnx _),List.length_cons,List.range'_succ,C3 q];exact y (n+1) b k e s _ (λj=>by have:=g (j+1);simpa [Nat.add_assoc,Nat.add_comm 1 j] using this) u a A (p.putS hd _) B
theorem US{ch nx:Ck M}{f:Fn}{cap args:Array aZ}{hc h1:Y}(hg:o.guard=none)(hdf:C2 o.op=false)(hd:Cy o.dst F.N=true)
  (hr:∀w,(execOp (AN O) o).runT P w #[]=(.ok (.spawn { target:=.fn f cap,args:=args }) w,#[])) (hsp:Y.Split h h1 hc) (hnx:¬nx.isDone)
  (child:Fb P F.Rep F.W.K ch false (born P { target:=.fn f cap,args:=args }) hc) (x:GY F ops l (some nx) (putS O o.dst undef) ds h1 Q):GY F ops (o ::l) (some (.spawn ch nx)) O ds h Q:=by
 intro n b k c m t d p a q e r;have g:ops[n]? =some o:=by simpa using (d 0).symm
 refine ET.stop ⟨_,c,(Cd b t ds (.inRegion ops (List.range' n (o ::l).length) ::k)).finish undef,_,hc,h1,rfl,⟨λw s=>?_,hsp,?_,child⟩⟩
 ·rw [List.length_cons,List.range'_succ];exact spawn_at e g (by simp [Region.wanted,hg]) (.inr hdf) (hr w)
 ·rw [HC hnx,List.length_cons,List.range'_succ,C3 g];exact x (n+1) b k c m _ (λj=>by have:=d (j+1);simpa [Nat.add_assoc,Nat.add_comm 1 j] using this) p a q (e.putS hd undef) r
theorem UT{f:FuncId}{fn:Func}{args:Array aZ}(hf:P.funcs[f]? =some fn)(hc:AK fn=true)(w:World):(callFunc f args).runT P w #[]=(.ok (.enter f args) w,#[]):=by
 unfold AK at hc;simp only [Bool.and_eq_true,Bool.not_eq_true'] at hc;unfold callFunc;show (match P.funcs[f]? with | none=>_ | some fn=>_:Sem Next).runT P w #[]=_;rw [hf];simp only [];rw [aX (by rw [hc.1];simp),aX (by cases a:fn.body with | none=>rw [a] at hc;simp at hc | some c=>simp)];rfl
theorem XU{fn:FuncId}{ch:Nat}:seen P fn #[⟨.obj ch,false,true⟩,⟨.obj ch,true,true⟩]=#[⟨.obj ch,false,true⟩,⟨.obj ch,true,true⟩]:=by
 rw [seen_def];simp [seenStep]
end
section
variable {P:Program} {M:Type} {Post:aZ->World->Prop}
def Y.Same(h h':Y):Prop:=∀b p o,h b=some (p,o)->∃p',h' b=some (p',o)
theorem Ii.flags{g:Goroutine}{h h':Y}{gs:Array Goroutine}{w:World}{q:Nat->Nat}{t:Trace}(B:Ii P g h gs w q t)(s:h'.Same h):Ii P g h' gs w q t:=
 { B with
  fits:=λb p o c=>by obtain ⟨d,x⟩:=s b p o c;exact B.fits b d o x
  chn:=λb p o k a c=>by obtain ⟨d,x⟩:=s b p o c;exact B.chn b d o k a x }
theorem EE.flags{g:Goroutine}{h h':Y}(s:h'.Same h)(x:EE P Post g h'):EE P Post g h:=λa w b q t B=>x a w b q t (B.flags s)
def XV(s0:Ck M)(N:HD M):Prop:=0<N.n/\N.s 0=s0/\∀j,0<j->j<N.n->N.s j=.done/\N.kn 0 j
theorem P4{Rep:Nat->M->aZ->Y->Prop}{g:Goroutine}{h:Y}{s0:Ck M}(good:∀N:HD M,XV s0 N->Fe (λ_=>False) N)(d:Fb P Rep (EE P Post) s0 true g h):EE P Post g h:=by
 intro b w C q t B;let N:HD M:={ n:=b.size,s:=λj=>if j=0 then s0 else .done,kn:=λi j=>i=0/\0<j,cl:=λ_=>false,ck:=λ_ _=>False };have c:0<b.size:=B.lt;obtain ⟨u,f⟩:=HE (cl:=N.cl) d;have hsits:∀i m,b[i]? =some m->O9 P Rep (EE P Post) (N.s i) N.cl (i==0) m (only h i) (if i=0 then u else .leave (q i)):=by
  intro i m l;rcases Nat.eq_zero_or_pos i with rfl | hp
  ·have:=B.here;rw [l] at this;cases this
   simpa [N,only] using f
  ·have D:¬i=0:=U
   have E:=B.old i m hp l;simp only [N,D,if_false];exact .leave (q i) rfl E
 have hparked:∀i (o:Goroutine) x p,b[i]? =some (parked o x p)->i=0:=λi o x p l=>by
  rcases Nat.eq_zero_or_pos i with e | hp
  ·exact e
  ·rcases (B.old i _ hp l).status with e | e <;> cases e
 refine net_runs (used:=λ_=>False) (N:=N) (good N ⟨c,rfl,λj y F=>⟨aX U,rfl,y⟩⟩) (λi=>if i=0 then u else .leave (q i)) b w C t (only h)
  ⟨rfl,B.HS,B.TI,hsits,λ_ q=>q.elim,λ_ _ q=>q.elim,λ_ _ _ q=>q.elim,?_,?_,λ_ q=>q.elim⟩
 ·intro i j o O Q v z p R H A r;obtain rfl:=hparked i _ _ _ A;obtain rfl:=hparked j _ _ _ r;rw [A] at r;exact Hw (Option.some.inj r).symm
 ·rintro i j l y ⟨rfl,I⟩;refine ⟨aX U,λk a K _=>B.known k a K⟩
def Li(W:Wk P):Prop:=∃Post:aZ->World->Prop,W.K=EE P Post
variable {F:NL P M} {i:Option (Ck M)} {O:Nat->aZ} {ds:List Deferred} {h:Y} {Q:P2 M}
theorem trI_made{c:Code}{s0:Ck M}(hm:F.main=true)(hW:Li F.W)(hs:¬s0.isDone)(good:∀N:HD M,XV s0 N->Fe (λ_=>False) N)(x:Ow F c (some s0) O ds h Q):Ow F c none O ds h Q:=by
 intro b k d e t f g j l m
 have:=x b k d e t f g j l m
 obtain ⟨Post,a⟩:=hW;show F.W.K _ _;rw [a];refine P4 (Rep:=F.Rep) good ?_;rw [HC hs];unfold NL.wk at this;simp only [hm,a] at this;exact this
theorem P5{c:Code}{f:Nat->Ck M}{ch:Nat}(hc:h ch=some (true,.chan 0 #[] false 0 0 false))(hs:¬(f ch).isDone)(x:Ow F c (some (f ch)) O ds (h.cut ch) Q):Ow F c (some (.make f)) O ds h Q:=by
 intro b k a d t e g j l m;refine ET.stop ⟨rfl,ch,hc,?_⟩;rw [HC hs];exact x b k a d t e g j l m
theorem trI_out{c:Code}{h0:Y}(hW:Li F.W)(hs:h0.Same h)(x:Ow F c none O ds (h0.join h) Q):Ow F c (some .stop) O ds h Q:=by
 intro b k e f t a g j l m
 have:=x b k e f t a g j l m
 obtain ⟨Post,n⟩:=hW;refine ET.stop ?_;show F.W.K _ _;have d:F.W.K _ _:=this;rw [n] at d ⊢;refine d.flags λb p o a=>?_;rcases hj:h0 b with _ | ⟨q,r⟩
 ·unfold Y.join at a;rw [hj] at a;exact ⟨p,a⟩
 ·unfold Y.join at a;rw [hj] at a;cases a;exact hs b p o hj
def Y.ro(h:Y):Y:=λb=>(h b).map λx=>(false,x.2)
theorem Y.ro_some{h:Y}{b:Nat}{p:Bool}{o:Obj}(hb:h b=some (p,o)):h.ro b=some (false,o):=by unfold Y.ro;rw [hb];rfl
theorem Y.ro_inv{h:Y}{b:Nat}{p:Bool}{o:Obj}(hb:h.ro b=some (p,o)):p=false/\∃p',h b=some (p',o):=by
 unfold Y.ro at hb;cases e:h b with
 | none=>rw [e] at hb;cases hb
 | some x=>rw [e] at hb;obtain ⟨p',a⟩:=x;cases hb;exact ⟨rfl,p',rfl⟩
theorem Y.split_ro(h:Y):Y.Split h h.ro h.ro where
 left:=λb p o a=>by obtain ⟨rfl,c,x⟩:=Y.ro_inv a;exact ⟨c,x,λe=>by cases e⟩
 right:=λb p o a=>by obtain ⟨rfl,c,x⟩:=Y.ro_inv a;exact ⟨c,x,λe=>by cases e⟩
 one:=λr o x a=>by cases (Y.ro_inv a).1
 two:=λr o x a=>by cases (Y.ro_inv a).1
theorem Y.same_ro(h:Y):h.Same h.ro:=λ_ _ _ a=>⟨false,Y.ro_some a⟩
theorem Y.Same.trans{a b c:Y}(x:a.Same b)(y:b.Same c):a.Same c:=λr p o d=>by obtain ⟨e,z⟩:=x r p o d;exact y r e o z
theorem Y.Le.same{a b:Y}(x:a.Le b):a.Same b:=λr p o c=>⟨p,x.keep c rfl⟩
theorem Y.le_join(a b:Y):a.Le (a.join b):=λr p o c=>⟨o,by unfold Y.join;rw [c],.inl rfl⟩
theorem Y.Same.join{a b:Y}(s:a.Same b):b.Same (a.join b):=λr p o c=>by
 unfold Y.join;cases e:a r with
 | none=>exact ⟨p,c⟩
 | some x=>obtain ⟨d,f⟩:=x;obtain ⟨g,y⟩:=s r d f e;rw [c] at y;cases y;exact ⟨d,rfl⟩
theorem AU.flags{h h':Y}(s:h.Same h'){b off n:Nat}{vs:Array aZ}(x:AU h b off n vs):AU h' b off n vs:=by
 obtain ⟨p,c,t,f,y,z⟩:=x;obtain ⟨a,d⟩:=s _ _ _ y;exact ⟨a,c,t,f,d,z⟩
theorem AG.flags{aQ:Type}{h h':Y}(s:h.Same h'){v:aZ}{n:Nat}{enc:aQ->Array aZ}{xs:List aQ}(x:AG h v n enc xs):AG h' v n enc xs:=by
 obtain ⟨a,c,e,f,g,j⟩:=x;refine ⟨a,c,e,f,g,λi k=>?_⟩;obtain ⟨b,d,l,m⟩:=j i k;exact ⟨b,d,l,m.flags s⟩
end
section
variable {M:Type} [DecidableEq M]
end
end Go.Ns
namespace Go.Ns
inductive Dw where
 | job (i:Nat)
 | res (i:Nat) (b:Bool)
 | tick
section
variable (cj co cd:Nat) (n:Nat) (ok:Nat->Bool)
def Hc:Nat->Nat->Ck Dw
 | 0,_=>.close cj .done
 | m+1,k=>.send cj (.job k) (Hc m (k+1))
def Vb(W:Ck Dw):Option Dw->Ck Dw
 | none=>.send cd .tick .done
 | some (.job i)=>.send co (.res i (ok i)) W
 | some _=>.never
def Fj:Nat->Ck Dw
 | 0=>.never
 | m+1=>.recv cj (Vb co cd ok (Fj m))
def NM(W:Ck Dw):Option Dw->Ck Dw
 | some .tick=>W
 | _=>.never
def EO:Nat->Ck Dw
 | 0=>.close co .done
 | t+1=>.recv cd (NM (EO t))
def IY(R:List Nat)(W:List Nat->Ck Dw):Option Dw->Ck Dw
 | none=>if R=[] then .stop else .never
 | some (.res i b)=>if i ∈ R/\b=ok i then W (R.erase i) else .never
 | some _=>.never
def Fk:Nat->List Nat->Ck Dw
 | 0,_=>.never
 | m+1,R=>.recv co (IY ok R (Fk m))
def IG:Nat->Ck Dw
 | 0=>.spawn (EO co cd 3) (Fk co ok (n+1) (List.range n))
 | m+1=>.spawn (Fj cj co cd ok (n+1)) (IG m)
def poolS:Ck Dw:=.make λco=>.make λcj=>.spawn (Hc cj n 0) (.make λcd=>IG cj co cd n ok 3)
inductive WS where
 | wait (m:Nat)
 | hold (m i:Nat)
 | tick
 | fin
def WS.scr:WS->Ck Dw
 | .wait m=>Fj cj co cd ok (m+1)
 | .hold m i=>.send co (.res i (ok i)) (Fj cj co cd ok (m+1))
 | .tick=>.send cd .tick .done
 | .fin=>.done
def WS.left:WS->Nat
 | .wait _=>3
 | .hold _ _=>4
 | .tick=>2
 | .fin=>0
def WS.finN:WS->Nat
 | .fin=>1
 | _=>0
def UU(a:Nat)(c5:Bool)(R:List Nat):Ck Dw:=if c5 then Fk co ok (R.length+1) R else IG cj co cd n ok (3-a)
end
structure Di(cj co cd n:Nat)(ok:Nat->Bool)(k0 a:Nat)(c5:Bool)(k:Nat)(bj bo:Bool)(w:Nat->WS)(R:List Nat)(N:HD Dw):Prop where
 pos:0<k0
 nn:N.n=k0+1+a+(if c5 then 1 else 0)
 ha:a<=3
 h5:c5=true->a=3
 main:N.s 0=UU cj co cd n ok a c5 R
 old:∀j,0<j->j<k0->N.s j=.done/\N.kn 0 j
 feed:N.s k0=if bj then .done else Hc cj (n-k) k
 hk:k<=n
 bjk:bj=true->k=n
 clj:N.cl cj=bj
 clo:N.cl co=bo
 cld:N.cl cd=false
 work:∀x,x<a->N.s (k0+1+x)=(w x).scr cj co cd ok
 out:∀x,a<=x->w x=.wait n
 wait:∀x m,w x=.wait m->n-k<=m
 hold:∀x m i,w x=.hold m i->n-k<=m/\i<k
 over:∀x,w x=.tick\/w x=.fin->bj=true
 closer:c5=true->N.s (k0+4)=if bo then .done else EO co cd (3-((w 0).finN+(w 1).finN+(w 2).finN))
 nofin:c5=false->(∀x,w x≠.fin)/\bo=false
 allfin:bo=true->∀x,x<3->w x=.fin
 nd:R.Nodup
 mem:∀i,i ∈ R↔(k<=i/\i<n)\/∃x m,w x=.hold m i
 uniq:∀x y m m' i,w x=.hold m i->w y=.hold m' i->x=y
 full:c5=false->R=List.range n
 ckj:bj=true->N.ck cj k0
 knw:∀x,x<a->w x=.tick\/w x=.fin->N.kn (k0+1+x) k0
 knc:∀x,x<a->w x=.fin->N.kn (k0+4) (k0+1+x)/\N.kn (k0+4) k0
 cko:bo=true->N.ck co (k0+4)/\N.ck co k0/\∀x,x<3->N.ck co (k0+1+x)
def LD(w:Nat->WS)(x:Nat)(v:WS):Nat->WS:=λy=>if y=x then v else w y
theorem Be{w:Nat->WS}{x:Nat}{v:WS}:LD w x v x=v:=aY rfl
theorem BA{w:Nat->WS}{x y:Nat}{v:WS}(h:y≠x):LD w x v y=w y:=aX h
def MQ(n a:Nat)(c5:Bool)(k:Nat)(bj bo:Bool)(w:Nat->WS):Nat:=
 (3-a)+(if c5 then 0 else 1)+3*(n-k)+(if bj then 0 else 1)+((w 0).left+(w 1).left+(w 2).left)+(if bo then 0 else 1)
section
variable {cj co cd n:Nat} {ok:Nat->Bool} {k0 a:Nat} {c5:Bool} {k:Nat} {bj bo:Bool} {w:Nat->WS} {R:List Nat} {N:HD Dw}
theorem Di.cases(I:Di cj co cd n ok k0 a c5 k bj bo w R N){i:Nat}(hi:i<N.n):i=0\/(0<i/\i<k0)\/i=k0\/(∃x,x<a/\i=k0+1+x)\/(c5=true/\i=k0+4):=by
 have b:=I.nn;rcases Nat.eq_zero_or_pos i with e | h0
 ·exact .inl e
 rcases Nat.lt_trichotomy i k0 with h | h | h
 ·exact .inr (.inl ⟨h0,h⟩)
 ·exact .inr (.inr (.inl h))
 by_cases d:i<k0+1+a
 ·exact .inr (.inr (.inr (.inl ⟨i-(k0+1),U,U⟩)))
 ·cases c:c5 with
  | false=>rw [c] at b;simp at b;omega
  | true=>have f:=I.h5 c;rw [c] at b;simp at b;exact .inr (.inr (.inr (.inr ⟨rfl,U⟩)))
theorem Di.mainC(I:Di cj co cd n ok k0 a c5 k bj bo w R N):(c5=true/\N.s 0=.recv co (IY ok R (Fk co ok R.length)))\/(c5=false/\((a<3/\N.s 0=.spawn (Fj cj co cd ok (n+1)) (IG cj co cd n ok (3-(a+1))))\/
  (a=3/\N.s 0=.spawn (EO co cd 3) (Fk co ok (n+1) (List.range n))))):=by
 have h:=I.main;unfold UU at h;cases b:c5 with
 | true=>rw [b] at h;exact .inl ⟨rfl,h⟩
 | false=>
  rw [b] at h;refine .inr ⟨rfl,?_⟩;have ha:=I.ha;by_cases c:a=3
  ·subst c;exact .inr ⟨rfl,h⟩
  ·have e:3-a=(3-(a+1))+1:=U
   rw [e] at h;exact .inl ⟨U,h⟩
theorem Di.feedC(I:Di cj co cd n ok k0 a c5 k bj bo w R N):(bj=true/\N.s k0=.done)\/(bj=false/\k=n/\N.s k0=.close cj .done)\/(bj=false/\k<n/\N.s k0=.send cj (.job k) (Hc cj (n-(k+1)) (k+1))):=by
 have h:=I.feed;have hk:=I.hk;cases b:bj with
 | true=>rw [b] at h;exact .inl ⟨rfl,h⟩
 | false=>
  rw [b] at h;by_cases e:k=n
  ·subst e;rw [Nat.sub_self] at h;exact .inr (.inl ⟨rfl,rfl,h⟩)
  ·have c:n-k=(n-(k+1))+1:=U
   rw [c] at h;exact .inr (.inr ⟨rfl,U,h⟩)
theorem Di.closeC(I:Di cj co cd n ok k0 a c5 k bj bo w R N)(hc:c5=true):(bo=true/\N.s (k0+4)=.done)\/(bo=false/\3<=(w 0).finN+(w 1).finN+(w 2).finN/\N.s (k0+4)=.close co .done)\/
  (bo=false/\∃t,3-((w 0).finN+(w 1).finN+(w 2).finN)=t+1/\N.s (k0+4)=.recv cd (NM (EO co cd t))):=by
 have h:=I.closer hc;cases b:bo with
 | true=>rw [b] at h;exact .inl ⟨rfl,h⟩
 | false=>
  rw [b] at h;generalize (w 0).finN+(w 1).finN+(w 2).finN=q at h;cases e:3-q with
  | zero=>rw [e] at h;exact .inr (.inl ⟨rfl,U,h⟩)
  | succ t=>rw [e] at h;exact .inr (.inr ⟨rfl,t,rfl,h⟩)
theorem Di.send(I:Di cj co cd n ok k0 a c5 k bj bo w R N){i c:Nat}{m:Dw}{nx:Ck Dw}(hi:i<N.n)(hs:N.s i=.send c m nx) :
  (i=k0/\bj=false/\k<n/\c=cj/\m=.job k/\nx=Hc cj (n-(k+1)) (k+1))\/(∃x,x<a/\i=k0+1+x/\∃f j,w x=.hold f j/\c=co/\m=.res j (ok j)/\nx=Fj cj co cd ok (f+1))\/
  (∃x,x<a/\i=k0+1+x/\w x=.tick/\c=cd/\m=.tick/\nx=.done):=by
 rcases I.cases hi with rfl | ⟨d,g⟩ | rfl | ⟨x,l,rfl⟩ | ⟨o,rfl⟩
 ·rcases I.mainC with ⟨_,e⟩ | ⟨_,⟨_,e⟩ | ⟨_,e⟩⟩ <;> rw [e] at hs <;> cases hs
 ·rw [(I.old i d g).1] at hs;cases hs
 ·rcases I.feedC with ⟨_,e⟩ | ⟨_,_,e⟩ | ⟨d,g,e⟩
  ·rw [e] at hs;cases hs
  ·rw [e] at hs;cases hs
  ·rw [e] at hs;cases hs;exact .inl ⟨rfl,d,g,rfl,rfl,rfl⟩
 ·rw [I.work x l] at hs;cases b:w x with
  | wait f=>rw [b] at hs;have h:Ck.recv _ _=Ck.send c m nx:=hs;cases h
  | hold f j=>rw [b] at hs;have h:Ck.send co (.res j (ok j)) (Fj cj co cd ok (f+1))=Ck.send c m nx:=hs;cases h;exact .inr (.inl ⟨x,l,rfl,f,j,b,rfl,rfl,rfl⟩)
  | tick=>rw [b] at hs;have h:Ck.send cd .tick .done=Ck.send c m nx:=hs;cases h;exact .inr (.inr ⟨x,l,rfl,b,rfl,rfl,rfl⟩)
  | fin=>rw [b] at hs;have h:Ck.done=Ck.send c m nx:=hs;cases h
 ·rcases I.closeC o with ⟨_,e⟩ | ⟨_,_,e⟩ | ⟨_,t,_,e⟩ <;> rw [e] at hs <;> cases hs
theorem Di.recv(I:Di cj co cd n ok k0 a c5 k bj bo w R N){i c:Nat}{f:Option Dw->Ck Dw}(hi:i<N.n)(hs:N.s i=.recv c f) :
  (i=0/\c5=true/\c=co/\f=IY ok R (Fk co ok R.length))\/(∃x,x<a/\i=k0+1+x/\∃m,w x=.wait m/\c=cj/\f=Vb co cd ok (Fj cj co cd ok m))\/
  (c5=true/\i=k0+4/\bo=false/\∃t,3-((w 0).finN+(w 1).finN+(w 2).finN)=t+1/\c=cd/\f=NM (EO co cd t)):=by
 rcases I.cases hi with rfl | ⟨b,g⟩ | rfl | ⟨x,l,rfl⟩ | ⟨o,rfl⟩
 ·rcases I.mainC with ⟨b,e⟩ | ⟨_,⟨_,e⟩ | ⟨_,e⟩⟩
  ·rw [e] at hs;cases hs;exact .inl ⟨rfl,b,rfl,rfl⟩
  ·rw [e] at hs;cases hs
  ·rw [e] at hs;cases hs
 ·rw [(I.old i b g).1] at hs;cases hs
 ·rcases I.feedC with ⟨_,e⟩ | ⟨_,_,e⟩ | ⟨b,g,e⟩ <;> rw [e] at hs <;> cases hs
 ·rw [I.work x l] at hs;cases d:w x with
  | wait m=>rw [d] at hs;have h:Ck.recv cj (Vb co cd ok (Fj cj co cd ok m))=Ck.recv c f:=hs;cases h;exact .inr (.inl ⟨x,l,rfl,m,d,rfl,rfl⟩)
  | hold m j=>rw [d] at hs;have h:Ck.send _ _ _=Ck.recv c f:=hs;cases h
  | tick=>rw [d] at hs;have h:Ck.send _ _ _=Ck.recv c f:=hs;cases h
  | fin=>rw [d] at hs;have h:Ck.done=Ck.recv c f:=hs;cases h
 ·rcases I.closeC o with ⟨_,e⟩ | ⟨_,_,e⟩ | ⟨b,t,g,e⟩
  ·rw [e] at hs;cases hs
  ·rw [e] at hs;cases hs
  ·rw [e] at hs;cases hs;exact .inr (.inr ⟨o,rfl,b,t,g,rfl,rfl⟩)
theorem Di.close(I:Di cj co cd n ok k0 a c5 k bj bo w R N){i c:Nat}{nx:Ck Dw}(hi:i<N.n)(hs:N.s i=.close c nx) :
  (i=k0/\bj=false/\k=n/\c=cj/\nx=.done)\/(c5=true/\i=k0+4/\bo=false/\3<=(w 0).finN+(w 1).finN+(w 2).finN/\c=co/\nx=.done):=by
 rcases I.cases hi with rfl | ⟨b,d⟩ | rfl | ⟨x,l,rfl⟩ | ⟨g,rfl⟩
 ·rcases I.mainC with ⟨_,e⟩ | ⟨_,⟨_,e⟩ | ⟨_,e⟩⟩ <;> rw [e] at hs <;> cases hs
 ·rw [(I.old i b d).1] at hs;cases hs
 ·rcases I.feedC with ⟨_,e⟩ | ⟨b,d,e⟩ | ⟨b,d,e⟩
  ·rw [e] at hs;cases hs
  ·rw [e] at hs;cases hs;exact .inl ⟨rfl,b,d,rfl,rfl⟩
  ·rw [e] at hs;cases hs
 ·rw [I.work x l] at hs;cases f:w x with
  | wait m=>rw [f] at hs;have h:Ck.recv _ _=Ck.close c nx:=hs;cases h
  | hold m j=>rw [f] at hs;have h:Ck.send _ _ _=Ck.close c nx:=hs;cases h
  | tick=>rw [f] at hs;have h:Ck.send _ _ _=Ck.close c nx:=hs;cases h
  | fin=>rw [f] at hs;have h:Ck.done=Ck.close c nx:=hs;cases h
 ·rcases I.closeC g with ⟨_,e⟩ | ⟨b,d,e⟩ | ⟨b,t,d,e⟩
  ·rw [e] at hs;cases hs
  ·rw [e] at hs;cases hs;exact .inr ⟨g,rfl,b,d,rfl,rfl⟩
  ·rw [e] at hs;cases hs
theorem Di.spawn(I:Di cj co cd n ok k0 a c5 k bj bo w R N){i:Nat}{ch nx:Ck Dw}(hi:i<N.n)(hs:N.s i=.spawn ch nx) :
  i=0/\c5=false/\((a<3/\ch=Fj cj co cd ok (n+1)/\nx=IG cj co cd n ok (3-(a+1)))\/(a=3/\ch=EO co cd 3/\nx=Fk co ok (n+1) (List.range n))):=by
 rcases I.cases hi with rfl | ⟨b,c⟩ | rfl | ⟨x,f,rfl⟩ | ⟨g,rfl⟩
 ·rcases I.mainC with ⟨b,e⟩ | ⟨b,⟨c,e⟩ | ⟨c,e⟩⟩
  ·rw [e] at hs;cases hs
  ·rw [e] at hs;cases hs;exact ⟨rfl,b,.inl ⟨c,rfl,rfl⟩⟩
  ·rw [e] at hs;cases hs;exact ⟨rfl,b,.inr ⟨c,rfl,rfl⟩⟩
 ·rw [(I.old i b c).1] at hs;cases hs
 ·rcases I.feedC with ⟨_,e⟩ | ⟨_,_,e⟩ | ⟨b,c,e⟩ <;> rw [e] at hs <;> cases hs
 ·rw [I.work x f] at hs;cases d:w x with
  | wait m=>rw [d] at hs;have h:Ck.recv _ _=Ck.spawn ch nx:=hs;cases h
  | hold m j=>rw [d] at hs;have h:Ck.send _ _ _=Ck.spawn ch nx:=hs;cases h
  | tick=>rw [d] at hs;have h:Ck.send _ _ _=Ck.spawn ch nx:=hs;cases h
  | fin=>rw [d] at hs;have h:Ck.done=Ck.spawn ch nx:=hs;cases h
 ·rcases I.closeC g with ⟨_,e⟩ | ⟨_,_,e⟩ | ⟨_,t,_,e⟩ <;> rw [e] at hs <;> cases hs
theorem Di.noMake(I:Di cj co cd n ok k0 a c5 k bj bo w R N){i:Nat}{f:Nat->Ck Dw}(hi:i<N.n):N.s i≠.make f:=by
 intro b;rcases I.cases hi with rfl | ⟨d,g⟩ | rfl | ⟨x,l,rfl⟩ | ⟨o,rfl⟩
 ·rcases I.mainC with ⟨_,e⟩ | ⟨_,⟨_,e⟩ | ⟨_,e⟩⟩ <;> rw [e] at b <;> cases b
 ·rw [(I.old i d g).1] at b;cases b
 ·rcases I.feedC with ⟨_,e⟩ | ⟨_,_,e⟩ | ⟨d,g,e⟩ <;> rw [e] at b <;> cases b
 ·rw [I.work x l] at b;cases c:w x with
  | wait m=>rw [c] at b;have h:Ck.recv _ _=Ck.make f:=b;cases h
  | hold m j=>rw [c] at b;have h:Ck.send _ _ _=Ck.make f:=b;cases h
  | tick=>rw [c] at b;have h:Ck.send _ _ _=Ck.make f:=b;cases h
  | fin=>rw [c] at b;have h:Ck.done=Ck.make f:=b;cases h
 ·rcases I.closeC o with ⟨_,e⟩ | ⟨_,_,e⟩ | ⟨_,t,_,e⟩ <;> rw [e] at b <;> cases b
theorem Di.fine(I:Di cj co cd n ok k0 a c5 k bj bo w R N){aM:Nat->Prop}(u1:aM cj)(u2:aM co)(u3:aM cd){i:Nat}(hi:i<N.n):J1 aM N.cl i (N.s i):=by
 have o:=I.pos;rcases I.cases hi with rfl | ⟨b,d⟩ | rfl | ⟨x,f,rfl⟩ | ⟨g,rfl⟩
 ·rcases I.mainC with ⟨_,e⟩ | ⟨_,⟨_,e⟩ | ⟨_,e⟩⟩ <;> rw [e]
  ·exact u2
  ·trivial
  ·trivial
 ·rw [(I.old i b d).1];show i≠0;omega
 ·rcases I.feedC with ⟨_,e⟩ | ⟨b,_,e⟩ | ⟨b,d,e⟩ <;> rw [e]
  ·show _≠0;omega
  ·exact ⟨u1,by rw [I.clj,b]⟩
  ·exact ⟨u1,by rw [I.clj,b]⟩
 ·rw [I.work x f];have c:bo=false\/w x=.fin:=by
   cases h:bo with
   | false=>exact .inl rfl
   | true=>exact .inr (I.allfin h x (by have:=I.ha;omega))
  cases l:w x with
  | wait m=>exact u1
  | hold m j=>exact ⟨u2,by rw [I.clo];exact c.elim id λe=>by rw [l] at e;cases e⟩
  | tick=>exact ⟨u3,I.cld⟩
  | fin=>show _≠0;omega
 ·rcases I.closeC g with ⟨_,e⟩ | ⟨b,_,e⟩ | ⟨_,t,_,e⟩ <;> rw [e]
  ·show _≠0;omega
  ·exact ⟨u2,by rw [I.clo,b]⟩
  ·exact u3
theorem WS.finN_le(x:WS):x.finN<=1:=by cases x <;> simp [WS.finN]
theorem WS.finN_one{x:WS}(h:1<=x.finN):x=.fin:=by cases x <;> simp_all [WS.finN]
theorem WS.finN_zero{x:WS}(h:x≠.fin):x.finN=0:=by cases x <;> simp_all [WS.finN]
theorem Di.goes(I:Di cj co cd n ok k0 a c5 k bj bo w R N):∃N',Iv N N':=by
 have y:=I.pos;have r:=I.nn;rcases I.mainC with ⟨l,s⟩ | ⟨_,⟨_,e⟩ | ⟨_,e⟩⟩
 ·have v:=I.h5 l;subst v;rw [l] at r;simp at r;have p:∀x,x<3->w x≠.fin->∃N',Iv N N':=by
   intro x d g;have b:=I.work x d;cases o:w x with
   | fin=>exact absurd o g
   | wait m=>
    rw [o] at b;rcases I.feedC with ⟨f,_⟩ | ⟨_,_,e⟩ | ⟨_,_,e⟩
    ·exact ⟨_,.hear (j:=k0+1+x) U b (by rw [I.clj,f])⟩
    ·exact ⟨_,.shut (i:=k0) U e⟩
    ·exact ⟨_,.meet (i:=k0) (j:=k0+1+x) U U U e b⟩
   | hold m j=>rw [o] at b;exact ⟨_,.meet (i:=k0+1+x) (j:=0) U U U b s⟩
   | tick=>
    rw [o] at b;have z:=(w 0).finN_le;have A:=(w 1).finN_le;have B:=(w 2).finN_le;have C:=WS.finN_zero g;rcases I.closeC l with ⟨f,_⟩ | ⟨_,f,_⟩ | ⟨_,t,_,e⟩
    ·exact absurd (I.allfin f x d) g
    ·obtain rfl | rfl | rfl:x=0\/x=1\/x=2:=U
     all_goals omega
    ·exact ⟨_,.meet (i:=k0+1+x) (j:=k0+4) U U U b e⟩
  by_cases h:∃x,x<3/\w x≠.fin
  ·obtain ⟨x,d,g⟩:=h;exact p x d g
  ·have c:∀x,x<3->w x=.fin:=λx d=>Classical.byContradiction λq=>h ⟨x,d,q⟩;rcases I.closeC l with ⟨f,_⟩ | ⟨_,_,e⟩ | ⟨_,t,u,e⟩
   ·exact ⟨_,.hear (j:=0) U s (by rw [I.clo,f])⟩
   ·exact ⟨_,.shut (i:=k0+4) U e⟩
   ·rw [c 0 U,c 1 U,c 2 U] at u;simp [WS.finN] at u
 ·exact ⟨_,.hire (i:=0) U e⟩
 ·exact ⟨_,.hire (i:=0) U e⟩
end
end Go.Ns
namespace Go.Ns
section
variable {M:Type} {N:HD M} {i j x y c c':Nat} {si sj ch nx:Ck M}
theorem Lj(h1:y≠N.n)(h2:y≠i):(N.hire i ch nx).s y=N.s y:=by show (if y=N.n then _ else if y=i then _ else _)=_;rw [aX h1,aX h2]
theorem P6:(N.hire i ch nx).s N.n=ch:=aY rfl
theorem XW(h:i≠N.n):(N.hire i ch nx).s i=nx:=by show (if i=N.n then _ else if i=i then _ else _)=_;rw [aX h,aY rfl]
theorem MR(h1:x≠N.n)(h2:y≠N.n)(k:N.kn x y):(N.hire i ch nx).kn x y:=by show if y=N.n then False else if x=N.n then _ else _;rw [aX h2,aX h1];exact k
theorem Z3(h2:y≠N.n)(k:N.ck c y):(N.hire i ch nx).ck c y:=by show if y=N.n then False else _;rw [aX h2];exact k
theorem HZ(h1:y≠i)(h2:y≠j):(N.meet i j si sj).s y=N.s y:=by show (if y=i then _ else if y=j then _ else _)=_;rw [aX h1,aX h2]
theorem XX:(N.meet i j si sj).s i=si:=aY rfl
theorem XY(h:j≠i):(N.meet i j si sj).s j=sj:=by show (if j=i then _ else if j=j then _ else _)=_;rw [aX h,aY rfl]
theorem FN(k:N.kn x y):(N.meet i j si sj).kn x y:=by
 show if x=i\/x=j then _ else _
 split
 ·rename_i h;rcases h with rfl | rfl
  ·exact .inl k
  ·exact .inr (.inl k)
 ·exact k
theorem meet_knj(k:N.kn i y):(N.meet i j si sj).kn j y:=by show if j=i\/j=j then _ else _;rw [aY (.inr rfl)];exact .inl k
theorem meet_done(h:si.isDone):(N.meet i j si sj).kn j i:=by show if j=i\/j=j then _ else _;rw [aY (.inr rfl)];exact .inr (.inr (.inl ⟨rfl,h⟩))
theorem Ip(h:y≠i):(N.shut i c nx).s y=N.s y:=aX h
theorem XZ:(N.shut i c nx).s i=nx:=aY rfl
theorem UV:(N.shut i c nx).cl c=true:=aY rfl
theorem KB(h:c'≠c):(N.shut i c nx).cl c'=N.cl c':=aX h
theorem Z4(k:N.kn i y):(N.shut i c nx).ck c y:=by show if c=c then _ else _;rw [aY rfl];exact .inl k
theorem NN(h:nx.isDone):(N.shut i c nx).ck c i:=by show if c=c then _ else _;rw [aY rfl];exact .inr ⟨rfl,h⟩
theorem shut_ck'(h:c'≠c)(k:N.ck c' y):(N.shut i c nx).ck c' y:=by show if c'=c then _ else _;rw [aX h];exact k
theorem NO(h:y≠j):(N.hear j c nx).s y=N.s y:=aX h
theorem hear_j:(N.hear j c nx).s j=nx:=aY rfl
theorem MS(k:N.kn x y):(N.hear j c nx).kn x y:=by
 show if x=j then _ else _
 split
 ·rename_i h;subst h;exact .inl k
 ·exact k
theorem PB(k:N.ck c y):(N.hear j c nx).kn j y:=by show if j=j then _ else _;rw [aY rfl];exact .inr k
end
section
variable {cj co cd n:Nat} {ok:Nat->Bool} {k0 a:Nat} {c5:Bool} {k:Nat} {bj bo:Bool} {w:Nat->WS} {R:List Nat} {N:HD Dw}
theorem left_hold{f k:Nat}:(WS.hold f k).left=4:=rfl
theorem P7{v:WS}{x:Nat}(h:v.finN=(w x).finN)(y:Nat):(LD w x v y).finN=(w y).finN:=by
 by_cases e:y=x
 ·subst e;rw [Be];exact h
 ·rw [BA e]
theorem Di.hire1(I:Di cj co cd n ok k0 a false k bj bo w R N)(h3:a<3):Di cj co cd n ok k0 (a+1) false k bj bo w R (N.hire 0 (Fj cj co cd ok (n+1)) (IG cj co cd n ok (3-(a+1)))):=by
 have i:N.n=k0+1+a:=by simpa using I.nn
 have l:=I.pos;obtain ⟨b,c⟩:=I.nofin rfl;refine ⟨l,by show N.n+1=_;simp;omega,h3,λe=>(by cases e),?_,λj d f=>⟨?_,?_⟩,?_,I.hk,I.bjk,I.clj,I.clo,I.cld,λx g=>?_,λx g=>I.out x U,I.wait,I.hold,I.over,λe=>(by cases e),λ_=>⟨b,c⟩,I.allfin,I.nd,I.mem,I.uniq,I.full,λe=>Z3 U (I.ckj e),λx g h=>?_,λx _ h=>absurd h (b x),λe=>by rw [c] at e;cases e⟩
 ·rw [XW U];rfl
 ·rw [Lj U U];exact (I.old j d f).1
 ·exact MR U U (I.old j d f).2
 ·rw [Lj U U];exact I.feed
 ·by_cases e:x=a
  ·subst e;rw [<-i,P6,I.out x (Nat.le_refl _)];rfl
  ·rw [Lj U U];exact I.work x U
 ·have e:x≠a:=λe=>by subst e;rw [I.out x (Nat.le_refl _)] at h;rcases h with h | h <;> cases h
  exact MR U U (I.knw x U h)
theorem Di.hire2(I:Di cj co cd n ok k0 3 false k bj bo w R N):Di cj co cd n ok k0 3 true k bj bo w R (N.hire 0 (EO co cd 3) (Fk co ok (n+1) (List.range n))):=by
 have i:N.n=k0+4:=by have:=I.nn;simp at this;omega
 have l:=I.pos;obtain ⟨b,d⟩:=I.nofin rfl;refine ⟨l,by show N.n+1=_;simp;omega,I.ha,λ_=>rfl,?_,λj f g=>⟨?_,?_⟩,?_,I.hk,I.bjk,I.clj,I.clo,I.cld,λx c=>?_,I.out,I.wait,I.hold,I.over,λ_=>?_,λe=>(by cases e),I.allfin,I.nd,I.mem,I.uniq,λe=>(by cases e),λe=>Z3 U (I.ckj e),λx c h=>?_,λx _ h=>absurd h (b x),λe=>by rw [d] at e;cases e⟩
 ·rw [XW U,I.full rfl];unfold UU;rw [List.length_range];rfl
 ·rw [Lj U U];exact (I.old j f g).1
 ·exact MR U U (I.old j f g).2
 ·rw [Lj U U];exact I.feed
 ·rw [Lj U U];exact I.work x c
 ·rw [<-i,P6,d,WS.finN_zero (b 0),WS.finN_zero (b 1),WS.finN_zero (b 2)];rfl
 ·exact MR U U (I.knw x c h)
theorem Di.job(I:Di cj co cd n ok k0 a c5 k false bo w R N)(hkn:k<n){x f:Nat}(hx:x<a)(hw:w x=.wait (f+1)) :
  Di cj co cd n ok k0 a c5 (k+1) false bo (LD w x (.hold f k)) R (N.meet k0 (k0+1+x) (Hc cj (n-(k+1)) (k+1)) (.send co (.res k (ok k)) (Fj cj co cd ok (f+1)))):=by
 have o:=I.pos;have ha:=I.ha;have s:=I.wait x _ hw;have F:=P7 (w:=w) (x:=x) (v:=.hold f k) (by rw [hw];rfl);have p:∀{y:Nat}{v:WS},w y=v->v≠.wait (f+1)->y≠x:=λh b e=>b (by rw [<-h,e,hw]);refine ⟨o,I.nn,ha,I.h5,?_,λj c b=>⟨?_,FN (I.old j c b).2⟩,?_,hkn,λe=>(by cases e),I.clj,I.clo,I.cld,λy d=>?_,λy d=>?_,λy m h=>?_,λy m i h=>?_,λy h=>?_,λe=>?_,λe=>⟨λy=>?_,(I.nofin e).2⟩,λe=>?_,I.nd,λi=>?_,λy z m r i c b=>?_,I.full,λe=>(by cases e),λy d h=>?_,λy d h=>?_,I.cko⟩
 ·rw [HZ U U];exact I.main
 ·rw [HZ U U];exact (I.old j c b).1
 ·rw [XX];rfl
 ·by_cases e:y=x
  ·subst e;rw [XY U,Be];rfl
  ·rw [HZ U U,BA e];exact I.work y d
 ·rw [BA U];exact I.out y d
 ·by_cases e:y=x
  ·subst e;rw [Be] at h;cases h
  ·rw [BA e] at h;have:=I.wait y m h;omega
 ·by_cases e:y=x
  ·subst e;rw [Be] at h;cases h;exact ⟨U,U⟩
  ·rw [BA e] at h;have:=I.hold y m i h;omega
 ·by_cases e:y=x
  ·subst e;rw [Be] at h;rcases h with h | h <;> cases h
  ·rw [BA e] at h;exact I.over y h
 ·have h5:=I.h5 e;rw [HZ U U,F,F,F];exact I.closer e
 ·by_cases g:y=x
  ·subst g;rw [Be];intro q;cases q
  ·rw [BA g];exact (I.nofin e).1 y
 ·have:=I.allfin e x U;rw [hw] at this;cases this
 ·rw [I.mem i];constructor
  ·rintro (⟨c,b⟩ | ⟨y,m,h⟩)
   ·by_cases e:i=k
    ·subst e;exact .inr ⟨x,f,Be⟩
    ·exact .inl ⟨U,b⟩
   ·exact .inr ⟨y,m,by rw [BA (p h (by intro q;cases q))];exact h⟩
  ·rintro (⟨c,b⟩ | ⟨y,m,h⟩)
   ·exact .inl ⟨U,b⟩
   ·by_cases e:y=x
    ·subst e;rw [Be] at h;cases h;exact .inl ⟨Nat.le_refl _,hkn⟩
    ·rw [BA e] at h;exact .inr ⟨y,m,h⟩
 ·by_cases l:y=x
  ·by_cases g:z=x
   ·rw [l,g]
   ·subst l;rw [Be] at c;cases c;rw [BA g] at b;have:=(I.hold z _ _ b).2;omega
  ·rw [BA l] at c;by_cases g:z=x
   ·subst g;rw [Be] at b;cases b;have:=(I.hold y _ _ c).2;omega
   ·rw [BA g] at b;exact I.uniq y z m r i c b
 ·by_cases e:y=x
  ·subst e;rw [Be] at h;rcases h with h | h <;> cases h
  ·rw [BA e] at h;exact FN (I.knw y d h)
 ·by_cases e:y=x
  ·subst e;rw [Be] at h;cases h
  ·rw [BA e] at h;exact ⟨FN (I.knc y d h).1,FN (I.knc y d h).2⟩
theorem Di.res(I:Di cj co cd n ok k0 a true k bj bo w R N){x f j:Nat}(hx:x<a)(hw:w x=.hold f j) :
  j ∈ R/\Di cj co cd n ok k0 a true k bj bo (LD w x (.wait f)) (R.erase j) (N.meet (k0+1+x) 0 (Fj cj co cd ok (f+1)) (Fk co ok R.length (R.erase j))):=by
 have q:=I.pos;have ha:=I.h5 rfl;have l:j ∈ R:=(I.mem j).2 (.inr ⟨x,f,hw⟩);have u:=List.length_erase_of_mem l;have r:=List.length_pos_of_mem l;have s:=I.hold x _ _ hw;have F:=P7 (w:=w) (x:=x) (v:=.wait f) (by rw [hw];rfl);refine ⟨l,q,I.nn,I.ha,I.h5,?_,λy c d=>⟨?_,FN (I.old y c d).2⟩,?_,I.hk,I.bjk,I.clj,I.clo,I.cld,λy b=>?_,λy b=>?_,λy m h=>?_,λy m i h=>?_,λy h=>?_,λe=>?_,λe=>(by cases e),λe=>?_,I.nd.erase j,λi=>?_,λy z m t i c d=>?_,λe=>(by cases e),I.ckj,λy b h=>?_,λy b h=>?_,I.cko⟩
 ·rw [XY U];unfold UU;rw [aY rfl,show (R.erase j).length+1=R.length by omega]
 ·rw [HZ U U];exact (I.old y c d).1
 ·rw [HZ U U];exact I.feed
 ·by_cases e:y=x
  ·subst e;rw [XX,Be];rfl
  ·rw [HZ U U,BA e];exact I.work y b
 ·rw [BA U];exact I.out y b
 ·by_cases e:y=x
  ·subst e;rw [Be] at h;cases h;exact s.1
  ·rw [BA e] at h;exact I.wait y m h
 ·by_cases e:y=x
  ·subst e;rw [Be] at h;cases h
  ·rw [BA e] at h;exact I.hold y m i h
 ·by_cases e:y=x
  ·subst e;rw [Be] at h;rcases h with h | h <;> cases h
  ·rw [BA e] at h;exact I.over y h
 ·rw [HZ U U,F,F,F];exact I.closer e
 ·have:=I.allfin e x U;rw [hw] at this;cases this
 ·rw [List.Nodup.mem_erase_iff I.nd,I.mem i];constructor
  ·rintro ⟨o,h | ⟨y,m,h⟩⟩
   ·exact .inl h
   ·refine .inr ⟨y,m,?_⟩;rw [BA (λe=>by subst e;rw [hw] at h;cases h;exact o rfl)];exact h
  ·rintro (h | ⟨y,m,h⟩)
   ·exact ⟨λe=>by subst e;omega,.inl h⟩
   ·by_cases e:y=x
    ·subst e;rw [Be] at h;cases h
    ·rw [BA e] at h;exact ⟨λg=>by subst g;exact e (I.uniq y x m f i h hw),.inr ⟨y,m,h⟩⟩
 ·by_cases p:y=x
  ·subst p;rw [Be] at c;cases c
  ·by_cases g:z=x
   ·subst g;rw [Be] at d;cases d
   ·rw [BA p] at c;rw [BA g] at d;exact I.uniq y z m t i c d
 ·by_cases e:y=x
  ·subst e;rw [Be] at h;rcases h with h | h <;> cases h
  ·rw [BA e] at h;exact FN (I.knw y b h)
 ·by_cases e:y=x
  ·subst e;rw [Be] at h;cases h
  ·rw [BA e] at h;exact ⟨FN (I.knc y b h).1,FN (I.knc y b h).2⟩
theorem Di.tick(I:Di cj co cd n ok k0 a true k bj false w R N){x t:Nat}(hx:x<a)(hw:w x=.tick)(ht:3-((w 0).finN+(w 1).finN+(w 2).finN)=t+1) :
  Di cj co cd n ok k0 a true k bj false (LD w x .fin) R (N.meet (k0+1+x) (k0+4) .done (EO co cd t)):=by
 have l:=I.pos;have ha:=I.h5 rfl;have o:=I.over x (.inl hw);refine ⟨l,I.nn,I.ha,I.h5,?_,λy c d=>⟨?_,FN (I.old y c d).2⟩,?_,I.hk,I.bjk,I.clj,I.clo,I.cld,λy b=>?_,λy b=>?_,λy m h=>?_,λy m i h=>?_,λy h=>o,λe=>?_,λe=>(by cases e),λe=>(by cases e),I.nd,λi=>?_,λy z m p i c d=>?_,λe=>(by cases e),I.ckj,λy b h=>?_,λy b h=>?_,I.cko⟩
 ·rw [HZ U U];exact I.main
 ·rw [HZ U U];exact (I.old y c d).1
 ·rw [HZ U U];exact I.feed
 ·by_cases e:y=x
  ·subst e;rw [XX,Be];rfl
  ·rw [HZ U U,BA e];exact I.work y b
 ·rw [BA U];exact I.out y b
 ·by_cases e:y=x
  ·subst e;rw [Be] at h;cases h
  ·rw [BA e] at h;exact I.wait y m h
 ·by_cases e:y=x
  ·subst e;rw [Be] at h;cases h
  ·rw [BA e] at h;exact I.hold y m i h
 ·rw [XY U];have g:(w x).finN=0:=by rw [hw];rfl
  have f:(LD w x .fin 0).finN+(LD w x .fin 1).finN+(LD w x .fin 2).finN=(w 0).finN+(w 1).finN+(w 2).finN+1:=by
   obtain rfl | rfl | rfl:x=0\/x=1\/x=2:=U
   ·rw [Be,BA U,BA U,g];simp only [WS.finN];omega
   ·rw [Be,BA U,BA U,g];simp only [WS.finN];omega
   ·rw [Be,BA U,BA U,g];simp only [WS.finN]
  rw [f,show 3-((w 0).finN+(w 1).finN+(w 2).finN+1)=t by omega];rfl
 ·rw [I.mem i];refine or_congr Iff.rfl ⟨?_,?_⟩
  ·rintro ⟨y,m,h⟩;exact ⟨y,m,by rw [BA (λe=>by subst e;rw [hw] at h;cases h)];exact h⟩
  ·rintro ⟨y,m,h⟩;by_cases e:y=x
   ·subst e;rw [Be] at h;cases h
   ·rw [BA e] at h;exact ⟨y,m,h⟩
 ·by_cases f:y=x
  ·subst f;rw [Be] at c;cases c
  ·by_cases j:z=x
   ·subst j;rw [Be] at d;cases d
   ·rw [BA f] at c;rw [BA j] at d;exact I.uniq y z m p i c d
 ·by_cases e:y=x
  ·subst e;exact FN (I.knw y b (.inl hw))
  ·rw [BA e] at h;exact FN (I.knw y b h)
 ·by_cases e:y=x
  ·subst e;exact ⟨meet_done trivial,meet_knj (I.knw y b (.inl hw))⟩
  ·rw [BA e] at h;exact ⟨FN (I.knc y b h).1,FN (I.knc y b h).2⟩
theorem Di.fed(I:Di cj co cd n ok k0 a c5 n false bo w R N)(d1:cj≠co)(d2:cj≠cd):Di cj co cd n ok k0 a c5 n true bo w R (N.shut k0 cj .done):=by
 have g:=I.pos;have ha:=I.ha;have b:∀x,¬(w x=.tick\/w x=.fin):=λx h=>by have:=I.over x h;cases this
 refine ⟨g,I.nn,ha,I.h5,?_,λy d f=>⟨?_,(I.old y d f).2⟩,?_,I.hk,λ_=>rfl,UV,by rw [KB d1.symm];exact I.clo,by rw [KB d2.symm];exact I.cld,λy c=>?_,I.out,I.wait,I.hold,λ_ _=>rfl,λe=>?_,I.nofin,I.allfin,I.nd,I.mem,I.uniq,I.full,λ_=>NN trivial,λy c h=>absurd h (b y),λy c h=>absurd (.inr h) (b y),λe=>absurd (.inr (I.allfin e 0 U)) (b 0)⟩
 ·rw [Ip U];exact I.main
 ·rw [Ip U];exact (I.old y d f).1
 ·rw [XZ];rfl
 ·rw [Ip U];exact I.work y c
 ·rw [Ip U];exact I.closer e
theorem Di.shut(I:Di cj co cd n ok k0 a true k bj false w R N)(d1:cj≠co)(d3:co≠cd)(h3:3<=(w 0).finN+(w 1).finN+(w 2).finN):Di cj co cd n ok k0 a true k bj true w R (N.shut (k0+4) co .done):=by
 have g:=I.pos;have ha:=I.h5 rfl;have i:=(w 0).finN_le;have c:=(w 1).finN_le;have d:=(w 2).finN_le;have b:∀x,x<3->w x=.fin:=λx f=>by
  obtain rfl | rfl | rfl:x=0\/x=1\/x=2:=U
  all_goals exact WS.finN_one U
 refine ⟨g,I.nn,I.ha,I.h5,?_,λy c d=>⟨?_,(I.old y c d).2⟩,?_,I.hk,I.bjk,by rw [KB d1];exact I.clj,UV,by rw [KB d3.symm];exact I.cld,λy h=>?_,I.out,I.wait,I.hold,I.over,λ_=>?_,λe=>(by cases e),λ_=>b,I.nd,I.mem,I.uniq,λe=>(by cases e),λe=>shut_ck' d1 (I.ckj e),I.knw,I.knc,λ_=>⟨NN trivial,Z4 (I.knc 0 U (b 0 U)).2,λx f=>Z4 (I.knc x U (b x f)).1⟩⟩
 ·rw [Ip U];exact I.main
 ·rw [Ip U];exact (I.old y c d).1
 ·rw [Ip U];exact I.feed
 ·rw [Ip U];exact I.work y h
 ·rw [XZ];rfl
theorem Di.hears(I:Di cj co cd n ok k0 a c5 k true bo w R N){x m:Nat}(hx:x<a)(hw:w x=.wait m):Di cj co cd n ok k0 a c5 k true bo (LD w x .tick) R (N.hear (k0+1+x) cj (.send cd .tick .done)):=by
 have j:=I.pos;have ha:=I.ha;have F:=P7 (w:=w) (x:=x) (v:=.tick) (by rw [hw];rfl);refine ⟨j,I.nn,ha,I.h5,?_,λy c d=>⟨?_,MS (I.old y c d).2⟩,?_,I.hk,I.bjk,I.clj,I.clo,I.cld,λy b=>?_,λy b=>?_,λy m h=>?_,λy m i h=>?_,λy h=>rfl,λe=>?_,λe=>⟨λy=>?_,(I.nofin e).2⟩,λe=>?_,I.nd,λi=>?_,λy z m l i c d=>?_,I.full,I.ckj,λy b h=>?_,λy b h=>?_,I.cko⟩
 ·rw [NO U];exact I.main
 ·rw [NO U];exact (I.old y c d).1
 ·rw [NO U];exact I.feed
 ·by_cases e:y=x
  ·subst e;rw [hear_j,Be];rfl
  ·rw [NO U,BA e];exact I.work y b
 ·rw [BA U];exact I.out y b
 ·by_cases e:y=x
  ·subst e;rw [Be] at h;cases h
  ·rw [BA e] at h;exact I.wait y m h
 ·by_cases e:y=x
  ·subst e;rw [Be] at h;cases h
  ·rw [BA e] at h;exact I.hold y m i h
 ·have h5:=I.h5 e;rw [NO U,F,F,F];exact I.closer e
 ·by_cases f:y=x
  ·subst f;rw [Be];intro q;cases q
  ·rw [BA f];exact (I.nofin e).1 y
 ·have:=I.allfin e x U;rw [hw] at this;cases this
 ·rw [I.mem i];refine or_congr Iff.rfl ⟨?_,?_⟩
  ·rintro ⟨y,m,h⟩;exact ⟨y,m,by rw [BA (λe=>by subst e;rw [hw] at h;cases h)];exact h⟩
  ·rintro ⟨y,m,h⟩;by_cases e:y=x
   ·subst e;rw [Be] at h;cases h
   ·rw [BA e] at h;exact ⟨y,m,h⟩
 ·by_cases g:y=x
  ·subst g;rw [Be] at c;cases c
  ·by_cases f:z=x
   ·subst f;rw [Be] at d;cases d
   ·rw [BA g] at c;rw [BA f] at d;exact I.uniq y z m l i c d
 ·by_cases e:y=x
  ·subst e;exact PB (I.ckj rfl)
  ·rw [BA e] at h;exact MS (I.knw y b h)
 ·by_cases e:y=x
  ·subst e;rw [Be] at h;cases h
  ·rw [BA e] at h;exact ⟨MS (I.knc y b h).1,MS (I.knc y b h).2⟩
theorem Di.ends(I:Di cj co cd n ok k0 a true k bj true w R N){aM:Nat->Prop}{W:List Nat->Ck Dw}:Fe aM (N.hear 0 co (IY ok R W none)):=by
 have u:=I.pos;have v:=I.h5 rfl;have b:=I.allfin rfl;have d:=I.over 0 (.inr (b 0 U));have z:=I.bjk d;have l:R=[]:=List.eq_nil_iff_forall_not_mem.2 λi o=>by
  rcases (I.mem i).1 o with h | ⟨y,m,h⟩
  ·omega
  ·by_cases e:y<3
   ·rw [b y e] at h;cases h
   ·rw [I.out y U] at h;cases h
 have p:(N.hear 0 co (IY ok R W none)).n=N.n:=rfl;refine .stop aM _ (by rw [p,I.nn];omega) (by rw [hear_j,l];rfl) λj A c=>?_;rw [NO U];obtain ⟨q,r,s⟩:=I.cko rfl;rcases I.cases c with rfl | ⟨f,g⟩ | rfl | ⟨x,t,rfl⟩ | ⟨B,rfl⟩
 ·omega
 ·exact ⟨(I.old j f g).1,MS (I.old j f g).2⟩
 ·refine ⟨?_,PB r⟩;rw [I.feed,d];rfl
 ·refine ⟨?_,PB (s x U)⟩;rw [I.work x t,b x U];rfl
 ·refine ⟨?_,PB q⟩;rw [I.closer rfl];rfl
theorem pool_on{aM:Nat->Prop}(d1:cj≠co)(d2:cj≠cd)(d3:co≠cd)(u1:aM cj)(u2:aM co)(u3:aM cd):∀(q a:Nat)(c5:Bool)(k:Nat)(bj bo:Bool)(w:Nat->WS)(R:List Nat)(N:HD Dw),MQ n a c5 k bj bo w=q->Di cj co cd n ok k0 a c5 k bj bo w R N->Fe aM N:=by
 intro q
 induction q using Nat.strongRecOn with
 | ind q g=>
  intro a c5 k bj bo w R N h I;have H:=I.pos;have ha:=I.ha;have u:∀{x:Nat}{v:WS}(_:x<3)(_:v.left<(w x).left),(LD w x v 0).left+(LD w x v 1).left+(LD w x v 2).left<(w 0).left+(w 1).left+(w 2).left:=by
   intro x v l K;obtain rfl | rfl | rfl:x=0\/x=1\/x=2:=U
   all_goals rw [Be,BA U,BA U];omega
  refine .plain N (by rw [I.nn];omega) I.goes (λi d=>I.fine u1 u2 u3 d) (λN' C=>?_) (λi f d=>I.noMake d);cases C with
  | hire d o=>
   obtain ⟨rfl,rfl,⟨z,rfl,rfl⟩ | ⟨rfl,rfl,rfl⟩⟩:=I.spawn d o
   ·exact g _ (by rw [<-h];unfold MQ;omega) _ _ _ _ _ _ _ _ rfl (I.hire1 z)
   ·exact g _ (by rw [<-h];unfold MQ;simp) _ _ _ _ _ _ _ _ rfl I.hire2
  | shut d o=>
   rcases I.close d o with ⟨rfl,rfl,rfl,rfl,rfl⟩ | ⟨rfl,rfl,rfl,z,rfl,rfl⟩
   ·exact g _ (by rw [<-h];unfold MQ;simp) _ _ _ _ _ _ _ _ rfl (I.fed d1 d2)
   ·exact g _ (by rw [<-h];unfold MQ;simp) _ _ _ _ _ _ _ _ rfl (I.shut d1 d3 z)
  | hear r o b=>
   rcases I.recv r o with ⟨rfl,rfl,rfl,rfl⟩ | ⟨x,l,rfl,m,c,rfl,rfl⟩ | ⟨rfl,rfl,rfl,t,s,rfl,rfl⟩
   ·rw [I.clo] at b;subst b;exact I.ends
   ·rw [I.clj] at b;subst b
    have:=u (x:=x) (v:=.tick) U (by rw [c];simp [WS.left])
    exact g _ (by rw [<-h];unfold MQ;omega) _ _ _ _ _ _ _ _ rfl (I.hears l c)
   ·rw [I.cld] at b;cases b
  | meet d r D o p=>
   rcases I.send d o with ⟨rfl,rfl,E,rfl,rfl,rfl⟩ | ⟨x,l,rfl,f,j,c,rfl,rfl,rfl⟩ | ⟨x,l,rfl,c,rfl,rfl,rfl⟩
   ·rcases I.recv r p with ⟨rfl,rfl,e,rfl⟩ | ⟨x,l,rfl,m,c,_,rfl⟩ | ⟨rfl,rfl,_,t,s,e,rfl⟩
    ·exact absurd e d1
    ·obtain ⟨f,rfl⟩:∃f,m=f+1:=⟨m-1,by have:=I.wait x m c;omega⟩;have M:(LD w x (.hold f k) 0).left+(LD w x (.hold f k) 1).left+(LD w x (.hold f k) 2).left<=(w 0).left+(w 1).left+(w 2).left+1:=by
      have O:(w x).left=3:=by rw [c];rfl
      obtain rfl | rfl | rfl:x=0\/x=1\/x=2:=U
      all_goals rw [Be,BA U,BA U];simp only [left_hold];omega
     exact g _ (by rw [<-h];unfold MQ;omega) _ _ _ _ _ _ _ _ rfl (I.job E l c)
    ·exact absurd e d2
   ·rcases I.recv r p with ⟨rfl,rfl,_,rfl⟩ | ⟨y,F,rfl,m,A,e,rfl⟩ | ⟨rfl,rfl,_,t,s,e,rfl⟩
    ·obtain ⟨B,I'⟩:=I.res l c
     have:=u (x:=x) (v:=.wait f) U (by rw [c];simp [WS.left])
     show Fe aM (N.meet _ 0 _ (if j ∈ R/\ok j=ok j then _ else _));rw [aY ⟨B,rfl⟩];exact g _ (by rw [<-h];unfold MQ;omega) _ _ _ _ _ _ _ _ rfl I'
    ·exact absurd e.symm d1
    ·exact absurd e d3
   ·rcases I.recv r p with ⟨rfl,rfl,e,rfl⟩ | ⟨y,F,rfl,m,A,e,rfl⟩ | ⟨rfl,rfl,rfl,t,s,_,rfl⟩
    ·exact absurd e.symm d3
    ·exact absurd e.symm d2
    ·have:=u (x:=x) (v:=.fin) U (by rw [c];simp [WS.left])
     exact g _ (by rw [<-h];unfold MQ;omega) _ _ _ _ _ _ _ _ rfl (I.tick l c s)
theorem Xa{M:Type}{N:HD M}{i y c:Nat}{nx:Ck M}(h:y≠i):(N.mk' i c nx).s y=N.s y:=aX h
theorem mk_i{M:Type}{N:HD M}{i c:Nat}{nx:Ck M}:(N.mk' i c nx).s i=nx:=aY rfl
theorem mk_cl{M:Type}{N:HD M}{i c:Nat}{nx:Ck M}:(N.mk' i c nx).cl c=false:=aY rfl
theorem mk_cl'{M:Type}{N:HD M}{i c c':Nat}{nx:Ck M}(h:c'≠c):(N.mk' i c nx).cl c'=N.cl c':=aX h
structure Xb(cj co n:Nat)(ok:Nat->Bool)(k0:Nat)(bj:Bool)(N:HD Dw):Prop where
 pos:0<k0
 nn:N.n=k0+1
 main:N.s 0=.make λcd=>IG cj co cd n ok 3
 old:∀j,0<j->j<k0->N.s j=.done/\N.kn 0 j
 feed:N.s k0=if bj then .done else Hc cj n 0
 bjk:bj=true->0=n/\N.ck cj k0
 clj:N.cl cj=bj
 clo:N.cl co=false
theorem Xb.cases{i:Nat}(I:Xb cj co n ok k0 bj N)(hi:i<N.n):i=0\/(0<i/\i<k0)\/i=k0:=by have:=I.nn;omega
theorem Xb.feedC(I:Xb cj co n ok k0 bj N):N.s k0=.done\/(bj=false/\n=0/\N.s k0=.close cj .done)\/(bj=false/\∃m,N.s k0=.send cj (.job 0) m):=by
 have h:=I.feed;cases b:bj with
 | true=>rw [b] at h;exact .inl h
 | false=>
  rw [b] at h;cases c:n with
  | zero=>rw [c] at h;exact .inr (.inl ⟨rfl,rfl,h⟩)
  | succ m=>rw [c] at h;exact .inr (.inr ⟨rfl,_,h⟩)
theorem Xb.good(d1:cj≠co):∀(q:Nat)(bj:Bool)(N:HD Dw),(if bj then 0 else 1)=q->Xb cj co n ok k0 bj N->Fe (λx=>(False\/x=co)\/x=cj) N:=by
 intro q
 induction q using Nat.strongRecOn with
 | ind q A=>
 intro bj N B I;have v:=I.pos;have C:=I.nn;refine .step _ N U (.inr ⟨0,_,U,I.main⟩) (λi l=>?_) (λN' D=>?_) (λi f cd l b t=>?_)
 ·rcases I.cases l with rfl | ⟨d,g⟩ | rfl
  ·rw [I.main];trivial
  ·rw [(I.old i d g).1];show i≠0;omega
  ·rcases I.feedC with e | ⟨o,_,e⟩ | ⟨o,m,e⟩ <;> rw [e]
   ·show _≠0;omega
   ·exact ⟨.inr rfl,by rw [I.clj,o]⟩
   ·exact ⟨.inr rfl,by rw [I.clj,o]⟩
 ·have z:∀j c f,j<N.n->N.s j≠.recv c f:=by
   intro j c f p b;rcases I.cases p with rfl | ⟨d,g⟩ | rfl
   ·rw [I.main] at b;cases b
   ·rw [(I.old j d g).1] at b;cases b
   ·rcases I.feedC with e | ⟨_,_,e⟩ | ⟨_,m,e⟩ <;> rw [e] at b <;> cases b
  cases D with
  | hire l b=>
   rcases I.cases l with rfl | ⟨d,g⟩ | rfl
   ·rw [I.main] at b;cases b
   ·rw [(I.old _ d g).1] at b;cases b
   ·rcases I.feedC with e | ⟨_,_,e⟩ | ⟨_,m,e⟩ <;> rw [e] at b <;> cases b
  | meet _ p _ _ u=>exact absurd u (z _ _ _ p)
  | hear p b _=>exact absurd b (z _ _ _ p)
  | shut l b=>
   rcases I.cases l with rfl | ⟨d,g⟩ | rfl
   ·rw [I.main] at b;cases b
   ·rw [(I.old _ d g).1] at b;cases b
   ·rcases I.feedC with e | ⟨o,E,e⟩ | ⟨_,m,e⟩
    ·rw [e] at b;cases b
    ·rw [e] at b;cases b;refine A 0 (by rw [<-B,o];simp) true _ rfl ⟨v,C,?_,λj d g=>⟨?_,(I.old j d g).2⟩,?_,λ_=>⟨E.symm,NN trivial⟩,UV,by rw [KB d1.symm];exact I.clo⟩
     ·rw [Ip U];exact I.main
     ·rw [Ip U];exact (I.old j d g).1
     ·rw [XZ];rfl
    ·rw [e] at b;cases b
 ·rcases I.cases l with rfl | ⟨d,g⟩ | rfl
  ·rw [I.main] at b;cases b;refine pool_on d1 (λe=>t (.inr e.symm)) (λe=>t (.inl (.inr e.symm))) (.inl (.inr rfl)) (.inl (.inl (.inr rfl))) (.inr rfl) _ 0 false 0 bj false (λ_=>.wait n) (List.range n) _ rfl
    ⟨v,by show N.n=_;simp;omega,U,λe=>(by cases e),by rw [mk_i];rfl,λj d g=>⟨by rw [Xa U];exact (I.old j d g).1,(I.old j d g).2⟩,by rw [Xa U];exact I.feed,Nat.zero_le _,λe=>(I.bjk e).1,?_,?_,mk_cl,
     λx r=>absurd r U,λ_ _=>rfl,λx m h=>by cases h;omega,λx m i h=>(by cases h),λx h=>(by rcases h with h | h <;> cases h),λe=>(by cases e),λ_=>⟨λx h=>(by cases h),rfl⟩,λe=>(by cases e),List.nodup_range,λi=>?_,λx y m F i h=>(by cases h),λ_=>rfl,λe=>(I.bjk e).2,
     λx r=>absurd r U,λx r=>absurd r U,λe=>(by cases e)⟩
   ·rw [mk_cl' (λe=>t (.inr e.symm))];exact I.clj
   ·rw [mk_cl' (λe=>t (.inl (.inr e.symm)))];exact I.clo
   ·rw [List.mem_range];constructor
    ·exact λh=>.inl ⟨Nat.zero_le _,h⟩
    ·rintro (h | ⟨x,m,h⟩)
     ·exact h.2
     ·cases h
  ·rw [(I.old _ d g).1] at b;cases b
  ·rcases I.feedC with e | ⟨_,_,e⟩ | ⟨_,m,e⟩ <;> rw [e] at b <;> cases b
theorem pool_good{N:HD Dw}(aN:XV (poolS n ok) N):Fe (λ_=>False) N:=by
 obtain ⟨p,u,o⟩:=aN;have t:∀{N:HD Dw}{z:Ck Dw},N.s 0=z->(∀j,0<j->j<N.n->N.s j=.done/\N.kn 0 j)->∀i,i<N.n->(i=0/\N.s i=z)\/(i≠0/\N.s i=.done):=by
  intro N z l m i d;rcases Nat.eq_zero_or_pos i with rfl | hp
  ·exact .inl ⟨rfl,l⟩
  ·exact .inr ⟨U,(m i hp d).1⟩
 have made:∀{v:Nat->Prop}{N:HD Dw}{f:Nat->Ck Dw},0<N.n->N.s 0=.make f->(∀j,0<j->j<N.n->N.s j=.done/\N.kn 0 j)->
   (∀c,¬v c->Fe (λx=>v x\/x=c) (N.mk' 0 c (f c)))->Fe v N:=by
  intro v N f p u o B;have q:=t u o;refine .step _ N p (.inr ⟨0,f,p,u⟩) (λi d=>?_) (λN' A=>?_) (λi g c d b y=>?_)
  ·rcases q i d with ⟨rfl,e⟩ | ⟨h,e⟩ <;> rw [e]
   ·trivial
   ·exact h
  ·cases A with
   | hire d b=>rcases q _ d with ⟨rfl,e⟩ | ⟨h,e⟩ <;> rw [e] at b <;> cases b
   | meet d _ _ b _=>rcases q _ d with ⟨rfl,e⟩ | ⟨h,e⟩ <;> rw [e] at b <;> cases b
   | shut d b=>rcases q _ d with ⟨rfl,e⟩ | ⟨h,e⟩ <;> rw [e] at b <;> cases b
   | hear d b _=>rcases q _ d with ⟨rfl,e⟩ | ⟨h,e⟩ <;> rw [e] at b <;> cases b
  ·rcases q i d with ⟨rfl,e⟩ | ⟨h,e⟩
   ·rw [e] at b;cases b;exact B c y
   ·rw [e] at b;cases b
 refine made p u o λco _=>made p mk_i (λj l m=>⟨by rw [Xa U];exact (o j l m).1,(o j l m).2⟩) λcj y=>?_;have r:=t (N:=(N.mk' 0 co (.make λcj=>.spawn (Hc cj n 0) (.make λcd=>IG cj co cd n ok 3))).mk' 0 cj (.spawn (Hc cj n 0) (.make λcd=>IG cj co cd n ok 3))) mk_i
  (λj l m=>⟨by rw [Xa U,Xa U];exact (o j l m).1,(o j l m).2⟩)
 refine .plain _ p ⟨_,.hire p mk_i⟩ (λi d=>?_) (λN' A=>?_) (λi f d b=>?_)
 ·rcases r i d with ⟨rfl,e⟩ | ⟨h,e⟩ <;> rw [e]
  ·trivial
  ·exact h
 ·cases A with
  | meet d _ _ b _=>rcases r _ d with ⟨rfl,e⟩ | ⟨h,e⟩ <;> rw [e] at b <;> cases b
  | shut d b=>rcases r _ d with ⟨rfl,e⟩ | ⟨h,e⟩ <;> rw [e] at b <;> cases b
  | hear d b _=>rcases r _ d with ⟨rfl,e⟩ | ⟨h,e⟩ <;> rw [e] at b <;> cases b
  | hire d b=>
   rcases r _ d with ⟨rfl,e⟩ | ⟨h,e⟩
   ·rw [e] at b;cases b;refine Xb.good (k0:=N.n) (n:=n) (ok:=ok) (λe=>y (.inr e)) _ false _ rfl ⟨p,rfl,?_,λj l m=>⟨?_,?_⟩,?_,λe=>(by cases e),aY rfl,?_⟩
    ·rw [XW (λe=>by have:0=N.n:=e;omega)]
    ·rw [Lj (λe=>by have:j=N.n:=e;omega) U,Xa U,Xa U];exact (o j l m).1
    ·exact MR (λe=>by have:0=N.n:=e;omega) (λe=>by have:j=N.n:=e;omega) (o j l m).2
    ·exact P6
    ·show (if co=cj then false else if co=co then false else N.cl co)=false;rw [aX (λe=>y (.inr e.symm)),aY rfl]
   ·rw [e] at b;cases b
 ·rcases r i d with ⟨rfl,e⟩ | ⟨h,e⟩ <;> rw [e] at b <;> cases b
end
end Go.Ns
namespace Go.Ns
def E0(s:bB):Array aZ:=#[.string s]
structure AF where
 a:Int
 b:Int
 low:Int
 high:Int
structure AM where
 place:Int
 low:Int
 high:Int
 due:Int
 pv:aZ
 parts:List Int
structure AL where
 wv:aZ
 ways:List Int
 low:Int
 high:Int
def DP(x:AF):Array aZ:=#[.int .i64 x.a,.int .i64 x.b,.int .i64 x.low,.int .i64 x.high]
def DC(x:AM):Array aZ:=#[.int .i64 x.place,.int .i64 x.low,.int .i64 x.high,.int .i64 x.due,x.pv]
def CL(x:AL):Array aZ:=#[x.wv,.int .i64 x.low,.int .i64 x.high]
def AF.z:AF:=⟨0,0,0,0⟩
def AM.z:AM:=⟨0,0,0,0,.slice none 0 0,[]⟩
def AL.z:AL:=⟨.slice none 0 0,[],0,0⟩
def CV(h:Y)(js:List AM):Prop:=∀k,AG h (js.getD k AM.z).pv 1 eI (js.getD k AM.z).parts
def Au(h:Y)(ns:List AL):Prop:=∀k,AG h (ns.getD k AL.z).wv 1 eI (ns.getD k AL.z).ways
theorem CV.le{h h':Y}{js:List AM}(x:CV h js)(l:h.Le h'):CV h' js:=λk=>(x k).le l
theorem Au.le{h h':Y}{ns:List AL}(x:Au h ns)(l:h.Le h'):Au h' ns:=λk=>(x k).le l
theorem Au.nil(h:Y):Au h []:=λk=>by simpa [AL.z] using AG.nil h 1 eI
def LO(l h top many:Int):Prop:=((0<=l/\l<=h)/\h<=top)/\h-l<many
instance (l h top many:Int):Decidable (LO l h top many):=inferInstanceAs (Decidable (_/\_))
def G4(aS aR:Int):Int:=if¬(0<=aS/\aS<=9)\/¬(0<=aR/\aR<=3) then 1 else 0
def FO(ps:List bB)(k:Nat):Int:=if E4 (ps.getD k ⟨#[]⟩)=false then 4 else if (ps.take k).any (λx=>(ps.getD k ⟨#[]⟩).toList==x.toList) then 5 else 0
def BQ(ps:List bB):Int:=if¬(1<=(ps.length:Int)/\(ps.length:Int)<=4) then 2 else Cv (FO ps) 0 ps.length
def Eu(np:Nat)(l:List Int)(k:Nat):Int:=if¬(0<=l.getD k 0/\l.getD k 0<=(np:Int)-1) then 6 else 0
def BH(np:Nat)(l:List Int):Int:=Cv (Eu np l) 0 l.length
def DD(np:Nat)(ws:List AF)(k:Nat):Int:=
 if¬BH np [(ws.getD k AF.z).a,(ws.getD k AF.z).b]=0 then BH np [(ws.getD k AF.z).a,(ws.getD k AF.z).b]
 else if (ws.getD k AF.z).b<=(ws.getD k AF.z).a then 7
 else if (ws.take k).any (λy=>decide (y.a=(ws.getD k AF.z).a/\y.b=(ws.getD k AF.z).b)) then 5
 else if¬LO (ws.getD k AF.z).low (ws.getD k AF.z).high 30 2 then 1 else 0
abbrev Gl:=Nat->Bool
def GQ(c:Gl):Array aZ:=#[.bool (c 0),.bool (c 1),.bool (c 2),.bool (c 3)]
def Gl.none:Gl:=λ_=>false
def Gl.set(c:Gl)(i:Nat)(b:Bool):Gl:=λk=>if k=i then b else c k
theorem KC{c:Gl}{i:Nat}(h:i<4):(GQ c)[0+i*1]? =some (.bool (c i)):=by
 match i,h with
 | 0,_=>rfl
 | 1,_=>rfl
 | 2,_=>rfl
 | 3,_=>rfl
theorem P8{c:Gl}{i:Nat}{b:Bool}(h:i<4):BU (GQ c) (0+i*1) [.bool b]=GQ (c.set i b):=by
 match i,h with
 | 0,_=>rfl
 | 1,_=>rfl
 | 2,_=>rfl
 | 3,_=>rfl
def GR(c:Gl)(x:AF):Gl:=(c.set x.a.toNat (c x.a.toNat || c x.b.toNat)).set x.b.toNat ((c.set x.a.toNat (c x.a.toNat || c x.b.toNat)) x.b.toNat || (c.set x.a.toNat (c x.a.toNat || c x.b.toNat)) x.a.toNat)
def HG(ws:List AF)(c:Gl):Gl:=ws.foldl GR c
def EY(ws:List AF):Nat->Gl->Gl
 | 0,c=>c
 | n+1,c=>EY ws n (HG ws c)
def Ox(c:Gl)(n:Nat):List Bool:=(List.range n).map c
def GS(np:Nat)(ws:List AF):Int:=if (Ox (EY ws np (Gl.none.set 0 true)) np).any (λx=>(false==x)) then 8 else 0
def E5(np:Nat)(ws:List AF):Int:=if (5:Int)<ws.length then 2 else if¬Cv (DD np ws) 0 ws.length=0 then Cv (DD np ws) 0 ws.length else GS np ws
def F7(np:Nat)(aR:Int)(js:List AM)(k:Nat):Int:=
 if¬BH np [(js.getD k AM.z).place]=0 then BH np [(js.getD k AM.z).place]
 else if¬LO (js.getD k AM.z).low (js.getD k AM.z).high 30 2\/¬(0<=(js.getD k AM.z).due/\(js.getD k AM.z).due<=200) then 1
 else if¬((js.getD k AM.z).parts.length:Int)=aR then 2
 else if (js.getD k AM.z).parts.any (λn=>decide (¬(0<=n/\n<=5))) then 1 else 0
def B1(np:Nat)(aR:Int)(js:List AM):Int:=if (4:Int)<js.length then 2 else Cv (F7 np aR js) 0 js.length
def EI(nw:Nat)(ns:List AL)(k:Nat):Int:=
 if (5:Int)<(ns.getD k AL.z).ways.length then 2
 else if (ns.getD k AL.z).ways.any (λn=>decide (¬(0<=n/\n<=(nw:Int)-1))) then 6
 else if¬LO (ns.getD k AL.z).low (ns.getD k AL.z).high 200 201 then 1 else 0
def Ca(nw:Nat)(ns:List AL):Int:=if (4:Int)<ns.length then 2 else Cv (EI nw ns) 0 ns.length
def JR(aS aR:Int)(ps:List bB)(ws:List AF)(js:List AM)(ns:List AL):Nat->Int
 | 0=>G4 aS aR
 | 1=>BQ ps
 | 2=>E5 ps.length ws
 | 3=>B1 ps.length aR js
 | _=>Ca ws.length ns
def BW(aS aR:Int)(ps:List bB)(ws:List AF)(js:List AM)(ns:List AL):Int:=Cv (JR aS aR ps ws js ns) 0 5
theorem Fl{np:Nat}:∀{l:List Int},BH np l=0->∀x ∈ l,0<=x/\x<=(np:Int)-1:=by
 intro l h x b;obtain ⟨k,c,rfl⟩:=List.mem_iff_getElem.1 b;have a:=DX h k (Nat.zero_le _) U;unfold Eu at a;rw [Dy 0 c] at a;by_cases e:0<=l[k]/\l[k]<=(np:Int)-1
 ·exact e
 ·rw [aY e] at a;cases a
structure WayOK(np:Nat)(x:AF):Prop where
 a:0<=x.a/\x.a<=(np:Int)-1
 b:0<=x.b/\x.b<=(np:Int)-1
 lt:x.a<x.b
 time:0<=x.low/\x.low<=x.high/\x.high<=30/\x.high-x.low<2
theorem wayAt_ok'{np:Nat}{ws:List AF}{k:Nat}(h:DD np ws k=0):WayOK np (ws.getD k AF.z):=by
 unfold DD at h;split at h
 ·rename_i e;exact absurd h e
 ·rename_i e
  have b:=Decidable.not_not.1 e;have c:=Fl b _ (List.mem_cons_self);have d:=Fl b _ (List.mem_cons_of_mem _ List.mem_cons_self);split at h
  ·cases h
  ·split at h
   ·cases h
   ·split at h
    ·cases h
    ·rename_i f
     have a:=Decidable.not_not.1 f;unfold LO at a;exact ⟨c,d,U,U⟩
theorem P9{np:Nat}{ws:List AF}(h:∀k,k<ws.length->DD np ws k=0)(k:Nat)(hk:k<ws.length):WayOK np (ws.getD k AF.z):=wayAt_ok' (h k hk)
theorem Z5{np:Nat}{ws:List AF}(h:∀k,k<ws.length->DD np ws k=0)(hnp:np<=4)(k:Nat):0<=(ws.getD k AF.z).a/\(ws.getD k AF.z).a<4/\0<=(ws.getD k AF.z).b/\(ws.getD k AF.z).b<4:=by
 rcases Nat.lt_or_ge k ws.length with hk | hk
 ·have x:=P9 h k hk;have c:=x.a;have d:=x.b;omega
 ·rw [Bl hk];exact ⟨Int.le_refl _,aC,Int.le_refl _,aC⟩
theorem Hm{np:Nat}{ws:List AF}{k:Nat}{c:Int}(h5:¬(5:Int)<ws.length)(hs:∀j,j<k->DD np ws j=0)(hk:k<ws.length)(e:DD np ws k=c)(hc:c≠0):E5 np ws=c:=by
 have a:=BN hs hk e hc;rw [E5,aX h5,a,aY hc]
theorem UW{np:Nat}{ws:List AF}{k:Nat}(h5:¬(5:Int)<ws.length)(hs:∀j,j<k->DD np ws j=0)(hk:ws.length<=k):E5 np ws=GS np ws:=by
 rw [E5,aX h5,CG hs hk,aX aD]
theorem QA{ps:List bB}(h:BQ ps=0):ps.length<=4:=by
 unfold BQ at h;split at h
 ·cases h
 ·rename_i e;have:=Decidable.not_not.1 e;omega
theorem UX{np:Nat}{l:List Int}{k:Nat}(h:∀j,j<k->Eu np l j=0)(hk:k<l.length)(e:¬(0<=l.getD k 0/\l.getD k 0<=(np:Int)-1)):BH np l=6:=
 BN h hk (by unfold Eu;rw [aY e]) aC
theorem Vc{np:Nat}{l:List Int}{k:Nat}(h:∀j,j<k->Eu np l j=0)(hk:l.length<=k):BH np l=0:=CG h hk
structure BL(aS aR:Int)(ps:List bB)(ws:List AF)(js:List AM)(ns:List AL):Prop where
 hbag:0<=aS/\aS<=9
 hkin:0<=aR/\aR<=3
 plen:1<=ps.length/\ps.length<=4
 place:∀k,k<ps.length->FO ps k=0
 wlen:ws.length<=5
 way:∀k,k<ws.length->DD ps.length ws k=0
 led:GS ps.length ws=0
 jlen:js.length<=4
 job:∀k,k<js.length->F7 ps.length aR js k=0
 nlen:ns.length<=4
 note:∀k,k<ns.length->EI ws.length ns k=0
theorem Cn{aS aR:Int}{ps:List bB}{ws:List AF}{js:List AM}{ns:List AL}(h:BW aS aR ps ws js ns=0):BL aS aR ps ws js ns:=by
 have b:=DX h;have f:G4 aS aR=0:=b 0 U U;have c:BQ ps=0:=b 1 U U;have a:E5 ps.length ws=0:=b 2 U U;have d:B1 ps.length aR js=0:=b 3 U U;have e:Ca ws.length ns=0:=b 4 U U;unfold G4 at f;unfold BQ at c;unfold E5 at a;unfold B1 at d;unfold Ca at e;split at f
 ·cases f
 rename_i p
 split at c
 ·cases c
 rename_i q
 split at a
 ·cases a
 rename_i r
 split at a
 ·rename_i g;exact absurd a g
 rename_i g
 split at d
 ·cases d
 rename_i s
 split at e
 ·cases e
 rename_i t
 have j:(0<=aS/\aS<=9)/\(0<=aR/\aR<=3):=U
 have l:=DX c;have m:=DX (Decidable.not_not.1 g);have n:=DX d;have o:=DX e;exact ⟨j.1,j.2,U,λk i=>l k (Nat.zero_le _) U,U,λk i=>m k (Nat.zero_le _) U,a,U,λk i=>n k (Nat.zero_le _) U,U,λk i=>o k (Nat.zero_le _) U⟩
structure JobOK(np:Nat)(aR:Int)(x:AM):Prop where
 place:0<=x.place/\x.place<=(np:Int)-1
 time:0<=x.low/\x.low<=x.high/\x.high<=30/\x.high-x.low<2
 due:0<=x.due/\x.due<=200
 len:(x.parts.length:Int)=aR
 part:∀q,0<=x.parts.getD q 0/\x.parts.getD q 0<=5
theorem QB{np:Nat}{aR:Int}{js:List AM}{k:Nat}(h:F7 np aR js k=0):JobOK np aR (js.getD k AM.z):=by
 unfold F7 at h;split at h
 ·rename_i e;exact absurd h e
 rename_i e
 have a:=Fl (Decidable.not_not.1 e) _ (List.mem_cons_self);split at h
 ·cases h
 rename_i b
 split at h
 ·cases h
 rename_i c
 split at h
 ·cases h
 rename_i d
 unfold LO at b;refine ⟨a,U,U,Decidable.not_not.1 c,λq=>?_⟩;rcases Nat.lt_or_ge q (js.getD k AM.z).parts.length with hq | hq
 ·have f:¬∃x ∈ (js.getD k AM.z).parts,¬(0<=x/\x<=5):=by simpa [List.any_eq_true] using d
  exact Classical.byContradiction λz=>f ⟨_,BV hq,z⟩
 ·rw [Bl hq];decide
end Go.Ns
namespace Go.Ns
open Go.Conc
section
variable {P:Program} {E:Gb P} {O:Nat->aZ} {ds:List Deferred} {h:Y} {T:(Nat->aZ)->List Deferred->Y->Prop} {dst:Option Nat} {ty:bA} {pos:String} {af:Array Edge} {gd:Option (Nat×Bool)}
theorem ok_eqlB{xt yt:bA}{x y:Operand}{a b:Bool}(hx:AN O x=.bool a)(hy:AN O y=.bool b)(he:Pd P 1 xt (.bool a) (.bool b)=some (a==b))(k:T (putS O dst (.bool (a==b))) ds h):BR E ⟨dst,.binOp .eql xt x y yt,ty,pos,af,gd⟩ O ds h T:=by
 unfold BR execOp;simp only [hx,hy];refine Fg (AE _ _ ?_);have c:∀(Q:Unit->Y->Prop),Q () h->(eqGuard .eql xt x y (.bool a) (.bool b)).gh P h Q:=λQ q=>q;refine c _ ?_;show Sem.gh P (do pure (Value.bool (<-Op.equal xt (.bool a) (.bool b))):Sem aZ) h _;refine AE _ _ ?_;exact JM 1 _ _ _ _ (a==b) h _ aC he k
theorem LP{t:bA}{x o:Operand}{m n b off hi:Nat}(ht:J2 P t=some (m,n))(hx:AN O x=.pointer (some ⟨b,off,none⟩))(ho:∃kd,AN O o=.int kd hi)(h2:hi<=m)(k:T (putS O dst (.slice (some ⟨b,off,none⟩) hi m)) ds h) :
  BR E ⟨dst,.slice t x none (some o) none,ty,pos,af,gd⟩ O ds h T:=by
 obtain ⟨kd,e⟩:=ho;unfold BR execOp;simp only [hx];refine Fg ?_;unfold J2 at ht;unfold Instr.sliceAt;cases a:P.underlying t with
 | none=>rw [a] at ht;cases ht
 | some d=>
  rw [a] at ht;cases d <;> first | (cases ht;done) | skip
  rename_i f
  simp only [Option.map_eq_some_iff,Prod.mk.injEq] at ht;obtain ⟨g,c,rfl,rfl⟩:=ht;refine AE _ _ (Ai a ?_);dsimp only;refine AE _ _ (Ak ?_);unfold Instr.sliceBounds;simp only [Option.map_some,Option.map_none,e,Bool.false_eq_true,↓reduceIte];refine AE _ _ (AE _ _ (Ak (AE _ _ (DS U U (AE _ _ (Ak (Ak ?_)))))));refine AE _ _ (Dq c (Ak ?_));simp only [Nat.sub_zero,Nat.zero_mul,Il,Nat.add_zero,ite_self,Int.toNat_natCast];exact k
end
def eBo(b:Bool):Array aZ:=#[.bool b]
theorem can_sl{h:Y}{r n:Nat}{p:Bool}{c:Gl}{t:bA}{f:Nat×Nat}(hb:h r=some (p,.cells (GQ c) t f))(hn:n<=4):AG h (.slice (some ⟨r,0,none⟩) n 4) 1 eBo (Ox c n):=by
 refine ⟨some ⟨r,0,none⟩,4,by simp [Ox],by simpa [Ox] using hn,by simp [Ox];omega,λi a=>⟨r,0,rfl,p,_,t,f,hb,?_,?_⟩⟩
 ·have:i<n:=by simpa [Ox] using a
  show 0+i*1+1<=4;omega
 ·have b:i<n:=by simpa [Ox] using a
  have d:i<4:=U
  have e:(Ox c n)[i]=c i:=by simp [Ox]
  rw [e]
  match i,d with
  | 0,_=>rfl
  | 1,_=>rfl
  | 2,_=>rfl
  | 3,_=>rfl
theorem QC{ws:List AF}{c c':Gl}{np k:Nat}(h:EY ws (np-k) c=c')(hk:np<=k):c=c':=by
 rw [Nat.sub_eq_zero_of_le hk] at h;exact h
theorem Vd{ws:List AF}{c c':Gl}{np k:Nat}(h:EY ws (np-k) c=c')(hk:k<np):EY ws (np-(k+1)) (HG ws c)=c':=by
 rw [show np-k=(np-(k+1))+1 by omega] at h;exact h
def BF(ws:List AF)(c:Gl)(k:Nat):Gl:=(ws.take k).foldl GR c
theorem Xc{ws:List AF}{c:Gl}{k:Nat}(hk:k<ws.length):BF ws c (k+1)=GR (BF ws c k) (ws.getD k AF.z):=by
 unfold BF;rw [Em AF.z hk,List.foldl_append];rfl
theorem canTo_all{ws:List AF}{c:Gl}{k:Nat}(hk:ws.length<=k):BF ws c k=HG ws c:=by
 unfold BF HG;rw [List.take_of_length_le hk]
structure AI where
 ways:Nat->Int
 works:Nat->Int
def AI.zero:AI:=⟨λ_=>0,λ_=>0⟩
def Ac(p:AI):Array aZ:=#[.int .i64 (p.ways 0),.int .i64 (p.ways 1),.int .i64 (p.ways 2),.int .i64 (p.ways 3),.int .i64 (p.ways 4),
 .int .i64 (p.works 0),.int .i64 (p.works 1),.int .i64 (p.works 2),.int .i64 (p.works 3)]
theorem F8(p:AI):(Value.agg (Ac p)).cells.size=9:=rfl
theorem F9(p:AI):Value.fine (.agg (Ac p))=true:=rfl
theorem Gm(p:AI):0+9<=(Ac p).size:=Nat.le_refl 9
theorem Gn(p q:AI):BU (Ac p) 0 (Value.agg (Ac q)).cells.toList=Ac q:=by
 simp [Value.cells,Ac,BU]
def AI.setWay(p:AI)(i:Nat)(n:Int):AI:={ p with ways:=λk=>if k=i then n else p.ways k }
def AI.setWork(p:AI)(i:Nat)(n:Int):AI:={ p with works:=λk=>if k=i then n else p.works k }
theorem Gp{p:AI}{i:Nat}(h:i<5):(Ac p)[0+i*1]? =some (.int .i64 (p.ways i)):=by
 match i,h with
 | 0,_=>rfl
 | 1,_=>rfl
 | 2,_=>rfl
 | 3,_=>rfl
 | 4,_=>rfl
theorem KD{p:AI}{i:Nat}(h:i<4):(Ac p)[5+i*1]? =some (.int .i64 (p.works i)):=by
 match i,h with
 | 0,_=>rfl
 | 1,_=>rfl
 | 2,_=>rfl
 | 3,_=>rfl
theorem SE{p:AI}{i:Nat}{n:Int}(h:i<5):BU (Ac p) (0+i*1) [.int .i64 n]=Ac (p.setWay i n):=by
 match i,h with
 | 0,_=>rfl
 | 1,_=>rfl
 | 2,_=>rfl
 | 3,_=>rfl
 | 4,_=>rfl
theorem QD{p:AI}{i:Nat}{n:Int}(h:i<4):BU (Ac p) (5+i*1) [.int .i64 n]=Ac (p.setWork i n):=by
 match i,h with
 | 0,_=>rfl
 | 1,_=>rfl
 | 2,_=>rfl
 | 3,_=>rfl
def AI.put(p:AI)(nw i:Nat)(n:Int):AI:=if i<nw then p.setWay i n else p.setWork (i-nw) n
theorem AI.put_put(p:AI)(nw i:Nat)(n m:Int):(p.put nw i n).put nw i m=p.put nw i m:=by
 unfold AI.put;split
 ·unfold AI.setWay;congr 1;funext k;simp only [];split <;> rfl
 ·unfold AI.setWork;congr 1;funext k;simp only [];split <;> rfl
def Fu(p:AI)(l:List Int):Int:=(l.map λk=>p.ways k.toNat).sum
def Cg(ns:List AL)(p:AI):Bool:=ns.all λx=>decide (x.low<=Fu p x.ways/\Fu p x.ways<=x.high)
structure BX(p:AI):Prop where
 ways:∀k,0<=p.ways k/\p.ways k<=30
 works:∀k,0<=p.works k/\p.works k<=30
def PC(ns:List AL)(p:AI)(k:Nat):Bool:=decide ((ns.getD k AL.z).low<=Fu p (ns.getD k AL.z).ways/\Fu p (ns.getD k AL.z).ways<=(ns.getD k AL.z).high)
theorem UY{p:AI}{l:List Int}{q:Nat}(h:q<l.length):Fu p (l.take (q+1))=Fu p (l.take q)+p.ways (l.getD q 0).toNat:=by
 unfold Fu;rw [Em 0 h];simp
theorem OG{p:AI}{l:List Int}{q:Nat}(h:l.length<=q):Fu p (l.take q)=Fu p l:=by rw [List.take_of_length_le h]
theorem Ve{p:AI}{ns:List AL}{k q:Nat}{s:Int}(hs:s=Fu p ((ns.getD k AL.z).ways.take q))(hq:(ns.getD k AL.z).ways.length<=q)(h:(ns.getD k AL.z).low<=s/\s<=(ns.getD k AL.z).high):PC ns p k=true:=by
 rw [OG hq] at hs;subst hs;exact decide_eq_true h
theorem Xd{p:AI}{ns:List AL}{k:Nat}(h:∀j,j<k->PC ns p j=true)(hk:ns.length<=k):Cg ns p=true:=by
 unfold Cg;rw [List.all_eq_true];intro x a;obtain ⟨i,b,rfl⟩:=List.mem_iff_getElem.1 a
 have:=h i U
 unfold PC at this;rw [Dy AL.z b] at this;exact this
theorem notedB_no{p:AI}{ns:List AL}{k q:Nat}{s:Int}(hk:k<ns.length)(hs:s=Fu p ((ns.getD k AL.z).ways.take q))(hq:(ns.getD k AL.z).ways.length<=q)(h:¬((ns.getD k AL.z).low<=s/\s<=(ns.getD k AL.z).high)):Cg ns p=false:=by
 rw [OG hq] at hs;subst hs;rw [Dy AL.z hk] at h;unfold Cg;rw [List.all_eq_false];exact ⟨ns[k],List.getElem_mem hk,by simpa using h⟩
theorem QE{f:Nat->Bool}{k:Nat}(h:∀j,j<k->f j=true)(e:f k=true):∀j,j<k+1->f j=true:=λj a=>by
 rcases Nat.lt_succ_iff_lt_or_eq.1 a with q | rfl
 ·exact h j q
 ·exact e
theorem QF{nw:Nat}{ns:List AL}(h:∀k,k<ns.length->EI nw ns k=0)(k:Nat):(ns.getD k AL.z).ways.length<=5/\(∀q,0<=(ns.getD k AL.z).ways.getD q 0/\((ns.getD k AL.z).ways.getD q 0=0\/(ns.getD k AL.z).ways.getD q 0<=(nw:Int)-1)):=by
 rcases Nat.lt_or_ge k ns.length with hk | hk
 ·have e:=h k hk;unfold EI at e;split at e
  ·cases e
  ·split at e
   ·cases e
   ·rename_i d b
    refine ⟨U,λq=>?_⟩;rcases Nat.lt_or_ge q (ns.getD k AL.z).ways.length with hq | hq
    ·have c:¬∃x ∈ (ns.getD k AL.z).ways,¬(0<=x/\x<=(nw:Int)-1):=by simpa [List.any_eq_true] using b
     have a:0<=(ns.getD k AL.z).ways.getD q 0/\(ns.getD k AL.z).ways.getD q 0<=(nw:Int)-1:=Classical.byContradiction λz=>c ⟨_,BV hq,z⟩;exact ⟨a.1,.inr a.2⟩
    ·rw [Bl hq];exact ⟨Int.le_refl _,.inl rfl⟩
 ·rw [Bl hk];refine ⟨by simp [AL.z],λq=>?_⟩;simp [AL.z]
def CQ(ws:List AF)(js:List AM)(i:Nat):Int:=if i<ws.length then (ws.getD i AF.z).low else (js.getD (i-ws.length) AM.z).low
def HH(ws:List AF)(js:List AM)(i:Nat):Int:=if i<ws.length then (ws.getD i AF.z).high else (js.getD (i-ws.length) AM.z).high
def Cm(ag:AI->Bool)(ws:List AF)(js:List AM):Nat->Nat->AI->List AI
 | 0,_,p=>[p]
 | f+1,i,p=>(I2 (CQ ws js i) (HH ws js i)).flatMap λn=>if i+1=ws.length/\ag (p.put ws.length i n)=false then [] else Cm ag ws js f (i+1) (p.put ws.length i n)
def CO(ag:AI->Bool)(ws:List AF)(js:List AM)(f i:Nat)(p:AI)(n:Int):List AI:=
 if i+1=ws.length/\ag (p.put ws.length i n)=false then [] else Cm ag ws js f (i+1) (p.put ws.length i n)
theorem G5(ag:AI->Bool)(ws:List AF)(js:List AM)(f i:Nat)(p:AI) :
  Cm ag ws js (f+1) i p=(I2 (CQ ws js i) (HH ws js i)).flatMap (CO ag ws js f i p):=rfl
def AD(ws:List AF)(js:List AM)(ns:List AL):List AI:=
 if 0<ws.length\/Cg ns AI.zero=true then Cm (Cg ns) ws js (ws.length+js.length) 0 AI.zero else []
def Hd(nw i:Nat):Nat:=if i<nw then 0+i*1 else 5+(i-nw)*1
theorem tCell_way{nw i:Nat}(h:i<nw):Hd nw i=0+i*1:=aY h
theorem Xe{nw i:Nat}(h:¬i<nw):Hd nw i=5+(i-nw)*1:=aX h
theorem Kq{p:AI}{nw nj i:Nat}{v:Int}(hw:nw<=5)(hj:nj<=4)(hi:i<nw+nj):(Ac (p.put nw i v))[Hd nw i]? =some (.int .i64 v):=by
 unfold AI.put Hd;split
 ·rw [Gp U];simp [AI.setWay]
 ·rw [KD U];simp [AI.setWork]
theorem GT{p:AI}{nw nj i:Nat}{v:Int}(hw:nw<=5)(hj:nj<=4)(hi:i<nw+nj):BU (Ac p) (Hd nw i) [.int .i64 v]=Ac (p.put nw i v):=by
 unfold AI.put Hd;split
 ·exact SE U
 ·exact QD U
theorem KE{nw nj i:Nat}(hw:nw<=5)(hj:nj<=4)(hi:i<nw+nj):Hd nw i+1<=9:=by unfold Hd;split <;> omega
def AI.zeros(p:AI)(nw i:Nat):Prop:=(∀k,i<=k->k<nw->p.ways k=0)/\∀k,i<=nw+k->p.works k=0
theorem AI.zeros_put{p:AI}{nw i:Nat}(h:p.zeros nw i):p.put nw i 0=p:=by
 obtain ⟨b,c⟩:=p;unfold AI.put AI.setWay AI.setWork;split
 ·rename_i a
  congr 1;funext k;split
  ·rename_i e;subst e;exact (h.1 k (Nat.le_refl _) a).symm
  ·rfl
 ·rename_i a
  congr 1;funext k;split
  ·rename_i e;subst e;exact (h.2 (i-nw) U).symm
  ·rfl
theorem AI.zeros_next{p:AI}{nw i:Nat}{v:Int}(h:p.zeros nw i):(p.put nw i v).zeros nw (i+1):=by
 unfold AI.put;split
 ·refine ⟨λk a b=>?_,λk a=>h.2 k U⟩;show (if k=i then v else p.ways k)=0;rw [aX U];exact h.1 k U b
 ·refine ⟨λk a b=>h.1 k U b,λk a=>?_⟩;show (if k=i-nw then v else p.works k)=0;rw [aX U];exact h.2 k U
theorem AI.zeros_zero(nw i:Nat):AI.zero.zeros nw i:=⟨λ_ _ _=>rfl,λ_ _=>rfl⟩
theorem BX.zero:BX AI.zero:=⟨λ_=>(aC:(0:Int)<=0/\(0:Int)<=30),λ_=>(aC:(0:Int)<=0/\(0:Int)<=30)⟩
theorem BX.put{p:AI}(h:BX p){nw i:Nat}{v:Int}(hv:0<=v/\v<=30):BX (p.put nw i v):=by
 unfold AI.put;split
 ·refine ⟨λk=>?_,h.works⟩;show 0<=(if k=i then v else p.ways k)/\(if k=i then v else p.ways k)<=30;split
  ·exact hv
  ·exact h.ways k
 ·refine ⟨h.ways,λk=>?_⟩;show 0<=(if k=i-nw then v else p.works k)/\(if k=i-nw then v else p.works k)<=30;split
  ·exact hv
  ·exact h.works k
section
variable {aS aR:Int} {ps:List bB} {ws:List AF} {js:List AM} {ns:List AL} {ag:AI->Bool} {p:AI} {all pre:List AI} {f i k:Nat}
theorem BL.few(b:BL aS aR ps ws js ns)(hi:i<ws.length+js.length):0<=CQ ws js i/\CQ ws js i<=HH ws js i/\HH ws js i<=30/\HH ws js i-CQ ws js i<2:=by
 unfold CQ HH;by_cases h:i<ws.length
 ·rw [aY h,aY h];exact (P9 b.way i h).time
 ·rw [aX h,aX h];exact (QB (b.job (i-ws.length) U)).time
theorem tour_skip(e:i+1=ws.length)(h:ag (p.put ws.length i (CQ ws js i+(k:Int)))=false) :
  pre++(Cf (CQ ws js i) (k+1)).flatMap (CO ag ws js f i p)=pre++(Cf (CQ ws js i) k).flatMap (CO ag ws js f i p):=by
 rw [OA];unfold CO;rw [aY ⟨e,h⟩,List.append_nil]
theorem Sw(h:¬(i+1=ws.length/\ag (p.put ws.length i (CQ ws js i+(k:Int)))=false)) :
  pre++(Cf (CQ ws js i) (k+1)).flatMap (CO ag ws js f i p)=(pre++(Cf (CQ ws js i) k).flatMap (CO ag ws js f i p))++Cm ag ws js f (i+1) (p.put ws.length i (CQ ws js i+(k:Int))):=by
 rw [OA,<-List.append_assoc];congr 1;unfold CO;rw [aX h]
theorem OH(hw:Bw all pre (Cm ag ws js (f+1) i p))(hk:CQ ws js i+(k:Int)<=HH ws js i)(h:¬(i+1=ws.length/\ag (p.put ws.length i (CQ ws js i+(k:Int)))=false)) :
  Bw all (pre++(Cf (CQ ws js i) k).flatMap (CO ag ws js f i p)) (Cm ag ws js f (i+1) (p.put ws.length i (CQ ws js i+(k:Int)))):=by
 rw [G5] at hw
 have:=hw.round hk
 unfold CO at this ⊢;rw [aX h] at this;exact this
end
theorem Xf{lo hi:Int}(h:hi-lo<2):(I2 lo hi).length<=2:=by unfold I2 Cf;simp;omega
theorem MT{aS aR:Int}{ps:List bB}{ws:List AF}{js:List AM}{ns:List AL}(b:BL aS aR ps ws js ns)(ag:AI->Bool):∀(f i:Nat)(p:AI),i+f=ws.length+js.length->(Cm ag ws js f i p).length<=2 ^ f
 | 0,_,_,_=>Nat.le_refl _
 | f+1,i,p,h=>by
  rw [G5];have a:=(b.few (i:=i) U).2.2.2;have d:=VS (f:=CO ag ws js f i p) (c:=2 ^ f) (l:=I2 (CQ ws js i) (HH ws js i)) λx _=>by
   unfold CO;split
   ·exact Nat.zero_le _
   ·exact MT b ag f (i+1) _ U
  have e:=Nat.mul_le_mul_right (2 ^ f) (Xf a);rw [Nat.pow_succ];omega
theorem GA{aS aR:Int}{ps:List bB}{ws:List AF}{js:List AM}{ns:List AL}(b:BL aS aR ps ws js ns):(AD ws js ns).length<=2000000:=by
 unfold AD;split
 ·have a:=MT b (Cg ns) (ws.length+js.length) 0 AI.zero U;have c:2 ^ (ws.length+js.length)<=2 ^ 9:=Nat.pow_le_pow_right U (by have:=b.wlen;have:=b.jlen;omega);omega
 ·exact Nat.zero_le _
def NP(aS aR:Int)(ps:List bB)(ws:List AF)(js:List AM)(ns:List AL):Int:=if BW aS aR ps ws js ns=0 then ((AD ws js ns).length:Int) else 0
section
variable {aS aR:Int} {ps:List bB} {ws:List AF} {js:List AM} {ns:List AL}
theorem tHist_bad(h:¬BW aS aR ps ws js ns=0):(.tuple #[.int .i64 0,.int .i64 (BW aS aR ps ws js ns)]:aZ)=.tuple #[.int .i64 (NP aS aR ps ws js ns),.int .i64 (BW aS aR ps ws js ns)]:=by
 unfold NP;rw [aX h]
theorem tHist_ok(h:¬¬BW aS aR ps ws js ns=0):(.tuple #[.int .i64 ((AD ws js ns).length:Int),.int .i64 0]:aZ)=.tuple #[.int .i64 (NP aS aR ps ws js ns),.int .i64 (BW aS aR ps ws js ns)]:=by
 have e:=Decidable.not_not.1 h;unfold NP;rw [aY e,e]
end
section
variable {aQ:Type} {hB h hc h':Y} {I:List aQ->(Nat->Prop)->Y->Prop} {aN:Y->Prop} {rp:Nat} {T:bA} {c c':Array aZ} {X0 X:Nat->Prop} {pre l:List aQ} {v:aZ}
theorem EG.stoppedI{I':List aQ->(Nat->Prop)->Y->Prop}{pre':List aQ}(hv:v=.bool false)(r:∀l',EG hB I aN pre X0 h l' (.bool false) h'):EG hB I' aN pre' X0 h l v h':=by
 obtain ⟨g,X',e,a,b,d,_,f⟩:=r [];cases e;exact ⟨false,X',hv,a,b,d,(λx=>by cases x),f⟩
def Da(I:List aQ->(Nat->Prop)->Y->Prop)(rp:Nat)(T:bA)(c:Array aZ):List aQ->(Nat->Prop)->Y->Prop:=λpre X h=>
 ∃X',I pre X' h/\¬X' rp/\(∀b,X b↔X' b\/b=rp)/\h rp=some (true,.cells c T (0,0))
theorem Da.prom(P:Fh hB I):Fh hB (Da I rp T c):=by
 refine ⟨?_,?_⟩
 ·rintro pre X h b ⟨X',i,n,a,d⟩ e;rcases (a b).1 e with q | rfl
  ·exact P.dom _ _ _ _ i q
  ·exact ⟨_,_,d,rfl⟩
 ·rintro pre X h h' ⟨X',i,n,a,d⟩ same f;exact ⟨X',P.stable _ _ _ _ i (λb e=>same b ((a b).2 (.inl e))) f,n,a,by rw [same rp ((a rp).2 (.inr rfl))];exact d⟩
theorem Da.box(x:Da I rp T c pre X h):h rp=some (true,.cells c T (0,0)):=by obtain ⟨_,_,_,_,e⟩:=x;exact e
theorem Da.mem(x:Da I rp T c pre X h):X rp:=by obtain ⟨X',_,_,a,_⟩:=x;exact (a rp).2 (.inr rfl)
theorem D1.put(P:Fh hB I)(y:D1 hB (Da I rp T c) X0 h pre X hc)(rB:hB rp=none)(nb:h' rp=some (true,.cells c' T (0,0)))(ho:∀b,b≠rp->h' b=hc b):D1 hB (Da I rp T c') X0 h pre X h':=by
 obtain ⟨⟨X',i,n,a,d⟩,sub,keep,base⟩:=y;exact ⟨⟨X',P.store i n ho (base.upd rB ho),n,a,nb⟩,sub,keep.store' (sub rp ((a rp).2 (.inr rfl))) ho,base.upd rB ho⟩
theorem Da.call{P:Program}{W:Wk P}{yv:aZ}{args:Array aZ}(x:Da I rp T c pre X hc)(k:∀X',I pre X' hc->Bi W yv args hc (EG hB I aN pre X' hc l)):Bi W yv args hc (EG hB (Da I rp T c) aN pre X hc l):=by
 have A:=x;obtain ⟨X',i,n,a,d⟩:=x;refine (k X' i).mono λv h' r=>?_;obtain ⟨j,X1,m,f,g,s,t,u⟩:=r;have w:¬X1 rp:=λq=>(f rp q).elim n λe=>by rw [d] at e;cases e
 refine ⟨j,λb=>X1 b\/b=rp,m,?_,λb p o y z=>g b p o y λq=>z ((a b).2 (.inl q)),s,λe=>⟨X1,t e,w,λ_=>Iff.rfl,g.box d n rfl⟩,u⟩;rintro b (q | rfl)
 ·exact (f b q).imp (λq=>(a b).2 (.inl q)) id
 ·exact .inl ((a _).2 (.inr rfl))
theorem Da.start(x:I pre X hc)(hp:hc rp=some (true,.cells c T (0,0)))(n:¬X rp):Da I rp T c pre (λb=>X b\/b=rp) hc:=⟨X,x,n,λ_=>Iff.rfl,hp⟩
theorem Da.final{X0:Nat->Prop}(y:D1 hB I X0 h pre X hc)(hn:h rp=none)(r:EG hB (Da I rp T c) aN pre (λb=>X b\/b=rp) hc l v h'):EG hB I aN pre X0 h l v h':=by
 obtain ⟨t,X1,m,u,n,s,w,x⟩:=r;cases t with
 | true=>
  obtain ⟨X2,A,B,f,C⟩:=w rfl;refine ⟨true,X2,m,λb q=>?_,?_,s,λ_=>A,λe=>by cases e⟩
  ·rcases u b ((f b).2 (.inl q)) with (q1 | rfl) | q1
   ·exact y.sub b q1
   ·exact absurd q B
   ·exact subX y.sub y.keep (X1:=λz=>z=b) (λz e=>.inr (by rw [e];exact q1)) b rfl
  ·intro b p o a d;obtain ⟨g,i,e2⟩:=y.keep b p o a d;obtain ⟨j,k,e4⟩:=n b p g i (λq=>q.elim (λq=>(y.sub b q).elim d λe=>by rw [e] at a;cases a) λe=>by rw [e,hn] at a;cases a);refine ⟨j,k,?_⟩;rcases e2 with rfl | e2
   ·exact e4
   ·rcases e4 with rfl | e4
    ·exact .inr e2
    ·exact .inr ⟨e2.1,e4.2⟩
 | false=>
  refine ⟨false,λb=>X0 b\/h b=none,m,λb q=>q,?_,s,(λe=>by cases e),λ_=>x rfl⟩;intro b p o a d;obtain ⟨g,i,e2⟩:=y.keep b p o a d;obtain ⟨j,k,e4⟩:=n b p g i (λq=>q.elim (λq=>(y.sub b q).elim d λe=>by rw [e] at a;cases a) λe=>by rw [e,hn] at a;cases a);refine ⟨j,k,?_⟩;rcases e2 with rfl | e2
  ·exact e4
  ·rcases e4 with rfl | e4
   ·exact .inr e2
   ·exact .inr ⟨e2.1,e4.2⟩
end
end Go.Ns
namespace Go.Ns
open Go.Conc
abbrev EZ:=Nat->Nat->Int
def LE(m:EZ):Array aZ:=#[.int .i64 (m 0 0),.int .i64 (m 0 1),.int .i64 (m 0 2),.int .i64 (m 0 3),.int .i64 (m 1 0),.int .i64 (m 1 1),.int .i64 (m 1 2),.int .i64 (m 1 3),
 .int .i64 (m 2 0),.int .i64 (m 2 1),.int .i64 (m 2 2),.int .i64 (m 2 3),.int .i64 (m 3 0),.int .i64 (m 3 1),.int .i64 (m 3 2),.int .i64 (m 3 3)]
def EZ.zero:EZ:=λ_ _=>0
def EZ.set(m:EZ)(i k:Nat)(v:Int):EZ:=λa b=>if a=i/\b=k then v else m a b
theorem KF{m:EZ}{i k:Nat}(hi:i<4)(hk:k<4):(LE m)[0+i*4+k*1]? =some (.int .i64 (m i k)):=by
 match i,hi with
 | 0,_=>match k,hk with
  | 0,_=>rfl
  | 1,_=>rfl
  | 2,_=>rfl
  | 3,_=>rfl
 | 1,_=>match k,hk with
  | 0,_=>rfl
  | 1,_=>rfl
  | 2,_=>rfl
  | 3,_=>rfl
 | 2,_=>match k,hk with
  | 0,_=>rfl
  | 1,_=>rfl
  | 2,_=>rfl
  | 3,_=>rfl
 | 3,_=>match k,hk with
  | 0,_=>rfl
  | 1,_=>rfl
  | 2,_=>rfl
  | 3,_=>rfl
theorem MU{m:EZ}{i k:Nat}{v:Int}(hi:i<4)(hk:k<4):BU (LE m) (0+i*4+k*1) [.int .i64 v]=LE (m.set i k v):=by
 match i,hi with
 | 0,_=>match k,hk with
  | 0,_=>rfl
  | 1,_=>rfl
  | 2,_=>rfl
  | 3,_=>rfl
 | 1,_=>match k,hk with
  | 0,_=>rfl
  | 1,_=>rfl
  | 2,_=>rfl
  | 3,_=>rfl
 | 2,_=>match k,hk with
  | 0,_=>rfl
  | 1,_=>rfl
  | 2,_=>rfl
  | 3,_=>rfl
 | 3,_=>match k,hk with
  | 0,_=>rfl
  | 1,_=>rfl
  | 2,_=>rfl
  | 3,_=>rfl
def Lk(i:Nat)(m:EZ)(k:Nat):EZ:=if¬(i:Int)=(k:Int) then m.set i k 1048576 else m
def HI(i:Nat)(m:EZ)(n:Nat):EZ:=(List.range n).foldl (Lk i) m
def Iq(n:Nat):EZ:=(List.range n).foldl (λm i=>HI i m 4) EZ.zero
def KG(p:AI)(ws:List AF)(m:EZ)(k:Nat):EZ:=(m.set (ws.getD k AF.z).a.toNat (ws.getD k AF.z).b.toNat (p.ways k)).set (ws.getD k AF.z).b.toNat (ws.getD k AF.z).a.toNat (p.ways k)
def A3(p:AI)(ws:List AF)(n:Nat):EZ:=(List.range n).foldl (KG p ws) (Iq 4)
def PD(by_ i:Nat)(m:EZ)(k:Nat):EZ:=m.set i k (min (m i k) (m i by_+m by_ k))
def Hn(by_ i:Nat)(m:EZ)(n:Nat):EZ:=(List.range n).foldl (PD by_ i) m
def OI(by_ np:Nat)(m:EZ)(i:Nat):EZ:=if m i by_=1048576 then m else Hn by_ i m np
def Ev(by_ np:Nat)(m:EZ)(n:Nat):EZ:=(List.range n).foldl (OI by_ np) m
def Cb(np:Nat)(m:EZ)(n:Nat):EZ:=(List.range n).foldl (λm b=>Ev b np m np) m
def Aw(np:Nat)(ws:List AF)(p:AI):EZ:=Cb np (A3 p ws ws.length) np
theorem At{β:Type}(f:β->Nat->β)(b:β)(n:Nat):(List.range (n+1)).foldl f b=f ((List.range n).foldl f b) n:=by rw [List.range_succ,List.foldl_append];rfl
def EZ.ok(m:EZ):Prop:=∀i k,0<=m i k/\m i k<=1048576
theorem EZ.ok_set{m:EZ}(h:m.ok){i k:Nat}{v:Int}(hv:0<=v/\v<=1048576):(m.set i k v).ok:=λa b=>by
 unfold EZ.set;split
 ·exact hv
 ·exact h a b
theorem EZ.ok_zero:EZ.zero.ok:=λ_ _=>⟨Int.le_refl 0,(aC:(0:Int)<=1048576)⟩
theorem IH{β:Type}{Q:β->Prop}{f:β->Nat->β}(hf:∀b k,Q b->Q (f b k)):∀{l:List Nat}{b:β},Q b->Q (l.foldl f b)
 | [],_,h=>h
 | x ::l,b,h=>IH hf (l:=l) (hf b x h)
theorem farRow_ok{i:Nat}{m:EZ}{k:Nat}(h:m.ok):(Lk i m k).ok:=by
 unfold Lk;split
 ·exact EZ.ok_set h aC
 ·exact h
theorem far0K_ok{i:Nat}{m:EZ}{n:Nat}(h:m.ok):(HI i m n).ok:=IH (λ_ _=>farRow_ok) h
theorem Z6{n:Nat}:(Iq n).ok:=IH (λ_ _ h=>far0K_ok h) EZ.ok_zero
theorem farWay_ok{p:AI}{ws:List AF}{m:EZ}{k:Nat}(hp:BX p)(h:m.ok):(KG p ws m k).ok:=by
 have:=hp.ways k
 exact EZ.ok_set (EZ.ok_set h U) U
theorem Ll{p:AI}{ws:List AF}{n:Nat}(hp:BX p):(A3 p ws n).ok:=IH (λ_ _ h=>farWay_ok hp h) Z6
theorem Xg{b i:Nat}{m:EZ}{k:Nat}(h:m.ok):(PD b i m k).ok:=by
 have a:=h i k;have c:=h i b;have d:=h b k;exact EZ.ok_set h U
theorem Z7{b i:Nat}{m:EZ}{n:Nat}(h:m.ok):(Hn b i m n).ok:=IH (λ_ _ h=>Xg h) h
theorem farI1_ok{b np:Nat}{m:EZ}{i:Nat}(h:m.ok):(OI b np m i).ok:=by
 unfold OI;split
 ·exact h
 ·exact Z7 h
theorem PE{b np:Nat}{m:EZ}{n:Nat}(h:m.ok):(Ev b np m n).ok:=IH (λ_ _ h=>farI1_ok h) h
theorem Vf{np:Nat}{m:EZ}{n:Nat}(h:m.ok):(Cb np m n).ok:=IH (λ_ _ h=>PE h) h
theorem B6{c c':Array aZ}(h:c.size=c'.size):BU c 0 c'.toList=c':=by
 apply Array.toList_inj.1;rw [Eg _ _ _ (by simp [h])];simp [h]
theorem F3{b:Bool}(h:(!b)=true):b=false:=by cases b <;> simp_all
theorem Ew{b:Bool}(h:(!b)=false):b=true:=by cases b <;> simp_all
abbrev FP:=(Int×Int×Int×Int×Int)×Int×Int
def E6(a:FP):aZ:=.agg #[.int .i64 a.1.1,.int .i64 a.1.2.1,.int .i64 a.1.2.2.1,.int .i64 a.1.2.2.2.1,.int .i64 a.1.2.2.2.2,.int .i64 a.2.1,.int .i64 a.2.2]
def Vg:FP->Option Int:=λ_=>none
def AI.w5(p:AI):Int×Int×Int×Int×Int:=(p.ways 0,p.ways 1,p.ways 2,p.ways 3,p.ways 4)
theorem FP.eq_iff(a b:FP):((a.1.1==b.1.1 && (a.1.2.1==b.1.2.1 && (a.1.2.2.1==b.1.2.2.1 && (a.1.2.2.2.1==b.1.2.2.2.1 && (a.1.2.2.2.2==b.1.2.2.2.2 && true))))) && (a.2.1==b.2.1 && (a.2.2==b.2.2 && true)))=decide (a=b):=by
 obtain ⟨⟨c,d,e,f,g⟩,h,i⟩:=a;obtain ⟨⟨j,k,l,m,n⟩,o,p⟩:=b;rw [Bool.eq_iff_iff];simp [and_assoc]
theorem SF(a:FP):Instr.sameBits 10000 (E6 a) (E6 a)=true:=by
 have b:∀(n:Nat)(x:Int),Instr.sameBits n (.int .i64 x) (.int .i64 x)=true:=λn x=>by
  cases n <;> (unfold Instr.sameBits;simp)
 unfold E6;show Instr.sameBits (9999+1) _ _=true;unfold Instr.sameBits;simp only [List.zip_cons_cons,List.zip_nil_left,List.all_cons,List.all_nil,b];simp
def Xh(m:EZ)(w:Int×Int×Int×Int×Int)(i:Nat)(M:FP->Option Int)(k:Nat):FP->Option Int:=λb=>if b=(w,(i:Int),(k:Int)) then some (m i k) else M b
def GU(m:EZ)(w:Int×Int×Int×Int×Int)(i:Nat)(M:FP->Option Int)(n:Nat):FP->Option Int:=(List.range n).foldl (Xh m w i) M
def CM(m:EZ)(w:Int×Int×Int×Int×Int)(np:Nat)(M:FP->Option Int)(n:Nat):FP->Option Int:=(List.range n).foldl (λM i=>GU m w i M np) M
theorem OJ{m:EZ}{w:Int×Int×Int×Int×Int}{i k:Nat}{M:FP->Option Int}:∀{n:Nat},k<n->GU m w i M n (w,(i:Int),(k:Int))=some (m i k)
 | 0,h=>absurd h (Nat.not_lt_zero _)
 | n+1,h=>by
  unfold GU;rw [At];unfold Xh;by_cases e:k=n
  ·subst e;rw [aY rfl]
  ·rw [aX (λq=>e (by have a:(k:Int)=(n:Int):=congrArg (λz:FP=>z.2.2) q;omega))];exact OJ (n:=n) U
theorem JS{m:EZ}{w:Int×Int×Int×Int×Int}{i:Nat}{M:FP->Option Int}{b:FP}(hb:b.1≠w\/b.2.1≠(i:Int)):∀{n:Nat},GU m w i M n b=M b
 | 0=>rfl
 | n+1=>by
  unfold GU;rw [At];unfold Xh;rw [aX (λq=>by subst q;rcases hb with h | h <;> exact h rfl)];exact JS hb (n:=n)
theorem OK{m:EZ}{w:Int×Int×Int×Int×Int}{np i k:Nat}{M:FP->Option Int}(hk:k<np):∀{n:Nat},i<n->CM m w np M n (w,(i:Int),(k:Int))=some (m i k)
 | 0,h=>absurd h (Nat.not_lt_zero _)
 | n+1,h=>by
  unfold CM;rw [At];by_cases e:i=n
  ·subst e;exact OJ hk
  ·rw [JS (.inr (by show (i:Int)≠(n:Int);omega))];exact OK hk (n:=n) U
theorem MV{m:EZ}{w:Int×Int×Int×Int×Int}{np:Nat}{M:FP->Option Int}{b:FP}(hb:b.1≠w):∀{n:Nat},CM m w np M n b=M b
 | 0=>rfl
 | n+1=>by
  unfold CM;rw [At,JS (.inl hb)];exact MV hb (n:=n)
theorem w5_at{p q:AI}(e:q.w5=p.w5){k:Nat}(h:k<5):q.ways k=p.ways k:=by
 simp only [AI.w5,Prod.mk.injEq] at e;obtain ⟨a,b,c,d,f⟩:=e
 match k,h with
 | 0,_=>exact a
 | 1,_=>exact b
 | 2,_=>exact c
 | 3,_=>exact d
 | 4,_=>exact f
theorem QG{p q:AI}{ws:List AF}(e:q.w5=p.w5):∀{n:Nat},n<=5->A3 q ws n=A3 p ws n
 | 0,_=>rfl
 | n+1,h=>by
  have a:=QG (ws:=ws) e (n:=n) U;unfold A3 at a ⊢;rw [At,At,a];unfold KG;rw [w5_at e U]
theorem Sx{p q:AI}{ws:List AF}{np:Nat}(hw:ws.length<=5)(e:q.w5=p.w5):Aw np ws q=Aw np ws p:=by
 unfold Aw;rw [QG e hw]
def Ge(np:Nat)(ws:List AF)(l:List AI)(M:FP->Option Int):Prop:=∀q ∈ l,∀i k:Nat,i<np->k<np->M (q.w5,(i:Int),(k:Int))=some (Aw np ws q i k)
theorem Ge.call{np:Nat}{ws:List AF}{pq:List AI}{k:Nat}{M:FP->Option Int}(h:Ge np ws (pq.take k) M)(hk:k<pq.length)(hw:ws.length<=5) :
  Ge np ws (pq.take (k+1)) (CM (Aw np ws (pq.getD k AI.zero)) (pq.getD k AI.zero).w5 np M np):=by
 intro q a i j b c;by_cases e:q.w5=(pq.getD k AI.zero).w5
 ·rw [e,OK c b,Sx hw e]
 ·rw [MV e];rw [Em AI.zero hk] at a;rcases List.mem_append.1 a with h1 | h1
  ·exact h q h1 i j b c
  ·rw [List.mem_singleton.1 h1] at e;exact absurd rfl e
theorem Ge.skip{np:Nat}{ws:List AF}{pq:List AI}{k:Nat}{M:FP->Option Int}(h:Ge np ws (pq.take k) M)(hk:k<pq.length)(hw:ws.length<=5)(h0:¬(k:Int)=0)(e:(pq.getD k AI.zero).w5=(pq.getD (k-1) AI.zero).w5) :
  Ge np ws (pq.take (k+1)) M:=by
 intro q a i j b c;rw [Em AI.zero hk] at a;rcases List.mem_append.1 a with h1 | h1
 ·exact h q h1 i j b c
 ·rw [List.mem_singleton.1 h1,e,Sx hw e];refine h _ ?_ i j b c;rw [Dy AI.zero U];exact List.mem_take_iff_getElem.2 ⟨k-1,U,rfl⟩
def EP(h:Y)(r np:Nat)(ws:List AF)(pq:List AI):Prop:=∃pm M,MapAt h r pm E6 Dz M/\Ge np ws pq M
theorem EP.le{h h':Y}{r np:Nat}{ws:List AF}{pq:List AI}(x:EP h r np ws pq)(l:h.Le h'):EP h' r np ws pq:=by
 obtain ⟨b,M,⟨c,a,d,e⟩,f⟩:=x;exact ⟨b,M,⟨c,a,l.keep d rfl,e⟩,f⟩
structure De(hB:Y)(r:Nat)(M:FP->Option Int)(h hc:Y):Prop where
 ok:Cl hc r E6 Dz M
 keep:BO (λb=>b=r) h hc
 base:hB.Le hc
def FRes(hB:Y)(r:Nat)(M:FP->Option Int)(h h':Y):Prop:=Cl h' r E6 Dz M/\BO (λb=>b=r) h h'/\hB.Le h'
section
variable {hB h hc h':Y} {r:Nat} {M M':FP->Option Int}
theorem Cl.some(x:Cl h r E6 Dz M):∃o,h r=some (true,o)/\J0 o=false:=by obtain ⟨c,a,b,_⟩:=x;exact ⟨_,b,rfl⟩
theorem De.start(x:Cl h r E6 Dz M)(l:hB.Le h):De hB r M h h:=⟨x,BO.refl _ _,l⟩
theorem De.le(y:De hB r M h hc)(l:hc.Le h'):De hB r M h h':=by
 obtain ⟨o,a,_⟩:=y.ok.some;exact ⟨y.ok.le_other ((l.keep a rfl).trans a.symm),y.keep.trans (λ_ q=>.inl q) (l.keepX _),y.base.trans l⟩
theorem De.store(y:De hB r M h hc){q:Nat}(hq:h q=none)(qB:hB q=none)(hn:q≠r)(ho:∀b,b≠q->h' b=hc b):De hB r M h h':=
 ⟨y.ok.le_other (ho r (Ne.symm hn)),y.keep.store hq ho,y.base.upd qB ho⟩
theorem De.put(y:De hB r M h hc)(rB:hB r=none)(x:Cl h' r E6 Dz M')(ho:∀b,b≠r->h' b=hc b):De hB r M' h h':=⟨x,y.keep.store' (.inl rfl) ho,y.base.upd rB ho⟩
theorem De.call(y:De hB r M h hc)(m:FRes hB r M' hc h'):De hB r M' h h':=⟨m.1,y.keep.trans (λ_ q=>.inl q) m.2.1,m.2.2⟩
theorem De.ne(y:De hB r M h hc){q:Nat}(hq:hc q=none):q≠r:=λe=>by
 obtain ⟨o,a,_⟩:=y.ok.some;rw [e,a] at hq;cases hq
theorem De.nothing(y:De hB r M h hc){q:Nat}(hq:hc q=none):h q=none:=by
 cases a:h q with
 | none=>rfl
 | some x=>
  obtain ⟨c,b,_⟩:=y.keep q x.1 x.2 a (y.ne hq);rw [b] at hq;cases hq
theorem OL(x:h r=some (true,.map #[] 0)):Cl h r E6 Dz Vg:=Cl.empty x
theorem Cl.slDel{aQ:Type}(x:Cl h r E6 Dz M){v:aZ}{n:Nat}{enc:aQ->Array aZ}{xs:List aQ}(y:AG h v n enc xs):AG (h.del r) v n enc xs:=by
 obtain ⟨c,a,b,_⟩:=x;exact AG.slDel y b
theorem Cl.leF(x:Cl h r E6 Dz M)(l:h.Le h'):Cl h' r E6 Dz M:=by
 obtain ⟨o,a,e⟩:=x.some;exact x.le_other ((l.keep a e).trans a.symm)
theorem De.res(y:De hB r M h hc):FRes hB r M h hc:=⟨y.ok,y.keep,y.base⟩
end
theorem OM{aS aR:Int}{ps:List bB}{ws:List AF}{js:List AM}{ns:List AL}(b:BL aS aR ps ws js ns){ag:AI->Bool}:∀{f i:Nat}{p:AI},i+f=ws.length+js.length->BX p->∀q ∈ Cm ag ws js f i p,BX q
 | 0,_,p,_,c,q,a=>by rw [List.mem_singleton.1 a];exact c
 | f+1,i,p,h,c,q,a=>by
  rw [G5] at a;obtain ⟨n,d,a⟩:=List.mem_flatMap.1 a;have e:=b.few (i:=i) U;have g:=mem_spanL.1 d;unfold CO at a;split at a
  ·cases a
  ·exact OM b (f:=f) U (c.put U) q a
section
variable {aS aR:Int} {ps:List bB} {ws:List AF} {js:List AM} {ns:List AL}
theorem E7(b:BL aS aR ps ws js ns):∀q ∈ AD ws js ns,BX q:=by
 intro q a;unfold AD at a;split at a
 ·exact OM b U BX.zero q a
 ·cases a
theorem QH(b:BL aS aR ps ws js ns)(k:Nat):BX ((AD ws js ns).getD k AI.zero):=by
 rcases Nat.lt_or_ge k (AD ws js ns).length with h | h
 ·exact E7 b _ (BV h)
 ·rw [Bl h];exact BX.zero
def AV(aS aR:Int)(ps:List bB)(ws:List AF)(js:List AM)(ns:List AL)(s:Int):Int:=
 if¬BW aS aR ps ws js ns=0 then BW aS aR ps ws js ns else if¬s=0 then s else if (AD ws js ns).length=0 then 9 else 0
variable {s:Int}
theorem Z8(h:¬BW aS aR ps ws js ns=0):AV aS aR ps ws js ns s=BW aS aR ps ws js ns:=aY h
theorem Z9(h:¬¬BW aS aR ps ws js ns=0)(h2:¬s=0):AV aS aR ps ws js ns s=s:=by unfold AV;rw [aX h,aY h2]
theorem AAA(h:¬¬BW aS aR ps ws js ns=0)(h2:¬¬s=0)(h3:(AD ws js ns).length=0):AV aS aR ps ws js ns s=9:=by unfold AV;rw [aX h,aX h2,aY h3]
theorem openB_4(h:¬¬BW aS aR ps ws js ns=0)(h2:¬¬s=0)(h3:¬(AD ws js ns).length=0):AV aS aR ps ws js ns s=0:=by unfold AV;rw [aX h,aX h2,aX h3]
theorem Ei(h:AV aS aR ps ws js ns s=0):BL aS aR ps ws js ns/\s=0/\0<(AD ws js ns).length:=by
 unfold AV at h;split at h
 ·rename_i a;exact absurd h a
 ·split at h
  ·rename_i a b;exact absurd h b
  ·split at h
   ·cases h
   ·rename_i a b c
    exact ⟨Cn (Decidable.not_not.1 a),Decidable.not_not.1 b,U⟩
theorem w5_eq{p q:AI}(h:(!((p.ways 0==q.ways 0 && (p.ways 1==q.ways 1 && (p.ways 2==q.ways 2 && (p.ways 3==q.ways 3 && (p.ways 4==q.ways 4 && true)))))))=false):p.w5=q.w5:=by
 simp only [Bool.not_eq_false',Bool.and_eq_true,beq_iff_eq,and_true] at h;obtain ⟨a,b,c,d,e⟩:=h;simp only [AI.w5,a,b,c,d,e]
theorem Ge.is{h:Y}{r np:Nat}{ws:List AF}{pq:List AI}{M:FP->Option Int}{k:Nat}(x:Cl h r E6 Dz M)(hM:Ge np ws (pq.take k) M)(hk:pq.length<=k):EP h r np ws pq:=by
 rw [List.take_of_length_le hk] at hM;exact ⟨true,M,x,hM⟩
theorem Sy{a b c d e f w:aZ}{r:Nat}(h:w.cells=#[w]):Instr.fill (λx=>#[(0,6),(6,1),(7,1)][x]?) #[.int .i64 0,.int .i64 0,.slice none 0 0,.slice none 0 0,.slice none 0 0,.slice none 0 0,.slice none 0 0,.map none] [(0,.agg #[a,b,c,d,e,f]),(1,w),(2,.map (some r))]=some #[a,b,c,d,e,f,w,.map (some r)]:=by
 have i:∀g,(Value.agg g).cells=g:=λ_=>rfl;have j:∀q,(Value.map q).cells=#[.map q]:=λ_=>rfl;simp [Instr.fill,h,i,j]
end
end Go.Ns
