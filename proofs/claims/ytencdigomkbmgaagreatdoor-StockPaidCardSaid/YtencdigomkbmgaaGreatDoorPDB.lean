/- Rules and walks, part 2 of 6. No conditions. -/
import Derived.Sort.AssemblyPlain
import Derived.Sort.LotD3
import Derived.Test.YtencdigomkbmgaaGreatDoorPDA
set_option linter.unusedVariables false
set_option linter.unusedSimpArgs false
set_option linter.unnecessarySimpa false
set_option linter.unusedSectionVars false
set_option linter.constructorNameAsVariable false
namespace Go.Ns
open Go.Conc
section
variable {P:Program} {E:Fl P} {O:Nat->aU} {ds:List Deferred} {h:L} {T:(Nat->aU)->List Deferred->L->Prop}
variable {dst:Option Nat} {ty:aV} {pos:String} {af:Array Edge} {gd:Option (Nat×Bool)}
def UponV(W:Wk P)(R:aU->L->Prop):Next->L->Prop
 | .enter f args,h=>AU W f args h R
 | .round l f tmps a c,h=>Bt W l f tmps a c h R
 | _,_=>False
def CT(W:Wk P)(fv:aU)(args:Array aU)(h:L)(R:aU->L->Prop):Prop:=
 (do let d<-Deferred.ofValue fv args;invoke d.target d.args:Sem Next).gh P h (UponV W R)
theorem CT.mono{W:Wk P}{fv:aU}{args:Array aU}{h:L}{R R':aU->L->Prop}(x:CT W fv args h R)(hr:∀v h',R v h'->R' v h'):CT W fv args h R':=by
 refine Em _ (λa h' y=>?_) h x;cases a <;> first | exact y | exact AU.mono y hr | exact Bt.mono y hr
theorem Fu{f:Operand}{args:Array Operand}{tys:Array aV}{fv:aU}{vs:Array aU}(hv:AL O f=fv)(ha:args.map (AL O)=vs)(x:CT E.wk fv vs h λv h'=>T (putS O dst v) ds h') :
  BS E ⟨dst,.call ⟨.value f,args,tys⟩,ty,pos,af,gd⟩ O ds h T:=by
 unfold BS execOp;simp only [];unfold resolve;simp only [hv,ha];refine Em _ (λa h' y=>?_) h x;cases a <;> first | exact y | exact y.elim
theorem GG{f x:Operand}{tys:Array aV}{fv v1:aU}(hv:AL O f=fv)(h1:AL O x=v1)(y:CT E.wk fv #[v1] h λv h'=>T (putS O dst v) ds h') :
  BS E ⟨dst,.call ⟨.value f,#[x],tys⟩,ty,pos,af,gd⟩ O ds h T:=Fu hv (by simp [h1]) y
theorem Bs{W:Wk P}{g:FuncId}{fn:Func}{first cap args vs:Array aU}{R:aU->L->Prop}(hf:P.funcs[g]? =some fn)(hc:AK fn=true)(ha:first++args++cap=vs)(x:AU W g vs h R):CT W (.func (.func g) first cap) args h R:=by
 subst ha;unfold CT;simp only [Deferred.ofValue];refine AE _ _ (At ?_);exact ML hf hc x
theorem IP{l:Nat}{p:Bool}{lo:Loop}{Q:Loop->L->Prop}(hl:h l=some (p,.loop lo))(q:Q lo h):(Instr.getLoop l).gh P h Q:=by
 unfold Instr.getLoop;exact AE _ _ ⟨p,_,hl,rfl,rfl,q⟩
theorem NU{W:Wk P}{l:Nat}{p:Bool}{lo:Loop}{args:Array aU}{R:aU->L->Prop}(hl:h l=some (p,.loop lo))(hn:args.size=lo.params.size)
  (x:Bt W l lo.fn ((lo.params.zip args).foldl (λtmps x=>tmps.setIfInBounds x.1 x.2) lo.tmps) lo.assign lo.body h R):CT W (.func (.yield l) #[] #[]) args h R:=by
 unfold CT;simp only [Deferred.ofValue];refine AE _ _ (At ?_);unfold invoke;simp only [];unfold Instr.yield;refine AE _ _ (IP hl ?_);have e:#[]++args=args:=aD
 rw [e,aS (by rw [hn];simp)];exact x
def Ui(Q:Post)(O:Nat->aU)(ds:List Deferred)(l:Nat)(h:L):Prop:=
 ∃lo,h l=some (true,.loop lo)/\(lo.state==.busy)=false/\match lo.pending with
  | none=>Q .normal O ds (h.set l true (.loop { lo with state:=.exhausted }))
  | some (.exit id)=>Q (.exit id) O ds (h.set l true (.loop { lo with state:=.exhausted }))
  | some .ret=>Q .ret O ds (h.set l true (.loop { lo with state:=.exhausted }))
  | some _=>False
theorem Kn{f:Operand}{params:Array Tmp}{assign body:Code}{Q:Post}(hrd:E.rd=none)
  (x:∀(t:Array aU) d l,BU t E.N O->h d=none->h l=none->l≠d->
   CT E.wk (AL O f) #[.func (.yield l) #[] #[]] ((h.set d true (.deferred (some []))).set l true (.loop { state:=.ready,pending:=none,fn:=E.fn,tmps:=t,params,assign,body,defers:=d }))
    λ_ h'=>Ui Q O ({ target:=.collected d,args:=#[] } ::ds) l h'):Tr E (.rangeFunc f params assign body) O ds h Q:=by
 intro b k j aO t hb hr hl n D;refine E.wk.closed _ _ rfl λw F=>?_;have e1:(Instr.enterLoop b.fn t params assign body b.roundOf).gh P h λr h'=>∃d l,h d=none/\h l=none/\l≠d/\r=(l,[{ target:=.collected d,args:=#[] }])/\
   h'=(h.set d true (.deferred (some []))).set l true (.loop { state:=.ready,pending:=none,fn:=b.fn,tmps:=t,params,assign,body,defers:=d }):=by
  rw [hr,hrd];unfold Instr.enterLoop;refine AE _ _ (λd H=>?_);refine AE _ _ (At ?_);refine AE _ _ (λl g=>?_);have i:l≠d:=λe=>by subst e;rw [L.set_same] at g;cases g
  rw [L.set_ne _ _ _ i] at g;exact ⟨d,l,H,g,i,rfl,rfl⟩
 obtain ⟨r,w1,h1,p,r1,r2,d,l,H,g,i,rfl,rfl⟩:=IH F e1;have y:=x t d l n H g i;rw [<-hb] at y;let mark:List Deferred:=[{ target:=.collected d,args:=#[] }];have M:(CY b t (mark++ds) (.inRangeFunc l ::k)).eval=AL O:=funext λo=>by rw [Ix n]
 have y':(do let d<-resolve (CY b t (mark++ds) (.inRangeFunc l ::k)).eval { callee:=.value f,args:=#[.const (.func (.yield l) #[] #[])],argTypes:=#[] } 0;invoke d.target d.args:Sem Next).gh P
   ((h.set d true (.deferred (some []))).set l true (.loop { state:=.ready,pending:=none,fn:=b.fn,tmps:=t,params,assign,body,defers:=d })) (UponV E.wk λ_ h'=>Ui Q O ({ target:=.collected d,args:=#[] } ::ds) l h'):=by
  rw [M];unfold resolve;simpa [AL,CT] using y
 obtain ⟨nx,R,S,m,q1,q2,U⟩:=IH r2.fits y';have hstep:stepG P E.wk.main (G (CY b t ds (.code (.rangeFunc f params assign body) ::k)) j) w=
   GStep.after (seen P b.fn p) (stepG.apply P true (CY b t (mark++ds) (.inRangeFunc l ::k)) j none
    (do let d<-resolve (CY b t (mark++ds) (.inRangeFunc l ::k)).eval { callee:=.value f,args:=#[.const (.func (.yield l) #[] #[])],argTypes:=#[] } 0;invoke d.target d.args) w1):=by
  rw [Ay];unfold stepG.exec;simp only [CY,r1];rfl
 have s:∀q:Bool,∀e ∈ seen P b.fn (if q then #[] else m),e ∈ m:=λq e he=>by
  have:=mem_seen he
  cases q with
  | true=>simp at this
  | false=>simpa using this
 have u:∀q:Bool,Bd h w (seen P b.fn p++(seen P b.fn (if q then #[] else m)++ #[])) S R:=λq=>
  (r2.trans q2).sub λe he=>by
   rw [Array.append_empty,Array.mem_append] at he;rw [Array.mem_append];rcases he with he | he
   ·exact .inl (mem_seen he)
   ·exact .inr (s q e he)
 have Bv:∀(v:aU) h',Ui Q O ({ target:=.collected d,args:=#[] } ::ds) l h'->E.wk.K (G ((CY b t (mark++ds) (.inRangeFunc l ::k)).finish v) j) h':=by
  rintro v h' ⟨B,A,W,z⟩;show E.wk.K (G (CY b t (mark++ds) (.endRangeFunc l ::k)) j) h';refine E.wk.closed _ _ rfl λw F=>?_;have e2:(Instr.endLoop l).gh P h' λjump X=>jump=B.pending/\X=h'.set l true (.loop { B with state:=.exhausted }):=by
   unfold Instr.endLoop;refine AE _ _ (IP A ?_);rw [W];refine AE _ _ ⟨_,A,rfl,rfl,rfl,?_⟩;exact ⟨rfl,rfl⟩
  obtain ⟨jump,w3,h3,es3,p1,p2,rfl,rfl⟩:=IH F e2;refine ⟨G (CY b t (mark++ds) ((B.pending.map Item.code).toList++k)) j,w3,_,_,?_,p2.sub (es':=seen P b.fn es3++ #[]) λe he=>?_,?_⟩
  ·rw [Ay];unfold stepG.exec;simp only [CY,p1];rfl
  ·rw [Array.append_empty] at he;exact mem_seen he
  ·cases hp:B.pending with
   | none=>
    rw [hp] at z;exact D _ _ _ _ z t n
   | some c=>
    rw [hp] at z;cases c with
    | ret=>
     have:=D _ _ _ _ z t n
     exact hl.ret t _ _ k this
    | exit id=>
     have:=D _ _ _ _ z t n
     show E.wk.K (G (CY b t (mark++ds) (.code (.exit id) ::k)) j) _;cases C:exitTo id k with
     | none=>simp only [Cw,C] at this;exact hl.exit id t _ _ k C this
     | some k'=>
      simp only [Cw,C] at this;exact Wk.go (CY b t (mark++ds) k') (λw=>by rw [Ay];simp [stepG.exec,CY,G,C]) this
    | _=>exact z.elim
 cases nx with
 | enter f' args=>
  refine ⟨_,R,_,S,?_,u (b.kind==.early),U (CY b t (mark++ds) (.inRangeFunc l ::k)) j Bv⟩;rw [hstep];simp only [stepG.apply,q1,if_true];rfl
 | round l' f' tmps a c=>
  refine ⟨_,R,_,S,?_,u (b.kind==.early),U (CY b t (mark++ds) (.inRangeFunc l ::k)) j Bv⟩;rw [hstep];simp only [stepG.apply,q1,if_true];rfl
 | _=>exact U.elim
theorem MR{W:Wk P}{l:Nat}{f:FuncId}{tmps:Array aU}{N:Nat}{assign body:Code}{R:aU->L->Prop}(hN:tmps.size=N)
  (x:Tr ⟨W,f,some l,N⟩ assign (λi=>tmps.getD i undef) [] h λe O ds h'=>e=.normal/\∃lo,h' l=some (true,.loop lo)/\lo.state=.ready/\
   Tr ⟨W,f,some l,N⟩ body O ds (h'.set l true (.loop { lo with state:=.busy })) λe _ _ h''=>∃lo',h'' l=some (true,.loop lo')/\match e with
    | .normal=>R (.bool true) (h''.set l true (.loop { lo' with state:=.ready,pending:=none }))
    | .exit id=>R (.bool false) (h''.set l true (.loop { lo' with state:=.done,pending:=some (.exit id) }))
    | .ret=>R (.bool false) (h''.set l true (.loop { lo' with state:=.done,pending:=some .ret }))
    | _=>False):Bt W l f tmps assign body h R:=by
 intro c cs hc;let b:Frame:=Frame.round l f tmps assign body .normal;show W.K (G (CY b tmps [] [.code assign,.beginRound,.code body]) (c ::cs)) h;have leave:∀(jump:Option Code)(v:aU)(t:Array aU)(ds:List Deferred)(k:List Item)(h'':L)(lo':Loop),h'' l=some (true,.loop lo')->
   (∀w,stepG P W.main (G (CY b t ds k) (c ::cs)) w=GStep.after (seen P f ((Instr.endRound l jump).runT P w #[]).2) (match ((Instr.endRound l jump).runT P w #[]).1 with
    | .ok v w=>doReturn P W.main (CY b t ds k) (c ::cs) none v w
    | .halt _ w=>.ended (.stuck "range over a function: no such loop" ((CY b t ds k).pos P)) w))->v=.bool jump.isNone->
   R v (h''.set l true (.loop { lo' with state:=if jump.isNone then .ready else .done,pending:=jump }))->W.K (G (CY b t ds k) (c ::cs)) h'':=by
  rintro jump v t ds k h'' lo' hlo hstep rfl hR;refine W.closed _ _ rfl λw fw=>?_;have e2:(Instr.endRound l jump).gh P h'' λv h3=>v=.bool jump.isNone/\h3=h''.set l true (.loop { lo' with state:=if jump.isNone then .ready else .done,pending:=jump }):=by
   unfold Instr.endRound;refine AE _ _ (IP hlo ?_);refine AE _ _ ⟨_,hlo,rfl,rfl,rfl,?_⟩;exact ⟨rfl,rfl⟩
  obtain ⟨v,w3,h3,es3,p1,p2,rfl,rfl⟩:=IH fw e2;refine ⟨G (c.finish (.bool jump.isNone)) cs,w3,_,_,?_,p2.sub (es':=seen P f es3++ #[]) λe he=>?_,hc _ _ hR⟩
  ·rw [hstep,p1];rfl
  ·rw [Array.append_empty] at he;exact mem_seen he
 let aO:Lv:=λj t ds h''=>∃lo',h'' l=some (true,.loop lo')/\match j with
  | none=>R (.bool true) (h''.set l true (.loop { lo' with state:=.ready,pending:=none }))
  | some (.exit id)=>R (.bool false) (h''.set l true (.loop { lo' with state:=.done,pending:=some (.exit id) }))
  | some .ret=>R (.bool false) (h''.set l true (.loop { lo' with state:=.done,pending:=some .ret }))
  | some _=>False
 have hL:Ke W b (c ::cs) aO:=by
  refine ⟨?_,?_,?_⟩
  ·rintro t ds h'' ⟨lo',h1,h2⟩;exact leave none _ t ds [] h'' lo' h1 (λw=>by rw [Ay];rfl) rfl (by simpa using h2)
  ·rintro t ds h'' k ⟨lo',h1,h2⟩;exact leave (some .ret) _ t ds (.code .ret ::k) h'' lo' h1 (λw=>by rw [Ay];rfl) rfl (by simpa using h2)
  ·rintro id t ds h'' k hk ⟨lo',h1,h2⟩;exact leave (some (.exit id)) _ t ds (.code (.exit id) ::k) h'' lo' h1 (λw=>by rw [Ay];simp only [stepG.exec,CY,hk,Option.elim];rfl) rfl (by simpa using h2)
 refine x b [.beginRound,.code body] (c ::cs) aO tmps rfl rfl hL ⟨hN,λi=>rfl⟩ ?_;rintro e O ds h' ⟨rfl,lo,h1,h2,h3⟩ t' ht';show W.K (G (CY b t' ds [.beginRound,.code body]) (c ::cs)) h';refine W.closed _ _ rfl λw fw=>?_;have e3:(do (some l).elim (stuck "beginRound: no round") Instr.beginRound;pure Next.skip:Sem Next).gh P h' λnx h''=>nx=.skip/\h''=h'.set l true (.loop { lo with state:=.busy }):=by
  show Sem.gh P (do Instr.beginRound l;pure Next.skip:Sem Next) h' _;unfold Instr.beginRound;refine AE _ _ (AE _ _ (IP h1 ?_));refine AE _ _ ⟨_,h1,rfl,rfl,rfl,?_⟩;rw [h2];exact ⟨rfl,rfl⟩
 obtain ⟨nx,w3,h4,es3,p1,p2,rfl,rfl⟩:=IH fw e3;refine ⟨G (CY b t' ds [.code body]) (c ::cs),w3,_,_,?_,p2.sub (es':=seen P f es3++ #[]) λe he=>?_,?_⟩
 ·rw [Ay];unfold stepG.exec;simp only [CY];unfold stepG.apply;have hb:b.roundOf=some l:=rfl;simp only [hb,p1,if_true];rfl
 ·rw [Array.append_empty] at he;exact mem_seen he
 ·refine h3 b [] (c ::cs) aO t' rfl rfl hL ht' ?_;rintro e σ' ds' h'' ⟨lo',g1,g2⟩ t2 ht2;cases e with
  | normal=>
   exact hL.stop t2 ds' h'' ⟨lo',g1,g2⟩
  | exit id=>exact ⟨lo',g1,g2⟩
  | ret=>exact ⟨lo',g1,g2⟩
  | _=>exact g2.elim
end
end Go.Ns
namespace Go.Ns
open Go.Conc
section
variable {P:Program} {E:Fl P} {O:Nat->aU} {ds:List Deferred} {h:L} {T:(Nat->aU)->List Deferred->L->Prop}
variable {dst:Option Nat} {ty:aV} {pos:String} {af:Array Edge} {gd:Option (Nat×Bool)}
variable {U:Type}
def FI(R:L->L->Prop):List O0->Prop
 | []=>True
 | φ ::l=>(∀v h h',R h h'->φ v h->φ v h')/\FI R l
theorem FI.mono{R:L->L->Prop}:∀{Φ:List O0},FI R Φ->∀k v h h',R h h'->Kk Φ k v h->Kk Φ k v h'
 | [],_,k,v,h,h',_,x=>by cases k <;> exact x
 | φ ::l,a,0,v,h,h',r,x=>a.1 v h h' r x
 | φ ::l,a,k+1,v,h,h',r,x=>FI.mono a.2 k v h h' r x
theorem SR{R:L->L->Prop}(rr:∀h,R h h)(rt:∀a b c,R a b->R b c->R a c){id:Nat}{l:List Oper}{Q:Post}(n:Nat)(cls:List (List Nat))(Φ:List O0)
  (hm:P.follows .mixedOrders=true) (ok:NO E.N l n cls=true) (mono:FI R Φ) (x:Km R E l n Φ O ds h Q n 0 l cls):Tr E (.region id l.toArray true) O ds h Q:=
 tr_draw R n cls Φ hm ok rr rt mono.mono x
theorem NV{id:Nat}{l:List Oper}{Q:Post}(n:Nat)(cls:List (List Nat))(Φ:List O0)
  (hm:P.follows .mixedOrders=true) (ok:NO E.N l n cls=true) (mono:FI L.Le Φ) (x:Km L.Le E l n Φ O ds h Q n 0 l cls):Tr E (.region id l.toArray true) O ds h Q:=
 SR L.Le.refl (λ_ _ _=>L.Le.trans) n cls Φ hm ok mono x
theorem trL_opg{ops:Array Oper}{o:Oper}{l:List Oper}{Q:Post}{j d:Nat}{want:Bool}{oj:Oper}(hg:o.guard=some (j,want))(hj:ops[j]? =some oj)(hjd:oj.dst=some d)(hv:O d=.bool want)(hdj:Nat.blt d E.N=true)
  (hdf:E.rd=none\/EA o.op=false) (hd:DI o.dst E.N=true) (x:BS E o O ds h λσ' ds' h'=>DH E ops l σ' ds' h' Q):DH E ops (o ::l) O ds h Q:=QS hg hj hjd hv hdj hdf hd x
theorem AM{ops:Array Oper}{o:Oper}{l:List Oper}{Q:Post}{j d:Nat}{want:Bool}{oj:Oper}(hg:o.guard=some (j,want))(hj:ops[j]? =some oj)(hjd:oj.dst=some d)(hv:O d=undef)(hdj:Nat.blt d E.N=true)
  (hd:DI o.dst E.N=true) (x:DH E ops l (putS O o.dst undef) ds h Q):DH E ops (o ::l) O ds h Q:=by
 intro i b k n p t g q r s c u;have m:ops[i]? =some o:=by simpa using (g 0).symm
 have v:yielded ops t j=none:=by
  have a:d<t.size:=by rw [c.1];exact Nat.blt_eq▸hdj
  have e:=c.2 d;rw [hv] at e;have y:t[d]? =some undef:=by
   simp only [Array.getD_eq_getD_getElem?,Array.getElem?_eq_getElem a,Option.getD_some] at e;rw [Array.getElem?_eq_getElem a,e]
  simp [yielded,hj,hjd,y,undef]
 refine Wk.go (CY b (XU t o.dst undef) ds (.inRegion ops (List.range' (i+1) l.length) ::k)) (λw=>?_) ?_
 ·have f:((ops[i]?).map (Region.wanted · (yielded ops t))).getD false=false:=by
   simp only [m,Option.map_some,Option.getD_some,Region.wanted,hg,v];cases want <;> rfl
  rw [<-DE m (rest:=List.range' (i+1) l.length),List.length_cons,List.range'_succ,Ay];unfold stepG.exec;simp only [CY,f,Bool.false_eq_true,↓reduceIte];rfl
 ·exact x (i+1) b k n p _ (λj=>by have:=g (j+1);simpa [Nat.add_assoc,Nat.add_comm 1 j] using this) q r s (c.putS hd undef) u
theorem Ae{ops:Array Oper}{l:List Oper}{Q:Post}{p:Prop}[Decidable p](a:p->DH E ops l O ds h Q)(a':¬p->DH E ops l O ds h Q):DH E ops l O ds h Q:=if h:p then a h else a' h
theorem Eq{ops:Array Oper}{l:List Oper}{Q:Post}{b:Bool}(a:b=true->DH E ops l O ds h Q)(a':b=false->DH E ops l O ds h Q):DH E ops l O ds h Q:=by
 cases b with
 | true=>exact a rfl
 | false=>exact a' rfl
theorem GY{f:Fn}{x1:Operand}{v1:aU}(h1:AL O x1=v1)(k:T (putS O dst (.func f #[] #[v1])) ds h):BS E ⟨dst,.makeFunc f #[] #[x1],ty,pos,af,gd⟩ O ds h T:=D6 (by simp [h1]) k
theorem GZ{f:Fn}{x1 x2:Operand}{v1 v2:aU}(h1:AL O x1=v1)(h2:AL O x2=v2)(k:T (putS O dst (.func f #[] #[v1,v2])) ds h):BS E ⟨dst,.makeFunc f #[] #[x1,x2],ty,pos,af,gd⟩ O ds h T:=D6 (by simp [h1,h2]) k
theorem FY{f:Fn}{x1 x2 x3:Operand}{v1 v2 v3:aU}(h1:AL O x1=v1)(h2:AL O x2=v2)(h3:AL O x3=v3)(k:T (putS O dst (.func f #[] #[v1,v2,v3])) ds h):BS E ⟨dst,.makeFunc f #[] #[x1,x2,x3],ty,pos,af,gd⟩ O ds h T:=D6 (by simp [h1,h2,h3]) k
theorem QZ{f:Fn}{x1 x2 x3 x4:Operand}{v1 v2 v3 v4:aU}(h1:AL O x1=v1)(h2:AL O x2=v2)(h3:AL O x3=v3)(h4:AL O x4=v4)(k:T (putS O dst (.func f #[] #[v1,v2,v3,v4])) ds h):BS E ⟨dst,.makeFunc f #[] #[x1,x2,x3,x4],ty,pos,af,gd⟩ O ds h T:=D6 (by simp [h1,h2,h3,h4]) k
theorem RA{f:Fn}{x1 x2 x3 x4 x5:Operand}{v1 v2 v3 v4 v5:aU}(h1:AL O x1=v1)(h2:AL O x2=v2)(h3:AL O x3=v3)(h4:AL O x4=v4)(h5:AL O x5=v5)(k:T (putS O dst (.func f #[] #[v1,v2,v3,v4,v5])) ds h):BS E ⟨dst,.makeFunc f #[] #[x1,x2,x3,x4,x5],ty,pos,af,gd⟩ O ds h T:=D6 (by simp [h1,h2,h3,h4,h5]) k
theorem DB{v:aU}{p:Prop}[Decidable p](e:v=.bool (decide p))(g:v=.bool false):¬p:=by
 rw [e] at g;simpa using g
theorem AN.fresh{h0 h:L}{v:aU}{t:aV}{n:Nat}{enc:U->Array aU}{xs:List U}(x:AN h0 h v t n enc xs):∀b,Bv v=some b->h0 b=none:=by
 intro b a;rcases x with ⟨rfl,_⟩ | ⟨f,d,c,rfl,e,_⟩
 ·cases a
 ·simp [Bv] at a;subst a;exact e
theorem AN.inDom{h0 h:L}{v:aU}{t:aV}{n:Nat}{enc:U->Array aU}{xs:List U}(x:AN h0 h v t n enc xs):∀b,Bv v=some b->∃o,h b=some o:=by
 intro b a;rcases x with ⟨rfl,_⟩ | ⟨f,d,c,rfl,g,e,_⟩
 ·cases a
 ·simp [Bv] at a;subst a;exact ⟨_,e⟩
def BL(v:aU)(b:Nat):Prop:=Bv v≠some b
def Apart(v w:aU):Prop:=∀b,Bv v=some b->Bv w≠some b
theorem Apart.symm{v w:aU}(a:Apart v w):Apart w v:=λb h c=>a b c h
theorem BL.nil{b:Nat}:BL (.slice none 0 0) b:=by intro h;cases h
theorem Apart.nil{w:aU}:Apart (.slice none 0 0) w:=by intro b h;cases h
theorem BL.old{h0 h:L}{v:aU}{t:aV}{n:Nat}{enc:U->Array aU}{xs:List U}(x:AN h0 h v t n enc xs){b:Nat}{o:Bool×Obj}(hb:h0 b=some o):BL v b:=λe=>by
 rw [x.fresh b e] at hb;cases hb
theorem BL.new{h0 h:L}{v:aU}{t:aV}{n:Nat}{enc:U->Array aU}{xs:List U}(x:AN h0 h v t n enc xs){b:Nat}(hb:h b=none):BL v b:=λe=>by
 obtain ⟨o,a⟩:=x.inDom b e;rw [hb] at a;cases a
def Fm(h h':L)(v v':aU):Prop:=(∀b o,h b=some o->Bv v≠some b->h' b=some o)/\(Bv v'=Bv v\/((∃r,Bv v'=some r/\h r=none)/\∀b o,h b=some o->h' b=some o))
theorem BL.grown{h h':L}{v v':aU}(g:Fm h h' v v'){b:Nat}{o:Bool×Obj}(hb:h b=some o)(x:BL v b):BL v' b:=λe=>by
 rcases g.2 with q | ⟨⟨r,a,c⟩,_⟩
 ·exact x (q▸e)
 ·rw [a] at e;cases e;rw [c] at hb;cases hb
theorem Apart.grown{h h' h0:L}{v v' w:aU}(g:Fm h h' v v'){t:aV}{n:Nat}{enc:U->Array aU}{xs:List U}(y:AN h0 h w t n enc xs)(x:Apart v w):Apart v' w:=λb e a=>by
 obtain ⟨o,c⟩:=y.inDom b a;rcases g.2 with q | ⟨⟨r,d,f⟩,_⟩
 ·exact x b (q▸e) a
 ·rw [d] at e;cases e;rw [f] at c;cases c
theorem AN.grown{h h' h0:L}{v v' w:aU}(g:Fm h h' v v'){t:aV}{n:Nat}{enc:U->Array aU}{xs:List U}(y:AN h0 h w t n enc xs)(x:Apart v w):AN h0 h' w t n enc xs:=
 y.keep λb o a c=>g.1 b o c λe=>x b e a
theorem L.Le.grown{h1 h h':L}{v v':aU}(g:Fm h h' v v')(l:h1.Le h)(f:∀b,Bv v=some b->h1 b=none):h1.Le h':=λb p o a=>by
 obtain ⟨c,d,i⟩:=l b p o a;exact ⟨c,g.1 b _ d λe=>(by rw [f b e] at a;cases a),i⟩
theorem B7{h h':L}{v v':aU}(g:Fm h h' v v'){b:Nat}{o:Bool×Obj}(hb:h b=some o)(x:BL v b):h' b=some o:=g.1 b o hb x
theorem AN.stored{h0 h h':L}{v:aU}{t:aV}{n:Nat}{enc:U->Array aU}{xs:List U}(y:AN h0 h v t n enc xs){r:Nat}(x:BL v r)(ho:∀b,b≠r->h' b=h b):AN h0 h' v t n enc xs:=
 y.keep λb o c a=>by rw [ho b λe=>by subst e;exact x c];exact a
theorem B0{s x:aV}{o1 o2:Operand}{h0:L}{v w:aU}{e n bytes:Nat}{enc:U->Array aU}{xs ys:List U}(ht:Hz P s x=some (e,n,bytes))(h1:AL O o1=v)(h2:AL O o2=w)
  (hv:AN h0 h v e n enc xs) (hw:AJ h w n enc ys) (l0:∀r,h r=none->h0 r=none) (hb:(2*(xs.length+ys.length)+512)*bytes<=2 ^ 48) (hfine:∀y ∈ ys,(enc y).toList.all (·.oneCell')=true)
  (k:∀v' h',AN h0 h' v' e n enc (xs++ys)->Fm h h' v v'->T (putS O dst v') ds h') :
  BS E ⟨dst,.call ⟨.builtin .append,#[o1,o2],#[s,x]⟩,ty,pos,af,gd⟩ O ds h T:=
 XY ht h1 h2 hv hw l0 hb hfine λv' h' a b c=>k v' h' a ⟨b,c⟩
theorem Ag{h0:L}{t:aV}{x ix:Operand}{n:Nat}{enc:U->Array aU}{xs:List U}{v:aU}{kd:IntKind}{i:Int}(ht:Dq P t=some n)(hs:AJ h0 v n enc xs)(hx:AL O x=v)(hi:AL O ix=.int kd i)(h0':0<=i)(h1:i<xs.length)
  (k:∀b off,AX h0 b off n (enc (xs[i.toNat]' Y))->T (putS O dst (.pointer (some ⟨b,off,none⟩))) ds h):BS E ⟨dst,.indexAddr t x ix,ty,pos,af,gd⟩ O ds h T:=by
 obtain ⟨a,c,rfl,_,_,d⟩:=hs;obtain ⟨b,off,rfl,e⟩:=d i.toNat Y;exact AH ht hx hi h0' h1 (k b _ e)
theorem AN.built{h h':L}{r:Nat}{t:aV}{n:Nat}{enc:U->Array aU}{xs:List U}{c:Array aU}{m:Nat}(hr:h r=none)(hb:h' r=some (true,.cells c t (0,0)))(hm:xs.length=m)(hml:Nat.ble m 16777216=true)(hn:∀x ∈ xs,(enc x).size=n)(hc:c.toList=C7 enc xs) :
  AN h h' (.slice (some ⟨r,0,none⟩) m m) t n enc xs:=by
 subst hm
 have:=Nat.le_of_ble_eq_true hml
 refine .inr ⟨r,_,c,rfl,hr,hb,?_,Nat.le_refl _,Y,?_,hn⟩
 ·rw [<-D7 hn,<-hc,Array.length_toList]
 ·rw [hc,<-D7 hn,List.take_length]
theorem AY{t:aV}{len n:Nat}{z cells:Array aU}{e:aV}{parts:Array (Nat×Operand)}(hs:DA P t=some (n,z,e))(hl:len*n<=2 ^ 24)(hn:(len*n=0)=False)
  (hf:Instr.fill (λi=>some (i*n,n)) ((Array.range (len*n)).map (z[·%z.size]!)) (parts.map λ(i,x)=>(i,AL O x)).toList=some cells)
  (k:∀r h',h r=none->h.Le h'->h' r=some (true,.cells cells e (0,0))->(∀b,b≠r->h' b=h b)->T (putS O dst (.slice (some ⟨r,0,none⟩) len len)) ds h'):BS E ⟨dst,.buildSlice t len parts,ty,pos,af,gd⟩ O ds h T:=
 Oz hs hl hn hf λr a=>k r _ a (L.Le.new a _ _) (L.set_same _ _ _ _) λb c=>L.set_ne _ _ _ c
theorem SS{s x:aV}{o1 o2:Operand}{b off dl cap n:Nat}{e:aV}{enc:U->Array aU}{ys:List U}{w:aU}{c c':Array aU}(ht:Dq P s=some n)(h1:AL O o1=.slice (some ⟨b,off,none⟩) dl cap)(h2:AL O o2=w)
  (hb:h b=some (true,.cells c e (0,0))) (hn:off+dl*n<=c.size) (hw:AJ h w n enc ys) (hl:ys.length<=dl) (hfine:∀y ∈ ys,(enc y).toList.all (·.oneCell')=true) (hsz:∀y ∈ ys,(enc y).size=n) (hc:BN c off (C7 enc ys)=c')
  (k:∀h',h' b=some (true,.cells c' e (0,0))->(∀x,x≠b->h' x=h x)->T (putS O dst (.int .i64 ys.length)) ds h') :
  BS E ⟨dst,.call ⟨.builtin .copy,#[o1,o2],#[s,x]⟩,ty,pos,af,gd⟩ O ds h T:=
 ok_copy ht h1 h2 hb hn hw hl hfine hsz (k _ (by rw [hc];exact L.set_same _ _ _ _) λx a=>L.set_ne _ _ _ a)
theorem NW{t:aV}{n:Nat}{z:Array aU}{e:aV}(hs:DA P t=some (n,z,e))(k:∀r h',h r=none->h.Le h'->h' r=some (true,.cells #[] e (0,0))->(∀b,b≠r->h' b=h b)->T (putS O dst (.slice (some ⟨r,0,none⟩) 0 0)) ds h') :
  BS E ⟨dst,.buildSlice t 0 #[],ty,pos,af,gd⟩ O ds h T:=by
 unfold BS execOp;refine E6 ?_;unfold DA at hs;unfold Instr.buildSlice;cases c:P.underlying t with
 | none=>rw [c] at hs;cases hs
 | some d=>
  rw [c] at hs;cases d <;> first | (cases hs;done) | skip
  rename_i f
  simp only at hs;cases a:Bq P f with
  | none=>rw [a] at hs;cases hs
  | some x=>
   cases g:Be P f with
   | none=>rw [a,g] at hs;cases hs
   | some o=>
    rw [a,g] at hs;simp only [Option.some.injEq,Prod.mk.injEq] at hs;obtain ⟨rfl,rfl,rfl⟩:=hs;refine AE _ _ (Ai c ?_);refine AE _ _ (Fs (by rw [a];rfl) ?_);rw [Nat.zero_mul,aS aC];dsimp only;rw [aT rfl];refine AE _ _ (At ?_);have l:Instr.fill (λi=>some (i*x.snd,x.snd)) (Array.map (λy=>(#[]:Array aU)[y%(#[]:Array aU).size]!) (Array.range 0)) (Array.map (λy:Nat×Operand=>(y.fst,AL O y.snd)) #[]).toList=some #[]:=by
     simp [Instr.fill]
    rw [l];dsimp only;refine AE _ _ ?_;unfold newRow;refine AE _ _ (λr j=>?_);exact k r _ j (L.Le.new j _ _) (L.set_same _ _ _ _) λb m=>L.set_ne _ _ _ m
end
end Go.Ns
namespace Go.Ns
open Go.Conc
section
variable {P:Program} {E:Fl P}
def Ga:Op->Option (List Operand)
 | .move x | .assign x | .box _ x | .unOp _ _ x | .convert _ _ x | .load _ x | .fieldAddr _ x _ | .field _ x _ | .nilCheck x | .extract x _ | .makeInterface _ x | .makeChan _ x | .typeAssert x _ _ _=>some [x]
 | .pick c a b=>some [c,a,b]
 | .alloc _=>some []
 | .build _ ps | .buildSlice _ _ ps=>some (ps.toList.map (·.2))
 | .store _ a x | .binOp _ _ a x _ | .indexAddr _ a x | .index _ a x | .lookup _ a x _ | .makeSlice _ a x=>some [a,x]
 | .makeFunc _ f c=>some (f.toList++c.toList)
 | .makeMap _ r=>some r.toList
 | .slice _ x lo hi mx=>some (x ::(lo.toList++(hi.toList++mx.toList)))
 | .mapUpdate _ m k x=>some [m,k,x]
 | .call c=>some (c.args.toList++match c.callee with | .value f=>[f] | .invoke r _=>[r] | .builtin _=>[])
 | _=>none
theorem NX{ρ ρ':Operand->aU}{a:Array Operand}(e:∀x ∈ a.toList,ρ x=ρ' x):a.map ρ=a.map ρ':=by
 apply Array.toList_inj.1;rw [Array.toList_map,Array.toList_map];exact List.map_congr_left e
theorem ST{ρ ρ':Operand->aU}{a:Array (Nat×Operand)}(e:∀x ∈ a.toList.map (·.2),ρ x=ρ' x):(a.map λ(i,x)=>(i,ρ x))=a.map λ(i,x)=>(i,ρ' x):=by
 apply Array.toList_inj.1;rw [Array.toList_map,Array.toList_map];exact List.map_congr_left λx b=>by
  have:=e x.2 (List.mem_map.2 ⟨x,b,rfl⟩)
  obtain ⟨i,y⟩:=x;exact congrArg (Prod.mk i) this
theorem W8{ρ ρ':Operand->aU}{a:Option Operand}(e:∀x ∈ a.toList,ρ x=ρ' x):a.map ρ=a.map ρ':=by
 cases a with
 | none=>rfl
 | some x=>simp [e x aD]
theorem Ko{ρ ρ':Operand->aU}{o:Oper}{xs:List Operand}(hx:Ga o.op=some xs)(e:∀x ∈ xs,ρ x=ρ' x):execOp ρ o=execOp ρ' o:=by
 obtain ⟨h,op,k,i,l,p⟩:=o;cases op <;> simp only [Ga,Option.some.injEq,reduceCtorEq] at hx
 case call c=>
  subst hx;have j:=NX (a:=c.args) λx hx=>e x (List.mem_append_left _ hx);simp only [execOp,resolve,j];cases d:c.callee with
  | builtin b=>rfl
  | value f=>simp only [];rw [e f (List.mem_append_right _ (by rw [d];simp))]
  | invoke r m=>simp only [];rw [e r (List.mem_append_right _ (by rw [d];simp))]
 case makeFunc f a b=>
  subst hx;simp only [execOp];rw [NX (a:=a) λx hx=>e x (List.mem_append_left _ hx),NX (a:=b) λx hx=>e x (List.mem_append_right _ hx)]
 case slice t x lo hi mx=>
  subst hx;simp only [execOp];rw [e x aD,W8 (a:=lo) λy g=>e y aF,W8 (a:=hi) λy g=>e y aF,W8 (a:=mx) λy g=>e y aF]
 case build t ps=>subst hx;simp only [execOp];rw [ST e]
 case buildSlice t n ps=>subst hx;simp only [execOp];rw [ST e]
 case makeMap t r=>subst hx;simp only [execOp];rw [W8 e]
 all_goals
  subst hx;simp only [List.mem_cons,or_false,forall_eq_or_imp,forall_eq,List.not_mem_nil,false_implies,implies_true] at e;simp [execOp,e]
def HU(xs:List Operand):List Nat:=xs.filterMap λx=>match x with | .tmp t=>some t | _=>none
theorem MS{O σ':Nat->aU}{xs:List Operand}(e:∀t ∈ HU xs,O t=σ' t):∀x ∈ xs,AL O x=AL σ' x:=λx a=>by
 cases x with
 | tmp t=>exact e t (List.mem_filterMap.2 ⟨_,a,rfl⟩)
 | const v=>rfl
 | global g=>rfl
 | func f=>rfl
def Js:Op->Bool
 | .call c=>match c.callee with
  | .builtin b=>b==.len || b==.cap || b==.min || b==.max
  | _=>false
 | .move _ | .assign _ | .nilCheck _ | .pick .. | .build .. | .load .. | .binOp .. | .unOp .. | .convert .. | .makeFunc .. | .fieldAddr .. | .field .. | .indexAddr .. | .index .. | .extract .. | .lookup .. | .slice .. | .makeInterface .. | .typeAssert .. =>true
 | _=>false
theorem JY{β:Type}{s:Sem β}{f:β->aU}{h:L}{Q:Next->L->Prop}:(s.bind λx=>(Sem.pure (Next.value (f x)):Sem Next)).gh P h Q->(s.bind λx=>(Sem.pure (Next.value (f x)):Sem Next)).gh P h λa h'=>Q a h'/\∃v,a=.value v:=by
 induction s generalizing h with
 | pure a=>intro x;exact ⟨x,_,rfl⟩
 | load m a k b=>rintro ⟨i,j,p,c,t,f,v,e,d,z⟩;exact ⟨i,j,p,c,t,f,v,e,d,b v z⟩
 | store m a v k b=>rintro ⟨i,j,u,c,t,f,e,d,g,z⟩;exact ⟨i,j,u,c,t,f,e,d,g,b z⟩
 | new o k b=>intro x r w;exact b r (x r w)
 | shape r k b=>rintro ⟨p,c,t,f,y,z⟩;exact ⟨p,c,t,f,y,b _ z⟩
 | freeze a n k b=>
  rintro (⟨y,z⟩ | ⟨y,c,t,f,d,z⟩)
  ·exact .inl ⟨y,b z⟩
  ·exact .inr ⟨y,c,t,f,d,b z⟩
 | frozen a k b=>rintro ⟨p,c,t,f,y,z⟩;exact ⟨p,c,t,f,y,b _ z⟩
 | getObj r k b=>rintro ⟨p,o,e,d,g,z⟩;exact ⟨p,o,e,d,g,b _ z⟩
 | setObj r o k b=>rintro ⟨A,e,d,l,g,z⟩;exact ⟨A,e,d,l,g,b z⟩
 | choose q k b=>rintro ⟨y,z⟩;exact ⟨λx=>b _ (y x),λx t=>b _ (z x t)⟩
 | sys c k b=>intro x;exact x.elim
 | program k b=>intro x;exact b _ x
 | mark m k b=>rintro ⟨y,z⟩;exact ⟨y,b z⟩
 | halt x=>intro y;exact y.elim
def Gz(P:Program)(e:Sem Next):Prop:=∀(h:L)(Q:Next->L->Prop),e.gh P h Q->e.gh P h λa h'=>Q a h'/\∃v,a=.value v
theorem Gz.bind{β:Type}{s:Sem β}{f:β->Sem Next}(hf:∀a,Gz P (f a)):Gz P (s.bind f):=by
 induction s with
 | pure a=>exact hf a
 | load m a k b=>rintro h Q ⟨i,j,p,c,t,f,v,e,d,z⟩;exact ⟨i,j,p,c,t,f,v,e,d,b v _ _ z⟩
 | store m a v k b=>rintro h Q ⟨i,j,u,c,t,f,e,d,g,z⟩;exact ⟨i,j,u,c,t,f,e,d,g,b _ _ z⟩
 | new o k b=>intro h Q x r w;exact b r _ _ (x r w)
 | shape r k b=>rintro h Q ⟨p,c,t,f,y,z⟩;exact ⟨p,c,t,f,y,b _ _ _ z⟩
 | freeze a n k b=>
  rintro h Q (⟨y,z⟩ | ⟨y,c,t,f,d,z⟩)
  ·exact .inl ⟨y,b _ _ z⟩
  ·exact .inr ⟨y,c,t,f,d,b _ _ z⟩
 | frozen a k b=>rintro h Q ⟨p,c,t,f,y,z⟩;exact ⟨p,c,t,f,y,b _ _ _ z⟩
 | getObj r k b=>rintro h Q ⟨p,o,e,d,g,z⟩;exact ⟨p,o,e,d,g,b _ _ _ z⟩
 | setObj r o k b=>rintro h Q ⟨A,e,d,l,g,z⟩;exact ⟨A,e,d,l,g,b _ _ z⟩
 | choose q k b=>rintro h Q ⟨y,z⟩;exact ⟨λx=>b _ _ _ (y x),λx t=>b _ _ _ (z x t)⟩
 | sys c k b=>intro h Q x;exact x.elim
 | program k b=>intro h Q x;exact b _ _ _ x
 | mark m k b=>rintro h Q ⟨y,z⟩;exact ⟨y,b _ _ z⟩
 | halt x=>intro h Q y;exact y.elim
theorem Gz.value(v:aU):Gz P (pure (.value v)):=λ_ _ x=>⟨x,v,rfl⟩
theorem Z0{ρ:Operand->aU}{o:Oper}(hv:Js o.op=true){h:L}{Q:Next->L->Prop}(x:(execOp ρ o).gh P h Q):(execOp ρ o).gh P h λa h'=>Q a h'/\∃v,a=.value v:=by
 obtain ⟨d,op,i,g,j,k⟩:=o;cases op
 case nilCheck a=>
  have l:Gz P (runtimePanic .nilDeref:Sem Next):=λ_ _ y=>by first | exact y.elim | exact Gz.bind (λ_=>λ_ _ z=>z.elim) _ _ y
  have t:Gz P (execOp ρ ⟨d,.nilCheck a,i,g,j,k⟩):=by
   unfold execOp;dsimp only;split
   ·exact l
   ·exact l
   ·exact l
   ·split
    ·exact l
    ·refine Gz.bind λp=>Gz.bind λr=>?_;split
     ·exact Gz.bind λ_=>Gz.value _
     ·exact Gz.value _
    ·exact Gz.value _
   ·exact Gz.value _
  exact t _ _ x
 case call c=>
  simp only [Js] at hv;have e:∀s:Sem aU,execOp ρ ⟨d,.call c,i,g,j,k⟩=s.bind (λx=>Sem.pure (Next.value x))->(execOp ρ ⟨d,.call c,i,g,j,k⟩).gh P h λa h'=>Q a h'/\∃v,a=.value v:=λs q=>by
   rw [q] at x ⊢;exact JY (f:=λx=>x) x
  cases n:c.callee with
  | value f=>rw [n] at hv;cases hv
  | invoke r m=>rw [n] at hv;cases hv
  | builtin b=>
   rw [n] at hv;have q:execOp ρ ⟨d,.call c,i,g,j,k⟩=builtin b c.argTypes i (c.args.map fun | .const _=>true | _=>false) (c.args.map ρ):=by
    show (resolve ρ c i).bind _=_;unfold resolve;rw [n];rfl
   cases b <;> first | (simp at hv;done) | exact e _ q
 all_goals first | (simp [Js] at hv;done) | skip
 all_goals first | exact JY (s:=Sem.pure _) (f:=λ_=>_) x | exact JY (f:=λx=>x) x | exact JY (β:=Bool) x
theorem L.Le.get{h h':L}(l:h.Le h'){b:Nat}{x:Bool×Obj}(hb:h b=some x):h' b=some x:=l.keep (p:=x.1) (o:=x.2) hb rfl
theorem L.Le.of{h h':L}(x:∀b y,h b=some y->h' b=some y):h.Le h':=λb p o a=>⟨o,x b _ a,.inl rfl⟩
def Xa(h' h2:L):L:=λb=>match h' b with
 | some x=>some x
 | none=>h2 b
theorem Pa{h h2:L}(l:h.Le h2):Xa h h2=h2:=funext λb=>by
 unfold Xa;split
 ·rename_i x a;exact (l.get a).symm
 ·rfl
theorem L.Le.set2{h h2:L}(l:h.Le h2)(r:Nat)(p:Bool)(o:Obj):(h.set r p o).Le (h2.set r p o):=.of λb y a=>by
 by_cases e:b=r
 ·subst e;rw [L.set_same] at a ⊢;exact a
 ·rw [L.set_ne h p o e] at a;rw [L.set_ne h2 p o e];exact l.get a
def SU(h h':L):Prop:=∀b,(∃x,h b=some x)->∃x,h' b=some x
theorem Kp{h h' h2:L}{r:Nat}{p:Bool}{o:Obj}(d:SU (h.set r p o) h'):Xa h' (h2.set r p o)=Xa h' h2:=funext λb=>by
 unfold Xa;by_cases e:b=r
 ·subst e;obtain ⟨x,a⟩:=d b ⟨_,L.set_same h b p o⟩;rw [a]
 ·rw [L.set_ne h2 p o e]
theorem SU.set{h h':L}{r:Nat}{p:Bool}{o:Obj}(d:SU (h.set r p o) h'):SU h h':=λb ⟨x,a⟩=>by
 by_cases e:b=r
 ·subst e;exact d b ⟨_,L.set_same h b p o⟩
 ·exact d b ⟨x,by rw [L.set_ne h p o e];exact a⟩
theorem gh_over{U:Type}(e:Sem U){Q:U->L->Prop}:∀{h h2:L},h.Le h2->e.gh P h Q->e.gh P h2 λa h3=>∃h',SU h h'/\Q a h'/\h3=Xa h' h2:=by
 induction e with
 | pure a=>intro h h2 l x;exact ⟨h,λ_ y=>y,x,(Pa l).symm⟩
 | load m a k b=>rintro h h2 l ⟨s,u,p,c,t,f,v,i,g,z⟩;exact ⟨s,u,p,c,t,f,v,l.get i,g,b v l z⟩
 | store m a v k b=>
  rintro h h2 l ⟨s,u,C,c,t,f,i,g,j,z⟩;exact ⟨s,u,C,c,t,f,l.get i,g,j,Em _ (λ_ _ ⟨h',d,q,r⟩=>⟨h',d.set,q,r.trans (Kp d)⟩) _ (b (l.set2 _ _ _) z)⟩
 | new o k b=>
  intro h h2 l x r B;have w:h r=none:=by
   cases D:h r with
   | none=>rfl
   | some y=>rw [l.get D] at B;cases B
  exact Em _ (λ_ _ ⟨h',d,q,r⟩=>⟨h',d.set,q,r.trans (Kp d)⟩) _ (b r (l.set2 _ _ _) (x r w))
 | shape r k b=>rintro h h2 l ⟨p,c,t,f,y,z⟩;exact ⟨p,c,t,f,l.get y,b _ l z⟩
 | freeze a n k b=>
  rintro h h2 l (⟨y,z⟩ | ⟨y,c,t,f,g,z⟩)
  ·exact .inl ⟨y,b l z⟩
  ·exact .inr ⟨y,c,t,f,l.get g,Em _ (λ_ _ ⟨h',d,q,r⟩=>⟨h',d.set,q,r.trans (Kp d)⟩) _ (b (l.set2 _ _ _) z)⟩
 | frozen a k b=>rintro h h2 l ⟨p,c,t,f,y,z⟩;exact ⟨p,c,t,f,l.get y,b _ l z⟩
 | getObj r k b=>rintro h h2 l ⟨p,o,i,g,j,z⟩;exact ⟨p,o,l.get i,g,j,b _ l z⟩
 | setObj r o k b=>
  rintro h h2 l ⟨F,i,g,A,j,z⟩;exact ⟨F,l.get i,g,A,j,Em _ (λ_ _ ⟨h',d,q,r⟩=>⟨h',d.set,q,r.trans (Kp d)⟩) _ (b (l.set2 _ _ _) z)⟩
 | choose q k b=>rintro h h2 l ⟨y,z⟩;exact ⟨λx=>b _ l (y x),λx t=>b _ l (z x t)⟩
 | sys c k b=>intro h h2 l x;exact x.elim
 | program k b=>intro h h2 l x;exact b _ l x
 | mark m k b=>rintro h h2 l ⟨y,z⟩;exact ⟨y,b l z⟩
 | halt x=>intro h h2 l y;exact y.elim
def SV(E:Fl P)(o:Oper)(O:Nat->aU)(ds:List Deferred)(h:L)(v:aU):Prop:=BS E o O ds h λσ' ds' h'=>σ'=putS O o.dst v/\ds'=ds/\h'=h
theorem SV.move{o:Oper}{xs:List Operand}{O σ2:Nat->aU}{ds:List Deferred}{h h2:L}{v:aU}(hv:Js o.op=true)(hx:Ga o.op=some xs)(e:∀t ∈ HU xs,O t=σ2 t)(l:h.Le h2)
  (y:SV E o O ds h v):SV E o σ2 ds h2 v:=by
 unfold SV BS at y ⊢;rw [<-Ko hx (MS e)];refine Em _ ?_ _ (gh_over _ l (Z0 hv y));rintro a f ⟨g,_,⟨q,i,rfl⟩,rfl⟩;obtain ⟨b,_,rfl⟩:=q;refine ⟨?_,rfl,Pa l⟩;cases c:o.dst with
 | none=>rfl
 | some d=>
  have:=congrFun b d
  simp only [c,putS,upd_same] at this;rw [this]
theorem BS.move{o:Oper}{xs:List Operand}{O σ2:Nat->aU}{ds:List Deferred}{h:L}{T T2:(Nat->aU)->List Deferred->L->Prop}(hx:Ga o.op=some xs)(e:∀t ∈ HU xs,O t=σ2 t)
  (ht:∀x ds' h',T (putS O o.dst x) ds' h'->T2 (putS σ2 o.dst x) ds' h') (y:BS E o O ds h T):BS E o σ2 ds h T2:=by
 unfold BS at y ⊢;rw [<-Ko hx (MS e)];refine Em _ (λb h' q=>?_) _ y;cases b <;> first | exact ht _ _ _ q | exact AU.mono q λv a r=>ht _ _ _ r | exact Bt.mono q λv a r=>ht _ _ _ r | exact q
inductive Kd where
 | p | r | e | w | a | l | b
 deriving DecidableEq
def Kd.fix:Kd->Bool
 | .a | .l | .b=>false
 | _=>true
def isB:aU->Bool->Bool
 | .bool is,w=>is==w
 | _,_=>false
def Gd(l:List Oper)(o:Oper)(O:Nat->aU)(b:Bool):Prop:=match o.guard with
 | none=>b=true
 | some (g,w)=>∃og d is,l[g]? =some og/\og.dst=some d/\O d=is/\b=isB is w
theorem Gd.iff{l:List Oper}{o:Oper}{O:Nat->aU}{b:Bool}(x:Gd l o O b):Ch l o O↔b=true:=by
 unfold Gd at x;unfold Ch;cases a:o.guard with
 | none=>rw [a] at x;simp only at x;simp [x]
 | some y=>
  obtain ⟨g,w⟩:=y;rw [a] at x;obtain ⟨h,d,is,c,e,f,rfl⟩:=x;simp only [c,e,f];cases is <;> simp [isB]
def Gw(fl:Bool)(h hx:L):Prop:=h.Le hx/\(fl=false->hx=h)
theorem Gw.refl(fl:Bool)(h:L):Gw fl h h:=⟨L.Le.refl h,λ_=>rfl⟩
def zOf(P:Program)(t:aV):Array aU:=(Be P t).getD #[]
def skS:Kd->(Nat->aU)->Option Nat->Nat->aU
 | .l,O,_=>O
 | _,O,d=>putS O d undef
def TD(E:Fl P)(l:List Oper)(n:Nat)(fl:Bool)(hs:L)(ds:List Deferred)(Lw:Nat->aU->L->Prop)(F:(Nat->aU)->L->Prop):List (Kd×Nat)->(Nat->aU)->L->Prop
 | [],O,h=>∀hx,Gw fl h hx->F O hx
 | (kd,k) ::aP,O,h=>∃o b,l[k]? =some o/\Gd l o O b/\(b=false->TD E l n fl hs ds Lw F aP (skS kd O o.dst) h)/\(b=true->match kd with
  | .p=>∃v,(∀hx,Lw n undef hx->SV E o O ds hx v)/\TD E l n fl hs ds Lw F aP (putS O o.dst v) h
  | .r=>∃v,SV E o O ds h v/\TD E l n fl hs ds Lw F aP (putS O o.dst v) h
  | .e=>∀hx,Gw fl h hx->BS E o O ds hx λσ' ds' h'=>ds'=ds/\∃v,σ'=putS O o.dst v/\hx.Le h'/\TD E l n fl hs ds Lw F aP (putS O o.dst v) h'
  | .w=>∀hx,Gw fl h hx->BS E o O ds hx λσ' ds' h'=>ds'=ds/\∃v,σ'=putS O o.dst v/\Lw n undef h'/\TD E l n false hs ds Lw F aP (putS O o.dst v) h'
  | .a=>∀t r hx,o.op=.alloc t->h.Le hx->hs r=none->hx r=some (true,.cells (zOf P t) t (0,0))->TD E l n fl hs ds Lw F aP (putS O o.dst (.pointer (some ⟨r,0,none⟩))) hx
  | .l=>(∀hx,h.Le hx->BS E o O ds hx λσ' ds' h'=>ds'=ds/\∃v,σ'=putS O o.dst v/\hx.Le h'/\Lw k v h')/\TD E l n fl hs ds Lw F aP O h
  | .b=>∀v hx,h.Le hx->Lw k v hx->TD E l n fl hs ds Lw F aP (putS O o.dst v) hx)
def GS(l:List Oper)(n:Nat)(cl seen:List Nat)(t:Nat):Bool:= !(C6 l n).contains t || seen.any λj=>cl.contains j && match l[j]? with
 | some oj=>oj.dst==some t
 | none=>false
def Hp(l:List Oper)(n:Nat)(cls:List (List Nat))(seen:List Nat)(k t:Nat):Bool:=(List.range n).any λj=> !seen.contains j && (cls.getD j []).contains k && match l[j]? with
 | some oj=>oj.dst==some t
 | none=>false
def RB(P:Program):Op->Bool
 | .alloc t=>(Be P t).isSome
 | _=>false
def FZ(P:Program)(l:List Oper)(n:Nat)(cls:List (List Nat))(fl:Bool):List (Kd×Nat)->List Nat->List Nat->List Nat->Bool->Bool
 | [],seen,_,_,_=>(List.range n).all seen.contains
 | (kd,k) ::aP,seen,effs,rds,wr=>match l[k]? with
  | none=>false
  | some o=>(match Ga o.op with
    | none=>false
    | some xs=>Nat.blt k n && !seen.contains k && (HU xs).all λt=>GS l n (cls.getD k []) seen t || (kd.fix && Hp l n cls seen k t)) &&
   (match o.guard with
    | none=>true
    | some (g,_)=>seen.contains g && (cls.getD k []).contains g) &&
   (match kd with
    | .p=>Js o.op && effs.all (cls.getD k []).contains && FZ P l n cls fl aP (k ::seen) effs rds wr
    | .r=>Js o.op && effs.all (cls.getD k []).contains && FZ P l n cls fl aP (k ::seen) effs (k ::rds) wr
    | .e=>effs.all (cls.getD k []).contains && FZ P l n cls fl aP (k ::seen) (k ::effs) rds wr
    | .w=>effs.all (cls.getD k []).contains && rds.all (cls.getD k []).contains && FZ P l n cls fl aP (k ::seen) (k ::effs) rds true
    | .a=>fl && !wr && RB P o.op && o.dst.isSome && o.guard.isNone && FZ P l n cls fl aP (k ::seen) (k ::effs) rds wr
    | .l=>fl && o.dst.isSome && effs.all (cls.getD k []).contains && FZ P l n cls fl aP seen effs rds wr
    | .b=>fl && !wr && o.dst.isSome && FZ P l n cls fl aP (k ::seen) (k ::effs) rds wr)
structure PF(E:Fl P)(l:List Oper)(n:Nat)(cls:List (List Nat))(ds:List Deferred)(Lw:Nat->aU->L->Prop)(σ0:Nat->aU)(seen rds:List Nat)(σr:Nat->aU)(h':L)(k:Nat)(o:Oper)(xs:List Operand)(b:Bool)(v:aU):Prop where
 at':l[k]? =some o
 op:Ga o.op=some xs
 val:Js o.op=true
 gfix:∀g w,o.guard=some (g,w)->g ∈ seen/\g ∈ cls.getD k []
 gd:Gd l o σr b
 vop:b=true->∃σk,(∀t ∈ HU xs,(GS l n (cls.getD k []) seen t=true/\σk t=σr t)\/(Hp l n cls [] k t=true/\σk t=σ0 t))/\SV E o σk ds h' v/\(k ∈ rds\/∀hx,Lw n undef hx->SV E o σk ds hx v)
 is:∀d,o.dst=some d->σr d=if b=true then v else undef
def Xb(E:Fl P)(l:List Oper)(n:Nat)(cls:List (List Nat))(ds:List Deferred)(Lw:Nat->aU->L->Prop)(seen:List Nat)(σr:Nat->aU)(h':L)(k:Nat):Prop:=
 ∃o xs b,l[k]? =some o/\Ga o.op=some xs/\(∀t ∈ HU xs,GS l n (cls.getD k []) seen t=true)/\(∀g w,o.guard=some (g,w)->g ∈ seen/\g ∈ cls.getD k [])/\Gd l o σr b/\(b=true->
  ∀σ2 hx,(∀t ∈ HU xs,σr t=σ2 t)->h'.Le hx->BS E o σ2 ds hx λσ'' ds' h2=>ds'=ds/\∃v,σ''=putS σ2 o.dst v/\hx.Le h2/\Lw k v h2)
structure Gb(E:Fl P)(l:List Oper)(n:Nat)(cls:List (List Nat))(fl:Bool)(hs:L)(ds:List Deferred)(Lw:Nat->aU->L->Prop)(F:(Nat->aU)->L->Prop)(σ0:Nat->aU)(seen effs rds:List Nat)(wr:Bool)(aP:List (Kd×Nat))(σr:Nat->aU)(hr:L)
  (D:Nat->Bool) (σ':Nat->aU) (h':L):Prop where
 td:TD E l n (fl && !wr) hs ds Lw F aP σr hr
 ok:FZ P l n cls fl aP seen effs rds wr=true
 gw:Gw (fl && !wr) hr h'
 base:∀t,(C6 l n).contains t=false->σ' t=σr t
 lt:∀k ∈ seen,k<n
 eff:∀k ∈ effs,D k=true
 rest:∀kd k,(kd,k) ∈ aP->kd.fix=true->D k=false
 done:∀k ∈ seen,D k=true->∀o d,l[k]? =some o->o.dst=some d->σ' d=σr d
 pend:∀k ∈ seen,D k=false->∃o xs b v,PF E l n cls ds Lw σ0 seen rds σr h' k o xs b v
 flo:∀k,(Kd.a,k) ∈ aP->D k=true->∀o t d,l[k]? =some o->o.op=.alloc t->o.dst=some d->∃r,σ' d=.pointer (some ⟨r,0,none⟩)/\hs r=none/\h' r=some (true,.cells (zOf P t) t (0,0))
 flb:∀k,(Kd.b,k) ∈ aP->D k=false->(Kd.l,k) ∈ aP\/Xb E l n cls ds Lw seen σr h' k
 fld:∀k,(Kd.b,k) ∈ aP->D k=true->∀o d,l[k]? =some o->o.dst=some d->∃b,Gd l o σ' b/\(b=true->Lw k (σ' d) h')/\(b=false->σ' d=undef)
 mono:∀k v h1 h2,L.Le h1 h2->Lw k v h1->Lw k v h2
 frm:Lw n undef h'
 pre:wr=false->hs.Le h'
 clos:∀k,k<n->D k=true->∀q ∈ cls.getD k [],D q=true
 iniR:∀j,j<n->j ∉ seen->∀o t,l[j]? =some o->o.dst=some t->σr t=σ0 t
 iniS:∀j,j<n->D j=false->∀o t,l[j]? =some o->o.dst=some t->σ' t=σ0 t
theorem J9{l:List Oper}{n:Nat}{cls:List (List Nat)}{seen:List Nat}{k t:Nat}(x:Hp l n cls seen k t=true):∃j o,j<n/\j ∉ seen/\k ∈ cls.getD j []/\l[j]? =some o/\o.dst=some t:=by
 unfold Hp at x;obtain ⟨j,b,y⟩:=List.any_eq_true.1 x;rw [Bool.and_eq_true,Bool.and_eq_true] at y;cases a:l[j]? with
 | none=>rw [a] at y;simp at y
 | some c=>
  rw [a] at y;exact ⟨j,c,List.mem_range.1 b,(λd=>by rw [List.contains_iff_mem.2 d] at y;simp at y),List.contains_iff_mem.1 y.1.2,a,by simpa using y.2⟩
theorem NY{l:List Oper}{n:Nat}{cls:List (List Nat)}{seen:List Nat}{k t:Nat}(x:Hp l n cls seen k t=true):Hp l n cls [] k t=true:=by
 unfold Hp at x ⊢;obtain ⟨j,a,y⟩:=List.any_eq_true.1 x;rw [Bool.and_eq_true,Bool.and_eq_true] at y;exact List.any_eq_true.2 ⟨j,a,by rw [Bool.and_eq_true,Bool.and_eq_true];exact ⟨⟨rfl,y.1.2⟩,y.2⟩⟩
theorem I2{l:List Oper}{n:Nat}{cl seen:List Nat}{k t:Nat}(x:GS l n cl seen t=true):GS l n cl (k ::seen) t=true:=by
 unfold GS at x ⊢;rw [Bool.or_eq_true] at x ⊢;rcases x with x | x
 ·exact .inl x
 ·exact .inr (by rw [List.any_cons,x];simp)
theorem Lh{l:List Oper}{n:Nat}{cl seen:List Nat}{k t d:Nat}{o:Oper}(nd:(C6 l n).Nodup)(hlt:∀k ∈ seen,k<n)(hk:k<n)(hs:k ∉ seen)(ho:l[k]? =some o)(hd:o.dst=some d)(x:GS l n cl seen t=true):t≠d:=by
 intro e;subst e;unfold GS at x;rw [Bool.or_eq_true] at x;rcases x with x | x
 ·have:t ∈ C6 l n:=by
   simp only [C6,List.mem_filterMap];refine ⟨o,?_,hd⟩
   have:(l.take n)[k]? =some o:=by rw [List.getElem?_take];simp [hk,ho]
   exact List.mem_of_getElem? this
  simp [this] at x
 ·rw [List.any_eq_true] at x;obtain ⟨j,b,y⟩:=x;rw [Bool.and_eq_true] at y;cases a:l[j]? with
  | none=>rw [a] at y;simp at y
  | some c=>
   rw [a] at y;have f:c.dst=some t:=by simpa using y.2
   exact DY nd hk (hlt j b) (λe=>hs (e▸b)) ho a hd f rfl
theorem Cl{O:Nat->aU}{o:Oper}{v:aU}{t:Nat}(h:∀d,o.dst=some d->t≠d):putS O o.dst v t=O t:=by
 cases a:o.dst with
 | none=>rfl
 | some d=>exact upd_ne O v (J6 (h d a))
theorem HV{l:List Oper}{n k t:Nat}{o:Oper}(hk:k<n)(ho:l[k]? =some o)(ht:(C6 l n).contains t=false):∀d,o.dst=some d->t≠d:=λd a e=>by
 subst e;rw [NP hk ho a] at ht;cases ht
section
variable {l:List Oper} {n:Nat} {cls:List (List Nat)} {fl:Bool} {hs:L} {ds:List Deferred} {Lw:Nat->aU->L->Prop} {F:(Nat->aU)->L->Prop} {seen effs rds:List Nat} {wr:Bool} {aP:List (Kd×Nat)} {σ0 σr σ':Nat->aU} {hr h':L} {D:Nat->Bool}
theorem Gd.put{o ok:Oper}{k:Nat}{b:Bool}{v:aU}(nd:(C6 l n).Nodup)(hlt:∀k ∈ seen,k<n)(hk:k<n)(hks:k ∉ seen)(hok:l[k]? =some ok)(hg:∀g w,o.guard=some (g,w)->g ∈ seen)(x:Gd l o σr b):Gd l o (putS σr ok.dst v) b:=by
 unfold Gd at x ⊢;cases a:o.guard with
 | none=>rw [a] at x;exact x
 | some y=>
  obtain ⟨g,w⟩:=y;rw [a] at x;obtain ⟨j,d,is,h,i,m,p⟩:=x;have c:=hg g w a;exact ⟨j,d,is,h,i,by rw [Cl λq f=>DY nd hk (hlt g c) (λe=>hks (e▸c)) hok h f i];exact m,p⟩
theorem PF.put{k j:Nat}{o ok:Oper}{xs:List Operand}{b:Bool}{v w:aU}(nd:(C6 l n).Nodup)(hlt:∀k ∈ seen,k<n)(hk:k<n)(hks:k ∉ seen)(hok:l[k]? =some ok)(hj:j ∈ seen)(l2:hr.Le h')
  (x:PF E l n cls ds Lw σ0 seen rds σr hr j o xs b v):PF E l n cls ds Lw σ0 (k ::seen) rds (putS σr ok.dst w) h' j o xs b v where
 at':=x.at'
 op:=x.op
 val:=x.val
 gfix:=λg a c=>⟨List.mem_cons_of_mem _ (x.gfix g a c).1,(x.gfix g a c).2⟩
 gd:=x.gd.put nd hlt hk hks hok λg a c=>(x.gfix g a c).1
 vop:=λi=>by
  obtain ⟨σk,m,p,r⟩:=x.vop i;exact ⟨σk,λt s=>(m t s).imp (λq=>⟨I2 q.1,q.2.trans (Cl λd f=>Lh nd hlt hk hks hok f q.1).symm⟩) id,p.move x.val x.op (λ_ _=>rfl) l2,r⟩
 is:=λd f=>by rw [Cl λu h=>DY nd hk (hlt j hj) (λe=>hks (e▸hj)) hok x.at' h f];exact x.is d f
theorem PF.more{j:Nat}{o:Oper}{xs:List Operand}{b:Bool}{v:aU}{k:Nat}(x:PF E l n cls ds Lw σ0 seen rds σr h' j o xs b v):PF E l n cls ds Lw σ0 seen (k ::rds) σr h' j o xs b v:=
 { x with vop:=λa=>by obtain ⟨σk,c,d,e⟩:=x.vop a;exact ⟨σk,c,d,e.imp (List.mem_cons_of_mem _) id⟩ }
theorem Xb.put{k j:Nat}{ok:Oper}{w:aU}(nd:(C6 l n).Nodup)(hlt:∀k ∈ seen,k<n)(hk:k<n)(hks:k ∉ seen)(hok:l[k]? =some ok)(x:Xb E l n cls ds Lw seen σr h' j):Xb E l n cls ds Lw (k ::seen) (putS σr ok.dst w) h' j:=by
 obtain ⟨o,m,b,p,q,i,f,h,r⟩:=x;exact ⟨o,m,b,p,q,λt a=>I2 (i t a),λg c e=>⟨List.mem_cons_of_mem _ (f g c e).1,(f g c e).2⟩,h.put nd hlt hk hks hok λg c e=>(f g c e).1,
  λs σ2 u e v=>r s σ2 u (λt a=>(Cl λd y=>Lh nd hlt hk hks hok y (i t a)).symm.trans (e t a)) v⟩
theorem Xb.le{j:Nat}{h2:L}(l2:h'.Le h2)(x:Xb E l n cls ds Lw seen σr h' j):Xb E l n cls ds Lw seen σr h2 j:=by
 obtain ⟨o,c,b,d,f,g,h,a,i⟩:=x;exact ⟨o,c,b,d,f,g,h,a,λk σ2 m e p=>i k σ2 m e (l2.trans p)⟩
theorem Fb{kd kd2:Kd}{k j:Nat}(h:(kd2,j) ∈ (kd,k) ::aP)(ne:kd2≠kd):(kd2,j) ∈ aP:=by
 rcases List.mem_cons.1 h with e | h
 ·cases e;exact absurd rfl ne
 ·exact h
def Z1(P:Program)(l:List Oper)(n:Nat)(cls:List (List Nat))(fl:Bool)(aP:List (Kd×Nat))(seen effs rds:List Nat)(wr:Bool)(k:Nat)(o:Oper):Kd->Prop
 | .p=>Js o.op=true/\(∀q ∈ effs,q ∈ cls.getD k [])/\FZ P l n cls fl aP (k ::seen) effs rds wr=true
 | .r=>Js o.op=true/\(∀q ∈ effs,q ∈ cls.getD k [])/\FZ P l n cls fl aP (k ::seen) effs (k ::rds) wr=true
 | .e=>(∀q ∈ effs,q ∈ cls.getD k [])/\FZ P l n cls fl aP (k ::seen) (k ::effs) rds wr=true
 | .w=>(∀q ∈ effs,q ∈ cls.getD k [])/\(∀q ∈ rds,q ∈ cls.getD k [])/\FZ P l n cls fl aP (k ::seen) (k ::effs) rds true=true
 | .a=>fl=true/\wr=false/\RB P o.op=true/\o.dst.isSome=true/\o.guard=none/\FZ P l n cls fl aP (k ::seen) (k ::effs) rds wr=true
 | .l=>fl=true/\o.dst.isSome=true/\(∀q ∈ effs,q ∈ cls.getD k [])/\FZ P l n cls fl aP seen effs rds wr=true
 | .b=>fl=true/\wr=false/\o.dst.isSome=true/\FZ P l n cls fl aP (k ::seen) (k ::effs) rds wr=true
theorem ER{kd:Kd}{k:Nat}(x:FZ P l n cls fl ((kd,k) ::aP) seen effs rds wr=true) :
  ∃o xs,l[k]? =some o/\Ga o.op=some xs/\k<n/\k ∉ seen/\(∀t ∈ HU xs,GS l n (cls.getD k []) seen t=true\/(kd.fix=true/\Hp l n cls seen k t=true))/\(∀g w,o.guard=some (g,w)->g ∈ seen/\g ∈ cls.getD k [])/\
  Z1 P l n cls fl aP seen effs rds wr k o kd:=by
 unfold FZ at x;cases e:l[k]? with
 | none=>rw [e] at x;cases x
 | some o=>
  rw [e] at x;simp only [Bool.and_eq_true] at x;obtain ⟨⟨b,c⟩,a⟩:=x;cases d:Ga o.op with
  | none=>rw [d] at b;cases b
  | some xs=>
   rw [d] at b;simp only [Bool.and_eq_true,Bool.or_eq_true,Bool.not_eq_true',List.all_eq_true] at b;obtain ⟨⟨h,f⟩,i⟩:=b;refine ⟨o,xs,rfl,d,Nat.blt_eq▸h,(λj=>by rw [List.contains_iff_mem.2 j] at f;cases f),i,λg w m=>?_,?_⟩
   ·rw [m] at c;simp only [Bool.and_eq_true] at c;exact ⟨List.contains_iff_mem.1 c.1,List.contains_iff_mem.1 c.2⟩
   ·cases kd <;> unfold Z1 <;> simp only [Bool.and_eq_true,List.all_eq_true,List.contains_iff_mem,Bool.not_eq_true',Option.isNone_iff_eq_none] at a ⊢
    ·exact ⟨a.1.1,a.1.2,a.2⟩
    ·exact ⟨a.1.1,a.1.2,a.2⟩
    ·exact a
    ·exact ⟨a.1.1,a.1.2,a.2⟩
    ·exact ⟨a.1.1.1.1.1,a.1.1.1.1.2,a.1.1.1.2,a.1.1.2,a.1.2,a.2⟩
    ·exact ⟨a.1.1.1,a.1.1.2,a.1.2,a.2⟩
    ·exact ⟨a.1.1.1,a.1.1.2,a.1.2,a.2⟩
theorem Fv{kd:Kd}{k:Nat}(x:FZ P l n cls fl ((kd,k) ::aP) seen effs rds wr=true):∃seen' effs' rds' wr',FZ P l n cls fl aP seen' effs' rds' wr'=true/\(∀q ∈ seen,q ∈ seen')/\(kd≠.l->seen'=k ::seen)/\(kd=.l->seen'=seen)/\(∀q ∈ effs,q ∈ effs')/\(kd=.e\/kd=.w\/kd=.a\/kd=.b->k ∈ effs'):=by
 obtain ⟨o,c,_,_,_,_,_,_,y⟩:=ER x;cases kd with
 | p=>exact ⟨_,_,_,_,y.2.2,λ_ q=>List.mem_cons_of_mem _ q,λ_=>rfl,(λe=>by cases e),λ_ q=>q,λe=>by rcases e with e | e | e | e <;> cases e⟩
 | r=>exact ⟨_,_,_,_,y.2.2,λ_ q=>List.mem_cons_of_mem _ q,λ_=>rfl,(λe=>by cases e),λ_ q=>q,λe=>by rcases e with e | e | e | e <;> cases e⟩
 | e=>exact ⟨_,_,_,_,y.2,λ_ q=>List.mem_cons_of_mem _ q,λ_=>rfl,(λe=>by cases e),λ_ q=>List.mem_cons_of_mem _ q,λ_=>List.mem_cons_self⟩
 | w=>exact ⟨_,_,_,_,y.2.2,λ_ q=>List.mem_cons_of_mem _ q,λ_=>rfl,(λe=>by cases e),λ_ q=>List.mem_cons_of_mem _ q,λ_=>List.mem_cons_self⟩
 | a=>exact ⟨_,_,_,_,y.2.2.2.2.2,λ_ q=>List.mem_cons_of_mem _ q,λ_=>rfl,(λe=>by cases e),λ_ q=>List.mem_cons_of_mem _ q,λ_=>List.mem_cons_self⟩
 | l=>exact ⟨_,_,_,_,y.2.2.2,λ_ q=>q,(λe=>absurd rfl e),λ_=>rfl,λ_ q=>q,λe=>by rcases e with e | e | e | e <;> cases e⟩
 | b=>exact ⟨_,_,_,_,y.2.2.2,λ_ q=>List.mem_cons_of_mem _ q,λ_=>rfl,(λe=>by cases e),λ_ q=>List.mem_cons_of_mem _ q,λ_=>List.mem_cons_self⟩
theorem DJ:∀{aP:List (Kd×Nat)}{seen effs rds:List Nat}{wr:Bool},FZ P l n cls fl aP seen effs rds wr=true->∀kd k,(kd,k) ∈ aP->k ∉ seen/\k<n
 | [],_,_,_,_,_,kd,k,h=>by cases h
 | (b,g) ::aP,seen,effs,rds,wr,x,kd,k,h=>by
  obtain ⟨o,i,_,_,c,d,_⟩:=ER x;rcases List.mem_cons.1 h with e | h
  ·cases e;exact ⟨d,c⟩
  ·obtain ⟨seen',effs',a,f,y,z,_⟩:=Fv x
   have:=DJ y kd k h
   exact ⟨λq=>this.1 (z _ q),this.2⟩
theorem NZ:∀{aP:List (Kd×Nat)}{seen effs rds:List Nat}{wr:Bool},FZ P l n cls fl aP seen effs rds wr=true->∀i,i<n->i ∈ seen\/∃kd,(kd,i) ∈ aP/\kd≠.l
 | [],seen,_,_,_,x,i,b=>by
  unfold FZ at x;exact .inl (List.contains_iff_mem.1 (List.all_eq_true.1 x i (List.mem_range.2 b)))
 | (a,k) ::aP,seen,effs,rds,wr,x,i,b=>by
  obtain ⟨seen',effs',d,f,y,_,g,j,_⟩:=Fv x;rcases NZ y i b with h | ⟨kd,h,c⟩
  ·by_cases e:a=.l
   ·rw [j e] at h;exact .inl h
   ·rw [g e] at h;rcases List.mem_cons.1 h with rfl | h
    ·exact .inr ⟨a,List.mem_cons_self,e⟩
    ·exact .inl h
  ·exact .inr ⟨kd,List.mem_cons_of_mem _ h,c⟩
theorem Na:∀{aP:List (Kd×Nat)}{seen effs rds:List Nat}{wr:Bool},FZ P l n cls fl aP seen effs rds wr=true->∀kd k,(kd,k) ∈ aP->kd≠.a->kd≠.b->∀q ∈ effs,q ∈ cls.getD k []
 | [],_,_,_,_,_,kd,k,h=>by cases h
 | (g,m) ::aP,seen,effs,rds,wr,x,kd,k,h=>by
  intro d f q c;rcases List.mem_cons.1 h with e | h
  ·cases e;obtain ⟨o,s,_,_,_,_,_,_,y⟩:=ER x;cases g with
   | p=>exact y.2.1 q c
   | r=>exact y.2.1 q c
   | e=>exact y.1 q c
   | w=>exact y.1 q c
   | a=>exact absurd rfl d
   | l=>exact y.2.2.1 q c
   | b=>exact absurd rfl f
  ·obtain ⟨seen',effs',i,j,y,_,_,_,z,_⟩:=Fv x;exact Na y kd k h d f q (z q c)
theorem Gc{n k:Nat}{seen:List Nat}(h:∀q ∈ seen,q<n)(hk:k<n):∀q ∈ k ::seen,q<n:=λq hq=>by
 rcases List.mem_cons.1 hq with rfl | hq
 ·exact hk
 ·exact h q hq
theorem Cy:∀{aP:List (Kd×Nat)}{seen effs rds:List Nat}{wr:Bool},FZ P l n cls fl aP seen effs rds wr=true->(∀q ∈ seen,q<n)->∀kd k,(kd,k) ∈ aP->kd=.a\/kd=.b->fl=true/\wr=false/\k<n/\∃o,l[k]? =some o/\(kd=.a->RB P o.op=true/\o.guard=none)/\o.dst.isSome=true/\∀g w,o.guard=some (g,w)->g<n/\g ∈ cls.getD k []
 | [],_,_,_,_,_,_,kd,k,h=>by cases h
 | (s,u) ::aP,seen,effs,rds,wr,x,c,kd,k,h=>by
  intro d;obtain ⟨o,v,t,y,i,z,A,m,f⟩:=ER x;rcases List.mem_cons.1 h with e | h6
  ·cases e;rcases d with rfl | rfl
   ·exact ⟨f.1,f.2.1,i,o,t,λ_=>⟨f.2.2.1,f.2.2.2.2.1⟩,f.2.2.2.1,λg w j=>⟨c g (m g w j).1,(m g w j).2⟩⟩
   ·exact ⟨f.1,f.2.1,i,o,t,(λe=>by cases e),f.2.2.1,λg w j=>⟨c g (m g w j).1,(m g w j).2⟩⟩
  ·cases s with
   | p=>exact Cy f.2.2 (Gc c i) kd k h6 d
   | r=>exact Cy f.2.2 (Gc c i) kd k h6 d
   | e=>exact Cy f.2 (Gc c i) kd k h6 d
   | w=>have:=(Cy f.2.2 (Gc c i) kd k h6 d).2.1;cases this
   | a=>exact Cy f.2.2.2.2.2 (Gc c i) kd k h6 d
   | l=>exact Cy f.2.2.2 c kd k h6 d
   | b=>exact Cy f.2.2.2 (Gc c i) kd k h6 d
theorem Gd.other{o ok:Oper}{k:Nat}{b:Bool}{v:aU}{O:Nat->aU}(nd:(C6 l n).Nodup)(hk:k<n)(hok:l[k]? =some ok)(hg:∀g w,o.guard=some (g,w)->g<n/\g≠k)(x:Gd l o O b):Gd l o (putS O ok.dst v) b:=by
 unfold Gd at x ⊢;cases a:o.guard with
 | none=>rw [a] at x;exact x
 | some y=>
  obtain ⟨g,w⟩:=y;rw [a] at x;obtain ⟨m,d,is,i,j,p,q⟩:=x;obtain ⟨c,f⟩:=hg g w a;exact ⟨m,d,is,i,j,by rw [Cl λr h=>DY nd hk c (λe=>f e.symm) hok i h j];exact p,q⟩
theorem Gd.uniq{o:Oper}{O:Nat->aU}{b b':Bool}(x:Gd l o O b)(y:Gd l o O b'):b=b':=by
 have a:=x.iff;have c:=y.iff;rw [a] at c;cases b <;> cases b' <;> simp_all
theorem H1{k:Nat}:GF D k k=true:=by simp [GF]
theorem CJ{k j:Nat}(h:j≠k):GF D k j=D j:=by unfold GF;rw [aS (λe=>h e.symm)]
theorem FB{k j:Nat}(h:D j=true):GF D k j=true:=by unfold GF;split <;> simp [h]
theorem Gb.agree(x:Gb E l n cls fl hs ds Lw F σ0 seen effs rds wr aP σr hr D σ' h'){cl:List Nat}(hcl:∀q ∈ cl,D q=true){t:Nat}(y:GS l n cl seen t=true):σr t=σ' t:=by
 unfold GS at y;rw [Bool.or_eq_true] at y;rcases y with y | y
 ·exact (x.base t (by simpa using y)).symm
 ·rw [List.any_eq_true] at y;obtain ⟨j,b,z⟩:=y;rw [Bool.and_eq_true] at z;cases a:l[j]? with
  | none=>rw [a] at z;simp at z
  | some c=>
   rw [a] at z;exact (x.done j b (hcl j (List.contains_iff_mem.1 z.1)) c t a (by simpa using z.2)).symm
theorem Gb.late(x:Gb E l n cls fl hs ds Lw F σ0 seen effs rds wr aP σr hr D σ' h'){k t:Nat}(hkD:D k=false)(y:Hp l n cls [] k t=true):σ' t=σ0 t:=by
 obtain ⟨j,o,a,_,b,c,d⟩:=J9 y;refine x.iniS j a ?_ o t c d;cases e:D j with
 | false=>rfl
 | true=>have:=x.clos j a e k b;rw [hkD] at this;cases this
theorem Gb.agree2(x:Gb E l n cls fl hs ds Lw F σ0 seen effs rds wr aP σr hr D σ' h'){k:Nat}{kd:Kd}(hcl:∀q ∈ cls.getD k [],D q=true)(hkD:D k=false){t:Nat}(y:GS l n (cls.getD k []) seen t=true\/(kd.fix=true/\Hp l n cls seen k t=true)):σr t=σ' t:=by
 rcases y with y | ⟨_,y⟩
 ·exact x.agree hcl y
 ·obtain ⟨j,o,b,a,_,c,d⟩:=J9 y;rw [x.iniR j b a o t c d,x.late hkD (NY y)]
theorem Gb.iniR'(x:Gb E l n cls fl hs ds Lw F σ0 seen effs rds wr aP σr hr D σ' h')(nd:(C6 l n).Nodup){k:Nat}{o:Oper}{v:aU}(hkn:k<n)(ho:l[k]? =some o):∀j,j<n->j ∉ k ::seen->∀o' t,l[j]? =some o'->o'.dst=some t->putS σr o.dst v t=σ0 t:=λj f a o' t b c=>by
 rw [Cl λd g=>DY nd hkn f (λe=>a (by rw [e];exact List.mem_cons_self)) ho b g c];exact x.iniR j f (λq=>a (List.mem_cons_of_mem _ q)) o' t b c
theorem Gb.iniS'(x:Gb E l n cls fl hs ds Lw F σ0 seen effs rds wr aP σr hr D σ' h')(nd:(C6 l n).Nodup){k:Nat}{o:Oper}{v:aU}(hkn:k<n)(ho:l[k]? =some o):∀j,j<n->GF D k j=false->∀o' t,l[j]? =some o'->o'.dst=some t->putS σ' o.dst v t=σ0 t:=λj f c o' t a b=>by
 have e:k≠j:=λe=>by subst e;rw [H1] at c;cases c
 rw [Cl λd g=>DY nd hkn f e ho a g b];rw [CJ e.symm] at c;exact x.iniS j f c o' t a b
theorem Gb.guard(x:Gb E l n cls fl hs ds Lw F σ0 seen effs rds wr aP σr hr D σ' h'){cl:List Nat}(hcl:∀q ∈ cl,D q=true){o:Oper}{b:Bool}(hg:∀g w,o.guard=some (g,w)->g ∈ seen/\g ∈ cl)(y:Gd l o σr b):Gd l o σ' b:=by
 unfold Gd at y ⊢;cases a:o.guard with
 | none=>rw [a] at y;exact y
 | some z=>
  obtain ⟨g,w⟩:=z;rw [a] at y;obtain ⟨c,d,is,e,f,h,i⟩:=y;exact ⟨c,d,is,e,f,by rw [x.done g (hg g w a).1 (hcl g (hg g w a).2) c d e f];exact h,i⟩
theorem Gb.unfoldV{kd:Kd}{k:Nat}(nd:(C6 l n).Nodup)(hkd:kd=.p\/kd=.r)(x:Gb E l n cls fl hs ds Lw F σ0 seen effs rds wr ((kd,k) ::aP) σr hr D σ' h') :
  ∃rds' σr',Gb E l n cls fl hs ds Lw F σ0 (k ::seen) effs rds' wr aP σr' hr D σ' h':=by
 obtain ⟨o,xs,h,C,a,f,H,R,K⟩:=ER x.ok;obtain ⟨y,b,S,T,hF,hT⟩:=x.td;obtain rfl:y=o:=Option.some.inj (S.symm.trans h);have U:D k=false:=x.rest kd k List.mem_cons_self (by rcases hkd with e | e <;> rw [e] <;> rfl);have u:Js y.op=true:=by rcases hkd with rfl | rfl <;> exact K.1
 have i:∀(v:aU)(rds':List Nat),(rds'=rds\/rds'=k ::rds)->FZ P l n cls fl aP (k ::seen) effs rds' wr=true->TD E l n (fl && !wr) hs ds Lw F aP (putS σr y.dst (if b=true then v else undef)) hr->
   (b=true->SV E y σr ds h' v/\(k ∈ rds'\/∀C,Lw n undef C->SV E y σr ds C v))->Gb E l n cls fl hs ds Lw F σ0 (k ::seen) effs rds' wr aP (putS σr y.dst (if b=true then v else undef)) hr D σ' h':=by
  intro v rds' M W X hv;refine ⟨X,W,x.gw,λt O=>?_,λj hj=>?_,x.eff,λkd' j hj hne=>x.rest kd' j (List.mem_cons_of_mem _ hj) hne,λj hj c A d m B=>?_,λj hj c=>?_,λj hj=>x.flo j (List.mem_cons_of_mem _ hj),λj hj c=>(x.flb j (List.mem_cons_of_mem _ hj) c).imp (λq=>Fb q (by rcases hkd with e | e <;> rw [e] <;> decide)) (Xb.put nd x.lt a f h),λj hj=>x.fld j (List.mem_cons_of_mem _ hj),x.mono,x.frm,x.pre,x.clos,x.iniR' nd a h,x.iniS⟩
  ·rw [Cl (HV a h O)];exact x.base t O
  ·rcases List.mem_cons.1 hj with rfl | hj
   ·exact a
   ·exact x.lt j hj
  ·rcases List.mem_cons.1 hj with rfl | hj
   ·rw [U] at c;cases c
   ·rw [Cl λd' z=>DY nd a (x.lt j hj) (λe=>f (e▸hj)) h m z B];exact x.done j hj c A d m B
  ·rcases List.mem_cons.1 hj with rfl | hj
   ·refine ⟨y,xs,b,v,h,C,u,λg w s=>⟨List.mem_cons_of_mem _ (R g w s).1,(R g w s).2⟩,T.put nd x.lt a f h λg w s=>(R g w s).1,λhb=>?_,λd B=>?_⟩
    ·obtain ⟨y1,y2⟩:=hv hb;refine ⟨σr,λt O=>?_,y1,y2⟩;rcases H t O with q | ⟨_,q⟩
     ·exact .inl ⟨I2 q,(Cl λd B=>Lh nd x.lt a f h B q).symm⟩
     ·obtain ⟨j',A,hj',hns,_,m,z⟩:=J9 q;exact .inr ⟨NY q,x.iniR j' hj' hns A t m z⟩
    ·rw [B];exact upd_same _ _ _
   ·obtain ⟨A,N,b',v',pf⟩:=x.pend j hj c
    have:=pf.put (w:=if b=true then v else undef) nd x.lt a f h hj (L.Le.refl _)
    rcases M with rfl | rfl
    ·exact ⟨A,N,b',v',this⟩
    ·exact ⟨A,N,b',v',this.more⟩
 cases b with
 | false=>
  rcases hkd with rfl | rfl
  ·exact ⟨_,_,i undef _ (.inl rfl) K.2.2 (hF rfl) (λe=>by cases e)⟩
  ·exact ⟨_,_,i undef _ (.inr rfl) K.2.2 (hF rfl) (λe=>by cases e)⟩
 | true=>
  rcases hkd with rfl | rfl
  ·obtain ⟨v,Q,h2⟩:=hT rfl;exact ⟨_,_,i v _ (.inl rfl) K.2.2 h2 (λ_=>⟨Q _ x.frm,.inr Q⟩)⟩
  ·obtain ⟨v,Q,h2⟩:=hT rfl;exact ⟨_,_,i v _ (.inr rfl) K.2.2 h2 (λ_=>⟨Q.move u C (λ_ _=>rfl) x.gw.1,.inl List.mem_cons_self⟩)⟩
theorem Gb.unfoldA{k:Nat}(nd:(C6 l n).Nodup)(hD:D k=true)(x:Gb E l n cls fl hs ds Lw F σ0 seen effs rds wr ((Kd.a,k) ::aP) σr hr D σ' h') :
  ∃σr',Gb E l n cls fl hs ds Lw F σ0 (k ::seen) (k ::effs) rds wr aP σr' h' D σ' h':=by
 obtain ⟨o,xs,g,hx,f,h,N,hg,R⟩:=ER x.ok;obtain ⟨s,b,y,i,hF,S⟩:=x.td;obtain rfl:s=o:=Option.some.inj (y.symm.trans g);obtain ⟨T,U,u,z,A,B⟩:=R;obtain rfl:b=true:=by unfold Gd at i;rw [A] at i;exact i
 obtain ⟨t,v⟩:∃t,s.op=.alloc t:=by
  cases W:s.op <;> rw [W] at u <;> first | exact ⟨_,rfl⟩ | cases u
 obtain ⟨d,C⟩:=Option.isSome_iff_exists.1 z;obtain ⟨r,X,h2,h3⟩:=x.flo k List.mem_cons_self hD s t d g v C;refine ⟨putS σr s.dst (.pointer (some ⟨r,0,none⟩)),S rfl t r h' v x.gw.1 h2 h3,B,Gw.refl _ _,λt O=>?_,λj hj=>?_,λj hj=>?_,λH j hj K=>x.rest H j (List.mem_cons_of_mem _ hj) K,λj hj c w Q m p=>?_,λj hj c=>?_,
  λj hj=>x.flo j (List.mem_cons_of_mem _ hj),λj hj c=>(x.flb j (List.mem_cons_of_mem _ hj) c).imp (λq=>Fb q aC) (Xb.put nd x.lt f h g),λj hj=>x.fld j (List.mem_cons_of_mem _ hj),x.mono,x.frm,x.pre,x.clos,x.iniR' nd f g,x.iniS⟩
 ·rw [Cl (HV f g O)];exact x.base t O
 ·rcases List.mem_cons.1 hj with rfl | hj
  ·exact f
  ·exact x.lt j hj
 ·rcases List.mem_cons.1 hj with rfl | hj
  ·exact hD
  ·exact x.eff j hj
 ·rcases List.mem_cons.1 hj with rfl | hj
  ·obtain rfl:w=s:=Option.some.inj (m.symm.trans g);obtain rfl:Q=d:=Option.some.inj (p.symm.trans C);rw [X,C];exact (upd_same _ _ _).symm
  ·rw [Cl λe he=>DY nd f (x.lt j hj) (λe=>h (e▸hj)) g m he p];exact x.done j hj c w Q m p
 ·rcases List.mem_cons.1 hj with rfl | hj
  ·rw [hD] at c;cases c
  ·obtain ⟨w,M,b',v',pf⟩:=x.pend j hj c;exact ⟨w,M,b',v',pf.put nd x.lt f h g hj (L.Le.refl _)⟩
theorem Gb.unfoldB{k:Nat}(nd:(C6 l n).Nodup)(hD:D k=true)(x:Gb E l n cls fl hs ds Lw F σ0 seen effs rds wr ((Kd.b,k) ::aP) σr hr D σ' h') :
  ∃σr' hr',Gb E l n cls fl hs ds Lw F σ0 (k ::seen) (k ::effs) rds wr aP σr' hr' D σ' h':=by
 obtain ⟨o,xs,f,hx,a,g,K,O,Q⟩:=ER x.ok;obtain ⟨m,b,r,s,R,S⟩:=x.td;obtain rfl:m=o:=Option.some.inj (r.symm.trans f);obtain ⟨T,U,u,v⟩:=Q;obtain ⟨d,w⟩:=Option.isSome_iff_exists.1 u;obtain ⟨W,y,X,hU⟩:=x.fld k List.mem_cons_self hD m d f w;obtain rfl:b=W:=(x.guard (x.clos k a hD) O s).uniq y;obtain ⟨hr',z,A⟩:∃hr',Gw (fl && !wr) hr' h'/\TD E l n (fl && !wr) hs ds Lw F aP (putS σr m.dst (σ' d)) hr':=by
  cases b with
  | true=>exact ⟨h',Gw.refl _ _,S rfl (σ' d) h' x.gw.1 (X rfl)⟩
  | false=>exact ⟨hr,x.gw,by rw [hU rfl];exact R rfl⟩
 refine ⟨putS σr m.dst (σ' d),hr',A,v,z,λt M=>?_,λj hj=>?_,λj hj=>?_,λB j hj C=>x.rest B j (List.mem_cons_of_mem _ hj) C,λj hj c p N h i=>?_,λj hj c=>?_,
  λj hj=>x.flo j (List.mem_cons_of_mem _ hj),λj hj c=>(x.flb j (List.mem_cons_of_mem _ hj) c).imp (λq=>Fb q aC) (Xb.put nd x.lt a g f),λj hj=>x.fld j (List.mem_cons_of_mem _ hj),x.mono,x.frm,x.pre,x.clos,x.iniR' nd a f,x.iniS⟩
 ·rw [Cl (HV a f M)];exact x.base t M
 ·rcases List.mem_cons.1 hj with rfl | hj
  ·exact a
  ·exact x.lt j hj
 ·rcases List.mem_cons.1 hj with rfl | hj
  ·exact hD
  ·exact x.eff j hj
 ·rcases List.mem_cons.1 hj with rfl | hj
  ·obtain rfl:p=m:=Option.some.inj (h.symm.trans f);obtain rfl:N=d:=Option.some.inj (i.symm.trans w);rw [w];exact (upd_same _ _ _).symm
  ·rw [Cl λe he=>DY nd a (x.lt j hj) (λe=>g (e▸hj)) f h he i];exact x.done j hj c p N h i
 ·rcases List.mem_cons.1 hj with rfl | hj
  ·rw [hD] at c;cases c
  ·obtain ⟨p,H,b',v',pf⟩:=x.pend j hj c;exact ⟨p,H,b',v',pf.put nd x.lt a g f hj (L.Le.refl _)⟩
theorem Gb.unfoldL{k:Nat}(x:Gb E l n cls fl hs ds Lw F σ0 seen effs rds wr ((Kd.l,k) ::aP) σr hr D σ' h') :
  Gb E l n cls fl hs ds Lw F σ0 seen effs rds wr aP σr hr D σ' h':=by
 obtain ⟨o,C,u,w,H,K,c,M,N⟩:=ER x.ok;obtain ⟨y,b,f,g,O,A⟩:=x.td;obtain rfl:y=o:=Option.some.inj (f.symm.trans u);obtain ⟨Q,h,B,i⟩:=N;obtain ⟨d,R⟩:=Option.isSome_iff_exists.1 h;have td:TD E l n (fl && !wr) hs ds Lw F aP σr hr:=by
  cases b with
  | true=>exact (A rfl).2
  | false=>exact O rfl
 refine ⟨td,i,x.gw,x.base,x.lt,x.eff,λm j a p=>x.rest m j (List.mem_cons_of_mem _ a) p,x.done,x.pend,λj a=>x.flo j (List.mem_cons_of_mem _ a),λj a r=>?_,λj a=>x.fld j (List.mem_cons_of_mem _ a),x.mono,x.frm,x.pre,x.clos,x.iniR,x.iniS⟩;by_cases e:j=k
 ·subst e;refine .inr ⟨y,C,b,u,w,λt S=>(c t S).resolve_right (λq=>by cases q.1),M,g,λT σ2 s e U=>?_⟩;have W:=(A T).1;refine BS.move w e (λz X h2 q=>?_) (W s (x.gw.1.trans U));obtain ⟨rfl,v,hv,l3,hL⟩:=q;have hz:z=v:=by
   have:=congrFun hv d
   simp only [R,putS,upd_same] at this;exact this
  exact ⟨rfl,v,by rw [hz],l3,hL⟩
 ·refine (x.flb j (List.mem_cons_of_mem _ a) r).imp (λq=>?_) id;rcases List.mem_cons.1 q with e2 | q
  ·cases e2;exact absurd rfl e
  ·exact q
theorem Gb.fldPut(x:Gb E l n cls fl hs ds Lw F σ0 seen effs rds wr aP σr hr D σ' h')(nd:(C6 l n).Nodup){k:Nat}{o:Oper}{v:aU}{h2:L}(hkn:k<n)(ho:l[k]? =some o)(hkD:D k=false)(l2:h'.Le h2){j:Nat}(hj:(Kd.b,j) ∈ aP)(hjk:j≠k)(hDj:D j=true)
  {o':Oper} {d':Nat} (ho':l[j]? =some o') (hd':o'.dst=some d'):∃b,Gd l o' (putS σ' o.dst v) b/\(b=true->Lw j (putS σ' o.dst v d') h2)/\(b=false->putS σ' o.dst v d'=undef):=by
 obtain ⟨_,_,c,h,f,_,_,i⟩:=Cy x.ok x.lt _ j hj (.inr rfl);obtain rfl:h=o':=Option.some.inj (f.symm.trans ho');obtain ⟨b,m,p,r⟩:=x.fld j hj hDj h d' ho' hd';have e:putS σ' o.dst v d'=σ' d':=Cl λe s=>DY nd hkn c (λq=>hjk q.symm) ho ho' s hd';refine ⟨b,m.other nd hkn ho λg w d=>⟨(i g w d).1,λq=>?_⟩,λa=>by rw [e];exact x.mono _ _ _ _ l2 (p a),λa=>by rw [e];exact r a⟩
 have:=x.clos j c hDj g (i g w d).2
 rw [q,hkD] at this;cases this
theorem Gb.ran{kd:Kd}{k:Nat}{o:Oper}{xs:List Operand}{v:aU}{hr2 h2:L}{wr':Bool}(nd:(C6 l n).Nodup)(hkD:D k=false)(hkl:kd≠.l)(ho:l[k]? =some o)(hkn:k<n)(hks:k ∉ seen)(hcl:∀q ∈ cls.getD k [],D q=true)
  (x:Gb E l n cls fl hs ds Lw F σ0 seen effs rds wr ((kd,k) ::aP) σr hr D σ' h') (td:TD E l n (fl && !wr') hs ds Lw F aP (putS σr o.dst v) hr2) (ok':FZ P l n cls fl aP (k ::seen) (k ::effs) rds wr'=true) (gw:Gw (fl && !wr') hr2 h2)
  (how:(wr'=wr/\h'.Le h2)\/(wr'=true/\(∀q ∈ rds,D q=true)/\Lw n undef h2)) :
  Gb E l n cls fl hs ds Lw F σ0 (k ::seen) (k ::effs) rds wr' aP (putS σr o.dst v) hr2 (GF D k) (putS σ' o.dst v) h2:=by
 refine ⟨td,ok',gw,λt z=>?_,λj hj=>?_,λj hj=>?_,λw j hj h=>?_,λj hj a i y d f=>?_,λj hj a=>?_,λj hj a i t y d A f=>?_,λj hj a=>?_,λj hj a i y d f=>?_,x.mono,(by rcases how with ⟨_,g⟩ | ⟨_,_,R⟩;exact x.mono _ _ _ _ g x.frm;exact R),λm=>?_,λj B a q Q=>?_,x.iniR' nd hkn ho,x.iniS' nd hkn ho⟩
 ·rw [Cl (HV hkn ho z),Cl (HV hkn ho z)];exact x.base t z
 ·rcases List.mem_cons.1 hj with rfl | hj
  ·exact hkn
  ·exact x.lt j hj
 ·rcases List.mem_cons.1 hj with rfl | hj
  ·exact H1
  ·exact FB (x.eff j hj)
 ·have b:=(DJ ok' w j hj).1;rw [CJ λe=>b (by rw [e];exact List.mem_cons_self)];exact x.rest w j (List.mem_cons_of_mem _ hj) h
 ·rcases List.mem_cons.1 hj with rfl | hj
  ·obtain rfl:i=o:=Option.some.inj (d.symm.trans ho);rw [f];exact (upd_same _ _ _).trans (upd_same _ _ _).symm
  ·have c:j≠k:=λe=>hks (e▸hj);rw [CJ c] at a;have h:∀e,o.dst=some e->y≠e:=λe C=>DY nd hkn (x.lt j hj) (λe=>c e.symm) ho d C f;rw [Cl h,Cl h];exact x.done j hj a i y d f
 ·rcases List.mem_cons.1 hj with rfl | hj
  ·rw [H1] at a;cases a
  ·have c:j≠k:=λe=>hks (e▸hj);rw [CJ c] at a;obtain ⟨i,u,H,K,p⟩:=x.pend j hj a;rcases how with ⟨_,g⟩ | ⟨_,M,N⟩
   ·exact ⟨i,u,H,K,p.put nd x.lt hkn hks ho hj g⟩
   ·have O:PF E l n cls ds Lw σ0 seen rds σr h2 j i u H K:=⟨p.at',p.op,p.val,p.gfix,p.gd,λS=>by obtain ⟨σk,T,y1,U⟩:=p.vop S;exact ⟨σk,T,U.elim (λW=>by rw [M j W] at a;cases a) λs=>⟨s h2 N,.inr s⟩⟩,p.is⟩;exact ⟨i,u,H,K,O.put nd x.lt hkn hks ho hj (L.Le.refl _)⟩
 ·have b:=(DJ ok' _ j hj);have c:j≠k:=λe=>b.1 (by rw [e];exact List.mem_cons_self);rw [CJ c] at a;obtain ⟨r,X,h3,h4⟩:=x.flo j (List.mem_cons_of_mem _ hj) a i t y d A f;rcases how with ⟨_,g⟩ | ⟨m,_⟩
  ·exact ⟨r,by rw [Cl λe C=>DY nd hkn b.2 (λe=>c e.symm) ho d C f];exact X,h3,g.get h4⟩
  ·have:=(Cy ok' (Gc x.lt hkn) _ j hj (.inl rfl)).2.1;rw [m] at this;cases this
 ·have b:=(DJ ok' _ j hj);have c:j≠k:=λe=>b.1 (by rw [e];exact List.mem_cons_self);rw [CJ c] at a;rcases how with ⟨_,g⟩ | ⟨m,_⟩
  ·exact (x.flb j (List.mem_cons_of_mem _ hj) a).imp (λq=>Fb q hkl.symm) λq=>(q.put nd x.lt hkn hks ho).le g
  ·have:=(Cy ok' (Gc x.lt hkn) _ j hj (.inr rfl)).2.1;rw [m] at this;cases this
 ·have b:=(DJ ok' _ j hj);have c:j≠k:=λe=>b.1 (by rw [e];exact List.mem_cons_self);rw [CJ c] at a;rcases how with ⟨_,g⟩ | ⟨m,_⟩
  ·exact x.fldPut nd hkn ho hkD g (List.mem_cons_of_mem _ hj) c a d f
  ·have:=(Cy ok' (Gc x.lt hkn) _ j hj (.inr rfl)).2.1;rw [m] at this;cases this
 ·rcases how with ⟨e,g⟩ | ⟨e,_⟩
  ·exact (x.pre (e▸m)).trans g
  ·rw [e] at m;cases m
 ·by_cases e:j=k
  ·subst e;exact FB (hcl q Q)
  ·rw [CJ e] at a;exact FB (x.clos j B a q Q)
def TdAt(E:Fl P)(l:List Oper)(n:Nat)(cls:List (List Nat))(fl:Bool)(hs:L)(ds:List Deferred)(Lw:Nat->aU->L->Prop)(F:(Nat->aU)->L->Prop)(σ0:Nat->aU)(D:Nat->Bool)(σ':Nat->aU)(h':L):Prop:=
 ∃seen effs rds wr aP σr hr,Gb E l n cls fl hs ds Lw F σ0 seen effs rds wr aP σr hr D σ' h'
abbrev RunK(E:Fl P)(l:List Oper)(n:Nat)(cls:List (List Nat))(fl:Bool)(hs:L)(ds:List Deferred)(Lw:Nat->aU->L->Prop)(F:(Nat->aU)->L->Prop)(σ0:Nat->aU)(D:Nat->Bool)(σ':Nat->aU)(h':L)(k:Nat)(o:Oper):Prop:=
 (Ch l o σ'->BS E o σ' ds h' λσ'' ds'' h''=>ds''=ds/\TdAt E l n cls fl hs ds Lw F σ0 (GF D k) σ'' h'')/\(¬Ch l o σ'->TdAt E l n cls fl hs ds Lw F σ0 (GF D k) (putS σ' o.dst undef) h')
theorem Gb.runV{k:Nat}{o:Oper}(nd:(C6 l n).Nodup)(ho:l[k]? =some o)(hks:k ∈ seen)(hkD:D k=false)(hcl:∀q ∈ cls.getD k [],D q=true)(x:Gb E l n cls fl hs ds Lw F σ0 seen effs rds wr aP σr hr D σ' h') :
  RunK E l n cls fl hs ds Lw F σ0 D σ' h' k o:=by
 obtain ⟨C,xs,b,v,m⟩:=x.pend k hks hkD;obtain rfl:C=o:=Option.some.inj (m.at'.symm.trans ho);have i:=x.lt k hks;have p:=(x.guard hcl m.gfix m.gd).iff;have s:Gb E l n cls fl hs ds Lw F σ0 seen effs rds wr aP σr hr (GF D k) (putS σ' C.dst (if b=true then v else undef)) h':=by
  refine ⟨x.td,x.ok,x.gw,λt B=>?_,x.lt,λj g=>FB (x.eff j g),λu j g H=>?_,λj g a w A h f=>?_,λj g a=>?_,λj g a w t A h K f=>?_,λj g a=>?_,λj g a w A h f=>?_,x.mono,x.frm,x.pre,λj M a q Q=>?_,x.iniR,x.iniS' nd i ho⟩
  ·rw [Cl (HV i ho B)];exact x.base t B
  ·have d:=(DJ x.ok u j g).1;rw [CJ λ(e:j=k)=>d (by rw [e];exact hks)];exact x.rest u j g H
  ·by_cases c:j=k
   ·subst c;obtain rfl:w=C:=Option.some.inj (h.symm.trans ho);rw [m.is A f,f];exact upd_same _ _ _
   ·rw [CJ c] at a;rw [Cl λe N=>DY nd i (x.lt j g) (λe=>c e.symm) ho h N f];exact x.done j g a w A h f
  ·by_cases c:j=k
   ·subst c;rw [H1] at a;cases a
   ·rw [CJ c] at a;exact x.pend j g a
  ·have d:=DJ x.ok _ j g;have c:j≠k:=λe=>d.1 (by rw [e];exact hks);rw [CJ c] at a;obtain ⟨r,R,S⟩:=x.flo j g a w t A h K f;exact ⟨r,by rw [Cl λe N=>DY nd i d.2 (λe=>c e.symm) ho h N f];exact R,S⟩
  ·have d:=DJ x.ok _ j g;have c:j≠k:=λe=>d.1 (by rw [e];exact hks);rw [CJ c] at a;exact x.flb j g a
  ·have d:=DJ x.ok _ j g;have c:j≠k:=λe=>d.1 (by rw [e];exact hks);rw [CJ c] at a;exact x.fldPut nd i ho hkD (L.Le.refl _) g c a h f
  ·by_cases e:j=k
   ·subst e;exact FB (hcl q Q)
   ·rw [CJ e] at a;exact FB (x.clos j M a q Q)
 refine ⟨λO=>?_,λO=>?_⟩
 ·obtain rfl:=p.1 O;obtain ⟨σk,T,U,_⟩:=m.vop rfl;have y:=U.move (σ2:=σ') m.val m.op (λt B=>(T t B).elim (λq=>q.2.trans (x.agree hcl q.1)) λq=>q.2.trans (x.late hkD q.1).symm) (L.Le.refl _);refine BS.move m.op (λ_ _=>rfl) (λz W X q=>?_) y;obtain ⟨q1,rfl,rfl⟩:=q;exact ⟨rfl,_,_,_,_,_,_,_,by rw [q1];exact s⟩
 ·cases b with
  | true=>exact absurd (p.2 rfl) O
  | false=>exact ⟨_,_,_,_,_,_,_,s⟩
theorem TD.grow{E:Fl P}{fl2:Bool}:∀{aP:List (Kd×Nat)}{seen effs rds:List Nat}{wr fl:Bool}{O:Nat->aU}{h h':L},FZ P l n cls fl2 aP seen effs rds wr=true->Gw fl h h'->TD E l n fl hs ds Lw F aP O h->TD E l n false hs ds Lw F aP O h'
 | [],_,_,_,_,fl,O,h,h',_,g,x=>λy i=>by rw [i.2 rfl];exact x h' g
 | (C,k) ::aP,_,_,_,_,fl,O,h,h',z,g,⟨o,b,A,s,H,K⟩=>by
  obtain ⟨B,U,u,y,_,_,_,_,M⟩:=ER z;obtain rfl:B=o:=Option.some.inj (u.symm.trans A);obtain ⟨_,_,_,_,d,_⟩:=Fv z;refine ⟨B,b,A,s,λe=>TD.grow d g (H e),λe=>?_⟩;have c:=K e;cases C with
  | p=>obtain ⟨v,a,j⟩:=c;exact ⟨v,a,TD.grow d g j⟩
  | r=>obtain ⟨v,a,j⟩:=c;exact ⟨v,a.move M.1 y (λ_ _=>rfl) g.1,TD.grow d g j⟩
  | e=>intro f i;rw [i.2 rfl];exact (c h' g).mono λ_ _ _ ⟨N,v,Q,R,j⟩=>⟨N,v,Q,R,TD.grow d (Gw.refl _ _) j⟩
  | w=>intro f i;rw [i.2 rfl];exact c h' g
  | a=>intro t r f S m hr T;exact TD.grow d (Gw.refl _ _) (c t r f S (g.1.trans m) hr T)
  | l=>exact ⟨λf m=>c.1 f (g.1.trans m),TD.grow d g c.2⟩
  | b=>intro v f m q;exact TD.grow d (Gw.refl _ _) (c v f (g.1.trans m) q)
theorem Gb.runE{kd:Kd}{k:Nat}{o:Oper}(nd:(C6 l n).Nodup)(hkd:kd=.e\/kd=.w)(ho:l[k]? =some o)(hcl:∀q ∈ cls.getD k [],D q=true)(x:Gb E l n cls fl hs ds Lw F σ0 seen effs rds wr ((kd,k) ::aP) σr hr D σ' h') :
  RunK E l n cls fl hs ds Lw F σ0 D σ' h' k o:=by
 obtain ⟨M,xs,m,N,c,f,g,R,h⟩:=ER x.ok;obtain rfl:M=o:=Option.some.inj (m.symm.trans ho);obtain ⟨i,b,p,r,O,Q⟩:=x.td;obtain rfl:i=M:=Option.some.inj (p.symm.trans ho);have j:=(x.guard hcl R r).iff;have a:D k=false:=x.rest kd k List.mem_cons_self (by rcases hkd with e | e <;> rw [e] <;> rfl);refine ⟨λs=>?_,λs=>?_⟩
 ·obtain rfl:=j.1 s;rcases hkd with rfl | rfl
  ·refine (Q rfl h' x.gw).move N (λt u=>x.agree2 hcl a (g t u)) λz y A q=>?_;obtain ⟨rfl,v,B,S,td⟩:=q;refine ⟨rfl,?_⟩;have e:putS σ' i.dst z=putS σ' i.dst v:=by
    cases C:i.dst with
    | none=>rfl
    | some d=>
     have:=congrFun B d
     simp only [C,putS,upd_same] at this;rw [this]
   rw [e];exact ⟨_,_,_,_,_,_,_,x.ran (xs:=xs) nd a aC ho c f hcl td h.2 (Gw.refl _ _) (.inl ⟨rfl,S⟩)⟩
  ·refine (Q rfl h' x.gw).move N (λt u=>x.agree2 hcl a (g t u)) λz y A q=>?_;obtain ⟨rfl,v,B,H,td⟩:=q;refine ⟨rfl,?_⟩;have e:putS σ' i.dst z=putS σ' i.dst v:=by
    cases C:i.dst with
    | none=>rfl
    | some d=>
     have:=congrFun B d
     simp only [C,putS,upd_same] at this;rw [this]
   rw [e];exact ⟨_,_,_,_,_,_,_,x.ran (xs:=xs) nd a aC ho c f hcl (by rw [Bool.not_true,Bool.and_false];exact td) h.2.2 (Gw.refl _ _) (.inr ⟨rfl,λq K=>hcl q (h.2.1 q K),H⟩)⟩
 ·cases b with
  | true=>exact absurd (j.2 rfl) s
  | false=>
   rcases hkd with rfl | rfl
   ·exact ⟨_,_,_,_,_,_,_,x.ran (xs:=xs) nd a aC ho c f hcl (O rfl) h.2 x.gw (.inl ⟨rfl,L.Le.refl _⟩)⟩
   ·exact ⟨_,_,_,_,_,_,_,x.ran (xs:=xs) nd a aC ho c f hcl (by rw [Bool.not_true,Bool.and_false];exact TD.grow h.2.2 x.gw (O rfl)) h.2.2 (Gw.refl _ _) (.inr ⟨rfl,λq K=>hcl q (h.2.1 q K),x.frm⟩)⟩
theorem Gl:∀{aP:List (Kd×Nat)}{seen effs rds:List Nat}{wr:Bool},FZ P l n cls fl aP seen effs rds wr=true->∀{kd1 kd2:Kd}{j:Nat},(kd1,j) ∈ aP->(kd2,j) ∈ aP->kd1≠.l->kd2≠.l->kd1=kd2
 | [],_,_,_,_,_,_,_,_,h,_,_,_=>by cases h
 | (i,k) ::aP,seen,effs,rds,wr,x,kd1,kd2,j,f,g,b,c=>by
  obtain ⟨seen',m,o,p,a,_,z,_⟩:=Fv x;rcases List.mem_cons.1 f with d | h3 <;> rcases List.mem_cons.1 g with e | h4
  ·cases d;cases e;rfl
  ·cases d;exact absurd (by rw [z b];exact List.mem_cons_self) (DJ a _ _ h4).1
  ·cases e;exact absurd (by rw [z c];exact List.mem_cons_self) (DJ a _ _ h3).1
  ·exact Gl a h3 h4 b c
theorem Gb.runA{k:Nat}{o:Oper}(nd:(C6 l n).Nodup)(hk:(Kd.a,k) ∈ aP)(hkD:D k=false)(ho:l[k]? =some o)(hcl:∀q ∈ cls.getD k [],D q=true)(x:Gb E l n cls fl hs ds Lw F σ0 seen effs rds wr aP σr hr D σ' h') :
  RunK E l n cls fl hs ds Lw F σ0 D σ' h' k o:=by
 obtain ⟨T,B,h,Q,U,C,H,_⟩:=Cy x.ok x.lt _ k hk (.inl rfl);obtain ⟨i,K⟩:=C rfl;obtain rfl:Q=o:=Option.some.inj (U.symm.trans ho);have M:=(DJ x.ok _ k hk).1;obtain ⟨t,v⟩:∃t,Q.op=.alloc t:=by
  cases R:Q.op <;> rw [R] at i <;> first | exact ⟨_,rfl⟩ | cases i
 have W:Be P t=some (zOf P t):=by
  rw [v] at i;obtain ⟨z,W⟩:=Option.isSome_iff_exists.1 (show (Be P t).isSome=true from i);unfold zOf;rw [W];rfl
 refine ⟨λ_=>?_,λhG=>absurd (by unfold Ch;rw [K];trivial) hG⟩;obtain ⟨dst,op,ty,pos,af,gd⟩:=Q;simp only at v H K;subst v;obtain ⟨d,rfl⟩:=Option.isSome_iff_exists.1 H;refine AV W λr h2 N w X hoth=>⟨rfl,seen,effs,rds,wr,aP,σr,hr,x.td,x.ok,⟨x.gw.1.trans w,λe=>by rw [T,B] at e;cases e⟩,λt' ht=>?_,x.lt,λj c=>FB (x.eff j c),λkd' j c m=>?_,λj c b A S f g=>?_,λj c b=>?_,λj c b A t' S f u g=>?_,λj c b=>?_,λj c b A S f g=>?_,x.mono,x.mono _ _ _ _ w x.frm,λhw=>(x.pre hw).trans w,λj hjn b q R=>?_,x.iniR,x.iniS' nd h ho⟩
 ·rw [Cl (HV h ho ht)];exact x.base t' ht
 ·by_cases e:j=k
  ·subst e;rw [Gl x.ok c hk (by rintro rfl;cases m) aC] at m;cases m
  ·rw [CJ e];exact x.rest kd' j c m
 ·have p:j≠k:=λe=>M (e▸c);rw [CJ p] at b;rw [Cl λe he=>DY nd h (x.lt j c) (λe=>p e.symm) ho f he g];exact x.done j c b A S f g
 ·have p:j≠k:=λe=>M (e▸c);rw [CJ p] at b;obtain ⟨A,xs',b',v',s⟩:=x.pend j c b;exact ⟨A,xs',b',v',s.at',s.op,s.val,s.gfix,s.gd,λhb=>by obtain ⟨σk,y0,y1,y2⟩:=s.vop hb;exact ⟨σk,y0,y1.move s.val s.op (λ_ _=>rfl) w,y2⟩,s.is⟩
 ·by_cases e:j=k
  ·subst e;cases f.symm.trans ho;cases g;cases u;have hb0:hs r=none:=by
    cases hb:hs r with
    | none=>rfl
    | some y=>rw [(x.pre B).get hb] at N;cases N
   exact ⟨r,upd_same _ _ _,hb0,X⟩
  ·rw [CJ e] at b;have O:=DJ x.ok _ j c;obtain ⟨r',h1,h3,h4⟩:=x.flo j c b A t' S f u g;exact ⟨r',by rw [Cl λe' he=>DY nd h O.2 (λq=>e q.symm) ho f he g];exact h1,h3,w.get h4⟩
 ·have e:j≠k:=λe=>by subst e;cases Gl x.ok c hk aC aC
  rw [CJ e] at b;exact (x.flb j c b).imp id (Xb.le w)
 ·have e:j≠k:=λe=>by subst e;cases Gl x.ok c hk aC aC
  rw [CJ e] at b;exact x.fldPut nd h ho hkD w c e b f g
 ·by_cases e:j=k
  ·subst e;exact FB (hcl q R)
  ·rw [CJ e] at b;exact FB (x.clos j hjn b q R)
theorem Gb.reachB{k:Nat}(nd:(C6 l n).Nodup)(hkD:D k=false)(hcl:∀q ∈ cls.getD k [],D q=true):∀{aP:List (Kd×Nat)}{seen effs rds:List Nat}{wr:Bool} {σr:Nat->aU} {hr:L},
  Gb E l n cls fl hs ds Lw F σ0 seen effs rds wr aP σr hr D σ' h'->(Kd.b,k) ∈ aP->∃seen effs rds wr π' σr hr,Gb E l n cls fl hs ds Lw F σ0 seen effs rds wr π' σr hr D σ' h'/\(Kd.b,k) ∈ π'/\Xb E l n cls ds Lw seen σr h' k:=by
 intro aP
 induction aP with
 | nil=>intro _ _ _ _ _ _ _ h;cases h
 | cons y aP j=>
  intro seen effs rds wr σr hr x f;obtain ⟨d,u⟩:=y;rcases x.flb k f hkD with v | hp
  ·by_cases o:d=.l
   ·subst o;exact j x.unfoldL (Fb f aC)
   ·have s:=Fb v (Ne.symm o);have c:d=.e\/d=.w\/d=.a\/d=.b->D u=true:=λA=>by
     obtain ⟨C,H,K,M,t,_,_,_,_,z⟩:=Fv x.ok;exact hcl _ (Na t .l k s aC aC u (z A))
    cases d with
    | p=>obtain ⟨m,σr',g⟩:=x.unfoldV nd (.inl rfl);exact j g (Fb f aC)
    | r=>obtain ⟨m,σr',g⟩:=x.unfoldV nd (.inr rfl);exact j g (Fb f aC)
    | e=>have:=x.rest _ _ List.mem_cons_self rfl;rw [c (.inl rfl)] at this;cases this
    | w=>have:=x.rest _ _ List.mem_cons_self rfl;rw [c (.inr (.inl rfl))] at this;cases this
    | a=>obtain ⟨σr',g⟩:=x.unfoldA nd (c (.inr (.inr (.inl rfl))));exact j g (Fb f aC)
    | l=>exact absurd rfl o
    | b=>
     have i:=c (.inr (.inr (.inr rfl)));obtain ⟨σr',B,g⟩:=x.unfoldB nd i;rcases List.mem_cons.1 f with e | hm2
     ·cases e;rw [hkD] at i;cases i
     ·exact j g hm2
  ·exact ⟨_,_,_,_,_,_,_,x,f,hp⟩
theorem Gb.runB{k:Nat}{o:Oper}(nd:(C6 l n).Nodup)(hk0:(Kd.b,k) ∈ aP)(hkD:D k=false)(ho:l[k]? =some o)(hcl:∀q ∈ cls.getD k [],D q=true)(x0:Gb E l n cls fl hs ds Lw F σ0 seen effs rds wr aP σr hr D σ' h') :
  RunK E l n cls fl hs ds Lw F σ0 D σ' h' k o:=by
 obtain ⟨seen,effs,rds,wr,aP,σr,hr,x,S,hp⟩:=x0.reachB nd hkD hcl hk0;obtain ⟨U,W,i,o2,X,_,hds,_⟩:=Cy x.ok x.lt _ k S (.inr rfl);obtain rfl:o2=o:=Option.some.inj (X.symm.trans ho);have y:=(DJ x.ok _ k S).1;obtain ⟨H,xs,b,ho3,hx,K,hg,hgd,M⟩:=hp;obtain rfl:H=o2:=Option.some.inj (ho3.symm.trans ho);obtain ⟨d,hd⟩:=Option.isSome_iff_exists.1 hds;have A:=x.guard hcl hg hgd;have hgo:∀v,Gd l H (putS σ' H.dst v) b:=λv=>A.other nd i ho λg w e=>⟨x.lt g (hg g w e).1,λq=>y (q▸(hg g w e).1)⟩;have N:∀(v:aU)(C:L),h'.Le C->(b=true->Lw k v C)->(b=false->v=undef)->TdAt E l n cls fl hs ds Lw F σ0 (GF D k) (putS σ' H.dst v) C:=by
  intro v C m hL hU;refine ⟨seen,effs,rds,wr,aP,σr,hr,x.td,x.ok,⟨x.gw.1.trans m,λe=>by rw [U,W] at e;cases e⟩,λt' T=>?_,x.lt,λj c=>FB (x.eff j c),λkd' j c p=>?_,λj c a B u h f=>?_,λj c a=>?_,λj c a B t' u h O f=>?_,λj c a=>?_,λj c a B u h f=>?_,x.mono,x.mono _ _ _ _ m x.frm,λhw=>(x.pre hw).trans m,λj hjn a q hq=>?_,x.iniR,x.iniS' nd i ho⟩
  ·rw [Cl (HV i ho T)];exact x.base t' T
  ·by_cases e:j=k
   ·subst e;rw [Gl x.ok c S (by rintro rfl;cases p) aC] at p;cases p
   ·rw [CJ e];exact x.rest kd' j c p
  ·have r:j≠k:=λe=>y (e▸c);rw [CJ r] at a;rw [Cl λe he=>DY nd i (x.lt j c) (λe=>r e.symm) ho h he f];exact x.done j c a B u h f
  ·have r:j≠k:=λe=>y (e▸c);rw [CJ r] at a;obtain ⟨B,xs',b',v',s⟩:=x.pend j c a;exact ⟨B,xs',b',v',s.at',s.op,s.val,s.gfix,s.gd,λQ=>by obtain ⟨σk,y0,y1,y2⟩:=s.vop Q;exact ⟨σk,y0,y1.move s.val s.op (λ_ _=>rfl) m,y2⟩,s.is⟩
  ·have e:j≠k:=λe=>by subst e;cases Gl x.ok c S aC aC
   rw [CJ e] at a;have R:=DJ x.ok _ j c;obtain ⟨r',h1,h3,h4⟩:=x.flo j c a B t' u h O f;exact ⟨r',by rw [Cl λe' he=>DY nd i R.2 (λq=>e q.symm) ho h he f];exact h1,h3,m.get h4⟩
  ·have e:j≠k:=λe=>by subst e;rw [H1] at a;cases a
   rw [CJ e] at a;exact (x.flb j c a).imp id (Xb.le m)
  ·by_cases e:j=k
   ·subst e;obtain rfl:B=H:=Option.some.inj (h.symm.trans ho);refine ⟨b,hgo v,λQ=>?_,λQ=>?_⟩
    ·rw [f,show putS σ' (some u) v u=v from upd_same _ _ _];exact hL Q
    ·rw [f,show putS σ' (some u) v u=v from upd_same _ _ _];exact hU Q
   ·rw [CJ e] at a;exact x.fldPut nd i ho hkD m c e a h f
  ·by_cases e:j=k
   ·subst e;exact FB (hcl q hq)
   ·rw [CJ e] at a;exact FB (x.clos j hjn a q hq)
 refine ⟨λhG=>?_,λhG=>?_⟩
 ·obtain rfl:=A.iff.1 hG;refine BS.move hx (λ_ _=>rfl) (λz ds' C q=>?_) (M rfl σ' h' (λt T=>x.agree hcl (K t T)) (L.Le.refl _));obtain ⟨rfl,v,hv,m,hL⟩:=q;rw [hv];exact ⟨rfl,N v C m (λ_=>hL) (λe=>by cases e)⟩
 ·cases b with
  | true=>exact absurd (A.iff.2 rfl) hG
  | false=>exact N undef h' (L.Le.refl _) (λe=>by cases e) (λ_=>rfl)
theorem Gb.reach{kd:Kd}{i:Nat}(nd:(C6 l n).Nodup)(hne:kd.fix=true)(hcl:∀q ∈ cls.getD i [],D q=true):∀{aP:List (Kd×Nat)}{seen effs rds:List Nat}{wr:Bool} {σr:Nat->aU} {hr:L},
  Gb E l n cls fl hs ds Lw F σ0 seen effs rds wr aP σr hr D σ' h'->(kd,i) ∈ aP->∃seen effs rds wr π' σr hr,Gb E l n cls fl hs ds Lw F σ0 seen effs rds wr ((kd,i) ::π') σr hr D σ' h':=by
 intro aP
 induction aP with
 | nil=>intro _ _ _ _ _ _ _ h;cases h
 | cons y aP g=>
  intro seen effs rds wr σr hr x t;obtain ⟨c,m⟩:=y;rcases List.mem_cons.1 t with e | hm2
  ·cases e;exact ⟨_,_,_,_,_,_,_,x⟩
  ·have o:c=.p\/c=.r->∃seen effs rds wr π' σr hr,Gb E l n cls fl hs ds Lw F σ0 seen effs rds wr ((kd,i) ::π') σr hr D σ' h':=λj=>by
    obtain ⟨s,σr',f⟩:=x.unfoldV nd j;exact g f hm2
   have d:c=.e\/c=.w\/c=.a\/c=.b->D m=true:=λj=>by
    obtain ⟨v,A,B,C,k,_,_,_,_,z⟩:=Fv x.ok;exact hcl _ (Na k kd i hm2 (by rintro rfl;cases hne) (by rintro rfl;cases hne) m (z j))
   cases c with
   | p=>exact o (.inl rfl)
   | r=>exact o (.inr rfl)
   | e=>have:=x.rest _ _ List.mem_cons_self rfl;rw [d (.inl rfl)] at this;cases this
   | w=>have:=x.rest _ _ List.mem_cons_self rfl;rw [d (.inr (.inl rfl))] at this;cases this
   | a=>
    obtain ⟨σr',f⟩:=x.unfoldA nd (d (.inr (.inr (.inl rfl))));exact g f hm2
   | l=>exact g x.unfoldL hm2
   | b=>
    obtain ⟨σr',u,f⟩:=x.unfoldB nd (d (.inr (.inr (.inr rfl))));exact g f hm2
theorem Gb.ends(nd:(C6 l n).Nodup)(hall:∀i,i<n->D i=true):∀{aP:List (Kd×Nat)}{seen effs rds:List Nat}{wr:Bool} {σr:Nat->aU} {hr:L},
  Gb E l n cls fl hs ds Lw F σ0 seen effs rds wr aP σr hr D σ' h'->F σ' h':=by
 intro aP
 induction aP with
 | nil=>
  intro seen effs rds wr σr hr x;have e:σ'=σr:=funext λt=>by
   cases f:(C6 l n).contains t with
   | false=>exact x.base t f
   | true=>
    rw [List.contains_iff_mem] at f;simp only [C6,List.mem_filterMap] at f;obtain ⟨o,s,u⟩:=f;obtain ⟨k,c⟩:=List.mem_iff_getElem?.1 s;have d:k<n:=by
     have:=(List.getElem?_eq_some_iff.1 c).1
     simp at this;omega
    have g:l[k]? =some o:=by rw [List.getElem?_take] at c;simpa [d] using c
    rcases NZ x.ok k d with h | ⟨_,h,_⟩
    ·exact x.done k h (hall k d) o t g u
    ·cases h
  rw [e];exact x.td h' x.gw
 | cons y aP j=>
  intro seen effs rds wr σr hr x;obtain ⟨q,k⟩:=y;have c:=(DJ x.ok q k List.mem_cons_self).2;cases q with
  | a=>obtain ⟨σr',m⟩:=x.unfoldA nd (hall k c);exact j m
  | b=>obtain ⟨σr',v,m⟩:=x.unfoldB nd (hall k c);exact j m
  | l=>exact j x.unfoldL
  | p=>have:=x.rest _ k List.mem_cons_self rfl;rw [hall k c] at this;cases this
  | r=>have:=x.rest _ k List.mem_cons_self rfl;rw [hall k c] at this;cases this
  | e=>have:=x.rest _ k List.mem_cons_self rfl;rw [hall k c] at this;cases this
  | w=>have:=x.rest _ k List.mem_cons_self rfl;rw [hall k c] at this;cases this
end
def RC(c:List Nat)(k:List Nat->Bool):Bool:=match c with
 | []=>k []
 | x ::xs=>RC xs λxs'=>k (x ::xs')
theorem Pb:∀(c:List Nat)(k:List Nat->Bool),RC c k=k c
 | [],_=>rfl
 | x ::a,k=>by unfold RC;rw [Pb a]
def RD(cls:List (List Nat))(k:List (List Nat)->Bool):Bool:=match cls with
 | []=>k []
 | c ::cs=>RD cs λcs'=>k (c ::cs')
theorem Pc:∀(cls:List (List Nat))(k:List (List Nat)->Bool),RD cls k=k cls
 | [],_=>rfl
 | c ::a,k=>by unfold RD;exact Pc a _
def Pd(l:List Oper):List Oper->Nat->List (List Nat)->(List (List Nat)->Bool)->Bool
 | [],_,acc,c=>RD acc.reverse c
 | o ::os,k,acc,c=>RC ((List.range k).filter λj=>HT o j || (List.range k).any λe=>HT o e && (acc.getD (k-1-e) []).contains j) λx=>Pd l os (k+1) (x ::acc) c
theorem IQ{l:List Oper}{c:List (List Nat)->Bool}:∀{os:List Oper}{k:Nat}{acc:List (List Nat)},Pd l os k acc c=true->∃cls,c cls=true
 | [],k,acc,h=>⟨acc.reverse,(Pc acc.reverse c).symm.trans h⟩
 | o ::os,k,acc,h=>by unfold Pd at h;rw [Pb] at h;exact IQ h
def Pe(P:Program)(N:Nat)(l:List Oper)(n:Nat)(cls:List (List Nat))(fl:Bool)(aP:List (Kd×Nat)):Bool:=Ep N l n cls && FZ P l n cls fl aP [] [] [] false && aP.all λx=>x.1 !=.b || aP.contains (.l,x.2)
theorem td_core{Lw:Nat->aU->L->Prop}{F:(Nat->aU)->L->Prop}{id:Nat}{l:List Oper}{O:Nat->aU}{ds:List Deferred}{h:L}(n:Nat)(cls:List (List Nat))(fl:Bool)(aP:List (Kd×Nat))(hm:P.follows .mixedOrders=true)
  (hL:∀k v h1 h2,L.Le h1 h2->Lw k v h1->Lw k v h2) (hF:Lw n undef h) (ok:Pe P E.N l n cls fl aP=true) (x:TD E l n fl h ds Lw F aP O h) {b:Frame} {k:List Item} {cs:List Frame} {t:Array aU} (hb:b.fn=E.fn) (hr:b.roundOf=E.rd) (hs:BU t E.N O)
  (y:∀σ' h',F σ' h'->∀t',BU t' E.N σ'->E.wk.K (G (CY b t' ds (.inRegion l.toArray (List.range' n (l.drop n).length) ::k)) cs) h') :
  E.wk.K (G (CY b t ds (.code (.region id l.toArray true) ::k)) cs) h:=by
 unfold Pe at ok;rw [Bool.and_eq_true,Bool.and_eq_true] at ok;obtain ⟨⟨s,H⟩,M⟩:=ok;have g:(C6 l n).Nodup:=by
  have:=s
  unfold Ep at this;simp only [Bool.and_eq_true] at this;exact of_decide_eq_true this.1.2
 refine NQ n cls (TdAt E l n cls fl h ds Lw F O) hm s ?_ ?_ hb hr hs ?_
 ·exact ⟨[],[],[],false,aP,O,h,by rw [Bool.not_false,Bool.and_true];exact x,H,Gw.refl _ _,λ_ _=>rfl,(λ_ f=>by cases f),(λ_ f=>by cases f),(λ_ _ _ _=>rfl),(λ_ f=>by cases f),(λ_ f=>by cases f),(λ_ _ u=>by cases u),(λk f _=>.inl (by have:=List.all_eq_true.1 M _ f;simpa using this)),(λ_ _ u=>by cases u),hL,hF,(λ_=>L.Le.refl _),(λ_ _ u=>by cases u),(λ_ _ _ _ _ _ _=>rfl),(λ_ _ _ _ _ _ _=>rfl)⟩
 ·rintro D σ' h' i o ⟨seen,effs,A,W,π',σr,hr,m⟩ Q j q c X;rcases NZ m.ok i Q with hs | ⟨R,f,S⟩
  ·exact m.runV g q hs j c
  ·by_cases d:R.fix=false
   ·cases R with
    | a=>exact m.runA g f j q c
    | b=>exact m.runB g f j q c
    | l=>exact absurd rfl S
    | p=>cases d
    | r=>cases d
    | e=>cases d
    | w=>cases d
   ·obtain ⟨seen,effs,A,W,π'',σr,hr,z⟩:=m.reach g (by simpa using d) c f;cases R with
    | p=>
     obtain ⟨B,σr',T⟩:=z.unfoldV g (.inl rfl);exact T.runV g q List.mem_cons_self j c
    | r=>
     obtain ⟨B,σr',T⟩:=z.unfoldV g (.inr rfl);exact T.runV g q List.mem_cons_self j c
    | e=>exact z.runE g (.inl rfl) q c
    | w=>exact z.runE g (.inr rfl) q c
    | a=>exact absurd rfl d
    | l=>exact absurd rfl d
    | b=>exact absurd rfl d
 ·rintro D σ' h' ⟨seen,effs,A,W,π',σr,hr,m⟩ C t' U;exact y _ _ (m.ends g C) t' U
theorem Z2{Lw:Nat->aU->L->Prop}{F:(Nat->aU)->L->Prop}{id:Nat}{l:List Oper}{O:Nat->aU}{ds:List Deferred}{h:L}{Q:Post}(n:Nat)(cls:List (List Nat))(fl:Bool)(aP:List (Kd×Nat))(hm:P.follows .mixedOrders=true)
  (hL:∀k v h1 h2,L.Le h1 h2->Lw k v h1->Lw k v h2) (hF:Lw n undef h) (ok:Pe P E.N l n cls fl aP=true) (x:TD E l n fl h ds Lw F aP O h) (y:∀σ' h',F σ' h'->DH E l.toArray (l.drop n) σ' ds h' Q):Tr E (.region id l.toArray true) O ds h Q:=λb k e g t c d i m o=>
 td_core n cls fl aP hm hL hF ok x c d m λσ' h' f p a=>y σ' h' f n b k e g p (λj=>aD) c d i a o
abbrev LoIs(O:Nat->aU)(o:Option Operand)(lo d:Nat):Prop:=match o with
 | none=>lo=d
 | some o=>∃kd,AL O o=.int kd lo
def Oy(m:Nat):Kd×Nat:=if 1000<=m then (if m%2=0 then .l else .b,(m-1000) / 2) else (match m%5 with | 0=>.p | 1=>.r | 2=>.e | 3=>.w | _=>.a,m / 5)
def dK:List Nat->List (Kd×Nat)
 | []=>[]
 | m ::l=>Oy m ::dK l
theorem BT{id:Nat}{l:List Oper}{O:Nat->aU}{ds:List Deferred}{h:L}{Q:Post}(n:Nat)(fl:Bool)(aP:List Nat)(hm:P.follows .mixedOrders=true)
  (ok:Pd l (l.take n) 0 [] (λcls=>Pe P E.N l n cls fl (dK aP))=true) (x:TD E l n fl h ds (λ_ _ _=>True) (λσ' h'=>DH E l.toArray (l.drop n) σ' ds h' Q) (dK aP) O h):Tr E (.region id l.toArray true) O ds h Q:=
 let ⟨cls,h1⟩:=IQ ok
 Z2 n cls fl (dK aP) hm (λ_ _ _ _ _ y=>y) trivial h1 x λ_ _ y=>y
theorem G0{id:Nat}{l:List Oper}{O:Nat->aU}{ds:List Deferred}{h:L}{Q:Post}(F:(Nat->aU)->L->Prop)(n:Nat)(fl:Bool)(aP:List Nat)(hm:P.follows .mixedOrders=true)
  (ok:Pd l (l.take n) 0 [] (λcls=>Pe P E.N l n cls fl (dK aP))=true) (x:TD E l n fl h ds (λ_ _ _=>True) F (dK aP) O h) (y:∀σ' h',F σ' h'->DH E l.toArray (l.drop n) σ' ds h' Q):Tr E (.region id l.toArray true) O ds h Q:=
 let ⟨cls,h1⟩:=IQ ok
 Z2 n cls fl (dK aP) hm (λ_ _ _ _ _ y=>y) trivial h1 x y
theorem tr_tdL{id:Nat}{l:List Oper}{O:Nat->aU}{ds:List Deferred}{h:L}{Q:Post}(n:Nat)(Lw:Nat->aU->L->Prop)(hL:∀k v h1 h2,L.Le h1 h2->Lw k v h1->Lw k v h2)(hF:Lw n undef h)(fl:Bool)(aP:List Nat)(hm:P.follows .mixedOrders=true)
  (ok:Pd l (l.take n) 0 [] (λcls=>Pe P E.N l n cls fl (dK aP))=true) (x:TD E l n fl h ds Lw (λσ' h'=>DH E l.toArray (l.drop n) σ' ds h' Q) (dK aP) O h):Tr E (.region id l.toArray true) O ds h Q:=
 let ⟨cls,h1⟩:=IQ ok
 Z2 n cls fl (dK aP) hm hL hF h1 x λ_ _ y=>y
section
variable {l:List Oper} {n:Nat} {fl:Bool} {hs:L} {ds:List Deferred} {Lw:Nat->aU->L->Prop} {F:(Nat->aU)->L->Prop} {aP:List Nat} {O:Nat->aU} {h:L} {m k g d:Nat} {dst:Option Nat} {op:Op} {ty:aV} {pos:String} {af:Array Edge} {v:aU} {w is:Bool} {og:Oper}
theorem vz{U β γ:Type}{a:U}{b:β}{c:γ}:a=a/\b=b/\c=c:=⟨rfl,rfl,rfl⟩
theorem tP(hk:Oy m=(.p,k))(ho:l[k]? =some ⟨dst,op,ty,pos,af,none⟩)(x:∀hx,SV E ⟨dst,op,ty,pos,af,none⟩ O ds hx v)(y:TD E l n fl hs ds Lw F (dK aP) (putS O dst v) h):TD E l n fl hs ds Lw F (dK (m ::aP)) O h:=by
 unfold dK;rw [hk];exact ⟨_,true,ho,rfl,λe=>(by cases e),λ_=>⟨v,λhx _=>x hx,y⟩⟩
theorem tR(hk:Oy m=(.r,k))(ho:l[k]? =some ⟨dst,op,ty,pos,af,none⟩)(x:SV E ⟨dst,op,ty,pos,af,none⟩ O ds h v)(y:TD E l n fl hs ds Lw F (dK aP) (putS O dst v) h):TD E l n fl hs ds Lw F (dK (m ::aP)) O h:=by
 unfold dK;rw [hk];exact ⟨_,true,ho,rfl,λe=>(by cases e),λ_=>⟨v,x,y⟩⟩
theorem tE(hk:Oy m=(.e,k))(ho:l[k]? =some ⟨dst,op,ty,pos,af,none⟩)
  (x:BS E ⟨dst,op,ty,pos,af,none⟩ O ds h λσ' ds' h'=>ds'=ds/\∃v,σ'=putS O dst v/\h.Le h'/\TD E l n false hs ds Lw F (dK aP) (putS O dst v) h'):TD E l n false hs ds Lw F (dK (m ::aP)) O h:=by
 unfold dK;rw [hk];exact ⟨_,true,ho,rfl,λe=>(by cases e),λ_ b a=>by rw [a.2 rfl];exact x⟩
theorem Gm(hk:Oy m=(.e,k))(ho:l[k]? =some ⟨dst,op,ty,pos,af,none⟩)
  (x:∀hx,h.Le hx->BS E ⟨dst,op,ty,pos,af,none⟩ O ds hx λσ' ds' h'=>ds'=ds/\∃v,σ'=putS O dst v/\hx.Le h'/\TD E l n true hs ds Lw F (dK aP) (putS O dst v) h'):TD E l n true hs ds Lw F (dK (m ::aP)) O h:=by
 unfold dK;rw [hk];exact ⟨_,true,ho,rfl,λe=>(by cases e),λ_ hx a=>x hx a.1⟩
theorem tW(hk:Oy m=(.w,k))(ho:l[k]? =some ⟨dst,op,ty,pos,af,none⟩)
  (x:BS E ⟨dst,op,ty,pos,af,none⟩ O ds h λσ' ds' h'=>ds'=ds/\∃v,σ'=putS O dst v/\TD E l n false hs ds (λ_ _ _=>True) F (dK aP) (putS O dst v) h'):TD E l n false hs ds (λ_ _ _=>True) F (dK (m ::aP)) O h:=by
 unfold dK;rw [hk];exact ⟨_,true,ho,rfl,λe=>(by cases e),λ_ b a=>by rw [a.2 rfl];exact x.mono λ_ _ _ q=>⟨q.1,by obtain ⟨v,e,y⟩:=q.2;exact ⟨v,e,trivial,y⟩⟩⟩
theorem Uj(hk:Oy m=(.w,k))(ho:l[k]? =some ⟨dst,op,ty,pos,af,none⟩)
  (x:∀hx,h.Le hx->BS E ⟨dst,op,ty,pos,af,none⟩ O ds hx λσ' ds' h'=>ds'=ds/\∃v,σ'=putS O dst v/\TD E l n false hs ds (λ_ _ _=>True) F (dK aP) (putS O dst v) h'):TD E l n true hs ds (λ_ _ _=>True) F (dK (m ::aP)) O h:=by
 unfold dK;rw [hk];exact ⟨_,true,ho,rfl,λe=>(by cases e),λ_ hx a=>(x hx a.1).mono λ_ _ _ q=>⟨q.1,by obtain ⟨v,e,y⟩:=q.2;exact ⟨v,e,trivial,y⟩⟩⟩
theorem tA{t:aV}{z:Array aU}(hk:Oy m=(.a,k))(ho:l[k]? =some ⟨dst,.alloc t,ty,pos,af,none⟩)(hz:Be P t=some z)
  (x:∀r hx,h.Le hx->hs r=none->hx r=some (true,.cells z t (0,0))->TD E l n true hs ds Lw F (dK aP) (putS O dst (.pointer (some ⟨r,0,none⟩))) hx):TD E l n true hs ds Lw F (dK (m ::aP)) O h:=by
 unfold dK;rw [hk];refine ⟨_,true,ho,rfl,λe=>(by cases e),λ_ i r hx e b c f=>?_⟩;cases e;exact x r hx b c (by rw [f];unfold zOf;rw [hz];rfl)
theorem tL(hk:Oy m=(.l,k))(ho:l[k]? =some ⟨dst,op,ty,pos,af,none⟩)
  (x:∀hx,h.Le hx->BS E ⟨dst,op,ty,pos,af,none⟩ O ds hx λσ' ds' h'=>ds'=ds/\∃v,σ'=putS O dst v/\hx.Le h'/\Lw k v h') (y:TD E l n fl hs ds Lw F (dK aP) O h):TD E l n fl hs ds Lw F (dK (m ::aP)) O h:=by
 unfold dK;rw [hk];exact ⟨_,true,ho,rfl,λe=>(by cases e),λ_=>⟨x,y⟩⟩
theorem tB(hk:Oy m=(.b,k))(ho:l[k]? =some ⟨dst,op,ty,pos,af,none⟩)(x:∀v hx,h.Le hx->Lw k v hx->TD E l n fl hs ds Lw F (dK aP) (putS O dst v) hx):TD E l n fl hs ds Lw F (dK (m ::aP)) O h:=by
 unfold dK;rw [hk];exact ⟨_,true,ho,rfl,λe=>(by cases e),λ_=>x⟩
theorem RE(h1:l[g]? =some og)(h2:og.dst=some d)(h3:O d=.bool w):Gd l ⟨dst,op,ty,pos,af,some (g,w)⟩ O true:=⟨og,d,.bool w,h1,h2,h3,by cases w <;> rfl⟩
theorem tPg(hk:Oy m=(.p,k))(ho:l[k]? =some ⟨dst,op,ty,pos,af,some (g,w)⟩)(h1:l[g]? =some og)(h2:og.dst=some d)(h3:O d=.bool w)(x:∀hx,SV E ⟨dst,op,ty,pos,af,some (g,w)⟩ O ds hx v)
  (y:TD E l n fl hs ds Lw F (dK aP) (putS O dst v) h):TD E l n fl hs ds Lw F (dK (m ::aP)) O h:=by
 unfold dK;rw [hk];exact ⟨_,true,ho,RE h1 h2 h3,λe=>(by cases e),λ_=>⟨v,λhx _=>x hx,y⟩⟩
theorem tRg(hk:Oy m=(.r,k))(ho:l[k]? =some ⟨dst,op,ty,pos,af,some (g,w)⟩)(h1:l[g]? =some og)(h2:og.dst=some d)(h3:O d=.bool w)(x:SV E ⟨dst,op,ty,pos,af,some (g,w)⟩ O ds h v)
  (y:TD E l n fl hs ds Lw F (dK aP) (putS O dst v) h):TD E l n fl hs ds Lw F (dK (m ::aP)) O h:=by
 unfold dK;rw [hk];exact ⟨_,true,ho,RE h1 h2 h3,λe=>(by cases e),λ_=>⟨v,x,y⟩⟩
theorem SE(hk:Oy m=(.e,k))(ho:l[k]? =some ⟨dst,op,ty,pos,af,some (g,w)⟩)(h1:l[g]? =some og)(h2:og.dst=some d)(h3:O d=.bool w)
  (x:BS E ⟨dst,op,ty,pos,af,some (g,w)⟩ O ds h λσ' ds' h'=>ds'=ds/\∃v,σ'=putS O dst v/\h.Le h'/\TD E l n false hs ds Lw F (dK aP) (putS O dst v) h'):TD E l n false hs ds Lw F (dK (m ::aP)) O h:=by
 unfold dK;rw [hk];exact ⟨_,true,ho,RE h1 h2 h3,λe=>(by cases e),λ_ b a=>by rw [a.2 rfl];exact x⟩
theorem tS{kd:Kd}(hk:Oy m=(kd,k))(ho:l[k]? =some ⟨dst,op,ty,pos,af,some (g,w)⟩)(h1:l[g]? =some og)(h2:og.dst=some d)(h3:O d=.bool is)(hne:(is==w)=false)
  (y:TD E l n fl hs ds Lw F (dK aP) (putS O dst undef) h) (hl:(kd !=Kd.l)=true:=by rfl):TD E l n fl hs ds Lw F (dK (m ::aP)) O h:=by
 unfold dK;rw [hk];exact ⟨_,false,ho,⟨og,d,.bool is,h1,h2,h3,hne.symm⟩,λ_=>(by cases kd <;> first | exact y | cases hl),λe=>(by cases e)⟩
theorem tN(x:F O h):TD E l n false hs ds Lw F (dK []) O h:=λb a=>by rw [a.2 rfl];exact x
theorem tNf(x:∀hx,h.Le hx->F O hx):TD E l n true hs ds Lw F (dK []) O h:=λhx a=>x hx a.1
section
variable {U:Type} {enc:U->Array aU} {xs:List U} {h0:L} {t:aV} {a ix:Operand} {z:Nat} {sv:aU} {kd:IntKind} {i:Int}
theorem tI(hk:Oy m=(.p,k))(ho:l[k]? =some ⟨dst,.indexAddr t a ix,ty,pos,af,none⟩)(ht:Dq P t=some z)(hs':AJ h0 sv z enc xs)(hx:AL O a=sv)(hi:AL O ix=.int kd i)(h0':0<=i)(h1:i<xs.length)
  (y:∀b off,AX h0 b off z (enc (xs[i.toNat]' Y))->TD E l n fl hs ds Lw F (dK aP) (putS O dst (.pointer (some ⟨b,off,none⟩))) h):TD E l n fl hs ds Lw F (dK (m ::aP)) O h:=by
 obtain ⟨p,c,rfl,_,_,e⟩:=hs';obtain ⟨b,off,rfl,f⟩:=e i.toNat Y;exact tP hk ho (λ_=>AH ht hx hi h0' h1 vz) (y b _ f)
theorem tSl{olo ohi:Option Operand}(lo hi:Nat)(hk:Oy m=(.p,k))(ho:l[k]? =some ⟨dst,.slice t a olo ohi none,ty,pos,af,none⟩)(ht:Dq P t=some z)(hs':AJ h0 sv z enc xs)(hx:AL O a=sv)
  (hlo:LoIs O olo lo 0) (hhi:LoIs O ohi hi xs.length) (h1:lo<=hi) (h2:hi<=xs.length)
  (y:∀v',AJ h0 v' z enc ((xs.take hi).drop lo)->TD E l n fl hs ds Lw F (dK aP) (putS O dst v') h):TD E l n fl hs ds Lw F (dK (m ::aP)) O h:=by
 have b:=hs';obtain ⟨p,c,rfl,e,_,_⟩:=hs';exact tP hk ho (λ_=>Lc lo hi ht e hx hlo hhi h1 h2 vz) (y _ (b.part h1 h2))
end
theorem eT{h':L}{π':List (Kd×Nat)}(l2:h.Le h')(y:TD E l n fl hs ds Lw F π' (putS O dst v) h'):ds=ds/\∃v',putS O dst v=putS O dst v'/\h.Le h'/\TD E l n fl hs ds Lw F π' (putS O dst v') h':=⟨rfl,v,rfl,l2,y⟩
theorem wT{h':L}{π':List (Kd×Nat)}(y:TD E l n fl hs ds Lw F π' (putS O dst v) h'):ds=ds/\∃v',putS O dst v=putS O dst v'/\TD E l n fl hs ds Lw F π' (putS O dst v') h':=⟨rfl,v,rfl,y⟩
end
theorem Cv{X:Prop}{p:Prop}[Decidable p](a:p->X)(b:¬p->X):X:=if h:p then a h else b h
theorem Z3{X:Prop}{b:Bool}(x:b=true->X)(y:b=false->X):X:=by cases b with
 | true=>exact x rfl
 | false=>exact y rfl
end
end Go.Ns
namespace Go.Ns
def eI(i:Int):Array aU:=#[.int .i64 i]
def eB(i:Int):Array aU:=#[.int .u8 i]
def eH(i:Int):Array aU:=#[.int .u16 i]
structure Good where
 name:aW
 cost:Int
 pack:Int
 low:Int
 high:Int
structure AG where
 kind:Int
 good:Int
 day:Int
 low:Int
 high:Int
structure AP where
 good:Int
 day:Int
 low:Int
 high:Int
def Bw(x:Good):Array aU:=#[.string x.name,.int .i64 x.cost,.int .i64 x.pack,.int .i64 x.low,.int .i64 x.high]
def Bf(x:AG):Array aU:=#[.int .i64 x.kind,.int .i64 x.good,.int .i64 x.day,.int .i64 x.low,.int .i64 x.high]
def BI(x:AP):Array aU:=#[.int .i64 x.good,.int .i64 x.day,.int .i64 x.low,.int .i64 x.high]
structure AW where
 first:Nat->Int
 many:Nat->Int
 lies:Nat->Bool
def AW.zero:AW:=⟨λ_=>0,λ_=>0,λ_=>false⟩
def An(p:AW):Array aU:=#[.int .i64 (p.first 0),.int .i64 (p.first 1),.int .i64 (p.first 2),.int .i64 (p.many 0),.int .i64 (p.many 1),.int .i64 (p.many 2),.int .i64 (p.many 3),.int .i64 (p.many 4),.int .i64 (p.many 5),
 .bool (p.lies 0),.bool (p.lies 1),.bool (p.lies 2),.bool (p.lies 3),.bool (p.lies 4),.bool (p.lies 5)]
def AW.setFirst(p:AW)(i:Nat)(n:Int):AW:={ p with first:=λk=>if k=i then n else p.first k }
def AW.setMany(p:AW)(i:Nat)(n:Int):AW:={ p with many:=λk=>if k=i then n else p.many k }
def AW.setLie(p:AW)(i:Nat)(b:Bool):AW:={ p with lies:=λk=>if k=i then b else p.lies k }
theorem SW{p:AW}{i:Nat}(h:i<3):(An p)[i*1]? =some (.int .i64 (p.first i)):=by
 match i,h with
 | 0,_=>rfl
 | 1,_=>rfl
 | 2,_=>rfl
theorem Uk{p:AW}{i:Nat}(h:i<6):(An p)[3+i*1]? =some (.int .i64 (p.many i)):=by
 match i,h with
 | 0,_=>rfl
 | 1,_=>rfl
 | 2,_=>rfl
 | 3,_=>rfl
 | 4,_=>rfl
 | 5,_=>rfl
theorem KA{p:AW}{i:Nat}(h:i<6):(An p)[9+i*1]? =some (.bool (p.lies i)):=by
 match i,h with
 | 0,_=>rfl
 | 1,_=>rfl
 | 2,_=>rfl
 | 3,_=>rfl
 | 4,_=>rfl
 | 5,_=>rfl
theorem SX{p:AW}{i:Nat}(h:i<6):(if false=true then some (Value.agg ((#[.bool (p.lies 0),.bool (p.lies 1),.bool (p.lies 2),.bool (p.lies 3),.bool (p.lies 4),.bool (p.lies 5)]:Array aU).extract (i*1) (i*1+1))) else (#[.bool (p.lies 0),.bool (p.lies 1),.bool (p.lies 2),.bool (p.lies 3),.bool (p.lies 4),.bool (p.lies 5)]:Array aU)[i*1]?)=some (.bool (p.lies i)):=by
 match i,h with
 | 0,_=>rfl
 | 1,_=>rfl
 | 2,_=>rfl
 | 3,_=>rfl
 | 4,_=>rfl
 | 5,_=>rfl
theorem Nc{p:AW}{i:Nat}{n:Int}(h:i<3):BN (An p) (i*1) [.int .i64 n]=An (p.setFirst i n):=by
 match i,h with
 | 0,_=>rfl
 | 1,_=>rfl
 | 2,_=>rfl
theorem Ms{p:AW}{i:Nat}{n:Int}(h:i<3):BN (An p) (0+i*1) [.int .i64 n]=An (p.setFirst i n):=by rw [Nat.zero_add];exact Nc h
theorem O1{p:AW}{i:Nat}{n:Int}(h:i<6):BN (An p) (3+i*1) [.int .i64 n]=An (p.setMany i n):=by
 match i,h with
 | 0,_=>rfl
 | 1,_=>rfl
 | 2,_=>rfl
 | 3,_=>rfl
 | 4,_=>rfl
 | 5,_=>rfl
theorem IR{p:AW}{i:Nat}{b:Bool}(h:i<6):BN (An p) (9+i*1) [.bool b]=An (p.setLie i b):=by
 match i,h with
 | 0,_=>rfl
 | 1,_=>rfl
 | 2,_=>rfl
 | 3,_=>rfl
 | 4,_=>rfl
 | 5,_=>rfl
theorem RF{p:AW}{i:Nat}(h:i<3):(An p)[0+i*1]? =some (.int .i64 (p.first i)):=by rw [Nat.zero_add];exact SW h
def By(p:AW):Nat->Nat
 | 0=>0
 | k+1=>By p k+if p.lies k then 1 else 0
theorem Nd(p:AW):∀k,By p k<=k
 | 0=>Nat.le_refl _
 | k+1=>by have:=Nd p k;unfold By;split <;> omega
def Cd(p:AW)(i:Nat):Int:=if p.lies i then 0 else p.many i
def Good.z:Good:=⟨⟨#[]⟩,0,0,0,0⟩
def AG.z:AG:=⟨0,0,0,0,0⟩
def AP.z:AP:=⟨0,0,0,0⟩
theorem IS{U:Type}{xs:List U}{i:Nat}(d:U)(hi:i<xs.length):xs.getD i d=xs[i]'hi:=by
 simp [List.getD_eq_getElem?_getD,List.getElem?_eq_getElem hi]
theorem AX.getD{U:Type}{h:L}{b off n:Nat}{enc:U->Array aU}{xs:List U}{i:Nat}{hi:i<xs.length}(d:U)(x:AX h b off n (enc (xs[i]'hi))):AX h b off n (enc (xs.getD i d)):=by
 rw [IS d hi];exact x
theorem H2{U:Type}{a:List U}{k:Nat}(d:U)(ha:k<a.length):a.take (k+1)=a.take k++[a.getD k d]:=by
 rw [List.take_succ_eq_append_getElem ha,IS d ha]
theorem Nf{U:Type}{a b:List U}{k:Nat}(d:U)(h:a.take k=b.take k)(ha:k<a.length)(hb:k<b.length)(e:a.getD k d=b.getD k d):a.take (k+1)=b.take (k+1):=by
 rw [H2 d ha,H2 d hb,h,e]
theorem RG{a b:List Int}{k:Nat}(h:a.take k=b.take k)(hk:k<=a.length)(hk':¬(k:Int)<a.length)(hl:(a.length:Int)=b.length):a=b:=by
 have c:k=a.length:=Y
 have d:b.length=a.length:=Y
 rw [c,List.take_length,<-d,List.take_length] at h;exact h
theorem ne_len{U:Type}{a b:List U}(h:¬(a.length:Int)=b.length):¬a=b:=λe=>h (by rw [e])
theorem ne_getD{U:Type}{a b:List U}{k:Nat}{d:U}(e:¬a.getD k d=b.getD k d):¬a=b:=λh=>e (by rw [h])
def Kq(c:Int):Prop:=97<=c/\c<=122
def M6(c:Int):Prop:=48<=c/\c<=57
instance (c:Int):Decidable (Kq c):=inferInstanceAs (Decidable (_/\_))
instance (c:Int):Decidable (M6 c):=inferInstanceAs (Decidable (_/\_))
def GI(d m:Int):Int:=if¬(1<=d/\d<=99)\/¬(0<=m/\m<=2) then 1 else 0
def idxOf{U:Type}(p:U->Bool):List U->Int
 | []=> -1
 | x ::l=>if p x then 0 else if idxOf p l<0 then-1 else idxOf p l+1
theorem Ng{U:Type}(p:U->Bool):∀l:List U,-1<=idxOf p l
 | []=>by simp [idxOf]
 | x ::l=>by have:=Ng p l;unfold idxOf;split <;> (try split) <;> omega
theorem H3{U:Type}(p:U->Bool):∀l:List U,(0<=idxOf p l)↔l.any p=true
 | []=>by simp [idxOf]
 | x ::l=>by
  have:=H3 p l
  have b:=Ng p l;unfold idxOf;cases a:p x with
  | true=>simp [a]
  | false=>
   simp only [Bool.false_eq_true,if_false,List.any_cons,a,Bool.false_or];rw [<-this];split <;> omega
theorem Li{U:Type}{p:U->Bool}{l:List U}{k:Nat}{d:U}(hk:(k:Int)<l.length)(h:(l.take k).any p=false)(e:p (l.getD k d)=true):idxOf p l=k:=by
 induction l generalizing k with
 | nil=>simp at hk;omega
 | cons x l a=>
  unfold idxOf;cases k with
  | zero=>simp at e;simp [e]
  | succ k=>
   simp only [List.take_succ_cons,List.any_cons,Bool.or_eq_false_iff] at h;rw [h.1]
   have:=a (k:=k) (by simp at hk;omega) h.2 (by simpa using e)
   rw [this];simp only [Bool.false_eq_true,if_false];rw [aS Y];omega
theorem KB{U:Type}{p:U->Bool}{l:List U}{k:Nat}(hk:¬(k:Int)<l.length)(h:(l.take k).any p=false):idxOf p l= -1:=by
 rw [List.take_of_length_le Y] at h
 have:=H3 p l
 have a:=Ng p l;rw [h] at this;simp at this;omega
theorem Nh{U:Type}{p:U->Bool}{l:List U}{k:Nat}{d:U}(hk:(k:Int)<l.length)(h:(l.take k).any p=false)(e:p (l.getD k d)=false):(l.take (k+1)).any p=false:=by
 rw [H2 d Y,List.any_append,h];simp only [Bool.false_or,List.any_cons,List.any_nil,Bool.or_false,e]
theorem E7{U:Type}{l:List U}{k:Nat}{d:U}(hk:k<l.length):l.getD k d ∈ l:=by
 rw [IS d hk];exact List.getElem_mem hk
def A4(l:List Int)(m:Int):Int:=if¬(l.length:Int)=m then 2 else if l.any (λx=>decide (¬(0<=x/\x<=99))) then 1 else 0
def ED(f:Nat->Int):Nat->Nat->Int
 | _,0=>0
 | i,n+1=>if f i=0 then ED f (i+1) n else f i
theorem Ni{f:Nat->Int}{c:Int}:∀{n i k:Nat},(∀j,i<=j->j<i+k->f j=0)->k<n->f (i+k)=c->c≠0->ED f i n=c
 | 0,i,k,_,b,_,_=>Y
 | n+1,i,0,_,_,e,a=>by unfold ED;rw [Nat.add_zero] at e;rw [e,aS a]
 | n+1,i,k+1,h,b,e,a=>by
  unfold ED;rw [aT (h i (Nat.le_refl _) Y)];exact Ni (k:=k) (λj d g=>h j Y Y) Y (by rw [<-e];congr 1;omega) a
theorem FP{f:Nat->Int}:∀{n i:Nat},(∀j,i<=j->j<i+n->f j=0)->ED f i n=0
 | 0,_,_=>rfl
 | n+1,i,h=>by
  unfold ED;rw [aT (h i (Nat.le_refl _) Y)];exact FP λj a b=>h j Y Y
theorem FQ{f:Nat->Int}{k:Nat}(h:∀j,j<k->f j=0)(e:f k=0):∀j,j<k+1->f j=0:=λj a=>by
 rcases Nat.lt_or_ge j k with q | q
 ·exact h j q
 ·rw [show j=k by omega];exact e
theorem CP{f:Nat->Int}{c:Int}{n k:Nat}(h:∀j,j<k->f j=0)(hk:k<n)(e:f k=c)(hc:c≠0):ED f 0 n=c:=
 Ni (i:=0) (k:=k) (λj _ a=>h j Y) hk (by rw [Nat.zero_add];exact e) hc
theorem Db{f:Nat->Int}{n k:Nat}(h:∀j,j<k->f j=0)(hk:n<=k):ED f 0 n=0:=FP λj _ a=>h j Y
def KC(s:aW)(k:Nat):Int:=if¬Kq ((bytesOf s).getD k 0)/\(k=0\/¬M6 ((bytesOf s).getD k 0)) then 1 else 0
def GT(s:aW):Bool:=decide (ED (KC s) 0 s.size=0) && decide (1<=(s.size:Int)/\(s.size:Int)<=10)
def GW(l h:Int):Prop:=((0<=l/\l<=h)/\h<=99)/\h-l<3
instance (l h:Int):Decidable (GW l h):=inferInstanceAs (Decidable (_/\_))
def IT(gs:List Good)(k:Nat):Int:=
 if GT (gs.getD k Good.z).name=false then 4
 else if (gs.take k).any (λx=>x.name.toList==(gs.getD k Good.z).name.toList) then 5
 else if (¬(0<=(gs.getD k Good.z).cost/\(gs.getD k Good.z).cost<=999)\/¬(1<=(gs.getD k Good.z).pack/\(gs.getD k Good.z).pack<=20))\/¬GW (gs.getD k Good.z).low (gs.getD k Good.z).high then 1 else 0
def Dz(gs:List Good):Int:=if¬(1<=(gs.length:Int)/\(gs.length:Int)<=3) then 2 else ED (IT gs) 0 gs.length
def Dt(ms:List AG)(k:Nat):Int:=if k=0 then 0 else (ms.getD (k-1) AG.z).day
def Fw(d:Int)(gs:List Good)(ms:List AG)(k:Nat):Int:=
 if¬(0<=(ms.getD k AG.z).kind/\(ms.getD k AG.z).kind<=4) then 1
 else if¬(0<=(ms.getD k AG.z).good/\(ms.getD k AG.z).good<=(gs.length:Int)-1) then 6
 else if¬(1<=(ms.getD k AG.z).day/\(ms.getD k AG.z).day<=d) then 1
 else if (ms.getD k AG.z).day<Dt ms k then 7
 else if¬GW (ms.getD k AG.z).low (ms.getD k AG.z).high then 1 else 0
def DN(d:Int)(gs:List Good)(ms:List AG):Int:=if (6:Int)<ms.length then 2 else ED (Fw d gs ms) 0 ms.length
def HW(d:Int)(gs:List Good)(cs:List AP)(k:Nat):Int:=
 if¬(0<=(cs.getD k AP.z).good/\(cs.getD k AP.z).good<=(gs.length:Int)-1) then 6
 else if¬(0<=(cs.getD k AP.z).day/\(cs.getD k AP.z).day<=d)\/¬((0<=(cs.getD k AP.z).low/\(cs.getD k AP.z).low<=(cs.getD k AP.z).high)/\(cs.getD k AP.z).high<=999) then 1 else 0
def Dm(d:Int)(gs:List Good)(cs:List AP):Int:=if (4:Int)<cs.length then 2 else ED (HW d gs cs) 0 cs.length
theorem O2(s:aW)(k:Nat):0<=(bytesOf s).getD k 0/\(bytesOf s).getD k 0<=255:=by
 by_cases h:k<(bytesOf s).length
 ·rw [IS 0 h];have a:k<s.data.toList.length:=by rw [DQ] at h;rw [Array.length_toList];exact h
  have e:(bytesOf s)[k]'h=((s.data.toList[k]'a).toNat:Int):=List.getElem_map _;rw [e]
  have:=(s.data.toList[k]'a).toNat_lt
  omega
 ·simp only [List.getD_eq_getElem?_getD];rw [List.getElem?_eq_none Y];decide
theorem Ul{s:aW}{k:Nat}(h:∀j,j<k->KC s j=0)(hk:k<s.size)(e:KC s k=1):GT s=false:=by
 unfold GT;rw [CP h hk e aC];simp
theorem Um{s:aW}{k:Nat}(h:∀j,j<k->KC s j=0)(hk:s.size<=k):GT s=decide (1<=(s.size:Int)/\(s.size:Int)<=10):=by
 unfold GT;rw [Db h hk];simp
theorem Un{P:Program}{h:L}{t:aV}{b n m o:Nat}{vs:Array aU}{v:aU}(ht:Bq P t=some (false,m))(x:AX h b 0 n vs)(hv:vs[o]? =some v):Rd P h t b o v:=by
 have:=CB (o:=o) ht x hv
 rwa [Nat.zero_add] at this
def Er(d m:Int)(gs:List Good)(ms:List AG)(cs:List AP):Nat->Int
 | 0=>GI d m
 | 1=>Dz gs
 | 2=>DN d gs ms
 | _=>Dm d gs cs
def Au(d m:Int)(gs:List Good)(ms:List AG)(cs:List AP):Int:=ED (Er d m gs ms cs) 0 4
def signed(k:Nat)(n:Int):Int:=if k=0\/k=4 then n else-n
theorem Kr{k:Nat}{n:Int}(h:0<=n/\n<=99): -99<=signed k n/\signed k n<=99:=by unfold signed;split <;> omega
def Bn(p:AW):Prop:=(∀i,0<=p.first i/\p.first i<=99)/\∀i,0<=p.many i/\p.many i<=99
theorem Ge{p:AW}(h:Bn p)(i:Nat):0<=Cd p i/\Cd p i<=99:=by
 unfold Cd;have:=h.2 i;split <;> omega
def G1(ms:List AG)(p:AW)(g:Int)(k:Nat)(n:Int):Int:=if (ms.getD k AG.z).good=g then n+signed (ms.getD k AG.z).kind.toNat (Cd p k) else n
def GB(ms:List AG)(k:Nat)(low n:Int):Int:=if (k:Int)+1=ms.length\/(ms.getD k AG.z).day<(ms.getD (k+1) AG.z).day then min low n else low
def Cx(ms:List AG)(p:AW)(g dy:Int):Nat->Nat->Int->Int->Int×Int
 | 0,_,n,low=>(n,low)
 | f+1,k,n,low=>if dy<(ms.getD k AG.z).day then (n,low) else Cx ms p g dy f (k+1) (G1 ms p g k n) (GB ms k low (G1 ms p g k n))
def AQ(ms:List AG)(p:AW)(g dy:Int):Int×Int:=Cx ms p g dy ms.length 0 (p.first g.toNat) (p.first g.toNat)
theorem ES{ms:List AG}{p:AW}{g dy:Int}{k:Nat}{n low:Int}(hk:k<ms.length)(hd:¬dy<(ms.getD k AG.z).day) :
  Cx ms p g dy (ms.length-k) k n low=Cx ms p g dy (ms.length-(k+1)) (k+1) (G1 ms p g k n) (GB ms k low (G1 ms p g k n)):=by
 rw [show ms.length-k=(ms.length-(k+1))+1 by omega]
 conv=>lhs;unfold Cx
 rw [aS hd]
theorem O3{ms:List AG}{p:AW}{g dy:Int}{k:Nat}{n low:Int}(hk:k<ms.length)(hd:dy<(ms.getD k AG.z).day):Cx ms p g dy (ms.length-k) k n low=(n,low):=by
 rw [show ms.length-k=(ms.length-(k+1))+1 by omega]
 conv=>lhs;unfold Cx
 rw [aT hd]
theorem RH{ms:List AG}{p:AW}{g dy:Int}{k:Nat}{n low:Int}(hk:¬(k:Int)<ms.length):Cx ms p g dy (ms.length-k) k n low=(n,low):=by
 rw [show ms.length-k=0 by omega];rfl
def BF(d:Int)(ng:Nat)(ms:List AG)(cs:List AP)(p:AW):Bool:=
 decide (∀j,j<ng->¬(AQ ms p (j:Int) d).2<0) && !(cs.any λx=>decide (¬(x.low<=(AQ ms p x.good x.day).1/\(AQ ms p x.good x.day).1<=x.high)))
theorem Uo{d:Int}{ng:Nat}{ms:List AG}{cs:List AP}{p:AW}{k:Nat}(hk:k<ng)(h:(AQ ms p (k:Int) d).2<0):BF d ng ms cs p=false:=by
 unfold BF;rw [decide_eq_false (λq=>q k hk h)];rfl
theorem SY{d:Int}{ng:Nat}{ms:List AG}{cs:List AP}{p:AW}{k:Nat}(hk:ng<=k)(h:∀j,j<k->¬(AQ ms p (j:Int) d).2<0) :
  BF d ng ms cs p= !(cs.any λx=>decide (¬(x.low<=(AQ ms p x.good x.day).1/\(AQ ms p x.good x.day).1<=x.high))):=by
 unfold BF;rw [decide_eq_true (λj a=>h j Y)];rfl
theorem Pf{q:Nat->Prop}{k:Nat}(h:∀j,j<k->q j)(e:q k):∀j,j<k+1->q j:=λj a=>by
 rcases Nat.lt_or_ge j k with r | r
 ·exact h j r
 ·rw [show j=k by omega];exact e
def AW.setFirsts(p:AW)(l:List Int):AW:={ p with first:=λk=>if k<l.length then l.getD k 0 else p.first k }
def AW.setManys(p:AW)(l:List Int):AW:={ p with many:=λk=>if k<l.length then l.getD k 0 else p.many k }
theorem Mt{p:AW}{l:List Int}(h:l.length<=3):BN (An p) 0 (C7 eI l)=An (p.setFirsts l):=by
 match l,h with
 | [],_=>rfl
 | [_],_=>rfl
 | [_,_],_=>rfl
 | [_,_,_],_=>rfl
 | _ ::_ ::_ ::_ ::_,h=>simp at h
theorem Nj{p:AW}{l:List Int}(h:l.length<=6):BN (An p) 3 (C7 eI l)=An (p.setManys l):=by
 match l,h with
 | [],_=>rfl
 | [_],_=>rfl
 | [_,_],_=>rfl
 | [_,_,_],_=>rfl
 | [_,_,_,_],_=>rfl
 | [_,_,_,_,_],_=>rfl
 | [_,_,_,_,_,_],_=>rfl
 | _ ::_ ::_ ::_ ::_ ::_ ::_ ::_,h=>simp at h
end Go.Ns
namespace Go.Ns
open Go.Conc
def BX(lo:Int)(k:Nat):List Int:=(List.range k).map λ(j:Nat)=>lo+(j:Int)
def Fc(lo hi:Int):List Int:=BX lo (hi-lo+1).toNat
theorem MT(lo:Int)(k:Nat):BX lo (k+1)=BX lo k++[lo+(k:Int)]:=by
 simp [BX,List.range_succ]
theorem Up{lo n:Int}{k:Nat}:n ∈ BX lo k↔lo<=n/\n<lo+k:=by
 simp only [BX,List.mem_map,List.mem_range];constructor
 ·rintro ⟨j,a,rfl⟩;omega
 ·rintro ⟨b,c⟩;exact ⟨(n-lo).toNat,Y,Y⟩
theorem Pg{lo hi n:Int}:n ∈ Fc lo hi↔lo<=n/\n<=hi:=by
 unfold Fc;rw [Up];omega
theorem Uq{β:Type}{f:Int->List β}{lo hi:Int}{k:Nat}(h:¬lo+(k:Int)<=hi)(hk:(k:Int)<=hi-lo+1\/k=0):(BX lo k).flatMap f=(Fc lo hi).flatMap f:=by
 unfold Fc;congr 2;omega
theorem HX{β:Type}{f:Int->List β}{lo:Int}{k:Nat}:(BX lo (k+1)).flatMap f=(BX lo k).flatMap f++f (lo+k):=by
 rw [MT,List.flatMap_append];simp
def AW.setMove(p:AW)(i:Nat)(n:Int)(b:Bool):AW:=(p.setMany i n).setLie i b
theorem Mu(p:AW)(i:Nat)(n n':Int)(b b':Bool):(p.setMove i n b).setMove i n' b'=p.setMove i n' b':=by
 unfold AW.setMove AW.setMany AW.setLie;congr 1 <;> funext k <;> simp only [] <;> split <;> rfl
theorem G2(p:AW)(i:Nat)(n:Int)(b b':Bool):(p.setMove i n b).setLie i b'=p.setMove i n b':=by
 unfold AW.setMove AW.setMany AW.setLie;congr 1;funext k;simp only [];split <;> rfl
theorem Ks(p:AW)(i:Nat)(n n':Int):(p.setFirst i n).setFirst i n'=p.setFirst i n':=by
 unfold AW.setFirst;congr 1;funext k;simp only [];split <;> rfl
theorem Bn.zero:Bn AW.zero:=⟨λ_=>⟨Int.le_refl 0,(aC:(0:Int)<=99)⟩,λ_=>⟨Int.le_refl 0,(aC:(0:Int)<=99)⟩⟩
theorem Bn.setFirst{p:AW}(h:Bn p){i:Nat}{n:Int}(hn:0<=n/\n<=99):Bn (p.setFirst i n):=
 ⟨λk=>by unfold AW.setFirst;simp only [];split;exact hn;exact h.1 k,h.2⟩
theorem Bn.setMany{p:AW}(h:Bn p){i:Nat}{n:Int}(hn:0<=n/\n<=99):Bn (p.setMany i n):=
 ⟨h.1,λk=>by unfold AW.setMany;simp only [];split;exact hn;exact h.2 k⟩
theorem Bn.setMove{p:AW}(h:Bn p){i:Nat}{n:Int}{b:Bool}(hn:0<=n/\n<=99):Bn (p.setMove i n b):=h.setMany hn
def EE(ms:List AG)(i:Int):Bool:=decide ((0<=i/\i<=(ms.length:Int)-1)/\(ms.getD i.toNat AG.z).kind=0)
def A6(ag:AW->Bool)(ms:List AG)(most:Int):Nat->Nat->AW->List AW
 | 0,_,p=>if ag p then [p] else []
 | f+1,i,p=>(Fc (ms.getD i AG.z).low (ms.getD i AG.z).high).flatMap λn=>
   A6 ag ms most f (i+1) (p.setMove i n false)++
    if EE ms i && decide ((By (p.setMove i n false) 6:Int)<most) then A6 ag ms most f (i+1) (p.setMove i n true) else []
def BR(ag:AW->Bool)(gs:List Good)(ms:List AG)(most:Int):Nat->Nat->AW->List AW
 | 0,_,p=>A6 ag ms most ms.length 0 p
 | f+1,i,p=>(Fc (gs.getD i Good.z).low (gs.getD i Good.z).high).flatMap λn=>BR ag gs ms most f (i+1) (p.setFirst i n)
def AT(d:Int)(gs:List Good)(ms:List AG)(cs:List AP)(most:Int):List AW:=BR (BF d gs.length ms cs) gs ms most gs.length 0 AW.zero
def B3(ag:AW->Bool)(ms:List AG)(most:Int)(f i:Nat)(p:AW)(n:Int):List AW:=
 A6 ag ms most f (i+1) (p.setMove i n false)++
  if EE ms i && decide ((By (p.setMove i n false) 6:Int)<most) then A6 ag ms most f (i+1) (p.setMove i n true) else []
theorem D0(ag:AW->Bool)(ms:List AG)(most:Int)(f i:Nat)(p:AW) :
  A6 ag ms most (f+1) i p=(Fc (ms.getD i AG.z).low (ms.getD i AG.z).high).flatMap (B3 ag ms most f i p):=rfl
theorem Eg(ag:AW->Bool)(gs:List Good)(ms:List AG)(most:Int)(f i:Nat)(p:AW) :
  BR ag gs ms most (f+1) i p=(Fc (gs.getD i Good.z).low (gs.getD i Good.z).high).flatMap (λn=>BR ag gs ms most f (i+1) (p.setFirst i n)):=rfl
def BP(X:Nat->Prop)(h h':L):Prop:=∀b p o,h b=some (p,o)->¬X b->∃o',h' b=some (p,o')/\(o'=o\/(J0 o=true/\J0 o'=true))
theorem BP.refl(X:Nat->Prop)(h:L):BP X h h:=λ_ _ o x _=>⟨o,x,.inl rfl⟩
theorem L.Le.keepX{h h':L}(l:h.Le h')(X:Nat->Prop):BP X h h':=λb p o x _=>l b p o x
theorem BP.trans{X X1:Nat->Prop}{a b c:L}(x:BP X a b)(hX:∀r,X1 r->X r\/a r=none)(y:BP X1 b c):BP X a c:=λr p o d f=>by
 obtain ⟨g,h,h2⟩:=x r p o d f;obtain ⟨i,j,h4⟩:=y r p g h λq=>(hX r q).elim f λe=>by rw [e] at d;cases d
 refine ⟨i,j,?_⟩;rcases h2 with rfl | h2
 ·exact h4
 ·rcases h4 with rfl | h4
  ·exact .inr h2
  ·exact .inr ⟨h2.1,h4.2⟩
theorem BP.box{X:Nat->Prop}{h h':L}(x:BP X h h'){b:Nat}{p:Bool}{o:Obj}(hb:h b=some (p,o))(hX:¬X b)(ho:J0 o=false):h' b=some (p,o):=by
 obtain ⟨d,c,rfl | ⟨a,_⟩⟩:=x b p o hb hX
 ·exact c
 ·rw [ho] at a;cases a
theorem BP.store{X:Nat->Prop}{h h1 h2:L}(x:BP X h h1){r:Nat}(hr:h r=none)(ho:∀b,b≠r->h2 b=h1 b):BP X h h2:=λb p o a c=>by
 rw [ho b λe=>by subst e;rw [hr] at a;cases a];exact x b p o a c
structure FJ{U:Type}(hB:L)(aQ:List U->(Nat->Prop)->L->Prop):Prop where
 dom:∀pre X h b,aQ pre X h->X b->∃p o,h b=some (p,o)/\J0 o=false
 stable:∀pre X h h',aQ pre X h->(∀b,X b->h' b=h b)->hB.Le h'->aQ pre X h'
theorem FJ.le{U:Type}{hB:L}{aQ:List U->(Nat->Prop)->L->Prop}(P:FJ hB aQ){pre:List U}{X:Nat->Prop}{h h':L}(x:aQ pre X h)(l:h.Le h')(lB:hB.Le h'):aQ pre X h':=
 P.stable pre X h h' x (λb c=>by
  obtain ⟨p,o,a,d⟩:=P.dom pre X h b x c;rw [l.keep a d,a]) lB
theorem FJ.store{U:Type}{hB:L}{aQ:List U->(Nat->Prop)->L->Prop}(P:FJ hB aQ){pre:List U}{X:Nat->Prop}{h h':L}(x:aQ pre X h){r:Nat}(hr:¬X r)(ho:∀b,b≠r->h' b=h b)(lB:hB.Le h'):aQ pre X h':=
 P.stable pre X h h' x (λb a=>ho b λe=>hr (e▸a)) lB
theorem FJ.off{U:Type}{hB:L}{aQ:List U->(Nat->Prop)->L->Prop}(P:FJ hB aQ){pre:List U}{X:Nat->Prop}{h:L}(x:aQ pre X h){r:Nat}(hr:h r=none):¬X r:=λq=>by
 obtain ⟨p,o,a,_⟩:=P.dom pre X h r x q;rw [hr] at a;cases a
theorem Kt{X X1:Nat->Prop}{h:L}(hX:∀r,X1 r->X r\/h r=none){r:Nat}{o:Bool×Obj}(hr:h r=some o)(n:¬X r):¬X1 r:=λq=>(hX r q).elim n λe=>by rw [e] at hr;cases hr
def Fx{U:Type}(hB:L)(aQ:List U->(Nat->Prop)->L->Prop)(S:L->Prop)(pre:List U)(X:Nat->Prop)(h:L)(l:List U)(v:aU)(h':L):Prop:=
 ∃ok X',v=.bool ok/\(∀b,X' b->X b\/h b=none)/\BP X h h'/\hB.Le h'/\(ok=true->aQ (pre++l) X' h')/\(ok=false->S h')
structure Hq{U:Type}{P:Program}(W:Wk P)(hB:L)(yv:aU)(enc:U->Array aU)(aQ:List U->(Nat->Prop)->L->Prop)(S:L->Prop)(all:List U):Prop where
 prom:FJ hB aQ
 one:yv.cells=#[yv]
 call:∀pre p post X h,all=pre++p ::post->aQ pre X h->hB.Le h->CT W yv #[.agg (enc p)] h (Fx hB aQ S pre X h [p])
structure Ew{U:Type}(hB:L)(aQ:List U->(Nat->Prop)->L->Prop)(X0:Nat->Prop)(h:L)(pre:List U)(X:Nat->Prop)(hc:L):Prop where
 inv:aQ pre X hc
 sub:∀b,X b->X0 b\/h b=none
 keep:BP X0 h hc
 base:hB.Le hc
section
variable {U:Type} {hB:L} {aQ:List U->(Nat->Prop)->L->Prop} {S:L->Prop} {X0 X X1:Nat->Prop} {h hc h':L} {pre l:List U}
theorem Ew.start(x:aQ pre X h)(lB:hB.Le h):Ew hB aQ X h pre X h:=⟨x,λ_ q=>.inl q,BP.refl _ _,lB⟩
theorem Ew.le(P:FJ hB aQ)(y:Ew hB aQ X0 h pre X hc)(l:hc.Le h'):Ew hB aQ X0 h pre X h':=
 ⟨P.le y.inv l (y.base.trans l),y.sub,y.keep.trans (λ_ q=>.inl q) (l.keepX X0),y.base.trans l⟩
theorem Ew.store(P:FJ hB aQ)(y:Ew hB aQ X0 h pre X hc){r:Nat}(hr:h r=none)(rB:hB r=none)(hn:¬X r)(ho:∀b,b≠r->h' b=hc b):Ew hB aQ X0 h pre X h':=
 ⟨P.store y.inv hn ho (y.base.upd rB ho),y.sub,y.keep.store hr ho,y.base.upd rB ho⟩
theorem subX(s:∀b,X b->X0 b\/h b=none)(k:BP X0 h hc)(s':∀b,X1 b->X b\/hc b=none):∀b,X1 b->X0 b\/h b=none:=λb q=>by
 rcases s' b q with q | q
 ·exact s b q
 ·by_cases a:X0 b
  ·exact .inl a
  ·refine .inr ?_;cases c:h b with
   | none=>rfl
   | some x=>
    obtain ⟨e,d,_⟩:=k b x.1 x.2 c a;rw [d] at q;cases q
theorem Ew.call(y:Ew hB aQ X0 h pre X hc){v:aU}(r:Fx hB aQ S pre X hc l v h') :
  ∃ok X',v=.bool ok/\(∀b,X' b->X b\/hc b=none)/\BP X hc h'/\(ok=true->Ew hB aQ X0 h (pre++l) X' h')/\(ok=false->∀l',Fx hB aQ S pre X0 h l' (.bool false) h'):=by
 obtain ⟨ok,X',i,a,c,d,j,k⟩:=r;have f:BP X0 h h':=y.keep.trans y.sub c;have g:=subX y.sub y.keep a;exact ⟨ok,X',i,a,c,λe=>⟨j e,g,f,d⟩,λe l'=>⟨false,X',rfl,g,f,d,(λx=>by cases x),λ_=>k e⟩⟩
theorem Ew.done(y:Ew hB aQ X0 h (pre++l) X hc):Fx hB aQ S pre X0 h l (.bool true) hc:=⟨true,X,rfl,y.sub,y.keep,y.base,λ_=>y.inv,λx=>by cases x⟩
theorem Ew.pass{U:Type}{hB:L}{aQ:List U->(Nat->Prop)->L->Prop}{S:L->Prop}{X0 X:Nat->Prop}{h hc h':L}{pre:List U}{l:List U}{v:aU}(y:Ew hB aQ X0 h pre X hc)(r:Fx hB aQ S pre X hc l v h'):Fx hB aQ S pre X0 h l v h':=by
 obtain ⟨a,X',b,c,d,e,f,g⟩:=r;exact ⟨a,X',b,subX y.sub y.keep c,y.keep.trans y.sub d,e,f,g⟩
theorem Fx.stopped{pre':List U}{v:aU}(hv:v=.bool false)(r:∀l',Fx hB aQ S pre X0 h l' (.bool false) h'):Fx hB aQ S pre' X0 h l v h':=by
 obtain ⟨f,X',e,a,b,c,_,d⟩:=r [];cases e;exact ⟨false,X',hv,a,b,c,(λx=>by cases x),d⟩
end
def CF{U:Type}(all pre l:List U):Prop:=∃post,all=pre++l++post
section
variable {U:Type} {all pre a b:List U}
theorem CF.left(w:CF all pre (a++b)):CF all pre a:=by
 obtain ⟨post,h⟩:=w;exact ⟨b++post,by rw [h];simp⟩
theorem CF.right(w:CF all pre (a++b)):CF all (pre++a) b:=by
 obtain ⟨post,h⟩:=w;exact ⟨post,by rw [h];simp⟩
theorem CF.one{p:U}(w:CF all pre [p]):∃post,all=pre++p ::post:=by
 obtain ⟨post,h⟩:=w;exact ⟨post,by rw [h];simp⟩
theorem Ur(lo:Int)(i j:Nat):BX lo (i+j)=BX lo i++BX (lo+i) j:=by
 unfold BX;rw [List.range_add,List.map_append,List.map_map];congr 1;apply List.map_congr_left;intro x _;simp only [Function.comp];omega
theorem CF.round{lo hi:Int}{k:Nat}{F:Int->List U}(w:CF all pre ((Fc lo hi).flatMap F))(hk:lo+(k:Int)<=hi):CF all (pre++(BX lo k).flatMap F) (F (lo+k)):=by
 have e:Fc lo hi=BX lo k++([lo+(k:Int)]++BX (lo+((k+1:Nat):Int)) ((hi-lo+1).toNat-(k+1))):=by
  unfold Fc;rw [<-List.append_assoc,<-MT,<-Ur];congr 1;omega
 rw [e,List.flatMap_append,List.flatMap_append] at w;have c:=w.right.left;simpa using c
theorem CF.roundEnd{lo hi:Int}{k:Nat}{F:Int->List U}(h:¬lo+(k:Int)<=hi)(hk:(k:Int)<=hi-lo+1\/k=0):(Fc lo hi).flatMap F=(BX lo k).flatMap F:=(Uq h hk).symm
end
section
variable {ag:AW->Bool} {gs:List Good} {ms:List AG} {mo:Int} {f i k:Nat} {p pc:AW} {all pre:List AW} {lo hi x:Int}
theorem SZ{b1 b2:Bool}(hpc:∀n b,pc.setMove i n b=p.setMove i n b):∀n b,(((pc.setMany i x).setLie i b1).setLie i b2).setMove i n b=p.setMove i n b:=λn b=>by
 rw [<-hpc,show ((pc.setMany i x).setLie i b1)=pc.setMove i x b1 from rfl,G2,Mu]
theorem Z4(hpc:∀n,pc.setFirst i n=p.setFirst i n):∀n,(pc.setFirst i x).setFirst i n=p.setFirst i n:=λn=>by rw [<-hpc,Ks]
def Sa(ms:List AG)(mo:Int)(i:Nat)(q:AW):Prop:=((0<=(i:Int)/\(i:Int)<=(ms.length:Int)-1)/\(ms.getD ((i:Int)).toNat AG.z).kind=0)/\((By q 6:Int)<mo)
instance (ms:List AG) (mo:Int) (i:Nat) (q:AW):Decidable (Sa ms mo i q):=inferInstanceAs (Decidable (_/\_))
theorem RI{q:AW}:(EE ms i && decide ((By q 6:Int)<mo))=decide (Sa ms mo i q):=by
 unfold EE Sa;rw [<-Bool.decide_and];exact decide_eq_decide.2 Iff.rfl
theorem Nk{q:AW}{b:Bool}:(q.setLie i b).lies i=b:=by simp [AW.setLie]
theorem Sb(hpc:∀n b,pc.setMove i n b=p.setMove i n b)(hC:(((pc.setMany i x).setLie i false).setLie i (decide (Sa ms mo i ((pc.setMany i x).setLie i false)))).lies i=true)(hx:x=lo+(k:Int)) :
  pre++(BX lo (k+1)).flatMap (B3 ag ms mo f i p)=((pre++(BX lo k).flatMap (B3 ag ms mo f i p))++A6 ag ms mo f (i+1) ((pc.setMany i x).setLie i false))++
   A6 ag ms mo f (i+1) (((pc.setMany i x).setLie i false).setLie i (decide (Sa ms mo i ((pc.setMany i x).setLie i false)))):=by
 rw [Nk] at hC;rw [hC,show ((pc.setMany i x).setLie i false)=pc.setMove i x false from rfl,G2,hpc,hpc,HX,<-hx];rw [show ((pc.setMany i x).setLie i false)=pc.setMove i x false from rfl,hpc] at hC;unfold B3;rw [RI,hC];simp
theorem Sd(hpc:∀n b,pc.setMove i n b=p.setMove i n b)(hC:(((pc.setMany i x).setLie i false).setLie i (decide (Sa ms mo i ((pc.setMany i x).setLie i false)))).lies i=false)(hx:x=lo+(k:Int)) :
  pre++(BX lo (k+1)).flatMap (B3 ag ms mo f i p)=(pre++(BX lo k).flatMap (B3 ag ms mo f i p))++A6 ag ms mo f (i+1) ((pc.setMany i x).setLie i false):=by
 rw [Nk] at hC;rw [show ((pc.setMany i x).setLie i false)=pc.setMove i x false from rfl,hpc,HX,<-hx];rw [show ((pc.setMany i x).setLie i false)=pc.setMove i x false from rfl,hpc] at hC;unfold B3;rw [RI,hC];simp
theorem Us(hpc:∀n,pc.setFirst i n=p.setFirst i n)(hx:x=lo+(k:Int)) :
  pre++(BX lo (k+1)).flatMap (λn=>BR ag gs ms mo f (i+1) (p.setFirst i n))=(pre++(BX lo k).flatMap (λn=>BR ag gs ms mo f (i+1) (p.setFirst i n)))++BR ag gs ms mo f (i+1) (pc.setFirst i x):=by
 rw [hpc,HX,<-hx];simp
theorem O4(hpc:∀n b,pc.setMove i n b=p.setMove i n b)(hw:CF all pre (A6 ag ms mo (f+1) i p))(hx:x=(ms.getD i AG.z).low+(k:Int))(hk:x<=(ms.getD i AG.z).high) :
  CF all (pre++(BX (ms.getD i AG.z).low k).flatMap (B3 ag ms mo f i p)) (A6 ag ms mo f (i+1) ((pc.setMany i x).setLie i false)):=by
 rw [D0] at hw;have w:=hw.round (k:=k) Y;rw [<-hx] at w;unfold B3 at w;rw [<-hpc] at w;exact w.left
theorem O5(hpc:∀n b,pc.setMove i n b=p.setMove i n b)(hw:CF all pre (A6 ag ms mo (f+1) i p))(hC:(((pc.setMany i x).setLie i false).setLie i (decide (Sa ms mo i ((pc.setMany i x).setLie i false)))).lies i=true)(hx:x=(ms.getD i AG.z).low+(k:Int))(hk:x<=(ms.getD i AG.z).high) :
  CF all ((pre++(BX (ms.getD i AG.z).low k).flatMap (B3 ag ms mo f i p))++A6 ag ms mo f (i+1) ((pc.setMany i x).setLie i false)) (A6 ag ms mo f (i+1) (((pc.setMany i x).setLie i false).setLie i (decide (Sa ms mo i ((pc.setMany i x).setLie i false))))):=by
 rw [Nk] at hC;rw [hC,show ((pc.setMany i x).setLie i false)=pc.setMove i x false from rfl,G2,hpc,hpc];rw [show ((pc.setMany i x).setLie i false)=pc.setMove i x false from rfl,hpc] at hC;rw [D0] at hw;have w:=hw.round (k:=k) Y;rw [<-hx] at w;have a:CF all (pre++(BX (ms.getD i AG.z).low k).flatMap (B3 ag ms mo f i p)) (A6 ag ms mo f (i+1) (p.setMove i x false)++A6 ag ms mo f (i+1) (p.setMove i x true)):=by
  have e:B3 ag ms mo f i p x=A6 ag ms mo f (i+1) (p.setMove i x false)++A6 ag ms mo f (i+1) (p.setMove i x true):=by
   unfold B3;rw [RI,hC,aT rfl]
  rw [<-e];exact w
 exact a.right
theorem RJ(hpc:∀n,pc.setFirst i n=p.setFirst i n)(hw:CF all pre (BR ag gs ms mo (f+1) i p))(hx:x=(gs.getD i Good.z).low+(k:Int))(hk:x<=(gs.getD i Good.z).high) :
  CF all (pre++(BX (gs.getD i Good.z).low k).flatMap (λn=>BR ag gs ms mo f (i+1) (p.setFirst i n))) (BR ag gs ms mo f (i+1) (pc.setFirst i x)):=by
 rw [Eg] at hw;have w:=hw.round (k:=k) Y;rw [<-hx] at w;rw [hpc];exact w
end
def JZ(l:List Int)(k:Nat):Int:=if k=0 then-1 else l.getD (k-1) 0
def Ku(ms:List AG)(l:List Int)(k:Nat):Int:=if¬EE ms (l.getD k 0)=true then 6 else if l.getD k 0<=JZ l k then 7 else 0
def E0(p:AW)(l:List Int)(k:Nat):AW:=(l.take k).foldl (λp i=>p.setLie i.toNat true) p
theorem Se{p:AW}{l:List Int}{k:Nat}(hk:k<l.length):E0 p l (k+1)=(E0 p l k).setLie (l.getD k 0).toNat true:=by
 unfold E0;rw [H2 0 hk,List.foldl_append];rfl
def BA(d m:Int)(gs:List Good)(ms:List AG)(cs:List AP)(f y l:List Int):Int:=
 if¬Au d m gs ms cs=0 then Au d m gs ms cs
 else if¬A4 f gs.length=0 then A4 f gs.length
 else if¬A4 y ms.length=0 then A4 y ms.length
 else ED (Ku ms l) 0 l.length
def KD(f y l:List Int):AW:=E0 ((AW.zero.setFirsts f).setManys y) l l.length
theorem FR{f:Nat->Int}:∀{n i:Nat},ED f i n=0->∀j,i<=j->j<i+n->f j=0
 | 0,i,_,j,a,b=>Y
 | n+1,i,h,j,a,b=>by
  unfold ED at h;split at h
  ·rename_i e
   rcases Nat.eq_or_lt_of_le a with rfl | h3
   ·exact e
   ·exact FR h j h3 Y
  ·rename_i e;exact absurd h e
structure B5(d m:Int)(gs:List Good)(ms:List AG)(cs:List AP):Prop where
 days:1<=d/\d<=99
 most:0<=m/\m<=2
 glen:1<=gs.length/\gs.length<=3
 good:∀k,k<gs.length->IT gs k=0
 mlen:ms.length<=6
 move:∀k,k<ms.length->Fw d gs ms k=0
 clen:cs.length<=4
 count:∀k,k<cs.length->HW d gs cs k=0
theorem I3{d m:Int}{gs:List Good}{ms:List AG}{cs:List AP}(h:Au d m gs ms cs=0):B5 d m gs ms cs:=by
 have z:=λj i=>FR (f:=Er d m gs ms cs) h j (Nat.zero_le _) (Y:j<0+4);have e:GI d m=0:=z 0 aC;have a:Dz gs=0:=z 1 aC;have b:DN d gs ms=0:=z 2 aC;have c:Dm d gs cs=0:=z 3 aC;unfold GI at e;unfold Dz at a;unfold DN at b;unfold Dm at c;split at e <;> first | (cases e;done) | skip
 split at a <;> first | (cases a;done) | skip
 split at b <;> first | (cases b;done) | skip
 split at c <;> first | (cases c;done) | skip
 exact ⟨Y,Y,Y,λk g=>FR a k (Nat.zero_le _) Y,Y,λk g=>FR b k (Nat.zero_le _) Y,Y,λk g=>FR c k (Nat.zero_le _) Y⟩
section
variable {d m:Int} {gs:List Good} {ms:List AG} {cs:List AP}
theorem B5.move'(b:B5 d m gs ms cs){k:Nat}(hk:k<ms.length):(0<=(ms.getD k AG.z).kind/\(ms.getD k AG.z).kind<=4)/\(0<=(ms.getD k AG.z).good/\(ms.getD k AG.z).good<=(gs.length:Int)-1)/\
  (1<=(ms.getD k AG.z).day/\(ms.getD k AG.z).day<=d)/\Dt ms k<=(ms.getD k AG.z).day/\GW (ms.getD k AG.z).low (ms.getD k AG.z).high:=by
 have z:=b.move k hk;unfold Fw at z;split at z <;> first | (cases z;done) | skip
 split at z <;> first | (cases z;done) | skip
 split at z <;> first | (cases z;done) | skip
 split at z <;> first | (cases z;done) | skip
 split at z <;> first | (cases z;done) | skip
 rename_i a c e g f
 exact ⟨Decidable.not_not.1 a,Decidable.not_not.1 c,Decidable.not_not.1 e,Y,Decidable.not_not.1 f⟩
theorem EN{U:Type}{l:List U}{k:Nat}{z:U}(h:l.length<=k):l.getD k z=z:=by
 simp [List.getD_eq_getElem?_getD,List.getElem?_eq_none h]
theorem B5.kind(b:B5 d m gs ms cs):∀k,0<=(ms.getD k AG.z).kind/\(ms.getD k AG.z).kind<=4:=λk=>by
 by_cases h:k<ms.length
 ·exact (b.move' h).1
 ·rw [EN Y];decide
theorem B5.few(b:B5 d m gs ms cs):∀k,0<=(ms.getD k AG.z).low/\(ms.getD k AG.z).low<=(ms.getD k AG.z).high/\(ms.getD k AG.z).high<=99/\(ms.getD k AG.z).high-(ms.getD k AG.z).low<3:=λk=>by
 by_cases h:k<ms.length
 ·have:=(b.move' h).2.2.2.2;unfold GW at this;omega
 ·rw [EN Y];decide
theorem B5.good'(b:B5 d m gs ms cs){k:Nat}(hk:k<gs.length):(0<=(gs.getD k Good.z).cost/\(gs.getD k Good.z).cost<=999)/\(1<=(gs.getD k Good.z).pack/\(gs.getD k Good.z).pack<=20)/\GW (gs.getD k Good.z).low (gs.getD k Good.z).high:=by
 have z:=b.good k hk;unfold IT at z;split at z <;> first | (cases z;done) | skip
 split at z <;> first | (cases z;done) | skip
 split at z <;> first | (cases z;done) | skip
 rename_i c e a
 exact ⟨Y,Y,Decidable.byContradiction λq=>a (.inr q)⟩
theorem B5.gfew(b:B5 d m gs ms cs):∀k,0<=(gs.getD k Good.z).low/\(gs.getD k Good.z).low<=(gs.getD k Good.z).high/\(gs.getD k Good.z).high<=99/\(gs.getD k Good.z).high-(gs.getD k Good.z).low<3:=λk=>by
 by_cases h:k<gs.length
 ·have:=(b.good' h).2.2;unfold GW at this;omega
 ·rw [EN Y];decide
theorem B5.cgood(b:B5 d m gs ms cs):∀x ∈ cs,0<=x.good/\x.good<3:=λx c=>by
 obtain ⟨k,a,rfl⟩:=List.getElem_of_mem c;have z:=b.count k a;unfold HW at z;rw [IS AP.z a] at z
 have:=b.glen
 split at z <;> first | (cases z;done) | skip
 omega
theorem GJ{l:List Int}{n:Int}(h:A4 l n=0):(l.length:Int)=n/\∀k,0<=l.getD k 0/\l.getD k 0<=99:=by
 unfold A4 at h;split at h <;> first | (cases h;done) | skip
 split at h <;> first | (cases h;done) | skip
 rename_i a b
 refine ⟨Decidable.not_not.1 a,λk=>?_⟩;by_cases c:k<l.length
 ·refine Decidable.byContradiction λq=>b ?_;rw [List.any_eq_true];exact ⟨l.getD k 0,E7 c,decide_eq_true q⟩
 ·rw [EN Y];decide
variable {f y l:List Int}
def Ba(d m:Int)(gs:List Good)(ms:List AG)(cs:List AP)(f y l:List Int):AW:=if BA d m gs ms cs f y l=0 then KD f y l else AW.zero
theorem RK(h:¬Au d m gs ms cs=0):BA d m gs ms cs f y l=Au d m gs ms cs:=by unfold BA;rw [aT h]
theorem RL(h:¬¬Au d m gs ms cs=0)(h2:¬A4 f gs.length=0):BA d m gs ms cs f y l=A4 f gs.length:=by unfold BA;rw [aS h,aT h2]
theorem RM(h:¬¬Au d m gs ms cs=0)(h2:¬¬A4 f gs.length=0)(h3:¬A4 y ms.length=0):BA d m gs ms cs f y l=A4 y ms.length:=by unfold BA;rw [aS h,aS h2,aT h3]
theorem IU(h:¬¬Au d m gs ms cs=0)(h2:¬¬A4 f gs.length=0)(h3:¬¬A4 y ms.length=0){c:Int}(h4:ED (Ku ms l) 0 l.length=c):BA d m gs ms cs f y l=c:=by unfold BA;rw [aS h,aS h2,aS h3,h4]
theorem G3{c:Int}(e:BA d m gs ms cs f y l=c)(hc:¬c=0):(.tuple #[.agg (An AW.zero),.int .i64 c]:aU)=.tuple #[.agg (An (Ba d m gs ms cs f y l)),.int .i64 (BA d m gs ms cs f y l)]:=by
 unfold Ba;rw [e,aS hc]
theorem Sf(e:BA d m gs ms cs f y l=0){k:Nat}(hk:¬(k:Int)<l.length)(hk':k<=l.length):(.tuple #[.agg (An (E0 ((AW.zero.setFirsts f).setManys y) l k)),.int .i64 0]:aU)=.tuple #[.agg (An (Ba d m gs ms cs f y l)),.int .i64 (BA d m gs ms cs f y l)]:=by
 unfold Ba KD;rw [e,aT rfl,show k=l.length by omega]
theorem lieAt_6{k:Nat}(h:¬((0<=l.getD k 0/\l.getD k 0<=(ms.length:Int)-1)/\(ms.getD (l.getD k 0).toNat AG.z).kind=0)):Ku ms l k=6:=by
 unfold Ku EE;rw [aT (by simpa using h)]
theorem lieAt_7{k:Nat}(h:¬¬((0<=l.getD k 0/\l.getD k 0<=(ms.length:Int)-1)/\(ms.getD (l.getD k 0).toNat AG.z).kind=0))(h2:l.getD k 0<=JZ l k):Ku ms l k=7:=by
 unfold Ku EE;rw [aS (by simpa using h),aT h2]
theorem lieAt_0{k:Nat}(h:¬¬((0<=l.getD k 0/\l.getD k 0<=(ms.length:Int)-1)/\(ms.getD (l.getD k 0).toNat AG.z).kind=0))(h2:¬l.getD k 0<=JZ l k):Ku ms l k=0:=by
 unfold Ku EE;rw [aS (by simpa using h),aS h2]
end
theorem IV(p:AW):(Value.agg (An p)).cells.size=15:=rfl
theorem IW(p:AW):Value.fine (.agg (An p))=true:=rfl
theorem Ja(p:AW):0+15<=(An p).size:=Nat.le_refl 15
theorem Jb(p q:AW):BN (An p) 0 (Value.agg (An q)).cells.toList=An q:=by
 show BN (An p) 0 (An q).toList=An q;apply Array.toList_inj.1;rw [EM _ _ _ (Nat.le_refl 15)];show []++(An q).toList++[]=_;simp
theorem Fe{β:Type}(f:Nat->β)(k:Nat):(List.range (k+1)).map f=(List.range k).map f++[f k]:=by
 rw [List.range_succ,List.map_append];rfl
section
variable {d m:Int} {gs:List Good} {ms:List AG} {cs:List AP} {f y l:List Int}
theorem Bn.lies{p:AW}(h:Bn p)(l:List Int)(k:Nat):Bn (E0 p l k):=by
 unfold E0;generalize l.take k=t
 induction t generalizing p with
 | nil=>exact h
 | cons x t a=>exact a (p:=p.setLie x.toNat true) h
theorem Xc(h:BA d m gs ms cs f y l=0):B5 d m gs ms cs/\Bn (Ba d m gs ms cs f y l):=by
 have a:=h;unfold BA at h;split at h <;> first | (rename_i q;exact absurd h q) | skip
 split at h <;> first | (rename_i q;exact absurd h q) | skip
 split at h <;> first | (rename_i q;exact absurd h q) | skip
 rename_i b c e
 refine ⟨I3 (Decidable.not_not.1 b),?_⟩;unfold Ba;rw [aT a];unfold KD;refine Bn.lies ?_ _ _;have g:=(GJ (Decidable.not_not.1 c)).2;have j:=(GJ (Decidable.not_not.1 e)).2;refine ⟨λi=>?_,λi=>?_⟩
 ·show 0<=(if i<f.length then f.getD i 0 else 0)/\(if i<f.length then f.getD i 0 else 0)<=99;split
  ·exact g i
  ·decide
 ·show 0<=(if i<y.length then y.getD i 0 else 0)/\(if i<y.length then y.getD i 0 else 0)<=99;split
  ·exact j i
  ·decide
def G4(d m:Int)(gs:List Good)(ms:List AG)(cs:List AP)(f y l:List Int):List Int:=if BA d m gs ms cs f y l=0 then (List.range gs.length).map (λ(i:Nat)=>(AQ ms (Ba d m gs ms cs f y l) (i:Int) d).1) else []
def IX(d m:Int)(gs:List Good)(ms:List AG)(cs:List AP)(f y l:List Int):List Int:=if BA d m gs ms cs f y l=0 then (List.range gs.length).map (λ(i:Nat)=>(AQ ms (Ba d m gs ms cs f y l) (i:Int) d).2) else []
theorem RN(h:¬BA d m gs ms cs f y l=0):G4 d m gs ms cs f y l=[]:=aS h
theorem Sg(h:¬BA d m gs ms cs f y l=0):IX d m gs ms cs f y l=[]:=aS h
theorem O6(h:¬¬BA d m gs ms cs f y l=0){k:Nat}(hk:k<=gs.length)(hk':¬(k:Int)<gs.length):G4 d m gs ms cs f y l=(List.range k).map (λ(i:Nat)=>(AQ ms (Ba d m gs ms cs f y l) (i:Int) d).1):=by
 unfold G4;rw [aT (Decidable.not_not.1 h),show gs.length=k by omega]
theorem RO(h:¬¬BA d m gs ms cs f y l=0){k:Nat}(hk:k<=gs.length)(hk':¬(k:Int)<gs.length):IX d m gs ms cs f y l=(List.range k).map (λ(i:Nat)=>(AQ ms (Ba d m gs ms cs f y l) (i:Int) d).2):=by
 unfold IX;rw [aT (Decidable.not_not.1 h),show gs.length=k by omega]
end
theorem Nm{U β:Type}{f:U->List β}{c:Nat}:∀{l:List U},(∀x ∈ l,(f x).length<=c)->(l.flatMap f).length<=l.length*c
 | [],_=>aD
 | x ::l,h=>by
  rw [List.flatMap_cons,List.length_append,List.length_cons,Nat.succ_mul];have b:=h x aD;have d:=Nm (l:=l) λy a=>h y (by simp [a]);omega
theorem Ph{lo hi:Int}(h:hi-lo<3):(Fc lo hi).length<=3:=by
 unfold Fc BX;rw [List.length_map,List.length_range];omega
theorem Hr{ag:AW->Bool}{ms:List AG}{mo:Int}(hf:∀k,(ms.getD k AG.z).high-(ms.getD k AG.z).low<3):∀f i p,(A6 ag ms mo f i p).length<=6 ^ f
 | 0,_,p=>by unfold A6;split <;> simp
 | f+1,i,p=>by
  rw [D0];have d:=Nm (f:=B3 ag ms mo f i p) (c:=2*6 ^ f) (l:=Fc (ms.getD i AG.z).low (ms.getD i AG.z).high) λn _=>by
   unfold B3;rw [List.length_append];have a:=Hr (ag:=ag) (mo:=mo) hf f (i+1) (p.setMove i n false);have b:=Hr (ag:=ag) (mo:=mo) hf f (i+1) (p.setMove i n true);split
   ·omega
   ·simp only [List.length_nil];omega
  have e:=Nat.mul_le_mul_right (2*6 ^ f) (Ph (hf i));rw [Nat.pow_succ];omega
theorem Jt{ag:AW->Bool}{gs:List Good}{ms:List AG}{mo:Int}(hg:∀k,(gs.getD k Good.z).high-(gs.getD k Good.z).low<3)(hf:∀k,(ms.getD k AG.z).high-(ms.getD k AG.z).low<3) :
  ∀f i p,(BR ag gs ms mo f i p).length<=3 ^ f*6 ^ ms.length
 | 0,_,p=>by unfold BR;have:=Hr (ag:=ag) (mo:=mo) hf ms.length 0 p;omega
 | f+1,i,p=>by
  rw [Eg];have a:=Nm (f:=λn=>BR ag gs ms mo f (i+1) (p.setFirst i n)) (c:=3 ^ f*6 ^ ms.length) (l:=Fc (gs.getD i Good.z).low (gs.getD i Good.z).high) λn _=>Jt hg hf f (i+1) _;have b:=Nat.mul_le_mul_right (3 ^ f*6 ^ ms.length) (Ph (hg i));rw [Nat.pow_succ,Nat.mul_comm (3 ^ f) 3,Nat.mul_assoc];omega
theorem ET{d m:Int}{gs:List Good}{ms:List AG}{cs:List AP}(b:B5 d m gs ms cs)(mo:Int):(AT d gs ms cs mo).length<=2000000:=by
 unfold AT;have h:=Jt (ag:=BF d gs.length ms cs) (mo:=mo) (λk=>(b.gfew k).2.2.2) (λk=>(b.few k).2.2.2) gs.length 0 AW.zero;have a:3 ^ gs.length<=3 ^ 3:=Nat.pow_le_pow_right aC b.glen.2;have c:6 ^ ms.length<=6 ^ 6:=Nat.pow_le_pow_right aC b.mlen;have e:=Nat.mul_le_mul a c
 have:3 ^ 3*6 ^ 6<=2000000:=aC
 omega
theorem pre_len{U:Type}{all pre post:List U}{p:U}(h:all=pre++p ::post){n:Nat}(hn:all.length<=n):pre.length+1<=n:=by
 rw [h,List.length_append,List.length_cons] at hn;omega
theorem AJ.one{U:Type}{h:L}{v:aU}{n:Nat}{enc:U->Array aU}{xs:List U}(x:AJ h v n enc xs):v.cells=#[v]/\v.oneCell'=true:=by
 obtain ⟨a,b,rfl,_⟩:=x;exact ⟨rfl,rfl⟩
theorem EF{v:aU}(h:v.cells=#[v]/\v.oneCell'=true):Value.fine v=true:=by unfold Value.fine;rw [h.1];simp [h.2]
theorem EG{v:aU}(h:v.cells=#[v]/\v.oneCell'=true):v.cells.size=1:=by rw [h.1];rfl
theorem FK{v:aU}(h:v.cells=#[v]/\v.oneCell'=true){c c':Array aU}{o:Nat}(e:BN c o [v]=c'):BN c o v.cells.toList=c':=by rw [h.1];exact e
end Go.Ns
namespace Go.Ns
open Go.Conc
section
variable {P:Program} {E:Fl P} {O:Nat->aU} {ds:List Deferred} {U:Type}
def Sh(hB:L)(J:List U->(Nat->Prop)->L->Prop)(Stop:Code->L->Prop)(pre:List U)(aN:Nat->Prop)(h:L)(l:Nat)(lo:Loop):Post:=λe _ _ h3=>
 h3 l=some (true,.loop { lo with state:=.busy })/\∃Y',(∀b,Y' b->aN b\/h b=none)/\BP (λb=>aN b\/b=l) h h3/\hB.Le h3/\match e with
  | .normal=>J pre Y' h3
  | .exit id=>Stop (.exit id) h3
  | .ret=>Stop .ret h3
  | _=>False
def Pi(J:List U->(Nat->Prop)->L->Prop)(l d:Nat)(lo:Loop)(pre:List U)(X:Nat->Prop)(h:L):Prop:=
 ∃aN,J pre aN h/\(∀b,X b↔aN b\/b=l\/b=d)/\¬aN l/\¬aN d/\h l=some (true,.loop lo)/\h d=some (true,.deferred (some []))
def Z5(Stop:Code->L->Prop)(l d:Nat)(lo:Loop)(h:L):Prop:=
 ∃c,Stop c h/\h l=some (true,.loop { lo with state:=.done,pending:=some c })/\h d=some (true,.deferred (some []))
def YEnd(hB:L)(aQ:List U->(Nat->Prop)->L->Prop)(Sp:L->Prop)(all:List U)(X:Nat->Prop)(h h':L):Prop:=
 ∃X',(∀b,X' b->X b\/h b=none)/\BP X h h'/\hB.Le h'/\(aQ all X' h'\/Sp h')
theorem Fx.final{hB:L}{aQ:List U->(Nat->Prop)->L->Prop}{Sp:L->Prop}{all:List U}{X:Nat->Prop}{h h':L}{v:aU}(r:Fx hB aQ Sp [] X h all v h'):YEnd hB aQ Sp all X h h':=by
 obtain ⟨d,X',g,a,b,c,e,f⟩:=r;cases d with
 | true=>exact ⟨X',a,b,c,.inl (e rfl)⟩
 | false=>exact ⟨X',a,b,c,.inr (f rfl)⟩
theorem Kv{enc:U->Array aU}{all:List U}{hB hc:L}{J:List U->(Nat->Prop)->L->Prop}{Stop:Code->L->Prop}{Y0:Nat->Prop}{par:Tmp}{f:Operand}{assign body:Code}{Q:Post}
  (hrd:E.rd=none) (hpar:Nat.blt par E.N=true) (hJ:FJ hB J) (hB0:hB.Le hc) (j0:J [] Y0 hc)
  (hS:∀c (h h':L) l lo,Stop c h->h l=some (true,.loop lo)->(∀b,b≠l->h' b=h b)->Stop c h')
  (src:∀(yv:aU)(aQ:List U->(Nat->Prop)->L->Prop)(Sp:L->Prop)(X:Nat->Prop)(h:L),Hq E.wk hB yv enc aQ Sp all->hB.Le h->aQ [] X h->CT E.wk (AL O f) #[yv] h λ_ h'=>YEnd hB aQ Sp all X h h')
  (round:∀(l d:Nat)(lo:Loop)(pre:List U)(p:U)(post:List U)(aN:Nat->Prop)(h:L),all=pre++p ::post->J pre aN h->hB.Le h->hB l=none->¬aN l->h l=some (true,.loop lo)->
   Tr ⟨E.wk,E.fn,some l,E.N⟩ assign (upd O par (.agg (enc p))) [] h λe σ' ds' h1=>e=.normal/\h1 l=some (true,.loop lo)/\∀h2,h2 l=some (true,.loop { lo with state:=.busy })->(∀b,b≠l->h2 b=h1 b)->
    Tr ⟨E.wk,E.fn,some l,E.N⟩ body σ' ds' h2 (Sh hB J Stop (pre++[p]) aN h l lo))
  (fin:∀(d l:Nat)(h':L),hB.Le h'->hB d=none->hB l=none->hc d=none->h' d=some (true,.deferred (some []))->
   (∀aN,J all aN h'->(∀b,aN b->b≠d)->Q .normal O ({ target:=.collected d,args:=#[] } ::ds) h')/\
   (∀c,Stop c h'->match c with
    | .exit id=>Q (.exit id) O ({ target:=.collected d,args:=#[] } ::ds) h'
    | .ret=>Q .ret O ({ target:=.collected d,args:=#[] } ::ds) h'
    | _=>False)):Tr E (.rangeFunc f #[par] assign body) O ds hc Q:=by
 refine Kn hrd λt d l hs F T k=>?_;have m:hB l=none:=hB0.nothing T;have H:hB d=none:=hB0.nothing F;let lo:Loop:={ state:=.ready,pending:=none,fn:=E.fn,tmps:=t,params:=#[par],assign,body,defers:=d };have nYl:¬Y0 l:=hJ.off j0 T;have nYd:¬Y0 d:=hJ.off j0 F;have W:((hc.set d true (.deferred (some []))).set l true (.loop lo)) l=some (true,.loop lo):=L.set_same _ _ _ _;have hL2:((hc.set d true (.deferred (some []))).set l true (.loop lo)) d=some (true,.deferred (some [])):=by rw [L.set_ne _ _ _ (Ne.symm k)];exact L.set_same _ _ _ _
 have hL3:∀b,b≠l->b≠d->((hc.set d true (.deferred (some []))).set l true (.loop lo)) b=hc b:=λb h1 h2=>by rw [L.set_ne _ _ _ h1,L.set_ne _ _ _ h2]
 have K:hB.Le ((hc.set d true (.deferred (some []))).set l true (.loop lo)):=(hB0.trans (L.Le.new F _ _)).trans (L.Le.new (by rw [L.set_ne _ _ _ k];exact T) _ _);have hI0:Pi J l d lo [] (λb=>Y0 b\/b=l\/b=d) ((hc.set d true (.deferred (some []))).set l true (.loop lo)):=by
  refine ⟨Y0,hJ.stable _ _ hc _ j0 (λb a=>hL3 b (λe=>nYl (e▸a)) (λe=>nYd (e▸a))) K,λb=>Iff.rfl,nYl,nYd,W,hL2⟩
 have prom:FJ hB (Pi J l d lo):=by
  refine ⟨?_,?_⟩
  ·rintro pre X h b ⟨aN,j,n,_,_,h1,h2⟩ a;rcases (n b).1 a with r | rfl | rfl
   ·exact hJ.dom _ _ _ _ j r
   ·exact ⟨_,_,h1,rfl⟩
   ·exact ⟨_,_,h2,rfl⟩
  ·rintro pre X h h' ⟨aN,j,n,B,C,h1,h2⟩ same lB;refine ⟨aN,hJ.stable _ _ h h' j (λb a=>same b ((n b).2 (.inl a))) lB,n,B,C,?_,?_⟩
   ·rw [same l ((n l).2 (.inr (.inl rfl)))];exact h1
   ·rw [same d ((n d).2 (.inr (.inr rfl)))];exact h2
 have yk:Hq E.wk hB (.func (.yield l) #[] #[]) enc (Pi J l d lo) (Z5 Stop l d lo) all:=by
  refine ⟨prom,rfl,?_⟩;rintro pre p post X h M ⟨aN,j,n,B,C,h1,h2⟩ lB;refine NU h1 rfl ?_;have ef:(lo.params.zip #[Value.agg (enc p)]).foldl (λtmps x=>tmps.setIfInBounds x.1 x.2) lo.tmps=t.setIfInBounds par (.agg (enc p)):=by simp [lo]
  rw [ef];show Bt E.wk l E.fn (t.setIfInBounds par (.agg (enc p))) assign body h _;have u:=hs.put hpar (.agg (enc p));refine MR (N:=E.N) u.1 ?_;have e0:(λi=>(t.setIfInBounds par (.agg (enc p))).getD i undef)=upd O par (.agg (enc p)):=funext u.2;rw [e0];refine JU ?_ (round l d lo pre p post aN h M j lB m B h1);rintro e σ' ds' ha ⟨rfl,ha1,a⟩;refine ⟨rfl,lo,ha1,rfl,?_⟩;refine JU ?_ (a _ (L.set_same _ _ _ _) λb a=>L.set_ne _ _ _ a);rintro e σ2 ds2 r ⟨g1,Y',g2,g3,g4,D⟩;have w:r d=some (true,.deferred (some [])):=g3.box h2 (λq=>q.elim C (λe=>k e.symm)) rfl;have nl:¬Y' l:=λq=>(g2 l q).elim B λe=>by rw [h1] at e;cases e
  have nd:¬Y' d:=λq=>(g2 d q).elim C λe=>by rw [h2] at e;cases e
  have y:∀(g:Loop)(S:Bool),(if S then J (pre++[p]) Y' (r.set l true (.loop g))/\g=lo else Z5 Stop l d lo (r.set l true (.loop g)))->Fx hB (Pi J l d lo) (Z5 Stop l d lo) pre X h [p] (.bool S) (r.set l true (.loop g)):=by
   intro g S A;refine ⟨S,λb=>Y' b\/b=l\/b=d,rfl,?_,?_,?_,?_,?_⟩
   ·rintro b (a | rfl | rfl)
    ·exact (g2 b a).imp (λq=>(n b).2 (.inl q)) id
    ·exact .inl ((n _).2 (.inr (.inl rfl)))
    ·exact .inl ((n _).2 (.inr (.inr rfl)))
   ·intro b q o a hn;have nb:b≠l:=λe=>hn ((n b).2 (.inr (.inl e)));rw [L.set_ne _ _ _ nb];exact g3 b q o a λq=>q.elim (λz=>hn ((n b).2 (.inl z))) nb
   ·exact g4.upd m λb a=>L.set_ne _ _ _ a
   ·rintro rfl;simp only [if_true] at A;obtain ⟨hj,rfl⟩:=A;exact ⟨Y',hj,λb=>Iff.rfl,nl,nd,L.set_same _ _ _ _,by rw [L.set_ne _ _ _ (Ne.symm k)];exact w⟩
   ·rintro rfl;simpa using A
  have js:∀(g:Loop),J (pre++[p]) Y' r->J (pre++[p]) Y' (r.set l true (.loop g)):=λg hj=>hJ.store hj nl (λb a=>L.set_ne _ _ _ a) (g4.upd m λb a=>L.set_ne _ _ _ a);have ss:∀c (g:Loop),Stop c r->Stop c (r.set l true (.loop g)):=λc g hc=>hS c r _ l _ hc g1 λb a=>L.set_ne _ _ _ a;refine ⟨_,g1,?_⟩;cases e with
  | normal=>exact y _ true (by simp only [if_true];exact ⟨js _ D,rfl⟩)
  | exit id=>exact y _ false (by simp only [Bool.false_eq_true,if_false];exact ⟨_,ss _ _ D,L.set_same _ _ _ _,by rw [L.set_ne _ _ _ (Ne.symm k)];exact w⟩)
  | ret=>exact y _ false (by simp only [Bool.false_eq_true,if_false];exact ⟨_,ss _ _ D,L.set_same _ _ _ _,by rw [L.set_ne _ _ _ (Ne.symm k)];exact w⟩)
  | goto _=>exact D.elim
  | panic _=>exact D.elim
  | outgrown=>exact D.elim
 refine (src _ _ _ _ _ yk K hI0).mono ?_;rintro v h' ⟨X',u,hk,R,hor⟩;rcases hor with ⟨aN,j,n,B,C,h1,h2⟩ | ⟨c,hst,h1,h2⟩
 ·refine ⟨lo,h1,rfl,?_⟩;show Q .normal O _ _;have s:=R.upd m (λb a=>L.set_ne h' true (.loop { lo with state:=.exhausted }) a);refine (fin d l _ s H m F (by rw [L.set_ne _ _ _ (Ne.symm k)];exact h2)).1 aN (hJ.store j B (λb a=>L.set_ne _ _ _ a) s) λb a e=>C (e▸a)
 ·refine ⟨_,h1,rfl,?_⟩;have s:=R.upd m (λb a=>L.set_ne h' true (.loop { { lo with state:=.done,pending:=some c } with state:=.exhausted }) a)
  have:=(fin d l _ s H m F (by rw [L.set_ne _ _ _ (Ne.symm k)];exact h2)).2 c (hS c h' _ l _ hst h1 λb a=>L.set_ne _ _ _ a)
  cases c with
  | exit id=>exact this
  | ret=>exact this
  | _=>exact this.elim
structure HQ(hB:L)(X:Nat->Prop)(h hc:L):Prop where
 keep:BP X h hc
 base:hB.Le hc
 dom:∀b,X b->∃o,hc b=some o
section
variable {hB h hc h':L} {X:Nat->Prop}
theorem L.Le.someOf{h h':L}(l:h.Le h'){b:Nat}(x:∃o,h b=some o):∃o,h' b=some o:=by
 obtain ⟨o,a⟩:=x;obtain ⟨d,c,_⟩:=l b o.1 o.2 a;exact ⟨_,c⟩
theorem HQ.start(lB:hB.Le h)(d:∀b,X b->∃o,h b=some o):HQ hB X h h:=⟨BP.refl _ _,lB,d⟩
theorem HQ.le(r:HQ hB X h hc)(l:hc.Le h'):HQ hB X h h':=⟨r.keep.trans (λ_ q=>.inl q) (l.keepX X),r.base.trans l,λb a=>l.someOf (r.dom b a)⟩
theorem HQ.nothing(r:HQ hB X h hc){q:Nat}(hq:hc q=none):h q=none:=by
 cases d:h q with
 | none=>rfl
 | some x=>
  by_cases a:X q
  ·obtain ⟨o,b⟩:=r.dom q a;rw [hq] at b;cases b
  ·obtain ⟨e,c,_⟩:=r.keep q x.1 x.2 d a;rw [hq] at c;cases c
theorem HQ.store(r:HQ hB X h hc){q:Nat}(hq:X q\/h q=none)(rB:hB q=none)(ho:∀b,b≠q->h' b=hc b)(hn:∃o,h' q=some o):HQ hB X h h':=
 ⟨λb p o a c=>by
   have d:b≠q:=λe=>by
    subst e;rcases hq with hq | hq
    ·exact c hq
    ·rw [hq] at a;cases a
   rw [ho b d];exact r.keep b p o a c,
  r.base.upd rB ho,λb a=>by
   by_cases e:b=q
   ·subst e;exact hn
   ·rw [ho b e];exact r.dom b a⟩
theorem BP.app{v v':aU}(k:BP X h hc)(g:Fm hc h' v v')(hv:∀b,Bv v=some b->X b):BP X h h':=λb p o c a=>by
 obtain ⟨d,f,i⟩:=k b p o c a;exact ⟨d,g.1 b _ f λe=>a (hv b e),i⟩
theorem BP.store'{q:Nat}(k:BP X h hc)(hq:X q\/h q=none)(ho:∀b,b≠q->h' b=hc b):BP X h h':=λb p o a c=>by
 have d:b≠q:=λe=>by
  subst e;rcases hq with hq | hq
  ·exact c hq
  ·rw [hq] at a;cases a
 rw [ho b d];exact k b p o a c
theorem BP.le'(k:BP X h hc)(l:hc.Le h'):BP X h h':=k.trans (λ_ q=>.inl q) (l.keepX X)
end
def L.del(h:L)(r:Nat):L:=λb=>if b=r then none else h b
theorem L.del_le(h:L)(r:Nat):(h.del r).Le h:=λb p o a=>by
 unfold L.del at a;split at a
 ·cases a
 ·exact ⟨o,a,.inl rfl⟩
theorem L.del_none(h:L)(r:Nat):h.del r r=none:=aT rfl
theorem L.del_ne{h:L}{r b:Nat}(e:b≠r):h.del r b=h b:=aS e
theorem L.Le.del{h0 h:L}(l:h0.Le h){r:Nat}(hr:h0 r=none):h0.Le (h.del r):=λb p o a=>by
 rw [L.del_ne (L.ne_of a hr)];exact l b p o a
theorem AX.del{h:L}{r b off n:Nat}{vs:Array aU}(x:AX h b off n vs)(e:b≠r):AX (h.del r) b off n vs:=x.same (L.del_ne e)
theorem Kw{W:Wk P}{x v:aU}{args:Array aU}{h:L}{R:aU->L->Prop}(e:x=v)(k:CT W v args h R):CT W x args h R:=e▸k
def JCol{U:Type}(hB:L)(r:Nat)(T t:aV)(n:Nat)(enc:U->Array aU)(pre:List U)(aN:Nat->Prop)(h:L):Prop:=
 ∃w,h r=some (true,.cells #[w] T (0,0))/\AN hB h w t n enc pre/\BL w r/\hB r=none/\∀b,aN b↔b=r\/Bv w=some b
theorem AN.cellsAt{U:Type}{h0 h:L}{v:aU}{t:aV}{n:Nat}{enc:U->Array aU}{xs:List U}(x:AN h0 h v t n enc xs):∀b,Bv v=some b->∃c,h b=some (true,.cells c t (0,0)):=by
 intro b a;rcases x with ⟨rfl,_⟩ | ⟨f,d,c,rfl,g,e,_⟩
 ·cases a
 ·simp [Bv] at a;subst a;exact ⟨_,e⟩
theorem Pj{U:Type}(hB:L)(r:Nat)(T t:aV)(n:Nat)(enc:U->Array aU):FJ hB (JCol hB r T t n enc):=by
 refine ⟨?_,?_⟩
 ·rintro d k h b ⟨w,e,f,i,j,a⟩ g;rcases (a b).1 g with rfl | h5
  ·exact ⟨_,_,e,rfl⟩
  ·obtain ⟨c,l⟩:=f.cellsAt b h5;exact ⟨_,_,l,rfl⟩
 ·rintro d k h p ⟨w,e,f,i,j,a⟩ same q;refine ⟨w,by rw [same r ((a r).2 (.inl rfl))];exact e,f.keep λb o g m=>by rw [same b ((a b).2 (.inr g))];exact m,i,j,a⟩
theorem Ut{U:Type}{hB h:L}{r:Nat}{T t:aV}{n:Nat}{enc:U->Array aU}(x:h r=some (true,.cells #[.slice none 0 0] T (0,0)))(h0:hB r=none):JCol hB r T t n enc [] (λb=>b=r) h:=
 ⟨_,x,AN.nil _ _ _ _ _,BL.nil,h0,λ_=>⟨.inl,λq=>q.elim id λe=>by cases e⟩⟩
theorem Z6{U:Type}{hB h h' ha hb:L}{r:Nat}{T t:aV}{n:Nat}{enc:U->Array aU}{pre:List U}{w w':aU}{aN:Nat->Prop}(hY:∀b,aN b↔b=r\/Bv w=some b)(g:Fm ha hb w w')(hn:∀q,ha q=none->h q=none)
  (x:h' r=some (true,.cells #[w'] T (0,0))) (o:AN hB h' w' t n enc pre) (f:BL w' r) (h0:hB r=none) :
  ∃Y',(∀b,Y' b->aN b\/h b=none)/\JCol hB r T t n enc pre Y' h':=by
 refine ⟨λb=>b=r\/Bv w'=some b,?_,w',x,o,f,h0,λ_=>Iff.rfl⟩;rintro b (rfl | hb)
 ·exact .inl ((hY _).2 (.inl rfl))
 ·rcases g.2 with e | ⟨⟨q,a,c⟩,_⟩
  ·exact .inl ((hY _).2 (.inr (by rw [<-e];exact hb)))
  ·rw [a] at hb;cases hb;exact .inr (hn _ c)
theorem H4{fn:Func}{O:Nat->aU}{R:aU->L->Prop}{d:Nat}{ds:List Deferred}{h:L}(hd:h d=some (true,.deferred (some [])))(x:∀h',(∀b,b≠d->h' b=h b)->Fp P fn O R ds h') :
  Fp P fn O R ({ target:=.collected d,args:=#[] } ::ds) h:=⟨d,rfl,_,hd,rfl,x _ λb a=>L.set_ne _ _ _ a⟩
end
end Go.Ns
namespace Go.Ns
open Go.Conc
section
variable {P:Program} {E:Fl P}
abbrev Hs:=(Nat->aU)->aU->L->Prop
def Fy(Φ:List Hs)(k:Nat):Hs:=Φ.getD k λ_ _ _=>True
def Nn(ops:List Oper)(Φ:List Hs)(O:Nat->aU)(h:L)(j:Nat):Prop:=match ops[j]? with
 | some o=>Ch ops o O->Fy Φ j O (Hy o O) h
 | none=>True
def Gf(ops:List Oper)(Φ:List Hs)(O:Nat->aU)(h:L):List Nat->Prop
 | []=>True
 | j ::l=>Nn ops Φ O h j/\Gf ops Φ O h l
theorem Gf.get{ops:List Oper}{Φ:List Hs}{O:Nat->aU}{h:L}:∀{l:List Nat},(∀j ∈ l,Nn ops Φ O h j)->Gf ops Φ O h l
 | [],_=>trivial
 | j ::l,x=>⟨x j aD,Gf.get λi a=>x i (by simp [a])⟩
def RP(l:List Oper)(n:Nat)(cls:List (List Nat))(Φ:List Hs):Prop:=
 ∀k i oi d,k<n->i<n->i≠k->i ∉ cls.getD k []->l[i]? =some oi->oi.dst=some d->∀O u v h,Fy Φ k O v h->Fy Φ k (upd O d u) v h
def St(R:L->L->Prop)(Pre:Nat->L->Prop)(Φ:List Hs)(cl:List Nat)(k:Nat)(h h':L):Prop:=R h h'/\(∀j,j≠k->∀O v,Fy Φ j O v h->Fy Φ j O v h')/\∀j,j≠k->j ∉ cl->Pre j h->Pre j h'
def W9(R:L->L->Prop)(Pre:Nat->L->Prop)(E:Fl P)(ops:List Oper)(n:Nat)(Φ:List Hs)(O:Nat->aU)(ds:List Deferred)(h:L)(k:Nat)(o:Oper)(cl:List Nat):Prop:=
 ∀σ' h',R h h'->(∀t,(C6 ops n).contains t=false->σ' t=O t)->Gf ops Φ σ' h' cl->Ch ops o σ'->Pre k h'->
  BS E o σ' ds h' λσ'' ds'' h''=>ds''=ds/\St R Pre Φ cl k h' h''/\∃v,σ''=putS σ' o.dst v/\Fy Φ k σ'' v h''/\(o.dst=none->v=undef)
def I4(R:L->L->Prop)(Pre:Nat->L->Prop)(E:Fl P)(ops:List Oper)(n:Nat)(Φ:List Hs)(O:Nat->aU)(ds:List Deferred)(h:L)(Q:Post):Nat->Nat->List Oper->List (List Nat)->Prop
 | 0,k,rest,_=>∀σ' h',R h h'->(∀t,(C6 ops n).contains t=false->σ' t=O t)->Gf ops Φ σ' h' (List.range k)->DH E ops.toArray rest σ' ds h' Q
 | m+1,k,o ::rest,cl ::cls=>W9 R Pre E ops n Φ O ds h k o cl/\I4 R Pre E ops n Φ O ds h Q m (k+1) rest cls
 | _,_,_,_=>False
theorem I4.at{R:L->L->Prop}{Pre:Nat->L->Prop}{ops:List Oper}{n:Nat}{Φ:List Hs}{O:Nat->aU}{ds:List Deferred}{h:L}{Q:Post}:∀(m k:Nat)(rest:List Oper)(cls:List (List Nat)),
  I4 R Pre E ops n Φ O ds h Q m k rest cls->(∀i o,i<m->rest[i]? =some o->W9 R Pre E ops n Φ O ds h (k+i) o (cls.getD i []))/\
   (∀σ' h',R h h'->(∀t,(C6 ops n).contains t=false->σ' t=O t)->Gf ops Φ σ' h' (List.range (k+m))->DH E ops.toArray (rest.drop m) σ' ds h' Q)
 | 0,k,rest,cls,x=>⟨λi o d=>Y,x⟩
 | m+1,k,[],cls,x=>by cases cls <;> exact x.elim
 | m+1,k,o ::rest,[],x=>x.elim
 | m+1,k,o ::rest,q ::cls,x=>by
  obtain ⟨e,f⟩:=x;obtain ⟨a,b⟩:=I4.at m (k+1) rest cls f;refine ⟨λi g d c=>?_,λσ' h' j l p=>?_⟩
  ·cases i with
   | zero=>simp at c;subst c;exact e
   | succ i=>have:=a i g Y (by simpa using c);rw [show k+(i+1)=k+1+i by omega];simpa using this
  ·rw [List.drop_succ_cons];exact b σ' h' j l (by rw [show k+1+m=k+(m+1) by omega];exact p)
structure Si(R:L->L->Prop)(Pre:Nat->L->Prop)(l:List Oper)(n:Nat)(cls:List (List Nat))(Φ:List Hs)(O:Nat->aU)(h:L)(D:Nat->Bool)(σ':Nat->aU)(h':L):Prop where
 le:R h h'
 base:∀t,(C6 l n).contains t=false->σ' t=O t
 lt:∀j,D j=true->j<n
 done:∀j,D j=true->Nn l Φ σ' h' j
 clos:∀j,D j=true->∀i ∈ cls.getD j [],D i=true
 grd:∀j o,D j=true->l[j]? =some o->∀g w,o.guard=some (g,w)->D g=true
 pend:∀j,j<n->D j=false->Pre j h'
theorem Z7(R:L->L->Prop){id:Nat}{l:List Oper}{O:Nat->aU}{ds:List Deferred}{h:L}{Q:Post}(n:Nat)(cls:List (List Nat))(Φ:List Hs)(Pre:Nat->L->Prop)
  (hm:P.follows .mixedOrders=true) (ok:Ep E.N l n cls=true) (rr:∀h,R h h) (rt:∀a b c,R a b->R b c->R a c) (p0:∀k,k<n->Pre k h) (ind:RP l n cls Φ)
  (x:I4 R Pre E l n Φ O ds h Q n 0 l cls):Tr E (.region id l.toArray true) O ds h Q:=by
 obtain ⟨steps,fin⟩:=I4.at n 0 l cls x;simp only [Nat.zero_add] at steps fin;have W:=ok;unfold Ep at W;simp only [Bool.and_eq_true] at W;have nd:(C6 l n).Nodup:=of_decide_eq_true W.1.2;refine SM n cls (Si R Pre l n cls Φ O h) hm ok ⟨rr h,λ_ _=>rfl,λ_ q=>(by cases q),λ_ q=>(by cases q),λ_ q=>(by cases q),λ_ _ q=>(by cases q),λj S _=>p0 j S⟩ (λD σ' h' i o p t B X hcl hgl=>?_) λD σ' h' p hall=>fin σ' h' p.le p.base (Gf.get λj S=>p.done j (hall j (List.mem_range.1 S)));have s:∀j,GF D i j=if i=j then true else D j:=λ_=>rfl
 have next:∀(σ2:Nat->aU) (h2:L) (v:aU),σ2=putS σ' o.dst v->St R Pre Φ (cls.getD i []) i h' h2->(Ch l o σ2->Fy Φ i σ2 v h2)->(o.dst=none->v=undef)->Si R Pre l n cls Φ O h (GF D i) σ2 h2:=by
  rintro σ2 h2 v rfl C F hun;have hkeep:∀j A e,j<n->j≠i->l[j]? =some A->A.dst=some e->putS σ' o.dst v e=σ' e:=λj A e S hji r he=>by
   cases H:o.dst with
   | none=>rfl
   | some d=>exact upd_ne σ' v (J6 (DY nd t S (λx=>hji x.symm) X r H he))
  refine ⟨rt _ _ _ p.le C.1,λu hu=>?_,λj f=>?_,λj f=>?_,λj f q hq'=>?_,λj A f r g w U=>?_,λj S f=>?_⟩
  ·rw [<-p.base u hu];cases H:o.dst with
   | none=>rfl
   | some d=>exact upd_ne σ' v (J6 λe=>by rw [e,NP t X H] at hu;cases hu)
  ·rw [s] at f;by_cases m:i=j
   ·exact m▸t
   ·rw [aS m] at f;exact p.lt j f
  ·rw [s] at f;by_cases m:i=j
   ·subst m;unfold Nn;rw [X];intro U
    have:Hy o (putS σ' o.dst v)=v:=by
     cases H:o.dst with
     | none=>rw [hun H];simp [Hy,H]
     | some d=>simp [Hy,H,putS,upd]
    rw [this];exact F U
   ·rw [aS m] at f;have K:=p.done j f;unfold Nn at K ⊢;cases r:l[j]? with
    | none=>trivial
    | some A=>
     rw [r] at K;simp only at K ⊢;intro U;have hg':Ch l A σ':=U.congr λg w og dg T hog hdg=>by
      have M:=p.grd j A f r g w T;exact hkeep g og dg (p.lt g M) (λe=>by rw [e,B] at M;cases M) hog hdg
     have hji:i ∉ cls.getD j []:=λq=>by rw [p.clos j f i q] at B;cases B
     have:=C.2.1 j (λe=>m e.symm) _ _ (K hg')
     have hsv:Hy A (putS σ' o.dst v)=Hy A σ':=by
      unfold Hy;cases hdj:A.dst with
      | none=>rfl
      | some e=>exact hkeep j A e (p.lt j f) (λx=>m x.symm) r hdj
     rw [hsv];cases H:o.dst with
     | none=>exact this
     | some d=>exact ind j i o d (p.lt j f) t m hji X H σ' v _ h2 this
  ·rw [s] at f ⊢;split
   ·rfl
   ·rename_i hn
    by_cases m:i=j
    ·subst m;exact hcl q hq'
    ·rw [aS m] at f;exact p.clos j f q hq'
  ·rw [s] at f ⊢;split
   ·rfl
   ·by_cases m:i=j
    ·subst m;rw [X] at r;cases r;exact hgl g w U
    ·rw [aS m] at f;exact p.grd j A f r g w U
  ·rw [s] at f;by_cases m:i=j
   ·rw [aT m] at f;cases f
   ·rw [aS m] at f;exact C.2.2 j (λe=>m e.symm) (λq=>by rw [hcl j q] at f;cases f) (p.pend j S f)
 refine ⟨λhG=>?_,λhnG=>?_⟩
 ·exact BS.mono (steps i o t X σ' h' p.le p.base (Gf.get λj S=>p.done j (hcl j S)) hG (p.pend i t B)) λσ2 ds2 h2 y=>⟨y.1,by
   obtain ⟨_,C,v,hσ,F,hun⟩:=y;exact next σ2 h2 v hσ C (λ_=>F) hun⟩
 ·refine next _ _ undef rfl ⟨rr _,λ_ _ _ _ z=>z,λ_ _ _ z=>z⟩ (λU=>?_) λ_=>rfl;refine absurd (U.congr λg w og dg T hog hdg=>?_) hnG;cases H:o.dst with
  | none=>rfl
  | some d=>
   have hgi:g≠i:=λe=>by have:=hgl g w T;rw [e,B] at this;cases this
   exact upd_ne σ' undef (J6 (DY nd t (p.lt g (hgl g w T)) (λx=>hgi x.symm) X hog H hdg))
def D1(S:Nat->Prop)(h h':L):Prop:=BP S h h'/\∀b,(∃o,h b=some o)->∃o,h' b=some o
theorem D1.refl(S:Nat->Prop)(h:L):D1 S h h:=⟨BP.refl _ _,λ_ x=>x⟩
theorem D1.trans{S:Nat->Prop}{a b c:L}(x:D1 S a b)(y:D1 S b c):D1 S a c:=⟨x.1.trans (λ_ q=>.inl q) y.1,λr q=>y.2 r (x.2 r q)⟩
theorem L.Le.keepD{h h':L}(l:h.Le h')(S:Nat->Prop):D1 S h h':=⟨l.keepX S,λ_ ⟨o,a⟩=>let ⟨o',h1,_⟩:=l _ o.1 o.2 a;⟨_,h1⟩⟩
theorem D1.nothing{S:Nat->Prop}{h h':L}(k:D1 S h h'){r:Nat}(hr:h' r=none):h r=none:=by
 cases a:h r with
 | none=>rfl
 | some x=>obtain ⟨o,b⟩:=k.2 r ⟨x,a⟩;rw [b] at hr;cases hr
theorem D1.grown{U:Type}{S:Nat->Prop}{h0 h h':L}{v v':aU}{t:aV}{n:Nat}{enc:U->Array aU}{xs:List U}(g:Fm h h' v v')(hv:∀b,Bv v=some b->S b)(o:AN h0 h' v' t n enc xs):D1 S h h':=
 ⟨λb p o c d=>⟨o,g.1 b _ c λe=>d (hv b e),.inl rfl⟩,λb ⟨x,a⟩=>by
  rcases g.2 with q | ⟨_,q⟩
  ·by_cases e:Bv v=some b
   ·exact o.inDom b (q.trans e)
   ·exact ⟨_,g.1 b x a e⟩
  ·exact ⟨_,q b x a⟩⟩
theorem AN.baseD{U:Type}{S:Nat->Prop}{h0 h00 h:L}{v:aU}{t:aV}{n:Nat}{enc:U->Array aU}{xs:List U}(x:AN h0 h v t n enc xs)(k:D1 S h00 h0):AN h00 h v t n enc xs:=by
 rcases x with x | ⟨b,a,c,d,e,f,g⟩
 ·exact .inl x
 ·exact .inr ⟨b,a,c,d,k.nothing e,f,g⟩
def Du(R:L->L->Prop):List Hs->Prop
 | []=>True
 | φ ::l=>(∀O v h h',R h h'->φ O v h->φ O v h')/\Du R l
theorem Du.mono{R:L->L->Prop}:∀{Φ:List Hs},Du R Φ->∀k O v h h',R h h'->Fy Φ k O v h->Fy Φ k O v h'
 | [],_,k,O,v,h,h',_,x=>by cases k <;> exact x
 | φ ::l,a,0,O,v,h,h',r,x=>a.1 O v h h' r x
 | φ ::l,a,k+1,O,v,h,h',r,x=>Du.mono a.2 k O v h h' r x
theorem Xd{S:Nat->Prop}{id:Nat}{l:List Oper}{O:Nat->aU}{ds:List Deferred}{h:L}{Q:Post}(n:Nat)(cls:List (List Nat))(Φ:List Hs)(Pre:Nat->L->Prop)
  (hm:P.follows .mixedOrders=true) (ok:Ep E.N l n cls=true) (p0:∀k,k<n->Pre k h) (ind:RP l n cls Φ) (x:I4 (D1 S) Pre E l n Φ O ds h Q n 0 l cls):Tr E (.region id l.toArray true) O ds h Q:=
 Z7 (D1 S) n cls Φ Pre hm ok (λh=>D1.refl S h) (λ_ _ _ x y=>x.trans y) p0 ind x
section
variable {Pre:Nat->L->Prop} {Φ:List Hs} {S:Nat->Prop} {k:Nat} {cl:List Nat} {h h':L}
theorem St.same:St (D1 S) Pre Φ cl k h h:=⟨D1.refl _ _,λ_ _ _ _ z=>z,λ_ _ _ z=>z⟩
theorem St.ofLe(l:h.Le h')(m:Du L.Le Φ)(pm:∀k h h',L.Le h h'->Pre k h->Pre k h'):St (D1 S) Pre Φ cl k h h':=⟨l.keepD S,λj _ O v z=>m.mono j O v h h' l z,λj _ _ z=>pm j h h' l z⟩
end
def Pm(h0:L)(w v:aU):Prop:=Bv v=Bv w\/∃r,Bv v=some r/\h0 r=none
theorem BL.fromB{h0:L}{w v:aU}(f:Pm h0 w v){r:Nat}{o:Bool×Obj}(hr:h0 r=some o)(x:BL w r):BL v r:=λe=>by
 rcases f with q | ⟨b,a,c⟩
 ·exact x (q▸e)
 ·rw [a] at e;cases e;rw [c] at hr;cases hr
theorem Pm.grown{h0 hk h':L}{S:Nat->Prop}{w v:aU}(g:Fm hk h' w v)(k:D1 S h0 hk):Pm h0 w v:=by
 rcases g.2 with q | ⟨⟨r,a,b⟩,_⟩
 ·exact .inl q
 ·exact .inr ⟨r,a,k.nothing b⟩
theorem AN.apartTy{U β:Type}{h0 h1 h:L}{v w:aU}{t t':aV}{n n':Nat}{enc:U->Array aU}{enc':β->Array aU}{xs:List U}{ys:List β}(x:AN h0 h v t n enc xs)(y:AN h1 h w t' n' enc' ys)(ne:t≠t'):Apart v w:=λb e a=>by
 rcases x with ⟨rfl,_⟩ | ⟨f,_,g,rfl,_,d,_⟩
 ·cases e
 ·rcases y with ⟨rfl,_⟩ | ⟨i,_,j,rfl,_,c,_⟩
  ·cases a
  ·simp only [Bv,Option.some.injEq] at e a;subst e;subst a;rw [d] at c;simp only [Option.some.injEq,Prod.mk.injEq,Obj.cells.injEq] at c;exact ne c.2.2.1
theorem AN.apartNew{U β:Type}{h1 h h2:L}{v w:aU}{t t':aV}{n n':Nat}{enc:U->Array aU}{enc':β->Array aU}{xs:List U}{ys:List β}(x:AN h1 h2 w t n enc xs)(y:AN h2 h v t' n' enc' ys):Apart w v:=λb e c=>by
 obtain ⟨o,a⟩:=x.inDom b e;rw [y.fresh b c] at a;cases a
theorem BP.leBase{S:Nat->Prop}{hb h h':L}(k:BP S h h')(l:hb.Le h)(hS:∀b,S b->hb b=none):hb.Le h':=λb p o a=>by
 obtain ⟨c,d,h2⟩:=l b p o a;obtain ⟨e,f,h4⟩:=k b p c d λq=>by rw [hS b q] at a;cases a
 refine ⟨e,f,?_⟩;rcases h2 with rfl | h2
 ·exact h4
 ·rcases h4 with rfl | h4
  ·exact .inr h2
  ·exact .inr ⟨h2.1,h4.2⟩
theorem AN.keepD{U:Type}{S:Nat->Prop}{h0 h h':L}{v:aU}{t:aV}{n:Nat}{enc:U->Array aU}{xs:List U}(x:AN h0 h v t n enc xs)(k:D1 S h h')(hS:∀b,Bv v=some b->¬S b):AN h0 h' v t n enc xs:=by
 rcases x with x | ⟨b,a,c,rfl,d,e,f⟩
 ·exact .inl x
 ·exact .inr ⟨b,a,c,rfl,d,k.1.box e (hS b rfl) rfl,f⟩
end
end Go.Ns
namespace Go.Ns
open Go.Conc
section
variable {P:Program} {E:Fl P} {O:Nat->aU} {ds:List Deferred} {h:L} {T:(Nat->aU)->List Deferred->L->Prop}
variable {dst:Option Nat} {ty:aV} {pos:String} {af:Array Edge} {gd:Option (Nat×Bool)}
def Uu:aU->Bool
 | .slice none _ _=>true
 | _=>false
theorem Xe{xt yt:aV}{x y:Operand}{a:Option Addr}{l c:Nat}(ht:Hw P xt=true)(hx:AL O x=.slice a l c)(hy:AL O y=.slice none 0 0)(k:T (putS O dst (.bool (Uu (.slice a l c)))) ds h) :
  BS E ⟨dst,.binOp .eql xt x y yt,ty,pos,af,gd⟩ O ds h T:=by
 unfold BS execOp;simp only [hx,hy];refine E6 (AE _ _ ?_);show Sem.gh P (do pure (Value.bool (<-Op.equal xt (.slice a l c) (.slice none 0 0))):Sem aU) h _;refine AE _ _ ?_;unfold Op.equal Op.maxDepth;show (Op.equalIn (9999+1) xt (.slice a l c) (.slice none 0 0)).gh P h _;unfold Op.equalIn;unfold Hw at ht;cases b:P.underlying xt with
 | none=>rw [b] at ht;cases ht
 | some d=>
  rw [b] at ht;refine AE _ _ (Ai b ?_);cases d <;> first | (cases ht;done) | skip
  cases a with
  | none=>exact k
  | some a=>exact k
theorem Uv{U:Type}{xt yt:aV}{x y:Operand}{v:aU}{n:Nat}{enc:U->Array aU}{xs:List U}(ht:Hw P xt=true)(s:AJ h v n enc xs)(hx:AL O x=v)(hy:AL O y=.slice none 0 0)(k:T (putS O dst (.bool (Uu v))) ds h) :
  BS E ⟨dst,.binOp .eql xt x y yt,ty,pos,af,gd⟩ O ds h T:=by
 obtain ⟨a,b,rfl,_⟩:=s;exact Xe ht hx hy k
theorem Uw{U:Type}{v:aU}{n:Nat}{enc:U->Array aU}{xs:List U}(s:AJ h v n enc xs)(e:Uu v=true):xs=[]:=by
 obtain ⟨a,c,rfl,_,_,q⟩:=s;cases a with
 | some a=>cases e
 | none=>
  cases xs with
  | nil=>rfl
  | cons x xs=>obtain ⟨b,d,f,_⟩:=q 0 aD;cases f
theorem Z8{a:Int}{k:Nat}(h:k<=63):a.fdiv (2 ^ (min ((k:Int)).toNat IntKind.i64.bits))=a.fdiv (2 ^ k):=by
 have:min ((k:Int)).toNat IntKind.i64.bits=k:=by
  show min ((k:Int)).toNat 64=k;omega
 rw [this]
theorem Z9{k:Nat}(h:k<=60):IntKind.i64.wrap (1*2 ^ (min ((k:Int)).toNat IntKind.i64.bits))=2 ^ k:=by
 have:min ((k:Int)).toNat IntKind.i64.bits=k:=by
  show min ((k:Int)).toNat 64=k;omega
 rw [this,Int.one_mul];have a:(2:Int) ^ k<=2 ^ 60:=by
  have:=Nat.pow_le_pow_right (show 0<2 by decide) h
  exact_mod_cast this
 have b:(0:Int)<=2 ^ k:=by
  have:=Nat.zero_le (2 ^ k)
  exact_mod_cast this
 exact IntWalk.i64_in _ Y
end
theorem Np{a:Int}(h:0<=a/\a<=65535)(k:Nat):0<=a.fdiv (2 ^ k)/\a.fdiv (2 ^ k)<=65535:=by
 have b:(0:Int)<2 ^ k:=by
  have:=Nat.pow_pos (n:=k) (show 0<2 by decide)
  exact_mod_cast this
 rw [Int.fdiv_eq_ediv_of_nonneg _ (Int.le_of_lt b)];refine ⟨Int.ediv_nonneg h.1 (Int.le_of_lt b),Int.le_trans (Int.ediv_le_self _ h.1) h.2⟩
def G5(mask:Int)(k:Nat):Bool:=decide (mask.fdiv (2 ^ k)%2=1)
def Cg(cs:List AP)(mask:Int)(k:Nat):List AP:=((List.range k).filter (G5 mask)).map λ(i:Nat)=>cs.getD i AP.z
def BJ(mask:Int)(k:Nat):List Int:=((List.range k).filter (G5 mask)).map λ(i:Nat)=>(i:Int)
theorem I5{p:Nat->Bool}{k:Nat}(h:p k=true):(List.range (k+1)).filter p=(List.range k).filter p++[k]:=by
 rw [List.range_succ,List.filter_append];simp [h]
theorem I6{p:Nat->Bool}{k:Nat}(h:p k=false):(List.range (k+1)).filter p=(List.range k).filter p:=by
 rw [List.range_succ,List.filter_append];simp [h]
theorem pickC_t{cs:List AP}{mask:Int}{k:Nat}(h:mask.fdiv (2 ^ k)%2=1):Cg cs mask (k+1)=Cg cs mask k++[cs.getD k AP.z]:=by
 unfold Cg;rw [I5 (by unfold G5;rw [decide_eq_true h]),List.map_append];rfl
theorem pickC_f{cs:List AP}{mask:Int}{k:Nat}(h:¬mask.fdiv (2 ^ k)%2=1):Cg cs mask (k+1)=Cg cs mask k:=by
 unfold Cg;rw [I6 (by unfold G5;rw [decide_eq_false h])]
theorem XA{mask:Int}{k:Nat}(h:mask.fdiv (2 ^ k)%2=1):BJ mask (k+1)=BJ mask k++[(k:Int)]:=by
 unfold BJ;rw [I5 (by unfold G5;rw [decide_eq_true h]),List.map_append];rfl
theorem XB{mask:Int}{k:Nat}(h:¬mask.fdiv (2 ^ k)%2=1):BJ mask (k+1)=BJ mask k:=by
 unfold BJ;rw [I6 (by unfold G5;rw [decide_eq_false h])]
theorem Pn(cs:List AP)(mask:Int)(k:Nat):(Cg cs mask k).length<=k:=by
 unfold Cg;rw [List.length_map]
 have:=List.length_filter_le (G5 mask) (List.range k)
 rwa [List.length_range] at this
theorem Po(mask:Int)(k:Nat):(BJ mask k).length<=k:=by
 unfold BJ;rw [List.length_map]
 have:=List.length_filter_le (G5 mask) (List.range k)
 rwa [List.length_range] at this
def RQ(a b:Int):Int:=if a<b then-1 else if b<a then 1 else 0
def Jc(a b:List Int):Nat->Nat->Int
 | 0,_=>if (a.length:Int)<b.length then-1 else 0
 | f+1,k=>if (b.length:Int)<=k then 1 else if¬RQ (a.getD k 0) (b.getD k 0)=0 then RQ (a.getD k 0) (b.getD k 0) else Jc a b f (k+1)
def RR(a b:List Int):Int:=Jc a b a.length 0
theorem MU{a b:List Int}{k:Nat}(hk:¬(k:Int)<a.length):Jc a b (a.length-k) k=if (a.length:Int)<b.length then-1 else 0:=by
 rw [show a.length-k=0 by omega];rfl
theorem KE{a b:List Int}{k:Nat}(hk:k<a.length):Jc a b (a.length-k) k=if (b.length:Int)<=k then 1 else if¬RQ (a.getD k 0) (b.getD k 0)=0 then RQ (a.getD k 0) (b.getD k 0) else Jc a b (a.length-(k+1)) (k+1):=by
 rw [show a.length-k=(a.length-(k+1))+1 by omega];rfl
def Ux(a b:List Int):Bool:=decide ((a.length:Int)<b.length) || (decide ((a.length:Int)=b.length) && decide (RR a b<0))
abbrev Sl:=aU×List Int
def Sl.z:Sl:=(.slice none 0 0,[])
def Nq(x:Sl):Array aU:=#[x.1]
def CA(h:L)(l:List Sl):Prop:=∀k,AJ h (l.getD k Sl.z).1 1 eI (l.getD k Sl.z).2
theorem CA.le{h h':L}{l:List Sl}(x:CA h l)(e:h.Le h'):CA h' l:=λk=>(x k).le e
theorem CA.nil(h:L):CA h []:=λk=>by
 rw [EN aD];exact AJ.nil _ _ _
theorem CA.snoc{h:L}{l:List Sl}{x:Sl}(a:CA h l)(b:AJ h x.1 1 eI x.2):CA h (l++[x]):=λk=>by
 rcases Nat.lt_trichotomy k l.length with q | q | q
 ·have e:(l++[x]).getD k Sl.z=l.getD k Sl.z:=by simp [List.getD_eq_getElem?_getD,List.getElem?_append_left q]
  rw [e];exact a k
 ·have e:(l++[x]).getD k Sl.z=x:=by subst q;simp [List.getD_eq_getElem?_getD]
  rw [e];exact b
 ·rw [EN (by simp;omega)];exact AJ.nil _ _ _
def Kx(x c:List Int):List Int:=if Ux x c then x else c
def Ir(c:List Int)(l:List (List Int)):List Int:=l.foldl (λc x=>Kx x c) c
def CG(l:List Sl):List (List Int):=l.map (·.2)
theorem FL{l:List Sl}{k:Nat}(hk:k<l.length):(CG l).getD k []=(l.getD k Sl.z).2:=by
 unfold CG;rw [IS [] (by simpa using hk),IS Sl.z hk];simp
theorem Nr{c:List Int}{l:List Sl}{k:Nat}(hk:k<l.length):Ir c ((CG l).take (k+1))=Kx (l.getD k Sl.z).2 (Ir c ((CG l).take k)):=by
 rw [H2 [] (by simpa [CG] using hk),FL hk];unfold Ir;rw [List.foldl_append];rfl
def DR(d:Int)(gs:List Good)(ms:List AG)(cs:List AP)(mo:Int):Bool:= !(AT d gs ms cs mo).isEmpty
theorem someB_t{d:Int}{gs:List Good}{ms:List AG}{cs:List AP}{mo:Int}(h:AT d gs ms cs mo≠[]):DR d gs ms cs mo=true:=by
 unfold DR;cases a:AT d gs ms cs mo with
 | nil=>exact absurd a h
 | cons _ _=>rfl
theorem someB_f{d:Int}{gs:List Good}{ms:List AG}{cs:List AP}{mo:Int}(h:AT d gs ms cs mo=[]):DR d gs ms cs mo=false:=by
 unfold DR;rw [h];rfl
def AAA{U:Type}(hB:L)(r:Nat)(T:aV)(pre:List U)(aN:Nat->Prop)(h:L):Prop:=pre=[]/\h r=some (true,.cells #[.bool false] T (0,0))/\hB r=none/\∀b,aN b↔b=r
def AAB{U:Type}(r:Nat)(T:aV)(all:List U)(c:Code)(h:L):Prop:=c=.ret/\h r=some (true,.cells #[.bool true] T (0,0))/\all≠[]
theorem Nt{U:Type}(hB:L)(r:Nat)(T:aV):FJ hB (AAA (U:=U) hB r T):=by
 refine ⟨?_,?_⟩
 ·rintro c f h b ⟨_,d,_,a⟩ e;rw [a] at e;subst e;exact ⟨_,_,d,rfl⟩
 ·rintro c f h j ⟨g,d,i,a⟩ same _;exact ⟨g,(same r ((a r).2 rfl)).trans d,i,a⟩
theorem Sj{U:Type}{hB h:L}{r:Nat}{T:aV}(nr:hB r=none)(x:h r=some (true,.cells #[.bool false] T (0,0))):AAA (U:=U) hB r T [] (λb=>b=r) h:=⟨rfl,x,nr,λ_=>Iff.rfl⟩
theorem RS{U:Type}{r:Nat}{T:aV}{all:List U}:∀c (h h':L) l lo,AAB r T all c h->h l=some (true,.loop lo)->(∀b,b≠l->h' b=h b)->AAB r T all c h':=by
 rintro c h h' l lo ⟨f,a,g⟩ d i;exact ⟨f,(i _ λe=>by subst e;rw [a] at d;cases d).trans a,g⟩
end Go.Ns
namespace Go.Ns
open Go.Conc
abbrev Key:=Int×Int×Int
def Jm(a:Key):aU:=.agg #[.int .i64 a.1,.int .i64 a.2.1,.int .i64 a.2.2]
def EX(n:Int):aU:=.int .i64 n
def Aj(ms:List AG)(pasts:List AW)(r:Nat)(h:L):Prop:=
 ∃M:Key->Option Int,Ef h r Jm EX M/\∀a v,M a=some v->v=(AQ ms (pasts.getD a.1.toNat AW.zero) a.2.1 a.2.2).1
theorem Aj.same{ms:List AG}{pasts:List AW}{r:Nat}{h h':L}(x:Aj ms pasts r h)(e:h' r=h r):Aj ms pasts r h':=by
 obtain ⟨M,a,b⟩:=x;exact ⟨M,a.le_other e,b⟩
theorem Aj.known{ms:List AG}{pasts:List AW}{r:Nat}{h:L}(x:Aj ms pasts r h):∃o,h r=some (true,o):=by
 obtain ⟨M,⟨c,a,b,_⟩,_⟩:=x;exact ⟨_,b⟩
structure CQ(hB:L)(ms:List AG)(pasts:List AW)(r:Nat)(h hc:L):Prop where
 ok:Aj ms pasts r hc
 keep:BP (λb=>b=r) h hc
 base:hB.Le hc
def Iw(hB:L)(ms:List AG)(pasts:List AW)(r:Nat)(h h':L):Prop:=Aj ms pasts r h'/\BP (λb=>b=r) h h'/\hB.Le h'
section
variable {hB h hc h':L} {ms:List AG} {pasts:List AW} {r:Nat}
theorem CQ.start(x:Aj ms pasts r h)(l:hB.Le h):CQ hB ms pasts r h h:=⟨x,BP.refl _ _,l⟩
theorem CQ.le(y:CQ hB ms pasts r h hc)(l:hc.Le h'):CQ hB ms pasts r h h':=by
 obtain ⟨o,a⟩:=y.ok.known;exact ⟨y.ok.same ((l.keep a rfl).trans a.symm),y.keep.trans (λ_ q=>.inl q) (l.keepX _),y.base.trans l⟩
theorem CQ.store(y:CQ hB ms pasts r h hc){q:Nat}(hq:h q=none)(qB:hB q=none)(hn:q≠r)(ho:∀b,b≠q->h' b=hc b):CQ hB ms pasts r h h':=
 ⟨y.ok.same (ho r (Ne.symm hn)),y.keep.store hq ho,y.base.upd qB ho⟩
theorem CQ.app{v v':aU}(y:CQ hB ms pasts r h hc)(g:Fm hc h' v v')(f:BL v r)(hv:∀b,Bv v=some b->h b=none)(hvB:∀b,Bv v=some b->hB b=none):CQ hB ms pasts r h h':=by
 obtain ⟨o,c⟩:=y.ok.known;refine ⟨y.ok.same ((g.1 r _ c f).trans c.symm),λb p o a d=>?_,L.Le.grown g y.base hvB⟩;obtain ⟨i,j,k⟩:=y.keep b p o a d;exact ⟨i,g.1 b _ j (λe=>by rw [hv b e] at a;cases a),k⟩
theorem CQ.call(y:CQ hB ms pasts r h hc)(m:Iw hB ms pasts r hc h'):CQ hB ms pasts r h h':=⟨m.1,y.keep.trans (λ_ q=>.inl q) m.2.1,m.2.2⟩
theorem CQ.ne(y:CQ hB ms pasts r h hc){q:Nat}(hq:hc q=none):q≠r:=λe=>by
 obtain ⟨o,a⟩:=y.ok.known;rw [e,a] at hq;cases hq
theorem CQ.res(y:CQ hB ms pasts r h hc):Iw hB ms pasts r h hc:=⟨y.ok,y.keep,y.base⟩
end
theorem Key.eq_iff(a b:Key):(a.1==b.1 && (a.2.1==b.2.1 && (a.2.2==b.2.2 && true)))=decide (a=b):=by
 obtain ⟨c,d,e⟩:=a;obtain ⟨f,g,h⟩:=b;simp only [Bool.and_true,Prod.mk.injEq];by_cases i:c=f <;> by_cases j:d=g <;> by_cases k:e=h <;> simp [i,j,k]
section
variable {P:Program} {E:Fl P} {O:Nat->aU} {ds:List Deferred} {h:L} {T:(Nat->aU)->List Deferred->L->Prop}
variable {dst:Option Nat} {ty:aV} {pos:String} {af:Array Edge} {gd:Option (Nat×Bool)}
theorem RT{t kt vt:aV}{x ix:Operand}{r d:Nat}{ms:List AG}{pasts:List AW}{i g dy:Int}(ht:H0 P t=some (kt,vt))(hx:AL O x=.map (some r))(hk:AL O ix=.agg #[.int .i64 i,.int .i64 g,.int .i64 dy])(hm:Aj ms pasts r h)(hd:Nat.ble (d+1) 10000=true)
  (hc:∀a,Uh P (d+1) kt (Jm a)=true) (he:∀a b,MO P (d+1) kt (Jm a) (Jm b)=some (a.1==b.1 && (a.2.1==b.2.1 && (a.2.2==b.2.2 && true)))) (hz:(P.info? vt).bind (·.zero)=some (.int .i64 0))
  (k:∀(n:Int)(is:Bool),(is=true->n=(AQ ms (pasts.getD i.toNat AW.zero) g dy).1)->T (putS O dst (.tuple #[.int .i64 n,.bool is])) ds h):BS E ⟨dst,.lookup t x ix true,ty,pos,af,gd⟩ O ds h T:=by
 obtain ⟨M,c,f⟩:=hm;refine Lg (a:=(i,g,dy)) (z:=.int .i64 0) ht hx hk c hd (hc _) (λb=>by rw [he,Key.eq_iff]) hz ?_;cases j:M (i,g,dy) with
 | none=>exact k 0 false (by intro e;cases e)
 | some v=>exact k v true λ_=>f _ _ j
theorem Sm{t kt vt:aV}{om ok ox:Operand}{r d:Nat}{ms:List AG}{pasts:List AW}{i g dy n:Int}(ht:H0 P t=some (kt,vt))(hm':AL O om=.map (some r))(hk:AL O ok=.agg #[.int .i64 i,.int .i64 g,.int .i64 dy])(hv:AL O ox=.int .i64 n)(hm:Aj ms pasts r h)(hd:Nat.ble (d+1) 10000=true)
  (hc:∀a,Uh P (d+1) kt (Jm a)=true) (he:∀a b,MO P (d+1) kt (Jm a) (Jm b)=some (a.1==b.1 && (a.2.1==b.2.1 && (a.2.2==b.2.2 && true)))) (hs:∀a,Instr.sameBits 10000 (Jm a) (Jm a)=true) (hn:n=(AQ ms (pasts.getD i.toNat AW.zero) g dy).1)
  (k:∀h',Aj ms pasts r h'->(∀b,b≠r->h' b=h b)->T (putS O dst undef) ds h'):BS E ⟨dst,.mapUpdate t om ok ox,ty,pos,af,gd⟩ O ds h T:=by
 obtain ⟨M,f,j⟩:=hm;refine IO (a:=(i,g,dy)) (v:=n) (ek:=Jm) (ev:=EX) ht hm' hk hv f hd (hc _) (λb=>by rw [he,Key.eq_iff]) (hs _) λh' l m=>k h' ⟨_,l,λa v c=>?_⟩ m;by_cases e:a=(i,g,dy)
 ·subst e;rw [aT rfl] at c;cases c;exact hn
 ·rw [aS e] at c;exact j a v c
end
section
variable {hB h hc h':L} {ms:List AG} {pasts:List AW} {r:Nat}
theorem CQ.nothing(y:CQ hB ms pasts r h hc){q:Nat}(hq:hc q=none):h q=none:=by
 cases a:h q with
 | none=>rfl
 | some x=>
  obtain ⟨c,b,_⟩:=y.keep q x.1 x.2 a (y.ne hq);rw [b] at hq;cases hq
theorem Aj.le(x:Aj ms pasts r h)(l:h.Le h'):Aj ms pasts r h':=by
 obtain ⟨o,a⟩:=x.known;exact x.same ((l.keep a rfl).trans a.symm)
theorem Aj.empty(x:h r=some (true,.map #[] 0)):Aj ms pasts r h:=⟨λ_=>none,Ef.empty x,λa v e=>by cases e⟩
theorem Aj.neCells{b:Nat}{p:Bool}{c:Array aU}{t:aV}{z:Nat×Nat}(x:Aj ms pasts r h)(hb:h b=some (p,.cells c t z)):b≠r:=λe=>by
 obtain ⟨M,⟨f,a,d,_⟩,_⟩:=x;rw [e,d] at hb;cases hb
theorem AN.keepX{U:Type}{X:Nat->Prop}{h0:L}{v:aU}{t:aV}{n:Nat}{enc:U->Array aU}{xs:List U}(x:AN h0 h v t n enc xs)(k:BP X h h')(hS:∀b,Bv v=some b->¬X b):AN h0 h' v t n enc xs:=by
 rcases x with x | ⟨b,a,c,rfl,d,e,f⟩
 ·exact .inl x
 ·exact .inr ⟨b,a,c,rfl,d,k.box e (hS b rfl) rfl,f⟩
theorem AJ.slDel{U:Type}{v:aU}{n:Nat}{enc:U->Array aU}{xs:List U}(x:AJ h v n enc xs){p:Bool}{es:Array MapEntry}{clk:Nat}(hr:h r=some (p,.map es clk)):AJ (h.del r) v n enc xs:=by
 obtain ⟨a,d,l,hc,m,o⟩:=x;refine ⟨a,d,l,hc,m,λi q=>?_⟩;obtain ⟨b,g,s,j⟩:=o i q;refine ⟨b,g,s,j.del λe=>?_⟩;obtain ⟨u,c,t,f,k,_⟩:=j;rw [e,hr] at k;cases k
theorem Aj.slDel{U:Type}(k:Aj ms pasts r h){v:aU}{n:Nat}{enc:U->Array aU}{xs:List U}(x:AJ h v n enc xs):AJ (h.del r) v n enc xs:=by
 obtain ⟨M,⟨c,a,b,_⟩,_⟩:=k;exact x.slDel b
end
section
variable {P:Program} {E:Fl P} {O:Nat->aU} {ds:List Deferred} {h:L}
end
theorem RU(a:Key):Instr.sameBits 10000 (Jm a) (Jm a)=true:=by
 have b:∀(n:Nat)(x:Int),Instr.sameBits n (.int .i64 x) (.int .i64 x)=true:=λn x=>by
  cases n <;> (unfold Instr.sameBits;simp)
 unfold Jm;show Instr.sameBits (9999+1) _ _=true;unfold Instr.sameBits;simp only [List.zip_cons_cons,List.zip_nil_left,List.all_cons,List.all_nil,b];simp
def Ap(d m:Int)(gs:List Good)(ms:List AG)(cs:List AP)(o:List Int):Int:=
 if¬Au d m gs ms cs=0 then Au d m gs ms cs else if¬ED (λk=>o.getD k 0) 0 o.length=0 then ED (λk=>o.getD k 0) 0 o.length else if (AT d gs ms cs m).length=0 then 9 else 0
section
variable {d m:Int} {gs:List Good} {ms:List AG} {cs:List AP} {o:List Int}
theorem Nu(h:¬Au d m gs ms cs=0):Ap d m gs ms cs o=Au d m gs ms cs:=by unfold Ap;rw [aT h]
theorem Nv(h:¬¬Au d m gs ms cs=0){k:Nat}(hs:∀j,j<k->o.getD j 0=0)(hk:k<o.length)(h2:¬o.getD k 0=0):Ap d m gs ms cs o=o.getD k 0:=by
 unfold Ap;rw [aS h,CP (f:=λk=>o.getD k 0) hs hk rfl h2,aT h2]
theorem Nw(h:¬¬Au d m gs ms cs=0){k:Nat}(hs:∀j,j<k->o.getD j 0=0)(hk:o.length<=k)(h2:(AT d gs ms cs m).length=0):Ap d m gs ms cs o=9:=by
 unfold Ap;rw [aS h,Db (f:=λk=>o.getD k 0) hs hk,aS aD,aT h2]
theorem Nx(h:¬¬Au d m gs ms cs=0){k:Nat}(hs:∀j,j<k->o.getD j 0=0)(hk:o.length<=k)(h2:¬(AT d gs ms cs m).length=0):Ap d m gs ms cs o=0:=by
 unfold Ap;rw [aS h,Db (f:=λk=>o.getD k 0) hs hk,aS aD,aS h2]
theorem D9(h:Ap d m gs ms cs o=0):B5 d m gs ms cs/\(∀k,k<o.length->o.getD k 0=0)/\0<(AT d gs ms cs m).length:=by
 unfold Ap at h;split at h <;> first | (rename_i q;exact absurd h q) | skip
 split at h <;> first | (rename_i q;exact absurd h q) | skip
 split at h <;> first | (cases h;done) | skip
 rename_i a b c
 exact ⟨I3 (Decidable.not_not.1 a),λk e=>FR (Decidable.not_not.1 b) k (Nat.zero_le _) Y,Y⟩
end
end Go.Ns
namespace Go.Ns
open Go.Conc Go.Sort
def Bg(rest:List aU)(d:Array Int):Array aU:=(d.toList.map (λx=>Value.int .i64 x)++rest).toArray
theorem BD(rest:List aU)(d:Array Int):(Bg rest d).size=d.size+rest.length:=by simp [Bg]
theorem Al{rest:List aU}{d:Array Int}{i:Nat}(h:i<d.size):(Bg rest d)[0+i*1]? =some (.int .i64 d[i]!):=by
 have a:i<(d.toList.map (λx=>Value.int .i64 x)).length:=by simpa using h
 rw [Nat.zero_add,Nat.mul_one];unfold Bg;rw [List.getElem?_toArray,List.getElem?_append_left a,List.getElem?_map];simp [h,getElem!_pos]
theorem Bh{rest:List aU}{d:Array Int}{i:Nat}{v:Int}(h:i<d.size):BN (Bg rest d) (0+i*1) [.int .i64 v]=Bg rest (d.setIfInBounds i v):=by
 rw [Nat.zero_add,Nat.mul_one];show (Bg rest d).setIfInBounds i (.int .i64 v)=_;unfold Bg;apply Array.toList_inj.1;have a:i<(d.toList.map (λx=>Value.int .i64 x)).length:=by simpa using h
 rw [Array.toList_setIfInBounds];simp only [];rw [List.set_append_left _ _ a,Array.toList_setIfInBounds,List.map_set]
structure Af(b:Nat)(h hc:L):Prop where
 keep:BP (λx=>x=b) h hc
 dom:∃o,hc b=some o
section
variable {b:Nat} {h hc h':L}
theorem Af.start(x:∃o,h b=some o):Af b h h:=⟨BP.refl _ _,x⟩
theorem Af.le(y:Af b h hc)(l:hc.Le h'):Af b h h':=⟨y.keep.trans (λ_ q=>.inl q) (l.keepX _),l.someOf y.dom⟩
theorem Af.put(y:Af b h hc)(ho:∀x,x≠b->h' x=hc x)(x:∃o,h' b=some o):Af b h h':=⟨y.keep.store' (.inl rfl) ho,x⟩
theorem Af.ne(y:Af b h hc){q:Nat}(hq:hc q=none):q≠b:=λe=>by
 obtain ⟨o,a⟩:=y.dom;rw [e,a] at hq;cases hq
theorem Af.nothing(y:Af b h hc){q:Nat}(hq:hc q=none):h q=none:=by
 cases a:h q with
 | none=>rfl
 | some x=>
  obtain ⟨d,c,_⟩:=y.keep q x.1 x.2 a (y.ne hq);rw [c] at hq;cases hq
theorem Af.store(y:Af b h hc){q:Nat}(hq:h q=none)(hn:q≠b)(ho:∀x,x≠q->h' x=hc x):Af b h h':=⟨y.keep.store hq ho,by rw [ho b (Ne.symm hn)];exact y.dom⟩
theorem Af.call(y:Af b h hc)(k:BP (λx=>x=b) hc h')(x:∃o,h' b=some o):Af b h h':=⟨y.keep.trans (λ_ q=>.inl q) k,x⟩
end
def GK(d:Array Int)(off:Nat):Array Int:=(d.toList.take off++List.replicate (d.size-off) 0).toArray
theorem O7(d:Array Int)(off:Nat):(GK d off).size=d.size:=by simp [GK];omega
theorem Xf{a j:Nat}{dd:Array Int}(h:(a:Int)<(j:Int)/\dd[j]! <dd[((j:Int)-1).toNat]!) :
  insInner ltInt a j dd=insInner ltInt a (j-1) ((dd.setIfInBounds j dd[((j:Int)-1).toNat]!).setIfInBounds ((j:Int)-1).toNat dd[j]!):=by
 obtain ⟨c,b⟩:=h;cases j with
 | zero=>omega
 | succ j=>
  have e:(((j+1:Nat):Int)-1).toNat=j:=Y
  rw [e] at b ⊢
  conv=>lhs;unfold insInner
  rw [aT (by unfold ltInt;simp;exact ⟨Y,b⟩)];rfl
theorem AAC{a j:Nat}{dd:Array Int}(h:¬((a:Int)<(j:Int)/\dd[j]! <dd[((j:Int)-1).toNat]!)):insInner ltInt a j dd=dd:=by
 cases j with
 | zero=>rfl
 | succ j=>
  have e:(((j+1:Nat):Int)-1).toNat=j:=Y
  rw [e] at h;unfold insInner;rw [aS (by unfold ltInt;simp;intro q;exact Int.not_lt.1 λr=>h ⟨Y,r⟩)]
theorem O8{a b i:Nat}{dd:Array Int}(h:i<b):insOuter ltInt a b i dd=insOuter ltInt a b (i+1) (insInner ltInt a i dd):=by
 conv=>lhs;unfold insOuter
 rw [aT h]
theorem RV{a b i:Nat}{dd:Array Int}(h:¬(i:Int)<b):insOuter ltInt a b i dd=dd:=by
 unfold insOuter;rw [aS Y]
def I7(l:List Int):List Int:=(Go.Sort.sort ltInt l.toArray).toList
theorem HY{a r:Int}{k:Nat}(h:k<=63)(e:a / 2 ^ k=r):a.fdiv (2 ^ (min ((k:Int)).toNat IntKind.u64.bits))=r:=by
 have:min ((k:Int)).toNat IntKind.u64.bits=k:=by
  show min ((k:Int)).toNat 64=k;omega
 have b:(0:Int)<=2 ^ k:=by
  have:=Nat.zero_le (2 ^ k)
  exact_mod_cast this
 rw [this,Int.fdiv_eq_ediv_of_nonneg _ b,e]
section
variable {P:Program} {E:Fl P} {O:Nat->aU} {ds:List Deferred} {h:L} {T:(Nat->aU)->List Deferred->L->Prop}
variable {dst:Option Nat} {ty:aV} {pos:String} {af:Array Edge} {gd:Option (Nat×Bool)}
end
theorem XC(l:List Int):C7 eI l=l.map (λx=>Value.int .i64 x):=by
 induction l with
 | nil=>rfl
 | cons x l a=>show (eI x).toList++C7 eI l=_;rw [a];rfl
theorem AN.row{h0 h:L}{v:aU}{xs:List Int}(x:AN h0 h v 3 1 eI xs)(hne:xs≠[]) :
  ∃b cap rest,v=.slice (some ⟨b,0,none⟩) xs.toArray.size cap/\h b=some (true,.cells (Bg rest xs.toArray) 3 (0,0)):=by
 rcases x with ⟨_,e⟩ | ⟨b,cap,c,rfl,f,a,g,i,j,d,k⟩
 ·exact absurd e hne
 ·refine ⟨b,cap,c.toList.drop xs.length,aD,?_⟩;have e:c=Bg (c.toList.drop xs.length) xs.toArray:=by
   apply Array.toList_inj.1;unfold Bg;simp only [];rw [<-XC,<-d,Nat.mul_one,List.take_append_drop]
  rw [<-e];exact a
theorem AN.ofRow{h0 h h':L}{b cap:Nat}{rest:List aU}{xs:List Int}{D:Array Int}(x:AN h0 h (.slice (some ⟨b,0,none⟩) xs.toArray.size cap) 3 1 eI xs)(hne:xs≠[])(hD:D.size=xs.length)(hb:h b=some (true,.cells (Bg rest xs.toArray) 3 (0,0)))(hb':h' b=some (true,.cells (Bg rest D) 3 (0,0))) :
  AN h0 h' (.slice (some ⟨b,0,none⟩) xs.toArray.size cap) 3 1 eI D.toList:=by
 rcases x with ⟨e,_⟩ | ⟨k,g,c,e,j,a,i,l,m,n,o⟩
 ·cases e
 ·simp only [Value.slice.injEq,Option.some.injEq,Addr.mk.injEq] at e;obtain ⟨⟨rfl,_⟩,_,rfl⟩:=e;rw [hb] at a;simp only [Option.some.injEq,Prod.mk.injEq,Obj.cells.injEq,true_and,and_true] at a;subst a;have d:D.toList.length=xs.length:=by rw [Array.length_toList];exact hD
  refine .inr ⟨b,cap,_,by rw [d];simp,j,hb',?_,Y,Y,?_,λy _=>rfl⟩
  ·rw [BD] at i ⊢;rw [hD];simpa using i
  ·unfold Bg;simp only [Nat.mul_one];rw [XC,<-List.length_map (f:=λx=>Value.int .i64 x),List.take_append_of_le_length (Nat.le_refl _),List.take_length]
theorem BP.grownSame{h h':L}{b cap n:Nat}(k:BP (λx=>x=b) h h'):Fm h h' (.slice (some ⟨b,0,none⟩) n cap) (.slice (some ⟨b,0,none⟩) n cap):=
 ⟨λr o a c=>(by
  obtain ⟨g,d,rfl | ⟨f,_⟩⟩:=k r o.1 o.2 a (λe=>c (by rw [e];rfl))
  ·exact d
  ·cases f),.inl rfl⟩
section
variable {P:Program} {E:Fl P} {O:Nat->aU} {ds:List Deferred} {h:L} {T:(Nat->aU)->List Deferred->L->Prop}
variable {dst:Option Nat} {ty:aV} {pos:String} {af:Array Edge} {gd:Option (Nat×Bool)}
theorem Uy{t:aV}{x o:Operand}{b len cap hi:Nat}(ht:Dq P t=some 1)(hc:len<=cap)(hx:AL O x=.slice (some ⟨b,0,none⟩) len cap)(ho:∃kd,AL O o=.int kd hi)(h2:hi<=len)(k:T (putS O dst (.slice (some ⟨b,0,none⟩) hi cap)) ds h) :
  BS E ⟨dst,.slice t x none (some o) none,ty,pos,af,gd⟩ O ds h T:=by
 refine Lc (olo:=none) (ohi:=some o) 0 hi ht hc hx rfl ho (Nat.zero_le _) h2 ?_;have e:(if cap=0 then (some ⟨b,0,none⟩:Option Addr) else (some ⟨b,0,none⟩:Option Addr).map (·.add (0*1)))=some ⟨b,0,none⟩:=by
  split
  ·rfl
  ·simp [IK]
 rw [e];exact k
theorem Ky{t:aV}{x o:Operand}{b len cap lo:Nat}(ht:Dq P t=some 1)(hc:len<=cap)(hx:AL O x=.slice (some ⟨b,0,none⟩) len cap)(ho:∃kd,AL O o=.int kd lo)(h2:lo<len)(k:T (putS O dst (.slice (some ⟨b,lo,none⟩) (len-lo) (cap-lo))) ds h) :
  BS E ⟨dst,.slice t x (some o) none none,ty,pos,af,gd⟩ O ds h T:=by
 refine Lc (olo:=some o) (ohi:=none) lo len ht hc hx ho rfl (Nat.le_of_lt h2) (Nat.le_refl _) ?_;have e:(if cap=lo then (some ⟨b,0,none⟩:Option Addr) else (some ⟨b,0,none⟩:Option Addr).map (·.add (lo*1)))=some ⟨b,lo,none⟩:=by
  rw [aS Y];simp [IK]
 rw [e];exact k
theorem Sn{t e:aV}{x:Operand}{b off len cap:Nat}{rest:List aU}{d:Array Int}{z:Nat}(ht:DA P t=some (1,#[.int .i64 0],e))(hx:AL O x=.slice (some ⟨b,off,none⟩) len cap)(hb:h b=some (true,.cells (Bg rest d) z (0,0)))(hn:off+len=d.size)(hl:0<len)
  (k:∀h',h' b=some (true,.cells (Bg rest (GK d off)) z (0,0))->(∀x,x≠b->h' x=h x)->T (putS O dst (.tuple #[])) ds h') :
  BS E ⟨dst,.call ⟨.builtin .clear,#[x],#[t]⟩,ty,pos,af,gd⟩ O ds h T:=by
 refine FH (vs:=#[.slice (some ⟨b,off,none⟩) len cap]) (s:=Builtin.clear_ #[t] ty #[.slice (some ⟨b,off,none⟩) len cap]) (by simp [hx]) (λ_=>rfl) ?_;unfold DA at ht;cases l:P.underlying t with
 | none=>rw [l] at ht;cases ht
 | some r=>
 rw [l] at ht;cases r <;> first | (cases ht;done) | skip
 rename_i j
 simp only at ht;cases f:Bq P j with
 | none=>rw [f] at ht;cases ht
 | some g=>
 cases c:Be P j with
 | none=>rw [f,c] at ht;cases ht
 | some B=>
 rw [f,c] at ht;simp only [Option.some.injEq,Prod.mk.injEq] at ht;obtain ⟨_,rfl,rfl⟩:=ht;unfold Builtin.clear_;simp only [List.getElem?_toArray,List.getElem?_cons_zero];refine AE _ _ (Ai l ?_);obtain ⟨len,rfl⟩:∃m,len=m+1:=⟨len-1,Y⟩;have hzero:∀{Q:aU->L->Prop}{h:L},(∀v,v.cells=#[.int .i64 0]->Q v h)->(zeroValue j).gh P h Q:=λ{Q h} q=>by
  unfold Be at c;unfold zeroValue;cases n:P.info? j with
  | none=>rw [n] at c;cases c
  | some i=>
   rw [n] at c;simp only [Option.map_eq_some_iff] at c;obtain ⟨v,u,e⟩:=c;refine AE _ _ (Cr n ?_);rw [u];exact q v e
 refine AE _ _ (hzero λvz o=>?_);rw [o];have hcells:(Builtin.zeroCells #[.int .i64 0] (len+1)).toList=List.replicate (len+1) (.int .i64 0):=by
  unfold Builtin.zeroCells;apply List.ext_getElem
  ·simp
  ·intro i p C;simp [Nat.mod_one]
 rw [hcells];have w:d.size=d.toList.length:=aD
 refine AE _ _ (F9 (a:=⟨b,off,none⟩) rfl _ 0 (Bg rest d) h ?_ hb ?_ ?_)
 ·intro y A;rw [List.eq_of_mem_replicate A];rfl
 ·rw [BD,List.length_replicate];show off+0+(len+1)<=_;omega
 ·refine At (k _ ?_ λx hx=>L.set_ne _ _ _ hx);have e:BN (Bg rest d) (off+0) (List.replicate (len+1) (.int .i64 0))=Bg rest (GK d off):=by
   apply Array.toList_inj.1;rw [EM _ _ _ (by rw [BD,List.length_replicate];omega)];unfold Bg GK;simp only [List.length_replicate,Nat.add_zero,List.map_append,List.map_take,List.map_replicate];have p:off<=(d.toList.map (λx=>Value.int .i64 x)).length:=by simp;omega
   rw [List.take_append_of_le_length p,show d.size-off=len+1 by omega];congr 1;rw [show off+(len+1)=(d.toList.map (λx=>Value.int .i64 x)).length by simp;omega,List.drop_left]
  rw [<-e];exact L.set_same _ _ _ _
end
def Is(acc:List Int)(x:Int):List Int:=if acc.getLast? =some x then acc else acc++[x]
def DL(l:List Int):List Int:=l.foldl Is []
theorem Ny(acc:List Int)(x:Int):(Is acc x).getLast? =some x:=by
 unfold Is;split
 ·assumption
 ·simp
theorem G6{d:Array Int}{j:Nat}(hj:j<d.size):DL (d.toList.take (j+1))=Is (DL (d.toList.take j)) d[j]! :=by
 have e:d.toList.take (j+1)=d.toList.take j++[d[j]!]:=by
  rw [List.take_succ_eq_append_getElem (by simpa using hj)];simp [getElem!_pos,hj]
 rw [e];unfold DL;rw [List.foldl_append];rfl
theorem Uz{d:Array Int}{j:Nat}(hj:j<d.size):(DL (d.toList.take (j+1))).getLast? =some d[j]! :=by
 rw [G6 hj];exact Ny _ _
theorem Lj{rest:List aU}{d:Array Int}{o i:Nat}(h:o+i<d.size):(Bg rest d)[o+i*1]? =some (.int .i64 d[o+i]!):=by
 have:=Al (rest:=rest) h
 rw [Nat.zero_add,Nat.mul_one] at this;rw [Nat.mul_one];exact this
theorem Ju{d:Array Int}{j:Nat}(hj:j<d.size):d.toList.take (j+1)=d.toList.take j++[d[j]!]:=by
 rw [List.take_succ_eq_append_getElem (by simpa using hj)];simp [getElem!_pos,hj]
theorem IY{d:Array Int}{j:Nat}(h1:1<=j)(hj:j<=d.size):(DL (d.toList.take j)).getLast? =some d[j-1]! :=by
 obtain ⟨i,rfl⟩:∃i,j=i+1:=⟨j-1,Y⟩;exact Uz Y
theorem RW{d:Array Int}{k:Nat}(h1:1<=k)(hk:k<d.size)(h:¬d[k]! =d[((k:Int)-1).toNat]!)(hs:DL (d.toList.take k)=d.toList.take k):DL (d.toList.take (k+1))=d.toList.take (k+1):=by
 rw [G6 hk,Ju hk];unfold Is;rw [IY h1 Y,aS (by rw [show ((k:Int)-1).toNat=k-1 by omega] at h;simpa using λe=>h e.symm),hs]
theorem RX{d:Array Int}{k:Nat}(h1:1<=k)(hk:k<d.size)(h:d[k]! =d[((k:Int)-1).toNat]!)(hs:DL (d.toList.take k)=d.toList.take k):d.toList.take k=DL (d.toList.take (k+1)):=by
 rw [G6 hk];unfold Is;rw [IY h1 Y,aT (by rw [show ((k:Int)-1).toNat=k-1 by omega] at h;rw [h]),hs]
theorem U0{d dd:Array Int}{k q kk:Nat}(hq:1<=q/\k+q<d.size)(hkk:k<=kk/\kk+1<=k+q)(hsz:dd.size=d.size)(hd:∀j,kk<=j->dd[j]! =d[j]!)(hdd:dd.toList.take kk=DL (d.toList.take (k+q)))(h:¬dd[k+q]! =dd[k+((q:Int)-1).toNat]!) :
  (dd.setIfInBounds kk dd[k+q]!).toList.take (kk+1)=DL (d.toList.take (k+(q+1))):=by
 have a:((q:Int)-1).toNat=q-1:=Y
 rw [a,hd _ Y,hd _ Y] at h;rw [show k+(q+1)=(k+q)+1 by omega,G6 hq.2];unfold Is;rw [IY Y Y,aS (by rw [show k+q-1=k+(q-1) by omega];simpa using λe=>h e.symm),<-hdd,hd _ Y,Array.toList_setIfInBounds];rw [List.take_succ_eq_append_getElem (by simp;omega),List.take_set_of_le Y];simp
theorem U1{d dd:Array Int}{k q kk:Nat}(hq:1<=q/\k+q<d.size)(hkk:k<=kk/\kk+1<=k+q)(hd:∀j,kk<=j->dd[j]! =d[j]!)(hdd:dd.toList.take kk=DL (d.toList.take (k+q)))(h:dd[k+q]! =dd[k+((q:Int)-1).toNat]!) :
  dd.toList.take kk=DL (d.toList.take (k+(q+1))):=by
 have a:((q:Int)-1).toNat=q-1:=Y
 rw [a,hd _ Y,hd _ Y] at h;rw [show k+(q+1)=(k+q)+1 by omega,G6 hq.2];unfold Is;rw [IY Y Y,aT (by rw [show k+q-1=k+(q-1) by omega,h]),hdd]
theorem Xg{d dd:Array Int}{kk:Nat}{x:Int}(hd:∀j,kk<=j->dd[j]! =d[j]!):∀j,kk+1<=j->(dd.setIfInBounds kk x)[j]! =d[j]! :=λj a=>by
 rw [<-hd j Y];simp only [getElem!_def,Array.getElem?_setIfInBounds_ne (show kk≠j by omega)]
theorem O9{d:Array Int}{k:Nat}(h:k<=d.size):(GK d k).toList.take k=d.toList.take k:=by
 unfold GK;simp only [];rw [List.take_append_of_le_length (by simp;omega),List.take_take];simp
theorem Ss{d:Array Int}(h:2<=d.size):DL (d.toList.take 1)=d.toList.take 1:=by
 have e:=Ju (d:=d) (j:=0) Y;rw [Nat.zero_add] at e;rw [e];rfl
theorem Su{d:Array Int}{k:Nat}(hs:DL (d.toList.take k)=d.toList.take k)(h1:k<=d.size)(h2:d.size<=k):d.toList.take d.size=DL d.toList:=by
 rw [show k=d.toList.length by simp;omega,List.take_length] at hs;rw [hs,<-Array.length_toList,List.take_length]
theorem Sv{d:Array Int}(h:d.size<2):d.toList.take d.size=DL d.toList:=by
 rw [<-Array.length_toList,List.take_length]
 have:d.toList.length<2:=by simpa using h
 match hd:d.toList,this with
 | [],_=>rfl
 | [x],_=>rfl
 | _ ::_ ::_,h=>simp at h;omega
theorem Kz(l:List Int):I7 l=l.mergeSort (λx y=>decide (x<=y)):=sortInt l
theorem IZ(l:List Int):(I7 l).length=l.length:=by rw [Kz,List.length_mergeSort]
theorem Sw{l:List Int}(h:l≠[]):I7 l≠[]:=λe=>by
 have:=congrArg List.length e
 rw [IZ] at this;exact h (List.length_eq_zero_iff.1 this)
end Go.Ns
namespace Go.Ns
open Go.Conc Go.Sort
theorem Lk:SWO ltInt:=⟨λx=>by unfold ltInt;simp,λx y z=>by unfold ltInt;simp;omega,λx y z=>by unfold ltInt;simp;omega⟩
theorem Sx{d dd:Array Int}{a b i j:Nat}(h:PermIn a b d dd)(hi:a<=i/\i<b)(hj:a<=j/\j<b)(hb:b<=d.size):PermIn a b d ((dd.setIfInBounds i dd[j]!).setIfInBounds j dd[i]!):=
 permIn_trans _ _ _ a b h (swp_permIn dd a b i j hi.1 hi.2 hj.1 hj.2 (by rw [h.1];exact hb))
theorem AAD{hi first root:Nat}{dd:Array Int}(h:hi<=2*root+1):siftDown ltInt hi first root dd=dd:=by
 unfold siftDown;rw [dif_pos h]
theorem sift_r{hi first root:Nat}{dd:Array Int}(h:¬hi<=2*root+1)(h1:2*root+1+1<hi)(h1':dd[first+(2*root+1)]! <dd[first+(2*root+1)+1]!)(h2:dd[first+root]! <dd[first+(2*root+1+1)]!) :
  siftDown ltInt hi first root dd=siftDown ltInt hi first (2*root+1+1) (swp dd (first+root) (first+(2*root+1+1))):=by
 have a:dd[first+root]! <dd[first+(2*root+2)]! :=h2
 conv=>lhs;unfold siftDown
 rw [dif_neg h,aT (by unfold ltInt;simpa using ⟨h1,h1'⟩),aS (by unfold ltInt;simpa using a),dif_pos Y]
theorem sift_r0{hi first root:Nat}{dd:Array Int}(h:¬hi<=2*root+1)(h1:2*root+1+1<hi)(h1':dd[first+(2*root+1)]! <dd[first+(2*root+1)+1]!)(h2:¬dd[first+root]! <dd[first+(2*root+1+1)]!) :
  siftDown ltInt hi first root dd=dd:=by
 have a:¬dd[first+root]! <dd[first+(2*root+2)]! :=h2;unfold siftDown;rw [dif_neg h,aT (by unfold ltInt;simpa using ⟨h1,h1'⟩),aT (by unfold ltInt;simpa using a)]
theorem sift_l{hi first root:Nat}{dd:Array Int}(h:¬hi<=2*root+1)(h1:¬(2*root+1+1<hi/\dd[first+(2*root+1)]! <dd[first+(2*root+1)+1]!))(h2:dd[first+root]! <dd[first+(2*root+1)]!) :
  siftDown ltInt hi first root dd=siftDown ltInt hi first (2*root+1) (swp dd (first+root) (first+(2*root+1))):=by
 conv=>lhs;unfold siftDown
 rw [dif_neg h,aS (by unfold ltInt;simpa using h1),aS (by unfold ltInt;simpa using h2)]
theorem sift_l0{hi first root:Nat}{dd:Array Int}(h:¬hi<=2*root+1)(h1:¬(2*root+1+1<hi/\dd[first+(2*root+1)]! <dd[first+(2*root+1)+1]!))(h2:¬dd[first+root]! <dd[first+(2*root+1)]!) :
  siftDown ltInt hi first root dd=dd:=by
 unfold siftDown;rw [dif_neg h,aS (by unfold ltInt;simpa using h1),aT (by unfold ltInt;simpa using h2)]
theorem Ll(hi first root:Nat)(d:Array Int):(siftDown ltInt hi first root d).size=d.size:=by
 fun_induction siftDown ltInt hi first root d <;> simp_all [swp]
theorem U2{z a k:Nat}{dd:Array Int}(hk:(0:Int)<=(k:Int)-1):heapBuild ltInt (z-a) a k dd=heapBuild ltInt (z-a) a (k-1) (siftDown ltInt ((z:Int)-(a:Int)).toNat a ((k:Int)-1).toNat dd):=by
 obtain ⟨q,rfl⟩:∃q,k=q+1:=⟨k-1,Y⟩;rw [show ((z:Int)-(a:Int)).toNat=z-a by omega,show (((q+1:Nat):Int)-1).toNat=q by omega];rfl
theorem Xh{z a k:Nat}{dd:Array Int}(hk:¬(0:Int)<=(k:Int)-1):heapBuild ltInt (z-a) a k dd=dd:=by
 obtain rfl:k=0:=Y
 rfl
theorem U3{a k:Nat}{dd:Array Int}(hk:(0:Int)<=(k:Int)-1):heapPop ltInt a k dd=heapPop ltInt a (k-1) (siftDown ltInt ((k:Int)-1).toNat a (0:Int).toNat ((dd.setIfInBounds a dd[((a:Int)+((k:Int)-1)).toNat]!).setIfInBounds ((a:Int)+((k:Int)-1)).toNat dd[a]!)):=by
 obtain ⟨q,rfl⟩:∃q,k=q+1:=⟨k-1,Y⟩;rw [show ((a:Int)+(((q+1:Nat):Int)-1)).toNat=a+q by omega,show (((q+1:Nat):Int)-1).toNat=q by omega];rfl
theorem Xi{a k:Nat}{dd:Array Int}(hk:¬(0:Int)<=(k:Int)-1):heapPop ltInt a k dd=dd:=by
 obtain rfl:k=0:=Y
 rfl
theorem EO{P:Program}{W:Wk P}{f:FuncId}{b cap m n:Nat}{as:List aU}{h:L}{R:aU->L->Prop}(e:m=n)(x:AU W f (Value.slice (some ⟨b,0,none⟩) m cap ::as).toArray h R):AU W f (Value.slice (some ⟨b,0,none⟩) n cap ::as).toArray h R:=e▸x
def U4(dd:Array Int)(a j i:Nat):Nat:=scanUp (λx=>ltInt x dd[a]!) dd j i
def Xj(dd:Array Int)(a i j:Nat):Nat:=scanDown (λx=> !ltInt x dd[a]!) dd i j
def Ze(dd:Array Int)(a j i:Nat):Nat:=scanUp (λx=> !ltInt dd[a]! x) dd j i
def dnE(dd:Array Int)(a i j:Nat):Nat:=scanDown (λx=>ltInt dd[a]! x) dd i j
theorem Pp{p:Int->Bool}{dd:Array Int}{j i:Nat}(h1:i<=j)(h2:p dd[i]! =true):scanUp p dd j i=scanUp p dd j (i+1):=by
 conv=>lhs;unfold scanUp
 rw [aT (by simp [h1,h2])]
theorem Nz{p:Int->Bool}{dd:Array Int}{j i:Nat}(h:¬(i<=j/\p dd[i]! =true)):scanUp p dd j i=i:=by
 unfold scanUp;rw [aS (by simpa using h)]
theorem MV{p:Int->Bool}{dd:Array Int}{i j:Nat}(hi:1<=i)(h1:i<=j)(h2:p dd[j]! =true):scanDown p dd i j=scanDown p dd i (j-1):=by
 obtain ⟨q,rfl⟩:∃q,j=q+1:=⟨j-1,Y⟩
 conv=>lhs;unfold scanDown
 rw [aT (by simp [h1,h2])];rfl
theorem K0{p:Int->Bool}{dd:Array Int}{i j:Nat}(h:¬(i<=j/\p dd[j]! =true)):scanDown p dd i j=j:=by
 cases j with
 | zero=>rfl
 | succ q=>unfold scanDown;rw [aS (by simpa using h)]
section
variable {d dd:Array Int} {a z p i j i0 j0:Nat}
theorem Sy{J:Int}(h:(i:Int)<=J/\dd[i]! <dd[a]!)(hJ:J=(j:Int)):U4 dd a j i=U4 dd a j (i+1):=Pp Y (decide_eq_true h.2)
theorem XD{J:Int}(h:¬((i:Int)<=J/\dd[i]! <dd[a]!))(hJ:J=(j:Int)):U4 dd a j i=i:=Nz λq=>h ⟨Y,of_decide_eq_true q.2⟩
theorem S0(hi:1<=i)(h:(i:Int)<=(j:Int)/\¬dd[j]! <dd[a]!):Xj dd a i j=Xj dd a i (j-1):=MV hi Y (by unfold ltInt;simpa using h.2)
theorem M7(h:¬((i:Int)<=(j:Int)/\¬dd[j]! <dd[a]!)):Xj dd a i j=j:=K0 λq=>h ⟨Y,by have:=q.2;unfold ltInt at this;simpa using this⟩
theorem upE_next{J:Int}(h:(i:Int)<=J/\¬dd[a]! <dd[i]!)(hJ:J=(j:Int)):Ze dd a j i=Ze dd a j (i+1):=Pp Y (by unfold ltInt;simpa using h.2)
theorem upE_end{J:Int}(h:¬((i:Int)<=J/\¬dd[a]! <dd[i]!))(hJ:J=(j:Int)):Ze dd a j i=i:=Nz λq=>h ⟨Y,by have:=q.2;unfold ltInt at this;simpa using this⟩
theorem dnE_next(hi:1<=i)(h:(i:Int)<=(j:Int)/\dd[a]! <dd[j]!):dnE dd a i j=dnE dd a i (j-1):=MV hi Y (decide_eq_true h.2)
theorem XE(h:¬((i:Int)<=(j:Int)/\dd[a]! <dd[j]!)):dnE dd a i j=j:=K0 λq=>h ⟨Y,of_decide_eq_true q.2⟩
theorem Pq(hu:U4 dd a j0 i=U4 dd a j0 i0)(hue:U4 dd a j0 i=i)(hv:Xj dd a i j=Xj dd a i j0)(hve:Xj dd a i j=j)(h:j<i):partLoop ltInt a i0 j0 dd=(j,dd):=by
 have b:scanUp (λx=>ltInt x dd[a]!) dd j0 i0=i:=by rw [<-hue,hu];rfl
 have c:scanDown (λx=> !ltInt x dd[a]!) dd i j0=j:=by rw [<-hve,hv];rfl
 rw [partLoop_eq,b,c,aT h]
theorem S1(hu:U4 dd a j0 i=U4 dd a j0 i0)(hue:U4 dd a j0 i=i)(hv:Xj dd a i j=Xj dd a i j0)(hve:Xj dd a i j=j)(h:¬j<i):partLoop ltInt a i0 j0 dd=partLoop ltInt a (i+1) (j-1) (swp dd i j):=by
 have b:scanUp (λx=>ltInt x dd[a]!) dd j0 i0=i:=by rw [<-hue,hu];rfl
 have c:scanDown (λx=> !ltInt x dd[a]!) dd i j0=j:=by rw [<-hve,hv];rfl
 rw [partLoop_eq,b,c,aS h]
theorem Xk(hu:Ze dd a j0 i=Ze dd a j0 i0)(hue:Ze dd a j0 i=i)(hv:dnE dd a i j=dnE dd a i j0)(hve:dnE dd a i j=j)(h:j<i):partEqLoop ltInt a i0 j0 dd=(i,dd):=by
 have b:scanUp (λx=> !ltInt dd[a]! x) dd j0 i0=i:=by rw [<-hue,hu];rfl
 have c:scanDown (λx=>ltInt dd[a]! x) dd i j0=j:=by rw [<-hve,hv];rfl
 rw [partEqLoop_eq,b,c,aT h]
theorem partE_on(hu:Ze dd a j0 i=Ze dd a j0 i0)(hue:Ze dd a j0 i=i)(hv:dnE dd a i j=dnE dd a i j0)(hve:dnE dd a i j=j)(h:¬j<i):partEqLoop ltInt a i0 j0 dd=partEqLoop ltInt a (i+1) (j-1) (swp dd i j):=by
 have b:scanUp (λx=> !ltInt dd[a]! x) dd j0 i0=i:=by rw [<-hue,hu];rfl
 have c:scanDown (λx=>ltInt dd[a]! x) dd i j0=j:=by rw [<-hve,hv];rfl
 rw [partEqLoop_eq,b,c,aS h]
theorem S3(h:partLoop ltInt a (a+1) (z-1) (swp d a p)=(j,dd)):∃q,partition ltInt d a z p=(j,q,swp dd j a):=by
 have b:=partition_fst ltInt d a z p;have c:=partition_arr ltInt d a z p;rw [h] at b c;exact ⟨(partition ltInt d a z p).2.1,Prod.ext b (Prod.ext rfl c)⟩
theorem Xl(h:partEqLoop ltInt a (a+1) (z-1) (swp d a p)=(i,dd)):partitionEqual ltInt d a z p=(i,dd):=h
theorem ijL{J:Int}{c:Int}(h1:¬((i:Int)<=J/\dd[i]! <c))(hJ:(j:Int)<=J)(h2:¬((i:Int)<=(j:Int)/\¬dd[j]! <c))(h:¬(j:Int)<(i:Int)):i<j:=by
 by_cases e:i=j
 ·subst e;exact absurd (Decidable.not_not.1 λq=>h2 ⟨Y,q⟩) λq=>h1 ⟨hJ,q⟩
 ·omega
theorem ijE{J:Int}{c:Int}(h1:¬((i:Int)<=J/\¬c<dd[i]!))(hJ:(j:Int)<=J)(h2:¬((i:Int)<=(j:Int)/\c<dd[j]!))(h:¬(j:Int)<(i:Int)):i<j:=by
 by_cases e:i=j
 ·subst e;exact absurd (show¬c<dd[i]! from λq=>h2 ⟨Y,q⟩) λq=>h1 ⟨hJ,q⟩
 ·omega
variable {de df:Array Int} {s i2:Nat} {J:Int}
theorem U5(h:(i:Int)<(z:Int)/\¬dd[i]! <dd[((i:Int)-1).toNat]!):scanSorted ltInt dd z i=scanSorted ltInt dd z (i+1):=by
 rw [show ((i:Int)-1).toNat=i-1 by omega] at h
 conv=>lhs;unfold scanSorted
 rw [aT (by unfold ltInt;simp only [Bool.and_eq_true,decide_eq_true_eq,Bool.not_eq_true',decide_eq_false_iff_not];exact ⟨Y,h.2⟩)]
theorem H5(h:¬((i:Int)<(z:Int)/\¬dd[i]! <dd[((i:Int)-1).toNat]!)):scanSorted ltInt dd z i=i:=by
 rw [show ((i:Int)-1).toNat=i-1 by omega] at h;unfold scanSorted;rw [aS (by unfold ltInt;simp only [Bool.and_eq_true,decide_eq_true_eq,Bool.not_eq_true',decide_eq_false_iff_not];exact λq=>h ⟨Y,q.2⟩)]
theorem RY(hj:1<=j)(h:dd[j]! <dd[((j:Int)-1).toNat]!):shiftDown ltInt j dd=shiftDown ltInt (j-1) ((dd.setIfInBounds j dd[((j:Int)-1).toNat]!).setIfInBounds ((j:Int)-1).toNat dd[j]!):=by
 obtain ⟨q,rfl⟩:∃q,j=q+1:=⟨j-1,Y⟩;rw [show (((q+1:Nat):Int)-1).toNat=q by omega] at h ⊢
 conv=>lhs;unfold shiftDown
 rw [aS (by unfold ltInt;simpa using h)];rfl
theorem MW(h:¬(1:Int)<=(j:Int)\/¬dd[j]! <dd[((j:Int)-1).toNat]!):shiftDown ltInt j dd=dd:=by
 cases j with
 | zero=>rfl
 | succ q=>
  rw [show (((q+1:Nat):Int)-1).toNat=q by omega] at h;unfold shiftDown;rw [aT (by unfold ltInt;simp only [Bool.not_eq_true',decide_eq_false_iff_not];rcases h with h | h;omega;exact h)]
theorem RZ(hj:(j:Int)<(z:Int))(h1:1<=j)(h:dd[j]! <dd[((j:Int)-1).toNat]!):shiftUp ltInt z j dd=shiftUp ltInt z (j+1) ((dd.setIfInBounds j dd[((j:Int)-1).toNat]!).setIfInBounds ((j:Int)-1).toNat dd[j]!):=by
 rw [show ((j:Int)-1).toNat=j-1 by omega] at h ⊢
 conv=>lhs;unfold shiftUp
 rw [aT Y,aS (by unfold ltInt;simpa using h)];rfl
theorem MX(h:¬(j:Int)<(z:Int)\/¬dd[j]! <dd[((j:Int)-1).toNat]!):shiftUp ltInt z j dd=dd:=by
 by_cases b:j<z
 ·rw [show ((j:Int)-1).toNat=j-1 by omega] at h;unfold shiftUp;rw [aT b,aT (by unfold ltInt;simp only [Bool.not_eq_true',decide_eq_false_iff_not];rcases h with h | h;omega;exact h)]
 ·unfold shiftUp;rw [aS b]
theorem Xm(he:scanSorted ltInt dd z i=i2)(h:i2=z):partialIns ltInt a z (s+1) i dd=(dd,true):=by
 rw [partialIns_succ,he,aT h]
theorem U6(he:scanSorted ltInt dd z i=i2)(h:¬i2=z)(h2:z-a<50):partialIns ltInt a z (s+1) i dd=(dd,false):=by
 rw [partialIns_succ,he,aS h,aT h2]
theorem Lm(he:scanSorted ltInt dd z i=i2)(h:¬i2=z)(h2:¬z-a<50)(hd:de=if i2-a>=2 then shiftDown ltInt (i2-1) (swp dd i2 (i2-1)) else swp dd i2 (i2-1))(hf:df=if z-i2>=2 then shiftUp ltInt z (i2+1) de else de) :
  partialIns ltInt a z (s+1) i dd=partialIns ltInt a z s i2 df:=by
 rw [partialIns_succ,he,aS h,aS h2,hf,hd];rfl
end
section
variable {P:Program} {E:Fl P} {O:Nat->aU} {ds:List Deferred} {h:L} {T:(Nat->aU)->List Deferred->L->Prop} {dst:Option Nat} {ty:aV} {pos:String} {af:Array Edge} {gd:Option (Nat×Bool)} {xt yt:aV} {x y:Operand} {a b:Int}
def Jn(a b:Int):Int:=IntKind.u64.wrap ((BitVec.ofInt 64 a ^^^ BitVec.ofInt 64 b).toNat)
def N0(a b:Int):Int:=IntKind.u64.wrap ((BitVec.ofInt 64 a &&& BitVec.ofInt 64 b).toNat)
def E1(a b:Int):Int:=IntKind.u64.wrap (a*2 ^ (min b.toNat IntKind.u64.bits))
theorem Ra(hx:AL O x=.int .u64 a)(hy:AL O y=.int .u64 b)(k:T (putS O dst (.int .u64 (Jn a b))) ds h):BS E ⟨dst,.binOp .xor xt x y yt,ty,pos,af,gd⟩ O ds h T:=Ez hx hy rfl k
theorem ok_andU(hx:AL O x=.int .u64 a)(hy:AL O y=.int .u64 b)(k:T (putS O dst (.int .u64 (N0 a b))) ds h):BS E ⟨dst,.binOp .and xt x y yt,ty,pos,af,gd⟩ O ds h T:=Ez hx hy rfl k
theorem Rb{ke:IntKind}(hx:AL O x=.int .u64 a)(hy:AL O y=.int ke b)(h0:0<=b)(k:T (putS O dst (.int .u64 (E1 a b))) ds h):BS E ⟨dst,.binOp .shl xt x y yt,ty,pos,af,gd⟩ O ds h T:=Ug hx hy h0 rfl k
theorem ok_subU(hx:AL O x=.int .u64 a)(hy:AL O y=.int .u64 b)(hr:0<=a-b/\a-b<=18446744073709551615)(k:T (putS O dst (.int .u64 (a-b))) ds h):BS E ⟨dst,.binOp .sub xt x y yt,ty,pos,af,gd⟩ O ds h T:=Ez hx hy (by
 show (pure (Value.int .u64 (IntKind.u64.wrap (a-b))):Sem aU)=_;rw [IntWalk.u64_in _ Y]) k
theorem U7(hb:0<=b/\b<=9223372036854775807):0<=N0 a b/\N0 a b<=b:=by
 unfold N0;obtain ⟨n,rfl⟩:=Int.eq_ofNat_of_zero_le hb.1;have c:(BitVec.ofInt 64 (n:Int)).toNat=n:=by rw [BitVec.toNat_ofInt];omega
 have d:(BitVec.ofInt 64 a &&& BitVec.ofInt 64 (n:Int)).toNat<=n:=by rw [BitVec.toNat_and,c];exact Nat.and_le_right
 rw [IntWalk.u64_in _ Y];omega
theorem shlU_one{k:Nat}(h:k<=60):E1 1 (k:Int)=2 ^ k:=by
 unfold E1
 have:min ((k:Int)).toNat IntKind.u64.bits=k:=by show min ((k:Int)).toNat 64=k;omega
 rw [this,Int.one_mul];have c:(2:Int) ^ k<=2 ^ 60:=by
  have:=Nat.pow_le_pow_right (show 0<2 by decide) h
  exact_mod_cast this
 have d:(0:Int)<=2 ^ k:=by
  have:=Nat.zero_le (2 ^ k)
  exact_mod_cast this
 rw [IntWalk.u64_in _ (by have:(2:Int) ^ 60=1152921504606846976:=rfl;omega)]
def tabOK(s:aW):Bool:=s.size==256 && (List.range 256).all λi=>(s.get! i).toNat==bitsLen i
theorem FS{t:aV}{x ix:Operand}{s:aW}{kd:IntKind}{i:Int}(ht:MM P t=true)(hx:AL O x=.string s)(hi:AL O ix=.int kd i)(h0:0<=i)(h1:i<((256:Nat):Int))(hs:tabOK s=true)
  (k:T (putS O dst (.int .u8 (bitsLen i.toNat:Int))) ds h):BS E ⟨dst,.index t x ix,ty,pos,af,gd⟩ O ds h T:=by
 unfold tabOK at hs;rw [Bool.and_eq_true,List.all_eq_true] at hs;have f:s.size=256:=by simpa using hs.1
 have e:=hs.2 i.toNat (List.mem_range.2 Y);refine XZ ht hx hi h0 Y ?_;have d:(s[i.toNat]' Y).toNat=bitsLen i.toNat:=by
  rw [<-(show (s.get! i.toNat).toNat=bitsLen i.toNat by simpa using e)];have c:i.toNat<s.size:=Y
  congr 1;show s.data[i.toNat]=s.data[i.toNat]!;rw [getElem!_pos s.data i.toNat c]
 rw [d];exact k
theorem MY{n k:Nat}(h:2 ^ k<=n):bitsLen n=k+bitsLen (n / 2 ^ k):=by
 have c:0<2 ^ k:=Nat.two_pow_pos k;have d:∀j,bitsLen n<=j↔k+bitsLen (n / 2 ^ k)<=j:=λj=>by
  rw [bitsLen_le_iff];constructor
  ·intro q;have f:k<j:=(Nat.pow_lt_pow_iff_right (aC:1<2)).1 (Nat.lt_of_le_of_lt h q)
   have:=(bitsLen_le_iff (n / 2 ^ k) (j-k)).2 ((Nat.div_lt_iff_lt_mul c).2 (by rw [<-Nat.pow_add,show j-k+k=j by omega];exact q))
   omega
  ·intro q;have g:=(bitsLen_le_iff (n / 2 ^ k) (j-k)).1 Y;have e:=(Nat.div_lt_iff_lt_mul c).1 g;rw [<-Nat.pow_add,show j-k+k=j by omega] at e;exact e
 have i:=(d (bitsLen n)).1 (Nat.le_refl _);have l:=(d (k+bitsLen (n / 2 ^ k))).2 (Nat.le_refl _);omega
theorem S4{n:Int}(h:65536<=n):(bitsLen n.toNat:Int)=16+bitsLen (n / 65536).toNat:=by
 rw [MY (n:=n.toNat) (k:=16) Y,show (n / 65536).toNat=n.toNat / 2 ^ 16 by omega];omega
theorem UV{n:Int}(h:256<=n):(bitsLen n.toNat:Int)=8+bitsLen (n / 256).toNat:=by
 rw [MY (n:=n.toNat) (k:=8) Y,show (n / 256).toNat=n.toNat / 2 ^ 8 by omega];omega
theorem Do{n:Nat}(h:n<4294967296):bitsLen n<=32:=(bitsLen_le_iff n 32).2 h
end
section
variable {d dd D D' R:Array Int} {a z a0 z0 p mid:Nat} {ap:Bool}
def Ff(a0 z0:Nat)(d:Array Int)(a z:Nat)(dd:Array Int):Prop:=a<=z/\z<=dd.size/\dd.size=d.size/\Below ltInt a z dd/\∀R,PermIn a z dd R->SortedIn ltInt a z R->PermIn a0 z0 d R/\SortedIn ltInt a0 z0 R
theorem Ff.start(h:a<=z)(hz:z<=d.size)(hB:Below ltInt a z d):Ff a z d a z d:=⟨h,hz,rfl,hB,λ_ x y=>⟨x,y⟩⟩
theorem Ff.perm(r:Ff a0 z0 d a z dd)(x:PermIn a z dd D):Ff a0 z0 d a z D:=
 ⟨r.1,by rw [x.1];exact r.2.1,x.1.trans r.2.2.1,r.2.2.2.1.perm r.2.1 x,λR y s=>r.2.2.2.2 R (permIn_trans _ _ _ a z x y) s⟩
theorem Ff.done(r:Ff a0 z0 d a z dd)(x:PermIn a z dd D)(s:SortedIn ltInt a z D):PermIn a0 z0 d D/\SortedIn ltInt a0 z0 D:=r.2.2.2.2 D x s
theorem Ff.ins(r:Ff a0 z0 d a z dd):PermIn a0 z0 d (insertionSort ltInt dd a z)/\SortedIn ltInt a0 z0 (insertionSort ltInt dd a z):=
 let x:=insertionSort_holds (lt:=ltInt) Lk dd a z r.1 r.2.1
 r.done x.1 x.2
theorem Ff.heap(r:Ff a0 z0 d a z dd):PermIn a0 z0 d (heapSort ltInt dd a z)/\SortedIn ltInt a0 z0 (heapSort ltInt dd a z):=
 let x:=heapSort_holds (lt:=ltInt) Lk dd a z r.1 r.2.1
 r.done x.1 x.2
theorem Ff.pins(r:Ff a0 z0 d a z dd)(h:a<z){fl:Bool}(e:partialInsertionSort ltInt dd a z=(D,fl)):Ff a0 z0 d a z D/\(fl=true->PermIn a0 z0 d D/\SortedIn ltInt a0 z0 D):=by
 have x:=partialInsertionSort_holds (lt:=ltInt) Lk dd a z h r.2.1 r.2.2.2.1;rw [e] at x;exact ⟨r.perm x.1,λq=>r.done x.1 (x.2 q)⟩
theorem Ff.eq(r:Ff a0 z0 d a z dd)(h0:0<a)(hp:a<=p/\p<z)(hl:¬dd[a-1]! <dd[p]!)(e:partitionEqual ltInt dd a z p=(mid,D)):a<mid/\mid<=z/\Ff a0 z0 d mid z D:=by
 obtain ⟨f,b,c,g,h⟩:=round_eq Lk (partitionEqual_holds ltInt) h0 hp.1 hp.2 r.2.1 r.2.2.2.1 (decide_eq_false hl) e;exact ⟨f,b,b,by rw [c];exact r.2.1,c.trans r.2.2.1,g,λR x s=>let y:=h R x s;r.2.2.2.2 R y.1 y.2⟩
theorem Ff.eq'(r:Ff a0 z0 d a z dd)(h0:0<a)(hp:a<=p/\p<z)(hl:¬dd[((a:Int)-1).toNat]! <dd[p]!)(e:partitionEqual ltInt dd a z p=(mid,D)):a<mid/\mid<=z/\Ff a0 z0 d mid z D:=
 r.eq h0 hp (by rw [show ((a:Int)-1).toNat=a-1 by omega] at hl;exact hl) e
theorem Ff.part(r:Ff a0 z0 d a z dd)(hp:a<=p/\p<z)(e:∃q,partition ltInt dd a z p=(mid,q,D)):a<=mid/\mid<z/\D.size=d.size/\z<=D.size/\Below ltInt a mid D/\Below ltInt (mid+1) z D/\
  (∀aO,PermIn a mid D aO->SortedIn ltInt a mid aO->Ff a0 z0 d (mid+1) z aO)/\(∀aO,PermIn (mid+1) z D aO->SortedIn ltInt (mid+1) z aO->Ff a0 z0 d a mid aO):=by
 obtain ⟨q,e⟩:=e;obtain ⟨i,j,b,k,l,m,n⟩:=round_part Lk (partition_holds ltInt) hp.1 hp.2 r.2.1 r.2.2.2.1 e;have o:=r.2.1;refine ⟨i,j,b.trans r.2.2.1,Y,k,l,λaO x s=>?_,λaO x s=>?_⟩
 ·obtain ⟨c,f⟩:=m aO x s
  have:=x.1
  exact ⟨Y,Y,by rw [x.1,b];exact r.2.2.1,c,λR g h=>let y:=f R g h;r.2.2.2.2 R y.1 y.2⟩
 ·obtain ⟨c,f⟩:=n aO x s
  have:=x.1
  exact ⟨i,Y,by rw [x.1,b];exact r.2.2.1,c,λR g h=>let y:=f R g h;r.2.2.2.2 R y.1 y.2⟩
theorem U8{D:Array Int}{xs:List Int}(x:PermIn 0 xs.length xs.toArray D)(s:SortedIn ltInt 0 xs.length D):D=(I7 xs).toArray:=by
 have y:=sorted_unique_holds (lt:=ltInt) Lk (λx y c e=>by simp only [ltInt,decide_eq_false_iff_not] at c e;omega) xs.toArray D (by simpa using x) (by simpa using s);rw [Kz];apply Array.toList_inj.1;rw [y];congr 1;funext a b;unfold ltInt;simp only [Bool.not_eq_eq_eq_not];by_cases h:a<=b
 ·simp [h]
 ·simp [h];omega
theorem S5{D d:Array Int}(x:PermIn 0 d.size d D/\SortedIn ltInt 0 d.size D):D=(I7 d.toList).toArray:=
 U8 (xs:=d.toList) (by simpa using x.1) (by simpa using x.2)
end
end Go.Ns
namespace Go.Ns
open Go.Conc
theorem Ia{ag:AW->Bool}{ms:List AG}{mo:Int}(hf:∀k,0<=(ms.getD k AG.z).low/\(ms.getD k AG.z).high<=99):∀f i p,Bn p->∀q ∈ A6 ag ms mo f i p,Bn q
 | 0,_,p,a,q,hq=>by
  unfold A6 at hq;split at hq
  ·rw [List.mem_singleton] at hq;subst hq;exact a
  ·cases hq
 | f+1,i,p,a,q,hq=>by
  rw [D0,List.mem_flatMap] at hq;obtain ⟨n,b,hq⟩:=hq;rw [Pg] at b
  have:=hf i
  unfold B3 at hq;rw [List.mem_append] at hq;rcases hq with hq | hq
  ·exact Ia hf f (i+1) _ (a.setMove Y) q hq
  ·split at hq
   ·exact Ia hf f (i+1) _ (a.setMove Y) q hq
   ·cases hq
theorem K3{ag:AW->Bool}{gs:List Good}{ms:List AG}{mo:Int}(hg:∀k,0<=(gs.getD k Good.z).low/\(gs.getD k Good.z).high<=99)(hf:∀k,0<=(ms.getD k AG.z).low/\(ms.getD k AG.z).high<=99) :
  ∀f i p,Bn p->∀q ∈ BR ag gs ms mo f i p,Bn q
 | 0,_,p,b,q,a=>Ia hf _ _ p b q a
 | f+1,i,p,b,q,a=>by
  rw [Eg,List.mem_flatMap] at a;obtain ⟨n,c,a⟩:=a;rw [Pg] at c
  have:=hg i
  exact K3 hg hf f (i+1) _ (b.setFirst Y) q a
theorem GL{d m:Int}{gs:List Good}{ms:List AG}{cs:List AP}(b:B5 d m gs ms cs)(mo:Int):∀k,Bn ((AT d gs ms cs mo).getD k AW.zero):=λk=>by
 by_cases h:k<(AT d gs ms cs mo).length
 ·exact K3 (λj=>⟨(b.gfew j).1,(b.gfew j).2.2.1⟩) (λj=>⟨(b.few j).1,(b.few j).2.2.1⟩) _ _ _ Bn.zero _ (E7 h)
 ·rw [EN Y];exact Bn.zero
def CU(n:Nat)(f:Nat->Int):List Int:=DL (I7 ((List.range n).map f))
theorem Ib{n:Nat}{f:Nat->Int}(h:0<n):(List.range n).map f≠[]:=by
 intro e
 have:=congrArg List.length e
 simp at this;omega
section
variable (d m:Int) (gs:List Good) (ms:List AG) (cs:List AP)
def Dc(g dy:Int):Int:=Ap d m gs ms cs [if (decide (0<=g/\g<=(gs.length:Int)-1)) then (0:Int) else 6,if (decide (0<=dy/\dy<=d)) then (0:Int) else 1]
def It(g dy:Int):List Int:=if Dc d m gs ms cs g dy=0 then CU (AT d gs ms cs m).length (λ(i:Nat)=>(AQ ms ((AT d gs ms cs m).getD ((i:Int)).toNat AW.zero) g dy).1) else []
def FT(mv:Int):Int:=Ap d m gs ms cs [if (decide (0<=mv/\mv<=(ms.length:Int)-1)) then (0:Int) else 6]
def H6(mv:Int):List Int:=if FT d m gs ms cs mv=0 then CU (AT d gs ms cs m).length (λ(i:Nat)=>Cd ((AT d gs ms cs m).getD ((i:Int)).toNat AW.zero) (mv).toNat) else []
def DZ(mv:Int):Int:=Ap d m gs ms cs [if (decide ((0<=mv/\mv<=(ms.length:Int)-1)/\(ms.getD (mv).toNat AG.z).kind=0)) then (0:Int) else 6]
def Ic(ps:List AW)(i:Nat):Nat:=(ps.filter λp=>p.lies i).length
def N1(n l:Nat):Int:=if n=0 then 2 else if n=l then 1 else 0
def F0(mv:Int):Int:=if DZ d m gs ms cs mv=0 then N1 (Ic (AT d gs ms cs m) (mv).toNat) (AT d gs ms cs m).length else 0
end
theorem N2{p:Prop}[Decidable p]{c:Int}(hc:c≠0){o:List Int}(h:∀k,k<(((if decide p then (0:Int) else c) ::o)).length->(((if decide p then (0:Int) else c) ::o)).getD k 0=0):p:=by
 have:=h 0 aD
 by_cases a:p
 ·exact a
 ·simp [a] at this;exact absurd this hc
theorem N3{x:Int}{o:List Int}(h:∀k,k<(x ::o).length->(x ::o).getD k 0=0):∀k,k<o.length->o.getD k 0=0:=λk a=>by
 have:=h (k+1) (by simp;omega)
 simpa using this
theorem own_2{p q:Prop}[Decidable p][Decidable q]{c e:Int}(hc:c≠0)(he:e≠0){o:List Int}(h:∀k,k<(((if decide p then (0:Int) else c) ::(if decide q then (0:Int) else e) ::o)).length->(((if decide p then (0:Int) else c) ::(if decide q then (0:Int) else e) ::o)).getD k 0=0):p/\q:=
 ⟨N2 hc h,N2 he (N3 h)⟩
theorem own_3{p q r:Prop}[Decidable p][Decidable q][Decidable r]{c e f:Int}(hc:c≠0)(he:e≠0)(hf:f≠0){o:List Int}(h:∀k,k<(((if decide p then (0:Int) else c) ::(if decide q then (0:Int) else e) ::(if decide r then (0:Int) else f) ::o)).length->(((if decide p then (0:Int) else c) ::(if decide q then (0:Int) else e) ::(if decide r then (0:Int) else f) ::o)).getD k 0=0):p/\q/\r:=
 ⟨N2 hc h,own_2 he hf (N3 h)⟩
theorem G7{U:Type}{l:List U}{k:Nat}(z:U)(h:k<l.length):l.take (k+1)=l.take k++[l.getD k z]:=by
 rw [List.take_add_one,List.getElem?_eq_getElem h,List.getD_eq_getElem?_getD,List.getElem?_eq_getElem h];rfl
theorem lies_t{ps:List AW}{k q i:Nat}(hk:k<ps.length)(h:q=Ic (ps.take k) i)(e:(ps.getD k AW.zero).lies i=true):q+1=Ic (ps.take (k+1)) i:=by
 unfold Ic at *;rw [G7 AW.zero hk,List.filter_append,List.length_append,<-h,List.filter_cons,aT e];rfl
theorem lies_f{ps:List AW}{k q i:Nat}(hk:k<ps.length)(h:q=Ic (ps.take k) i)(e:(ps.getD k AW.zero).lies i=false):q=Ic (ps.take (k+1)) i:=by
 unfold Ic at *;rw [G7 AW.zero hk,List.filter_append,List.length_append,<-h,List.filter_cons,aS (by rw [e];decide)];rfl
theorem PA{d m:Int}{gs:List Good}{ms:List AG}{cs:List AP}{mv:Int}(h:¬DZ d m gs ms cs mv=0):F0 d m gs ms cs mv=0:=by unfold F0;rw [aS h]
theorem Id{d m:Int}{gs:List Good}{ms:List AG}{cs:List AP}{mv:Int}{k q:Nat}(h:DZ d m gs ms cs mv=0)(hq:q=Ic ((AT d gs ms cs m).take k) (mv).toNat)(hk:(AT d gs ms cs m).length<=k):F0 d m gs ms cs mv=N1 q (AT d gs ms cs m).length:=by
 unfold F0;rw [aT h,hq,List.take_of_length_le hk]
theorem I8{ms:List AG}{p:AW}{g dy:Int}(hp:Bn p):∀(f k:Nat)(n low B:Int),-B<=n/\n<=B->-(B+99*(f:Int))<=(Cx ms p g dy f k n low).1/\(Cx ms p g dy f k n low).1<=B+99*(f:Int)
 | 0,k,n,low,B,h=>by unfold Cx;simpa using h
 | f+1,k,n,low,B,h=>by
  unfold Cx;split
  ·show-(B+99*((f+1:Nat):Int))<=n/\n<=B+99*((f+1:Nat):Int);omega
  ·have:=I8 (ms:=ms) (g:=g) (dy:=dy) hp f (k+1) (G1 ms p g k n) (GB ms k low (G1 ms p g k n)) (B+99) (by
    unfold G1
    have:=Kr (k:=(ms.getD k AG.z).kind.toNat) (Ge hp k)
    split <;> omega)
   omega
theorem Ht{ms:List AG}{p:AW}{g dy:Int}(hp:Bn p)(hm:ms.length<=6): -693<=(AQ ms p g dy).1/\(AQ ms p g dy).1<=693:=by
 have a:=hp.1 g.toNat
 have:=I8 (ms:=ms) (g:=g) (dy:=dy) hp ms.length 0 (p.first g.toNat) (p.first g.toNat) 99 Y
 unfold AQ;omega
theorem Iu{x:Int}:∀(l acc:List Int),x ∈ l.foldl Is acc->x ∈ acc\/x ∈ l
 | [],acc,h=>.inl h
 | y ::l,acc,h=>by
  rcases Iu l _ h with h | h
  ·unfold Is at h;split at h
   ·exact .inl h
   ·rcases List.mem_append.1 h with h | h
    ·exact .inl h
    ·rw [List.mem_singleton] at h;exact .inr (by rw [h];exact List.mem_cons_self ..)
  ·exact .inr (List.mem_cons_of_mem _ h)
theorem I9:∀(l acc:List Int),acc≠[]\/l≠[]->l.foldl Is acc≠[]
 | [],acc,h=>by
  rcases h with h | h
  ·exact h
  ·exact absurd rfl h
 | y ::l,acc,h=>I9 l _ (.inl λe=>by
   have:=Ny acc y
   rw [e] at this;cases this)
theorem Jd{n:Nat}(f:Nat->Int)(h:0<n):0<(CU n f).length:=by
 have:CU n f≠[]:=I9 _ _ (.inr (Sw (Ib h)))
 exact List.length_pos_iff.2 this
theorem Xn{n:Nat}{f:Nat->Int}{x:Int}(h:x ∈ CU n f):∃i,i<n/\f i=x:=by
 rcases Iu _ _ h with h | h
 ·cases h
 ·rw [Kz] at h
  have:=List.mem_mergeSort.1 h
  obtain ⟨i,a,e⟩:=List.mem_map.1 this;exact ⟨i,List.mem_range.1 a,e⟩
def CC(l:List Int):Int:=l.getD 0 0
def DS(l:List Int):Int:=l.getD ((l.length:Int)-1).toNat 0
theorem U9{n:Nat}{f:Nat->Int}{A B:Int}(h:∀i,A<=f i/\f i<=B)(hn:0<n):(A<=CC (CU n f)/\CC (CU n f)<=B)/\A<=DS (CU n f)/\DS (CU n f)<=B:=by
 have a:=Jd f hn;have q:∀k,k<(CU n f).length->A<=(CU n f).getD k 0/\(CU n f).getD k 0<=B:=λk b=>by
  obtain ⟨i,_,e⟩:=Xn (E7 (d:=0) b);rw [<-e];exact h i
 exact ⟨q 0 a,q _ Y⟩
def Ce(ms:List AG)(p:AW)(g a b:Int):Nat->Int
 | 0=>0
 | k+1=>Ce ms p g a b k+(if ((ms.getD k AG.z).kind=2/\(ms.getD k AG.z).good=g)/\a<=(ms.getD k AG.z).day/\(ms.getD k AG.z).day<=b then Cd p k else 0)
theorem K5{ms:List AG}{p:AW}{g a b:Int}(hp:Bn p):∀k:Nat,0<=Ce ms p g a b k/\Ce ms p g a b k<=99*(k:Int)
 | 0=>by unfold Ce;omega
 | k+1=>by
  have:=K5 (ms:=ms) (g:=g) (a:=a) (b:=b) hp k
  have:=Ge hp k
  unfold Ce;split <;> omega
def CZ(gs:List Good)(ms:List AG)(p:AW)(dy:Int):Nat->Int
 | 0=>0
 | k+1=>CZ gs ms p dy k+(gs.getD k Good.z).cost*(AQ ms p (k:Int) dy).1
theorem Gn{a b A B:Int}(ha:0<=a/\a<=A)(hb: -B<=b/\b<=B): -(A*B)<=a*b/\a*b<=A*B:=by
 have c:0<=B:=Y
 have e:a*B<=A*B:=Int.mul_le_mul_of_nonneg_right ha.2 c;have f:a*b<=a*B:=Int.mul_le_mul_of_nonneg_left hb.2 ha.1;have d:a*(-B)<=a*b:=Int.mul_le_mul_of_nonneg_left hb.1 ha.1;rw [Int.mul_neg] at d;omega
theorem Jv{gs:List Good}{ms:List AG}{p:AW}{dy:Int}(hp:Bn p)(hm:ms.length<=6)(hc:∀k,0<=(gs.getD k Good.z).cost/\(gs.getD k Good.z).cost<=999):∀k:Nat,-(692307*(k:Int))<=CZ gs ms p dy k/\CZ gs ms p dy k<=692307*(k:Int)
 | 0=>by unfold CZ;omega
 | k+1=>by
  have:=Jv (dy:=dy) hp hm hc k
  have:=Gn (hc k) (Ht (g:=(k:Int)) (dy:=dy) hp hm)
  unfold CZ;omega
theorem B5.costs{d m:Int}{gs:List Good}{ms:List AG}{cs:List AP}(b:B5 d m gs ms cs):∀k,0<=(gs.getD k Good.z).cost/\(gs.getD k Good.z).cost<=999:=λk=>by
 by_cases h:k<gs.length
 ·exact (b.good' h).1
 ·rw [EN Y];decide
section
variable (d m:Int) (gs:List Good) (ms:List AG) (cs:List AP)
def H7(g a b:Int):Int:=Ap d m gs ms cs [if (decide (0<=g/\g<=(gs.length:Int)-1)) then (0:Int) else 6,if (decide (1<=a/\a<=d)) then (0:Int) else 1,if (decide (a<=b/\b<=d)) then (0:Int) else 1]
def XF(g a b:Int):List Int:=CU (AT d gs ms cs m).length (λ(i:Nat)=>Ce ms ((AT d gs ms cs m).getD ((i:Int)).toNat AW.zero) g a b ms.length)
def Rc(g a b:Int):Int:=if H7 d m gs ms cs g a b=0 then CC (XF d m gs ms cs g a b) else 0
def Re(g a b:Int):Int:=if H7 d m gs ms cs g a b=0 then DS (XF d m gs ms cs g a b) else 0
def B8(dy:Int):Int:=Ap d m gs ms cs [if (decide (0<=dy/\dy<=d)) then (0:Int) else 1]
def K6(dy:Int):List Int:=CU (AT d gs ms cs m).length (λ(i:Nat)=>CZ gs ms ((AT d gs ms cs m).getD ((i:Int)).toNat AW.zero) dy gs.length)
def CM(dy:Int):Int:=if B8 d m gs ms cs dy=0 then CC (K6 d m gs ms cs dy) else 0
def CN(dy:Int):Int:=if B8 d m gs ms cs dy=0 then DS (K6 d m gs ms cs dy) else 0
end
def Je(d:Int)(ms:List AG)(ps:List AW)(g:Int):List Int:=CU ps.length (λ(i:Nat)=>(AQ ms (ps.getD ((i:Int)).toNat AW.zero) g d).1)
theorem S6{d:Int}{ms:List AG}{ps:List AW}{g:Int}(hp:∀k,Bn (ps.getD k AW.zero))(hm:ms.length<=6)(hn:0<ps.length):(-693<=CC (Je d ms ps g)/\CC (Je d ms ps g)<=693)/\-693<=DS (Je d ms ps g)/\DS (Je d ms ps g)<=693:=
 U9 (λ_=>Ht (hp _) hm) hn
section
variable (d m:Int) (gs:List Good) (ms:List AG) (cs:List AP)
def Gp(g r:Int):Int:=Ap d m gs ms cs [if (decide (0<=g/\g<=(gs.length:Int)-1)) then (0:Int) else 6,if (decide (1<=r/\r<=99)) then (0:Int) else 1]
def M8(g r:Int):Int:=if Gp d m gs ms cs g r=0 then (CC (Je d ms (AT d gs ms cs m) g)).tdiv r else 0
def M9(g r:Int):Int:=if Gp d m gs ms cs g r=0 then (DS (Je d ms (AT d gs ms cs m) g)).tdiv r else 0
end
theorem AN.offKnown{U:Type}{h0 h:L}{v:aU}{t:aV}{n:Nat}{enc:U->Array aU}{xs:List U}{ms:List AG}{ps:List AW}{r:Nat}(x:AN h0 h v t n enc xs)(m:Aj ms ps r h):BL v r:=λe=>by
 obtain ⟨b,a⟩:=x.cellsAt r e;exact m.neCells a rfl
section
variable (d m:Int) (gs:List Good) (ms:List AG) (cs:List AP)
def HZ(ls:List Int)(r:Int):Int:=Ap d m gs ms cs [A4 ls (gs.length:Int),if (decide (0<=r/\r<=99)) then (0:Int) else 1]
def F1(ls:List Int)(r:Int)(k:Nat):Int:=(max 0 ((ls.getD k 0)*r-(CC (Je d ms (AT d gs ms cs m) (k:Int))))+(gs.getD k Good.z).pack-1) / ((gs.getD k Good.z).pack)
def E2(ls:List Int)(r:Int):Nat->Int
 | 0=>0
 | k+1=>E2 ls r k+(F1 d m gs ms cs ls r k)*((gs.getD k Good.z).pack)*((gs.getD k Good.z).cost)
def Xo(ls:List Int)(r:Int):List Int:=if HZ d m gs ms cs ls r=0 then (List.range gs.length).map (F1 d m gs ms cs ls r) else []
def NA(ls:List Int)(r:Int):Int:=if HZ d m gs ms cs ls r=0 then E2 d m gs ms cs ls r gs.length else 0
end
theorem Rf{d m:Int}{gs:List Good}{ms:List AG}{cs:List AP}{ls:List Int}{r:Int}{k:Nat}(hl:0<=ls.getD k 0/\ls.getD k 0<=99)(hr:0<=r/\r<=99)(hp:1<=(gs.getD k Good.z).pack/\(gs.getD k Good.z).pack<=20)
  (hs: -693<=CC (Je d ms (AT d gs ms cs m) (k:Int))/\CC (Je d ms (AT d gs ms cs m) (k:Int))<=693):(0<=F1 d m gs ms cs ls r k/\F1 d m gs ms cs ls r k<=10600):=by
 have e:=Gn (a:=ls.getD k 0) (b:=r) (A:=99) (B:=99) hl Y;unfold F1;have c:0<=max 0 ((ls.getD k 0)*r-(CC (Je d ms (AT d gs ms cs m) (k:Int))))+(gs.getD k Good.z).pack-1:=Y
 refine ⟨Int.ediv_nonneg c Y,Int.le_trans (Int.ediv_le_self _ c) Y⟩
theorem JA{p a c:Int}(hp:0<=p/\p<=10600)(ha:1<=a/\a<=20)(hc:0<=c/\c<=999):(0<=p*a/\p*a<=212000)/\0<=p*a*c/\p*a*c<=211788000:=by
 have e:=Gn (a:=p) (b:=a) (A:=10600) (B:=20) hp Y;have d:0<=p*a:=Int.mul_nonneg hp.1 Y;have f:=Gn (a:=p*a) (b:=c) (A:=212000) (B:=999) Y Y;have g:0<=p*a*c:=Int.mul_nonneg d hc.1;omega
theorem S7{d m:Int}{gs:List Good}{ms:List AG}{cs:List AP}{ls:List Int}{r:Int}{k:Nat}(hp:0<=F1 d m gs ms cs ls r k/\F1 d m gs ms cs ls r k<=10600)(ha:1<=(gs.getD k Good.z).pack/\(gs.getD k Good.z).pack<=20)(hc:0<=(gs.getD k Good.z).cost/\(gs.getD k Good.z).cost<=999)
  (h:0<=E2 d m gs ms cs ls r k/\E2 d m gs ms cs ls r k<=211788000*(k:Int)):0<=E2 d m gs ms cs ls r (k+1)/\E2 d m gs ms cs ls r (k+1)<=211788000*((k+1:Nat):Int):=by
 have:=JA hp ha hc
 unfold E2;omega
theorem nums_few{l:List Int}{n:Int}(h:¬(l.length:Int)=n):(Value.int .i64 2)=.int .i64 (A4 l n):=by unfold A4;rw [aT h]
theorem nums_any{l:List Int}{n:Int}(h:(l.length:Int)=n):(Value.int .i64 (if (!(l.any (λx=>decide (¬(0<=x/\x<=99))))) then (0:Int) else 1))=.int .i64 (A4 l n):=by
 have e:A4 l n=if l.any (λx=>decide (¬(0<=x/\x<=99))) then 1 else 0:=by unfold A4;rw [aS (λq=>q h)]
 rw [e];cases l.any (λx=>decide (¬(0<=x/\x<=99))) <;> rfl
section
variable {P:Program} {E:Fl P} {O:Nat->aU} {ds:List Deferred} {h:L} {T:(Nat->aU)->List Deferred->L->Prop}
variable {dst:Option Nat} {ty:aV} {pos:String} {af:Array Edge} {gd:Option (Nat×Bool)}
def fieldP(P:Program)(s:aV)(f:Nat)(cs:Array aU):Option aU:=match P.underlying s with
 | some (.struct fields)=>match fields[f]? with
  | some fl=>Gx P fl.type cs fl.offset
  | none=>none
 | _=>none
theorem Xp{t:aV}{x:Operand}{f:Nat}{cs:Array aU}{v:aU}(hx:AL O x=.agg cs)(hp:fieldP P t f cs=some v)(k:T (putS O dst v) ds h):BS E ⟨dst,.field t x f,ty,pos,af,gd⟩ O ds h T:=by
 refine Zv (v:=v) ?_ k;rw [hx];unfold fieldP at hp;unfold Instr.field;cases a:P.underlying t with
 | none=>rw [a] at hp;cases hp
 | some d=>
  rw [a] at hp;cases d <;> first | (cases hp;done) | skip
  rename_i fields
  refine AE _ _ (Ai a ?_);simp only at hp ⊢;cases b:fields[f]? with
  | none=>rw [b] at hp;cases hp
  | some c=>
   rw [b] at hp;simp only at hp ⊢;exact Gy hp ⟨rfl,rfl⟩
theorem XG{xt yt:aV}{x y:Operand}{a b:Int}(hx:AL O x=.int .i64 a)(hy:AL O y=.int .i64 b)(ha: -9223372036854775807<=a)(ha':a<=9223372036854775807)(hb:0<b)(k:T (putS O dst (.int .i64 (a.tdiv b))) ds h) :
  BS E ⟨dst,.binOp .quo xt x y yt,ty,pos,af,gd⟩ O ds h T:=Ez hx hy (by
 show (if b=0 then _ else (pure (Value.int .i64 (IntKind.i64.wrap (a.tdiv b))):Sem aU))=_;rw [aS Y];have c:(a.tdiv b).natAbs<=a.natAbs:=by rw [Int.natAbs_tdiv];exact Nat.div_le_self _ _
 rw [IntWalk.i64_in _ Y]) k
end
def E8(hB:L)(ms:List AG)(pasts:List AW)(r:Nat)(h h':L):Prop:=BP (λb=>b=r) h h'/\(Aj ms pasts r h->Aj ms pasts r h')/\(hB.Le h->hB.Le h')
section
variable {hB h hc h':L} {ms:List AG} {pasts:List AW} {r:Nat}
theorem E8.refl(h:L):E8 hB ms pasts r h h:=⟨BP.refl _ _,id,id⟩
theorem E8.trans(a b c:L)(x:E8 hB ms pasts r a b)(y:E8 hB ms pasts r b c):E8 hB ms pasts r a c:=⟨x.1.trans (λ_ q=>.inl q) y.1,λz=>y.2.1 (x.2.1 z),λz=>y.2.2 (x.2.2 z)⟩
theorem E8.ofRes(m:Iw hB ms pasts r h h'):E8 hB ms pasts r h h':=⟨m.2.1,λ_=>m.1,λ_=>m.2.2⟩
theorem CQ.rel(y:CQ hB ms pasts r h hc)(m:E8 hB ms pasts r hc h'):CQ hB ms pasts r h h':=⟨m.2.1 y.ok,y.keep.trans (λ_ q=>.inl q) m.1,m.2.2 y.base⟩
theorem CQ.callDel(y:CQ hB ms pasts r h hc)(l:hB.Le (hc.del r))(m:Iw (hc.del r) ms pasts r hc h'):CQ hB ms pasts r h h':=⟨m.1,y.keep.trans (λ_ q=>.inl q) m.2.1,l.trans m.2.2⟩
end
section
variable {P:Program} {E:Fl P} {O:Nat->aU} {ds:List Deferred} {h hB:L} {ms:List AG} {pasts:List AW} {r:Nat}
theorem Pr{id:Nat}{l:List Oper}{Q:Post}(n:Nat)(cls:List (List Nat))(Φ:List O0)(hm:P.follows .mixedOrders=true)(ok:NO E.N l n cls=true)(mono:FI (E8 hB ms pasts r) Φ)(x:Km (E8 hB ms pasts r) E l n Φ O ds h Q n 0 l cls) :
  Tr E (.region id l.toArray true) O ds h Q:=SR E8.refl E8.trans n cls Φ hm ok mono x
end
theorem D1.leOf{h0 h:L}(k:D1 (λb=>h0 b=none) h0 h):h0.Le h:=λb p o a=>k.1 b p o a λ(e:h0 b=none)=>by rw [a] at e;cases e
theorem AN.offTy{U:Type}{h0 h:L}{v:aU}{t T:aV}{n:Nat}{enc:U->Array aU}{xs:List U}(x:AN h0 h v t n enc xs){r:Nat}{p:Bool}{c:Array aU}{f:Nat×Nat}(hr:h r=some (p,.cells c T f))(ne:t≠T):BL v r:=λe=>by
 obtain ⟨b,a⟩:=x.cellsAt r e;rw [a] at hr;simp only [Option.some.injEq,Prod.mk.injEq,Obj.cells.injEq] at hr;exact ne hr.2.2.1
section
variable {P:Program} {E:Fl P} {O:Nat->aU} {ds:List Deferred} {h:L} {T:(Nat->aU)->List Deferred->L->Prop}
variable {dst:Option Nat} {ty:aV} {pos:String} {af:Array Edge} {gd:Option (Nat×Bool)}
end
section
variable {h h':L} {q r:Nat} {M:Int->Option Int}
theorem Ef.keepNum(x:Ef h q EX EX M)(k:BP (λb=>b=r) h h')(hq:q≠r):Ef h' q EX EX M:=by
 obtain ⟨d,a,e,y⟩:=x;obtain ⟨o,f,c⟩:=k q _ _ e hq;rcases c with rfl | ⟨c,_⟩
 ·exact ⟨d,a,f,y⟩
 ·cases c
end
section
variable {P:Program} {E:Fl P} {O:Nat->aU} {ds:List Deferred} {h:L} {T:(Nat->aU)->List Deferred->L->Prop}
variable {dst:Option Nat} {ty:aV} {pos:String} {af:Array Edge} {gd:Option (Nat×Bool)}
theorem N4{t kt vt:aV}{x ix:Operand}{r d:Nat}{M:Int->Option Int}{a:Int}(ht:H0 P t=some (kt,vt))(hx:AL O x=.map (some r))(hk:AL O ix=.int .i64 a)(hm:Ef h r EX EX M)(hd:Nat.ble (d+1) 10000=true)
  (hc:∀a,Uh P (d+1) kt (EX a)=true) (he:∀a b,MO P (d+1) kt (EX a) (EX b)=some (a==b)) (hz:(P.info? vt).bind (·.zero)=some (.int .i64 0))
  (k:T (putS O dst (.int .i64 ((M a).getD 0))) ds h):BS E ⟨dst,.lookup t x ix false,ty,pos,af,gd⟩ O ds h T:=by
 refine Lg (ek:=EX) (ev:=EX) (a:=a) (z:=.int .i64 0) ht hx hk hm hd (hc _) (λb=>he a b) hz ?_;cases c:M a <;> (rw [c] at k;exact k)
theorem Xq{t kt vt:aV}{om ok ox:Operand}{r d:Nat}{M:Int->Option Int}{a n:Int}(ht:H0 P t=some (kt,vt))(hm':AL O om=.map (some r))(hk:AL O ok=.int .i64 a)(hv:AL O ox=.int .i64 n)(hm:Ef h r EX EX M)(hd:Nat.ble (d+1) 10000=true)
  (hc:∀a,Uh P (d+1) kt (EX a)=true) (he:∀a b,MO P (d+1) kt (EX a) (EX b)=some (a==b)) (hs:∀a,Instr.sameBits 10000 (EX a) (EX a)=true)
  (k:∀h',Ef h' r EX EX (λb=>if b=a then some n else M b)->(∀b,b≠r->h' b=h b)->T (putS O dst undef) ds h'):BS E ⟨dst,.mapUpdate t om ok ox,ty,pos,af,gd⟩ O ds h T:=
 IO (a:=a) (v:=n) (ek:=EX) (ev:=EX) ht hm' hk hv hm hd (hc _) (λb=>he a b) (hs _) k
end
theorem Rh(a:Int):Instr.sameBits 10000 (EX a) (EX a)=true:=by
 show Instr.sameBits (9999+1) (Value.int .i64 a) (Value.int .i64 a)=true;unfold Instr.sameBits;simp
def GM(f:Nat->Int):Nat->Int->Option Int
 | 0=>λ_=>none
 | k+1=>λb=>if b=f k then some ((GM f k (f k)).getD 0+1) else GM f k b
theorem JB(f:Nat->Int):∀(k:Nat)(b:Int),0<=(GM f k b).getD 0/\(GM f k b).getD 0<=(k:Int)
 | 0,b=>by simp [GM]
 | k+1,b=>by
  have a:=JB f k b;have c:=JB f k (f k);unfold GM;split
  ·show 0<=(GM f k (f k)).getD 0+1/\(GM f k (f k)).getD 0+1<=((k+1:Nat):Int);omega
  ·omega
def Jw(f:Nat->Int):Nat->Int
 | 0=>0
 | k+1=>max (Jw f k) ((GM f (k+1) (f k)).getD 0)
def EP(w:Nat->Int)(n:Int):Nat->Int×Int
 | 0=>(-1,n)
 | k+1=>if w k<(EP w n k).2 then ((k:Int),w k) else EP w n k
section
variable (d m:Int) (gs:List Good) (ms:List AG) (cs:List AP)
def Jf:Int:=Ap d m gs ms cs []
def G8(g:Nat):Int:=Jw (λi=>(AQ ms ((AT d gs ms cs m).getD ((i:Int)).toNat AW.zero) (g:Int) d).1) (AT d gs ms cs m).length
def NB:Int:=if Jf d m gs ms cs=0 then (EP (G8 d m gs ms cs) ((AT d gs ms cs m).length:Int) gs.length).1 else 0
def K7:Int:=if Jf d m gs ms cs=0 then (EP (G8 d m gs ms cs) ((AT d gs ms cs m).length:Int) gs.length).2 else 0
end
end Go.Ns
namespace Go.Ns
open Go.Conc
open Classical in
noncomputable def L.delS (h:L) (X:Nat->Prop):L:=λb=>if X b then none else h b
section
variable {h h0 h':L} {X:Nat->Prop}
theorem L.delS_in{b:Nat}(x:X b):h.delS X b=none:=aT x
theorem L.delS_ne{b:Nat}(x:¬X b):h.delS X b=h b:=aS x
theorem L.delS_le(h:L)(X:Nat->Prop):(h.delS X).Le h:=λb p o a=>by
 by_cases e:X b
 ·rw [L.delS_in e] at a;cases a
 ·rw [L.delS_ne e] at a;exact ⟨o,a,.inl rfl⟩
theorem L.Le.delS(l:h0.Le h)(hX:∀b,X b->h0 b=none):h0.Le (h.delS X):=λb p o a=>by
 have e:¬X b:=λx=>by rw [hX b x] at a;cases a
 rw [L.delS_ne e];exact l b p o a
theorem AX.delS{b off n:Nat}{vs:Array aU}(x:AX h b off n vs)(e:¬X b):AX (h.delS X) b off n vs:=x.same (L.delS_ne e)
theorem AN.slDelS{U:Type}{v:aU}{t:aV}{n:Nat}{enc:U->Array aU}{xs:List U}(x:AN h0 h v t n enc xs)(f:∀b,Bv v=some b->¬X b):AJ (h.delS X) v n enc xs:=
 AN.sl (h0:=h0) (x.keep λb o a c=>by rw [L.delS_ne (f b a)];exact c)
theorem AN.rebase{U:Type}{h1:L}{v:aU}{t:aV}{n:Nat}{enc:U->Array aU}{xs:List U}(x:AN h0 h v t n enc xs)(f:∀b,Bv v=some b->h1 b=none):AN h1 h v t n enc xs:=by
 rcases x with x | ⟨b,a,c,rfl,e,d⟩
 ·exact .inl x
 ·exact .inr ⟨b,a,c,rfl,f b rfl,d⟩
end
def mkD(d:Nat):Deferred:={ target:=.collected d,args:=#[] }
def G9(h0 h:L)(ds:List Deferred):Prop:=∃l:List Nat,ds=l.map mkD/\l.Nodup/\∀d ∈ l,h0 d=none/\h d=some (true,.deferred (some []))
theorem G9.nil(h0 h:L):G9 h0 h []:=⟨[],rfl,List.nodup_nil,λ_ a=>by cases a⟩
theorem G9.le{h0 h h':L}{ds:List Deferred}(m:G9 h0 h ds)(l:h.Le h'):G9 h0 h' ds:=by
 obtain ⟨b,e,n,x⟩:=m;exact ⟨b,e,n,λd a=>⟨(x d a).1,l.keep (x d a).2 rfl⟩⟩
theorem G9.cons{h0 h h':L}{ds:List Deferred}{d:Nat}(m:G9 h0 h ds)(l:h.Le h')(hn:h d=none)(h0n:h0 d=none)(hd:h' d=some (true,.deferred (some []))):G9 h0 h' ({ target:=.collected d,args:=#[] } ::ds):=by
 obtain ⟨a,rfl,n,x⟩:=m;refine ⟨d ::a,rfl,List.nodup_cons.2 ⟨λc=>?_,n⟩,λb hb=>?_⟩
 ·rw [(x d c).2] at hn;cases hn
 ·rcases List.mem_cons.1 hb with rfl | hb
  ·exact ⟨h0n,hd⟩
  ·exact ⟨(x b hb).1,l.keep (x b hb).2 rfl⟩
def SameM(h h':L):Prop:=∀b,h b≠some (true,.deferred (some []))->h' b=h b
theorem AJ.sameM{U:Type}{h h':L}{v:aU}{n:Nat}{enc:U->Array aU}{xs:List U}(x:AJ h v n enc xs)(s:SameM h h'):AJ h' v n enc xs:=by
 obtain ⟨a,d,j,k,l,m⟩:=x;refine ⟨a,d,j,k,l,λi o=>?_⟩;obtain ⟨b,f,r,g⟩:=m i o;refine ⟨b,f,r,g.same (s b λe=>?_)⟩;obtain ⟨p,c,t,z,q,_⟩:=g;rw [e] at q;cases q
theorem N5{P:Program}{fn:Func}{O:Nat->aU}{R:aU->L->Prop}{h0:L}:∀{ds:List Deferred}{h:L},G9 h0 h ds->h0.Le h->(∀h',SameM h h'->h0.Le h'->Fp P fn O R [] h')->Fp P fn O R ds h:=by
 intro ds h ⟨l,e,n,x⟩ g k;subst e
 induction l generalizing h with
 | nil=>exact k h (λ_ _=>rfl) g
 | cons d l j=>
  have f:=x d (List.mem_cons_self ..);refine ⟨d,rfl,_,f.2,rfl,?_⟩;have i:=List.nodup_cons.1 n;have c:∀b,b≠d->(h.set d true (.deferred none)) b=h b:=λb a=>L.set_ne _ _ _ a;refine j i.2 (λb a=>?_) (g.upd f.1 c) λh' s m=>k h' (λb a=>?_) m
  ·have:=x b (List.mem_cons_of_mem _ a)
   exact ⟨this.1,(c b λe=>i.1 (e▸a)).trans this.2⟩
  ·have e:b≠d:=λe=>a (e▸f.2);rw [s b (by rw [c b e];exact a),c b e]
theorem N6{U:Type}{enc:U->Array aU}{n:Nat}:∀{xs:List U},(∀x ∈ xs,(enc x).size=n)->∀(i:Nat)(z:U),i<xs.length->C7 enc xs=C7 enc (xs.take i)++(enc (xs.getD i z)).toList++C7 enc (xs.drop (i+1))
 | [],_,i,z,h=>by simp at h
 | y ::xs,a,0,z,h=>by simp [C7]
 | y ::xs,a,i+1,z,h=>by
  have:=N6 (λx b=>a x (List.mem_cons_of_mem _ b)) i z (by simpa using h)
  show (enc y).toList++C7 enc xs=((enc y).toList++C7 enc (xs.take i))++(enc (xs.getD i z)).toList++C7 enc (xs.drop (i+1));rw [this];simp only [List.append_assoc]
theorem S8{U:Type}{enc:U->Array aU}:∀{xs:List U}(i:Nat)(x:U),i<xs.length->C7 enc (xs.set i x)=C7 enc (xs.take i)++(enc x).toList++C7 enc (xs.drop (i+1))
 | [],i,x,h=>by simp at h
 | y ::xs,0,x,h=>by simp [C7]
 | y ::xs,i+1,x,h=>by
  have:=S8 (enc:=enc) (xs:=xs) i x (by simpa using h)
  show (enc y).toList++C7 enc (xs.set i x)=((enc y).toList++C7 enc (xs.take i))++(enc x).toList++C7 enc (xs.drop (i+1));rw [this];simp only [List.append_assoc]
theorem AN.put{U:Type}{h0 h h':L}{t:aV}{n cap b i dl:Nat}{enc:U->Array aU}{xs:List U}{c:Array aU}{vs:List aU}{x':U}(z:U)(x:AN h0 h (.slice (some ⟨b,0,none⟩) xs.length cap) t n enc xs)(hb:h b=some (true,.cells c t (0,0)))
  (hi:i<xs.length) (hz:dl+vs.length<=n) (heq:BN (enc (xs.getD i z)) dl vs=enc x') (hb':h' b=some (true,.cells (BN c (i*n+dl) vs) t (0,0))):AN h0 h' (.slice (some ⟨b,0,none⟩) xs.length cap) t n enc (xs.set i x'):=by
 rcases x with ⟨e,_⟩ | ⟨v,j,w,e,f0,f1,f2,f3,f4,f5,f6⟩
 ·cases e
 simp only [Value.slice.injEq,Option.some.injEq,Addr.mk.injEq] at e;obtain ⟨⟨rfl,_⟩,_,rfl⟩:=e;rw [hb] at f1;simp only [Option.some.injEq,Prod.mk.injEq,Obj.cells.injEq,true_and] at f1;obtain ⟨rfl,_⟩:=f1;have k:(enc (xs.getD i z)).size=n:=f6 _ (E7 hi);have f:(enc x').size=n:=by rw [<-heq,F8];exact k
 refine .inr ⟨_,_,_,by rw [List.length_set],f0,hb',by rw [F8];exact f2,by rw [List.length_set];exact f3,by rw [List.length_set];exact f4,?_,λy g=>?_⟩
 ·rw [List.length_set];have o:(C7 enc (xs.take i)).length=i*n:=by
   rw [D7 (n:=n) (λy g=>f6 y (List.mem_of_mem_take g)),List.length_take];congr 1;omega
  have a:(C7 enc xs).length=xs.length*n:=D7 f6;have l:i*n+n<=xs.length*n:=by rw [<-Nat.succ_mul];exact Nat.mul_le_mul_right n hi
  have m:xs.length*n<=c.size:=by rw [f2];exact Nat.mul_le_mul_right n f3
  have p:c.toList=C7 enc xs++c.toList.drop (xs.length*n):=by rw [<-f5,List.take_append_drop]
  have q:(enc x').toList=(enc (xs.getD i z)).toList.take dl++vs++(enc (xs.getD i z)).toList.drop (dl+vs.length):=by rw [<-heq,EM _ _ _ Y]
  have d:(enc (xs.getD i z)).toList.length=n:=by rw [Array.length_toList];exact k
  have D:(C7 enc (xs.take i)).length+n+(C7 enc (xs.drop (i+1))).length=xs.length*n:=by
   rw [<-a];conv=>rhs;rw [N6 f6 i z hi]
   rw [List.length_append,List.length_append,d]
  rw [EM _ _ _ Y,S8 i x' hi,q,p,N6 f6 i z hi];generalize enc (xs.getD i z)=B at *;generalize C7 enc (xs.take i)=A at *;generalize C7 enc (xs.drop (i+1))=C at *;generalize c.toList.drop (xs.length*n)=R at *;have r:(A++B.toList++C++R).take (i*n+dl)=A++B.toList.take dl:=by
   rw [List.append_assoc,List.append_assoc,<-o,List.take_length_add_append,List.take_append_of_le_length Y]
  have s:(A++B.toList++C++R).drop (i*n+dl+vs.length)=B.toList.drop (dl+vs.length)++C++R:=by
   rw [List.append_assoc,List.append_assoc,show i*n+dl+vs.length=A.length+(dl+vs.length) by omega,List.drop_length_add_append,List.drop_append_of_le_length Y,List.append_assoc]
  rw [r,s];have u:A++B.toList.take dl++vs++(B.toList.drop (dl+vs.length)++C++R)=(A++(B.toList.take dl++vs++B.toList.drop (dl+vs.length))++C)++R:=by simp only [List.append_assoc]
  rw [u,List.take_left' ?_];simp only [List.length_append,List.length_take,List.length_drop,d];omega
 ·rcases List.mem_or_eq_of_mem_set g with h | rfl
  ·exact f6 y h
  ·exact f
theorem AN.opened{U:Type}{h0 h:L}{v:aU}{t:aV}{n k:Nat}{enc:U->Array aU}{xs:List U}(x:AN h0 h v t n enc xs)(hk:k<xs.length):∃b cap c,v=.slice (some ⟨b,0,none⟩) xs.length cap/\h b=some (true,.cells c t (0,0)):=by
 rcases x with ⟨_,rfl⟩ | ⟨b,cap,c,a,_,d,_⟩
 ·simp at hk
 ·exact ⟨b,cap,c,a,d⟩
theorem AN.room{U:Type}{h0 h:L}{t:aV}{n cap b k:Nat}{enc:U->Array aU}{xs:List U}{c:Array aU}(x:AN h0 h (.slice (some ⟨b,0,none⟩) xs.length cap) t n enc xs)(hb:h b=some (true,.cells c t (0,0)))(hk:k<xs.length):k*n+n<=c.size:=by
 rcases x with ⟨e,_⟩ | ⟨d,a,f,e,f0,f1,f2,f3,_⟩
 ·cases e
 simp only [Value.slice.injEq,Option.some.injEq,Addr.mk.injEq] at e;obtain ⟨⟨rfl,_⟩,_,rfl⟩:=e;rw [hb] at f1;simp only [Option.some.injEq,Prod.mk.injEq,Obj.cells.injEq,true_and] at f1;obtain ⟨rfl,_⟩:=f1;rw [f2,<-Nat.succ_mul];exact Nat.mul_le_mul_right n Y
def clearAt(ms:List AG)(i:Nat):List AG:=ms.set i { ms.getD i AG.z with low:=0,high:=0 }
def Dp(ms:List AG)(l:List Int):List AG:=l.foldl (λms i=>clearAt ms i.toNat) ms
theorem S9{ms:List AG}{l:List Int}{k:Nat}(hk:k<l.length):Dp ms (l.take (k+1))=clearAt (Dp ms (l.take k)) (l.getD k 0).toNat:=by
 unfold Dp;rw [G7 0 hk,List.foldl_append];rfl
theorem HA(ms:List AG)(i:Nat):(clearAt ms i).length=ms.length:=by unfold clearAt;rw [List.length_set]
theorem PB(ms:List AG):∀(l:List Int),(Dp ms l).length=ms.length:=by
 intro l;unfold Dp
 induction l generalizing ms with
 | nil=>rfl
 | cons i l a=>show (l.foldl _ (clearAt ms i.toNat)).length=_;rw [a,HA]
theorem Gh(ms:List AG)(i k:Nat):(clearAt ms i).getD k AG.z=ms.getD k AG.z\/(clearAt ms i).getD k AG.z={ ms.getD k AG.z with low:=0,high:=0 }:=by
 unfold clearAt;rw [List.getD_eq_getElem?_getD,List.getElem?_set];split
 ·rename_i e
  subst e;split
  ·exact .inr rfl
  ·rename_i h
   refine .inl ?_;rw [List.getD_eq_getElem?_getD,List.getElem?_eq_none Y]
 ·refine .inl ?_;rw [<-List.getD_eq_getElem?_getD]
theorem Xr{d:Int}{gs:List Good}{ms:List AG}{k:Nat}(h1:0<=(ms.getD k AG.z).kind/\(ms.getD k AG.z).kind<=4)(h2:0<=(ms.getD k AG.z).good/\(ms.getD k AG.z).good<=(gs.length:Int)-1)
  (h3:1<=(ms.getD k AG.z).day/\(ms.getD k AG.z).day<=d) (h4:Dt ms k<=(ms.getD k AG.z).day) (h5:GW (ms.getD k AG.z).low (ms.getD k AG.z).high):Fw d gs ms k=0:=by
 unfold Fw;rw [aS (not_not_intro h1),aS (not_not_intro h2),aS (not_not_intro h3),aS Y,aS (not_not_intro h5)]
theorem B5.clearAt{d m:Int}{gs:List Good}{ms:List AG}{cs:List AP}(b:B5 d m gs ms cs)(i:Nat):B5 d m gs (clearAt ms i) cs:=by
 refine ⟨b.days,b.most,b.glen,b.good,by rw [HA];exact b.mlen,λk c=>?_,b.clen,b.count⟩;rw [HA] at c;have a:∀k,((Go.Ns.clearAt ms i).getD k AG.z).day=(ms.getD k AG.z).day:=λk=>by rcases Gh ms i k with e | e <;> rw [e]
 have f:Dt (Go.Ns.clearAt ms i) k=Dt ms k:=by unfold Dt;rw [a]
 obtain ⟨g,h,j,l,n⟩:=b.move' c;refine Xr ?_ ?_ ?_ ?_ ?_
 ·rcases Gh ms i k with e | e <;> rw [e] <;> exact g
 ·rcases Gh ms i k with e | e <;> rw [e] <;> exact h
 ·rw [a];exact j
 ·rw [f,a];exact l
 ·rcases Gh ms i k with e | e <;> rw [e]
  ·exact n
  ·show GW 0 0;decide
theorem B5.clear{d m:Int}{gs:List Good}{cs:List AP}:∀{l:List Int}{ms:List AG},B5 d m gs ms cs->B5 d m gs (Dp ms l) cs
 | [],_,b=>b
 | i ::l,_,b=>B5.clear (l:=l) (b.clearAt i.toNat)
def Fg(ms:List AG)(mask:Int)(k:Nat):Bool:=(List.range k).all λi=> !G5 mask i || EE ms i
def E9(d:Int)(gs:List Good)(ms:List AG)(cs:List AP)(mask:Nat):Option (List Int):=
 if Fg ms (mask:Int) ms.length=true then
  if AT d gs (Dp ms (BJ (mask:Int) ms.length)) cs 0=[] then none else some (BJ (mask:Int) ms.length)
 else none
def Dd(d:Int)(gs:List Good)(ms:List AG)(cs:List AP)(k:Nat):List (List Int):=(List.range k).filterMap (E9 d gs ms cs)
theorem K9{d:Int}{gs:List Good}{ms:List AG}{cs:List AP}{k:Nat}(h:E9 d gs ms cs k=none):Dd d gs ms cs (k+1)=Dd d gs ms cs k:=by
 unfold Dd;rw [List.range_succ,List.filterMap_append];simp [h]
theorem Ri{d:Int}{gs:List Good}{ms:List AG}{cs:List AP}{k:Nat}{l:List Int}(h:E9 d gs ms cs k=some l):Dd d gs ms cs (k+1)=Dd d gs ms cs k++[l]:=by
 unfold Dd;rw [List.range_succ,List.filterMap_append];simp [h]
theorem pow_64{n:Nat}(h:n<=6):1<=(2:Int) ^ n/\(2:Int) ^ n<=64:=by
 have:n=0\/n=1\/n=2\/n=3\/n=4\/n=5\/n=6:=Y
 rcases this with rfl | rfl | rfl | rfl | rfl | rfl | rfl <;> decide
theorem Xs(mask:Int)(n q:Nat):q<(BJ mask n).length->0<=(BJ mask n).getD q 0/\(BJ mask n).getD q 0<(n:Int):=λa=>by
 have:=E7 (d:=(0:Int)) a
 unfold BJ at this ⊢;obtain ⟨i,b,e⟩:=List.mem_map.1 this
 have:=List.mem_range.1 (List.mem_filter.1 b).1
 rw [<-e];omega
theorem PC(ms:List AG)(mask:Int):Fg ms mask 0=true:=rfl
theorem Jx{ms:List AG}{mask:Int}{j:Nat}(h:Fg ms mask j=true)(e:mask.fdiv (2 ^ j)%2=0\/EE ms (j:Int)=true):Fg ms mask (j+1)=true:=by
 unfold Fg at *;rw [List.range_succ,List.all_append,h];rcases e with e | e
 ·have:G5 mask j=false:=by unfold G5;rw [decide_eq_false Y]
  simp [this]
 ·simp [e]
theorem VA{d:Int}{gs:List Good}{ms:List AG}{cs:List AP}{k j:Nat}(hj:j<ms.length)(hb:¬(k:Int).fdiv (2 ^ j)%2=0)(hn:¬((0<=(j:Int)/\(j:Int)<=(ms.length:Int)-1)/\(ms.getD ((j:Int)).toNat AG.z).kind=0)):E9 d gs ms cs k=none:=by
 unfold E9;rw [aS];unfold Fg;rw [List.all_eq_true];intro h
 have:=h j (List.mem_range.2 hj)
 have a:G5 (k:Int) j=true:=by unfold G5;rw [decide_eq_true];omega
 have b:EE ms (j:Int)=false:=by unfold EE;exact decide_eq_false hn
 rw [a,b] at this;cases this
theorem blame_no{d:Int}{gs:List Good}{ms:List AG}{cs:List AP}{k j q:Nat}(hj:j<=ms.length)(hj':¬(j:Int)<(ms.length:Int))(ha:Fg ms (k:Int) j=true)(hq:¬(q:Int)<((BJ (k:Int) j).length:Int))(h:AT d gs (Dp ms ((BJ (k:Int) j).take q)) cs 0=[]):E9 d gs ms cs k=none:=by
 obtain rfl:j=ms.length:=Y
 rw [List.take_of_length_le Y] at h;unfold E9;rw [aT ha,aT h]
theorem Xu{d:Int}{gs:List Good}{ms:List AG}{cs:List AP}{k j q:Nat}(hj:j<=ms.length)(hj':¬(j:Int)<(ms.length:Int))(ha:Fg ms (k:Int) j=true)(hq:¬(q:Int)<((BJ (k:Int) j).length:Int))(h:AT d gs (Dp ms ((BJ (k:Int) j).take q)) cs 0≠[]):E9 d gs ms cs k=some (BJ (k:Int) j):=by
 obtain rfl:j=ms.length:=Y
 rw [List.take_of_length_le Y] at h;unfold E9;rw [aT ha,aS h]
theorem N7{fl:List Sl}{v:aU}{xs:List Int}{l:List (List Int)}(h:CG fl=l):CG (fl++[(v,xs)])=l++[xs]:=by unfold CG at *;rw [List.map_append,h];rfl
theorem CA.drop{h:L}{l:List Sl}(a:CA h l)(n:Nat):CA h (l.drop n):=λk=>by
 have:=a (n+k)
 rw [List.getD_eq_getElem?_getD] at this ⊢;rw [List.getElem?_drop];exact this
section
variable (d m:Int) (gs:List Good) (ms:List AG) (cs:List AP)
def EU:Int:=if Au d m gs ms cs=0 then (if (Dd d gs ms cs (2 ^ ms.length)).length=0 then 9 else 0) else Au d m gs ms cs
def HB:List Int:=if EU d m gs ms cs=0 then Ir ((Dd d gs ms cs (2 ^ ms.length)).getD 0 []) ((Dd d gs ms cs (2 ^ ms.length)).drop 1) else []
end
section
variable {d m:Int} {gs:List Good} {ms:List AG} {cs:List AP} {fl:List Sl} {k:Nat}
theorem Jy(h:¬Au d m gs ms cs=0):EU d m gs ms cs=Au d m gs ms cs:=by unfold EU;rw [aS h]
theorem LA(h:Au d m gs ms cs=0):EU d m gs ms cs=if (Dd d gs ms cs (2 ^ ms.length)).length=0 then 9 else 0:=by unfold EU;rw [aT h]
theorem Rj(n:Nat):((2 ^ n:Nat):Int)=(2:Int) ^ n:=by induction n with
 | zero=>rfl
 | succ n a=>rw [Nat.pow_succ,Int.pow_succ,<-a];rfl
theorem Lp(hk:(k:Int)<=(2:Int) ^ ((ms.length:Int)).toNat)(hk':¬(k:Int)<(2:Int) ^ ((ms.length:Int)).toNat):k=2 ^ ms.length:=by
 have:=Rj ms.length
 rw [Int.toNat_natCast] at hk hk';omega
theorem C2(l:List Sl):(CG l).length=l.length:=by unfold CG;simp
theorem VB(h:¬Au d m gs ms cs=0):(.tuple #[.slice none 0 0,.int .i64 (Au d m gs ms cs)]:aU)=.tuple #[.slice none 0 0,.int .i64 (EU d m gs ms cs)]:=by rw [Jy h]
theorem JC(hfl:CG fl=Dd d gs ms cs k)(hk:(k:Int)<=(2:Int) ^ ((ms.length:Int)).toNat)(hk':¬(k:Int)<(2:Int) ^ ((ms.length:Int)).toNat)(hb:¬¬Au d m gs ms cs=0)(h0:(fl.length:Int)=0):EU d m gs ms cs=9:=by
 obtain rfl:=Lp hk hk';rw [LA (Decidable.not_not.1 hb),<-hfl,C2,aT Y]
theorem JD(hfl:CG fl=Dd d gs ms cs k)(hk:(k:Int)<=(2:Int) ^ ((ms.length:Int)).toNat)(hk':¬(k:Int)<(2:Int) ^ ((ms.length:Int)).toNat)(hb:¬¬Au d m gs ms cs=0)(h0:¬(fl.length:Int)=0):EU d m gs ms cs=0:=by
 obtain rfl:=Lp hk hk';rw [LA (Decidable.not_not.1 hb),<-hfl,C2,aS Y]
theorem VC(h:¬Au d m gs ms cs=0):HB d m gs ms cs=[]:=by unfold HB;rw [Jy h,aS h]
theorem TA(hfl:CG fl=Dd d gs ms cs k)(hk:(k:Int)<=(2:Int) ^ ((ms.length:Int)).toNat)(hk':¬(k:Int)<(2:Int) ^ ((ms.length:Int)).toNat)(hb:¬¬Au d m gs ms cs=0)(h0:(fl.length:Int)=0):HB d m gs ms cs=[]:=by
 unfold HB;rw [JC hfl hk hk' hb h0,aS aC]
theorem Xv(hfl:CG fl=Dd d gs ms cs k)(hk:(k:Int)<=(2:Int) ^ ((ms.length:Int)).toNat)(hk':¬(k:Int)<(2:Int) ^ ((ms.length:Int)).toNat)(hb:¬¬Au d m gs ms cs=0)(h0:¬(fl.length:Int)=0):HB d m gs ms cs=Ir (fl.getD 0 Sl.z).2 (CG (fl.drop 1)):=by
 have e:=Lp hk hk';unfold HB;rw [JD hfl hk hk' hb h0,aT rfl];subst e;rw [<-hfl,FL Y];congr 1;unfold CG;rw [List.map_drop]
end
theorem fl_len{d:Int}{gs:List Good}{ms:List AG}{cs:List AP}{fl:List Sl}{k:Nat}(h:CG fl=Dd d gs ms cs k):fl.length<=k:=by
 rw [<-C2,h];unfold Dd
 have:=List.length_filterMap_le (E9 d gs ms cs) (List.range k)
 rw [List.length_range] at this;exact this
theorem TB{v:aU}(h:v.cells=#[v]):Instr.fill (λi=>some (i*1,1)) ((Array.range (1*1)).map (#[Value.slice none 0 0][·% #[Value.slice none 0 0].size]!)) [(0,v)]=some #[v]:=by
 have e:((Array.range (1*1)).map (#[Value.slice none 0 0][·% #[Value.slice none 0 0].size]!))=#[Value.slice none 0 0]:=aB
 rw [e];simp [Instr.fill,h]
def JFnd{U:Type}(hB:L)(r:Nat)(T t:aV)(wf:aU)(fl:List Sl)(pre:List U)(aN:Nat->Prop)(h:L):Prop:=
 pre=[]/\h r=some (true,.cells #[wf] T (0,0))/\AN hB h wf t 1 Nq fl/\BL wf r/\hB r=none/\∀b,aN b↔b=r\/Bv wf=some b
def SFnd{U:Type}(hB:L)(r:Nat)(T t:aV)(fl:List Sl)(cd:Code)(all:List U)(c:Code)(h:L):Prop:=
 c=cd/\(∃w,h r=some (true,.cells #[w] T (0,0))/\AN hB h w t 1 Nq fl/\BL w r)/\all≠[]
theorem Ps{U:Type}(hB:L)(r:Nat)(T t:aV)(wf:aU)(fl:List Sl):FJ hB (JFnd (U:=U) hB r T t wf fl):=by
 refine ⟨?_,?_⟩
 ·rintro d l h b ⟨_,f,g,j,k,a⟩ i;rcases (a b).1 i with rfl | h5
  ·exact ⟨_,_,f,rfl⟩
  ·obtain ⟨c,m⟩:=g.cellsAt b h5;exact ⟨_,_,m,rfl⟩
 ·rintro d l h p ⟨e,f,g,j,k,a⟩ same q;exact ⟨e,by rw [same r ((a r).2 (.inl rfl))];exact f,g.keep λb o i n=>by rw [same b ((a b).2 (.inr i))];exact n,j,k,a⟩
theorem VD{U:Type}{hK h:L}{r:Nat}{T t:aV}{wf:aU}{fl:List Sl}(x:h r=some (true,.cells #[wf] T (0,0)))(o:AN hK h wf t 1 Nq fl)(f:BL wf r) :
  JFnd (U:=U) (h.delS λb=>b=r\/Bv wf=some b) r T t wf fl [] (λb=>b=r\/Bv wf=some b) h:=
 ⟨rfl,x,o.rebase λ_ q=>L.delS_in (.inr q),f,L.delS_in (.inl rfl),λ_=>Iff.rfl⟩
theorem TC{U:Type}{hB:L}{r:Nat}{T t:aV}{fl:List Sl}{cd:Code}{all:List U}:∀c (h h':L) l lo,SFnd hB r T t fl cd all c h->h l=some (true,.loop lo)->(∀b,b≠l->h' b=h b)->SFnd hB r T t fl cd all c h':=by
 rintro c h h' l lo ⟨j,⟨w,f,g,k⟩,m⟩ a i;refine ⟨j,⟨w,(i _ λe=>by subst e;rw [f] at a;cases a).trans f,g.keep λb o n d=>?_,k⟩,m⟩;obtain ⟨c,p⟩:=g.cellsAt b n;exact (i b λe=>by subst e;rw [p] at a;cases a).trans d
end Go.Ns
