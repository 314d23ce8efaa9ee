/- Rules and walks, part 2 of 7. No conditions. -/
import Derived.Sort.AssemblyPlain
import Derived.Sort.LotD3
import Derived.Test.YteobolclmgpkcaaGreatDoorPTA
set_option linter.unusedVariables false
set_option linter.unusedSimpArgs false
set_option linter.unnecessarySimpa false
set_option linter.unusedSectionVars false
set_option linter.constructorNameAsVariable false
namespace Go.Ns
open Go.Conc
section
variable {P:Program} {E:Ho P} {V:Nat->bW} {ds:List Deferred} {h:A} {bN:(Nat->bW)->List Deferred->A->Prop}
variable {dst:Option Nat} {ty:bX} {pos:String} {af:Array Edge} {gd:Option (Nat×Bool)}
def UponV(W:Wk P)(R:bW->A->Prop):Next->A->Prop
 | .enter f args,h=>Al W f args h R
 | .round l f tmps a c,h=>B3 W l f tmps a c h R
 | _,_=>False
def CW(W:Wk P)(fv:bW)(args:Array bW)(h:A)(R:bW->A->Prop):Prop:=
 (do let d<-Deferred.ofValue fv args;invoke d.target d.args:Sem Next).gh P h (UponV W R)
theorem CW.mono{W:Wk P}{fv:bW}{args:Array bW}{h:A}{R R':bW->A->Prop}(x:CW W fv args h R)(hr:∀v h',R v h'->R' v h'):CW W fv args h R':=by
 refine GO _ (λa h' y=>?_) h x;cases a <;> first | exact y | exact Al.mono y hr | exact B3.mono y hr
theorem NC{f:Operand}{args:Array Operand}{tys:Array bX}{fv:bW}{vs:Array bW}(hv:Ag V f=fv)(ha:args.map (Ag V)=vs)(x:CW E.wk fv vs h λv h'=>bN (putS V dst v) ds h') :
  B9 E ⟨dst,.call ⟨.value f,args,tys⟩,ty,pos,af,gd⟩ V ds h bN:=by
 unfold B9 execOp;simp only [];unfold resolve;simp only [hv,ha];refine GO _ (λa h' y=>?_) h x;cases a <;> first | exact y | exact y.elim
theorem Ey{f x:Operand}{tys:Array bX}{fv v1:bW}(hv:Ag V f=fv)(h1:Ag V x=v1)(y:CW E.wk fv #[v1] h λv h'=>bN (putS V dst v) ds h') :
  B9 E ⟨dst,.call ⟨.value f,#[x],tys⟩,ty,pos,af,gd⟩ V ds h bN:=NC hv (by simp [h1]) y
theorem CC{W:Wk P}{g:FuncId}{fn:Func}{first cap args vs:Array bW}{R:bW->A->Prop}(hf:P.funcs[g]? =some fn)(hc:AV fn=true)(ha:first++args++cap=vs)(x:Al W g vs h R):CW W (.func (.func g) first cap) args h R:=by
 subst ha;unfold CW;simp only [Deferred.ofValue];refine AI _ _ (BS ?_);exact Pw hf hc x
theorem Kb{l:Nat}{p:Bool}{lo:Loop}{Q:Loop->A->Prop}(hl:h l=some (p,.loop lo))(q:Q lo h):(Instr.getLoop l).gh P h Q:=by
 unfold Instr.getLoop;exact AI _ _ ⟨p,_,hl,rfl,rfl,q⟩
theorem SD{W:Wk P}{l:Nat}{p:Bool}{lo:Loop}{args:Array bW}{R:bW->A->Prop}(hl:h l=some (p,.loop lo))(hn:args.size=lo.params.size)
  (x:B3 W l lo.fn ((lo.params.zip args).foldl (λtmps x=>tmps.setIfInBounds x.1 x.2) lo.tmps) lo.assign lo.body h R):CW W (.func (.yield l) #[] #[]) args h R:=by
 unfold CW;simp only [Deferred.ofValue];refine AI _ _ (BS ?_);unfold invoke;simp only [];unfold Instr.yield;refine AI _ _ (Kb hl ?_);have e:#[]++args=args:=aG
 rw [e,bU (by rw [hn];simp)];exact x
def AAA(Q:Post)(V:Nat->bW)(ds:List Deferred)(l:Nat)(h:A):Prop:=
 ∃lo,h l=some (true,.loop lo)/\(lo.state==.busy)=false/\match lo.pending with
  | none=>Q .normal V ds (h.set l true (.loop { lo with state:=.exhausted }))
  | some (.exit id)=>Q (.exit id) V ds (h.set l true (.loop { lo with state:=.exhausted }))
  | some .ret=>Q .ret V ds (h.set l true (.loop { lo with state:=.exhausted }))
  | some _=>False
theorem N3{f:Operand}{params:Array Tmp}{assign body:Code}{Q:Post}(hrd:E.rd=none)
  (x:∀(t:Array bW) d l,CE t E.N V->h d=none->h l=none->l≠d->
   CW E.wk (Ag V f) #[.func (.yield l) #[] #[]] ((h.set d true (.deferred (some []))).set l true (.loop { state:=.ready,pending:=none,fn:=E.fn,tmps:=t,params,assign,body,defers:=d }))
    λ_ h'=>AAA Q V ({ target:=.collected d,args:=#[] } ::ds) l h'):Tr E (.rangeFunc f params assign body) V ds h Q:=by
 intro b k j bM t hb hr hl n H;refine E.wk.closed _ _ rfl λw I=>?_;have e1:(Instr.enterLoop b.fn t params assign body b.roundOf).gh P h λr h'=>∃d l,h d=none/\h l=none/\l≠d/\r=(l,[{ target:=.collected d,args:=#[] }])/\
   h'=(h.set d true (.deferred (some []))).set l true (.loop { state:=.ready,pending:=none,fn:=b.fn,tmps:=t,params,assign,body,defers:=d }):=by
  rw [hr,hrd];unfold Instr.enterLoop;refine AI _ _ (λd M=>?_);refine AI _ _ (BS ?_);refine AI _ _ (λl g=>?_);have i:l≠d:=λe=>by subst e;rw [A.set_same] at g;cases g
  rw [A.set_ne _ _ _ i] at g;exact ⟨d,l,M,g,i,rfl,rfl⟩
 obtain ⟨r,w1,h1,p,r1,r2,d,l,M,g,i,rfl,rfl⟩:=KO I e1;have y:=x t d l n M g i;rw [<-hb] at y;let mark:List Deferred:=[{ target:=.collected d,args:=#[] }];have R:(DT b t (mark++ds) (.inRangeFunc l ::k)).eval=Ag V:=funext λo=>by rw [Nt n]
 have y':(do let d<-resolve (DT b t (mark++ds) (.inRangeFunc l ::k)).eval { callee:=.value f,args:=#[.const (.func (.yield l) #[] #[])],argTypes:=#[] } 0;invoke d.target d.args:Sem Next).gh P
   ((h.set d true (.deferred (some []))).set l true (.loop { state:=.ready,pending:=none,fn:=b.fn,tmps:=t,params,assign,body,defers:=d })) (UponV E.wk λ_ h'=>AAA Q V ({ target:=.collected d,args:=#[] } ::ds) l h'):=by
  rw [R];unfold resolve;simpa [Ag,CW] using y
 obtain ⟨nx,W,X,m,q1,q2,Y⟩:=KO r2.fits y';have hstep:stepG P E.wk.main (G (DT b t ds (.code (.rangeFunc f params assign body) ::k)) j) w=
   GStep.after (seen P b.fn p) (stepG.apply P true (DT b t (mark++ds) (.inRangeFunc l ::k)) j none
    (do let d<-resolve (DT b t (mark++ds) (.inRangeFunc l ::k)).eval { callee:=.value f,args:=#[.const (.func (.yield l) #[] #[])],argTypes:=#[] } 0;invoke d.target d.args) w1):=by
  rw [Bc];unfold stepG.exec;simp only [DT,r1];rfl
 have s:∀q:Bool,∀e ∈ seen P b.fn (if q then #[] else m),e ∈ m:=λq e he=>by
  have:=mem_seen he
  cases q with
  | true=>simp at this
  | false=>simpa using this
 have u:∀q:Bool,CR h w (seen P b.fn p++(seen P b.fn (if q then #[] else m)++ #[])) X W:=λq=>
  (r2.trans q2).sub λe he=>by
   rw [Array.append_empty,Array.mem_append] at he;rw [Array.mem_append];rcases he with he | he
   ·exact .inl (mem_seen he)
   ·exact .inr (s q e he)
 have DH:∀(v:bW) h',AAA Q V ({ target:=.collected d,args:=#[] } ::ds) l h'->E.wk.K (G ((DT b t (mark++ds) (.inRangeFunc l ::k)).finish v) j) h':=by
  rintro v h' ⟨D,C,hst,z⟩;show E.wk.K (G (DT b t (mark++ds) (.endRangeFunc l ::k)) j) h';refine E.wk.closed _ _ rfl λw I=>?_;have e2:(Instr.endLoop l).gh P h' λjump h''=>jump=D.pending/\h''=h'.set l true (.loop { D with state:=.exhausted }):=by
   unfold Instr.endLoop;refine AI _ _ (Kb C ?_);rw [hst];refine AI _ _ ⟨_,C,rfl,rfl,rfl,?_⟩;exact ⟨rfl,rfl⟩
  obtain ⟨jump,w3,h3,es3,p1,p2,rfl,rfl⟩:=KO I e2;refine ⟨G (DT b t (mark++ds) ((D.pending.map Item.code).toList++k)) j,w3,_,_,?_,p2.sub (es':=seen P b.fn es3++ #[]) λe he=>?_,?_⟩
  ·rw [Bc];unfold stepG.exec;simp only [DT,p1];rfl
  ·rw [Array.append_empty] at he;exact mem_seen he
  ·cases hp:D.pending with
   | none=>
    rw [hp] at z;exact H _ _ _ _ z t n
   | some c=>
    rw [hp] at z;cases c with
    | ret=>
     have:=H _ _ _ _ z t n
     exact hl.ret t _ _ k this
    | exit id=>
     have:=H _ _ _ _ z t n
     show E.wk.K (G (DT b t (mark++ds) (.code (.exit id) ::k)) j) _;cases F:exitTo id k with
     | none=>simp only [D2,F] at this;exact hl.exit id t _ _ k F this
     | some k'=>
      simp only [D2,F] at this;exact Wk.go (DT b t (mark++ds) k') (λw=>by rw [Bc];simp [stepG.exec,DT,G,F]) this
    | _=>exact z.elim
 cases nx with
 | enter f' args=>
  refine ⟨_,W,_,X,?_,u (b.kind==.early),Y (DT b t (mark++ds) (.inRangeFunc l ::k)) j DH⟩;rw [hstep];simp only [stepG.apply,q1,if_true];rfl
 | round l' f' tmps a c=>
  refine ⟨_,W,_,X,?_,u (b.kind==.early),Y (DT b t (mark++ds) (.inRangeFunc l ::k)) j DH⟩;rw [hstep];simp only [stepG.apply,q1,if_true];rfl
 | _=>exact Y.elim
theorem P4{W:Wk P}{l:Nat}{f:FuncId}{tmps:Array bW}{N:Nat}{assign body:Code}{R:bW->A->Prop}(hN:tmps.size=N)
  (x:Tr ⟨W,f,some l,N⟩ assign (λi=>tmps.getD i undef) [] h λe V ds h'=>e=.normal/\∃lo,h' l=some (true,.loop lo)/\lo.state=.ready/\
   Tr ⟨W,f,some l,N⟩ body V ds (h'.set l true (.loop { lo with state:=.busy })) λe _ _ h''=>∃lo',h'' l=some (true,.loop lo')/\match e with
    | .normal=>R (.bool true) (h''.set l true (.loop { lo' with state:=.ready,pending:=none }))
    | .exit id=>R (.bool false) (h''.set l true (.loop { lo' with state:=.done,pending:=some (.exit id) }))
    | .ret=>R (.bool false) (h''.set l true (.loop { lo' with state:=.done,pending:=some .ret }))
    | _=>False):B3 W l f tmps assign body h R:=by
 intro c cs hc;let b:Frame:=Frame.round l f tmps assign body .normal;show W.K (G (DT b tmps [] [.code assign,.beginRound,.code body]) (c ::cs)) h;have leave:∀(jump:Option Code)(v:bW)(t:Array bW)(ds:List Deferred)(k:List Item)(h'':A)(lo':Loop),h'' l=some (true,.loop lo')->
   (∀w,stepG P W.main (G (DT b t ds k) (c ::cs)) w=GStep.after (seen P f ((Instr.endRound l jump).runT P w #[]).2) (match ((Instr.endRound l jump).runT P w #[]).1 with
    | .ok v w=>doReturn P W.main (DT b t ds k) (c ::cs) none v w
    | .halt _ w=>.ended (.stuck "range over a function: no such loop" ((DT b t ds k).pos P)) w))->v=.bool jump.isNone->
   R v (h''.set l true (.loop { lo' with state:=if jump.isNone then .ready else .done,pending:=jump }))->W.K (G (DT b t ds k) (c ::cs)) h'':=by
  rintro jump v t ds k h'' lo' hlo hstep rfl hR;refine W.closed _ _ rfl λw fw=>?_;have e2:(Instr.endRound l jump).gh P h'' λv h3=>v=.bool jump.isNone/\h3=h''.set l true (.loop { lo' with state:=if jump.isNone then .ready else .done,pending:=jump }):=by
   unfold Instr.endRound;refine AI _ _ (Kb hlo ?_);refine AI _ _ ⟨_,hlo,rfl,rfl,rfl,?_⟩;exact ⟨rfl,rfl⟩
  obtain ⟨v,w3,h3,es3,p1,p2,rfl,rfl⟩:=KO fw e2;refine ⟨G (c.finish (.bool jump.isNone)) cs,w3,_,_,?_,p2.sub (es':=seen P f es3++ #[]) λe he=>?_,hc _ _ hR⟩
  ·rw [hstep,p1];rfl
  ·rw [Array.append_empty] at he;exact mem_seen he
 let bM:Lv:=λj t ds h''=>∃lo',h'' l=some (true,.loop lo')/\match j with
  | none=>R (.bool true) (h''.set l true (.loop { lo' with state:=.ready,pending:=none }))
  | some (.exit id)=>R (.bool false) (h''.set l true (.loop { lo' with state:=.done,pending:=some (.exit id) }))
  | some .ret=>R (.bool false) (h''.set l true (.loop { lo' with state:=.done,pending:=some .ret }))
  | some _=>False
 have hL:Nu W b (c ::cs) bM:=by
  refine ⟨?_,?_,?_⟩
  ·rintro t ds h'' ⟨lo',h1,h2⟩;exact leave none _ t ds [] h'' lo' h1 (λw=>by rw [Bc];rfl) rfl (by simpa using h2)
  ·rintro t ds h'' k ⟨lo',h1,h2⟩;exact leave (some .ret) _ t ds (.code .ret ::k) h'' lo' h1 (λw=>by rw [Bc];rfl) rfl (by simpa using h2)
  ·rintro id t ds h'' k hk ⟨lo',h1,h2⟩;exact leave (some (.exit id)) _ t ds (.code (.exit id) ::k) h'' lo' h1 (λw=>by rw [Bc];simp only [stepG.exec,DT,hk,Option.elim];rfl) rfl (by simpa using h2)
 refine x b [.beginRound,.code body] (c ::cs) bM tmps rfl rfl hL ⟨hN,λi=>rfl⟩ ?_;rintro e V ds h' ⟨rfl,lo,h1,h2,h3⟩ t' ht';show W.K (G (DT b t' ds [.beginRound,.code body]) (c ::cs)) h';refine W.closed _ _ rfl λw fw=>?_;have e3:(do (some l).elim (stuck "beginRound: no round") Instr.beginRound;pure Next.skip:Sem Next).gh P h' λnx h''=>nx=.skip/\h''=h'.set l true (.loop { lo with state:=.busy }):=by
  show Sem.gh P (do Instr.beginRound l;pure Next.skip:Sem Next) h' _;unfold Instr.beginRound;refine AI _ _ (AI _ _ (Kb h1 ?_));refine AI _ _ ⟨_,h1,rfl,rfl,rfl,?_⟩;rw [h2];exact ⟨rfl,rfl⟩
 obtain ⟨nx,w3,h4,es3,p1,p2,rfl,rfl⟩:=KO fw e3;refine ⟨G (DT b t' ds [.code body]) (c ::cs),w3,_,_,?_,p2.sub (es':=seen P f es3++ #[]) λe he=>?_,?_⟩
 ·rw [Bc];unfold stepG.exec;simp only [DT];unfold stepG.apply;have hb:b.roundOf=some l:=rfl;simp only [hb,p1,if_true];rfl
 ·rw [Array.append_empty] at he;exact mem_seen he
 ·refine h3 b [] (c ::cs) bM t' rfl rfl hL ht' ?_;rintro e σ' ds' h'' ⟨lo',g1,g2⟩ t2 ht2;cases e with
  | normal=>
   exact hL.stop t2 ds' h'' ⟨lo',g1,g2⟩
  | exit id=>exact ⟨lo',g1,g2⟩
  | ret=>exact ⟨lo',g1,g2⟩
  | _=>exact g2.elim
end
end Go.Ns
namespace Go.Ns
open Go.Conc
section
variable {P:Program} {E:Ho P} {V:Nat->bW} {ds:List Deferred} {h:A} {bN:(Nat->bW)->List Deferred->A->Prop}
variable {dst:Option Nat} {ty:bX} {pos:String} {af:Array Edge} {gd:Option (Nat×Bool)}
variable {α:Type}
def HO(R:A->A->Prop):List Us->Prop
 | []=>True
 | φ ::l=>(∀v h h',R h h'->φ v h->φ v h')/\HO R l
theorem HO.mono{R:A->A->Prop}:∀{Φ:List Us},HO R Φ->∀k v h h',R h h'->N0 Φ k v h->N0 Φ k v h'
 | [],_,k,v,h,h',_,x=>by cases k <;> exact x
 | φ ::l,a,0,v,h,h',r,x=>a.1 v h h' r x
 | φ ::l,a,k+1,v,h,h',r,x=>HO.mono a.2 k v h h' r x
theorem tr_drawn{R:A->A->Prop}(rr:∀h,R h h)(rt:∀a b c,R a b->R b c->R a c){id:Nat}{l:List Oper}{Q:Post}(n:Nat)(cls:List (List Nat))(Φ:List Us)
  (hm:P.follows .mixedOrders=true) (ok:WV E.N l n cls=true) (mono:HO R Φ) (x:P0 R E l n Φ V ds h Q n 0 l cls):Tr E (.region id l.toArray true) V ds h Q:=
 tr_draw R n cls Φ hm ok rr rt mono.mono x
theorem SE{id:Nat}{l:List Oper}{Q:Post}(n:Nat)(cls:List (List Nat))(Φ:List Us)
  (hm:P.follows .mixedOrders=true) (ok:WV E.N l n cls=true) (mono:HO A.Le Φ) (x:P0 A.Le E l n Φ V ds h Q n 0 l cls):Tr E (.region id l.toArray true) V ds h Q:=
 tr_drawn A.Le.refl (λ_ _ _=>A.Le.trans) n cls Φ hm ok mono x
theorem trL_opg{ops:Array Oper}{o:Oper}{l:List Oper}{Q:Post}{j d:Nat}{want:Bool}{oj:Oper}(hg:o.guard=some (j,want))(hj:ops[j]? =some oj)(hjd:oj.dst=some d)(hv:V d=.bool want)(hdj:Nat.blt d E.N=true)
  (hdf:E.rd=none\/Do o.op=false) (hd:Dj o.dst E.N=true) (x:B9 E o V ds h λσ' ds' h'=>Dy E ops l σ' ds' h' Q):Dy E ops (o ::l) V ds h Q:=WN hg hj hjd hv hdj hdf hd x
theorem Be{ops:Array Oper}{o:Oper}{l:List Oper}{Q:Post}{j d:Nat}{want:Bool}{oj:Oper}(hg:o.guard=some (j,want))(hj:ops[j]? =some oj)(hjd:oj.dst=some d)(hv:V d=undef)(hdj:Nat.blt d E.N=true)
  (hd:Dj o.dst E.N=true) (x:Dy E ops l (putS V o.dst undef) ds h Q):Dy E ops (o ::l) V ds h Q:=by
 intro i b k n p t g q r s c u;have m:ops[i]? =some o:=by simpa using (g 0).symm
 have v:yielded ops t j=none:=by
  have a:d<t.size:=by rw [c.1];exact Nat.blt_eq▸hdj
  have e:=c.2 d;rw [hv] at e;have y:t[d]? =some undef:=by
   simp only [Array.getD_eq_getD_getElem?,Array.getElem?_eq_getElem a,Option.getD_some] at e;rw [Array.getElem?_eq_getElem a,e]
  simp [yielded,hj,hjd,y,undef]
 refine Wk.go (DT b (Z1 t o.dst undef) ds (.inRegion ops (List.range' (i+1) l.length) ::k)) (λw=>?_) ?_
 ·have f:((ops[i]?).map (Region.wanted · (yielded ops t))).getD false=false:=by
   simp only [m,Option.map_some,Option.getD_some,Region.wanted,hg,v];cases want <;> rfl
  rw [<-Dp m (rest:=List.range' (i+1) l.length),List.length_cons,List.range'_succ,Bc];unfold stepG.exec;simp only [DT,f,Bool.false_eq_true,↓reduceIte];rfl
 ·exact x (i+1) b k n p _ (λj=>by have:=g (j+1);simpa [Nat.add_assoc,Nat.add_comm 1 j] using this) q r s (c.putS hd undef) u
theorem Bi{ops:Array Oper}{l:List Oper}{Q:Post}{p:Prop}[Decidable p](a:p->Dy E ops l V ds h Q)(a':¬p->Dy E ops l V ds h Q):Dy E ops l V ds h Q:=if h:p then a h else a' h
theorem Iv{ops:Array Oper}{l:List Oper}{Q:Post}{b:Bool}(a:b=true->Dy E ops l V ds h Q)(a':b=false->Dy E ops l V ds h Q):Dy E ops l V ds h Q:=by
 cases b with
 | true=>exact a rfl
 | false=>exact a' rfl
theorem GR{f:Fn}{x1:Operand}{v1:bW}(h1:Ag V x1=v1)(k:bN (putS V dst (.func f #[] #[v1])) ds h):B9 E ⟨dst,.makeFunc f #[] #[x1],ty,pos,af,gd⟩ V ds h bN:=FT (by simp [h1]) k
theorem HP{f:Fn}{x1 x2:Operand}{v1 v2:bW}(h1:Ag V x1=v1)(h2:Ag V x2=v2)(k:bN (putS V dst (.func f #[] #[v1,v2])) ds h):B9 E ⟨dst,.makeFunc f #[] #[x1,x2],ty,pos,af,gd⟩ V ds h bN:=FT (by simp [h1,h2]) k
theorem Kc{f:Fn}{x1 x2 x3:Operand}{v1 v2 v3:bW}(h1:Ag V x1=v1)(h2:Ag V x2=v2)(h3:Ag V x3=v3)(k:bN (putS V dst (.func f #[] #[v1,v2,v3])) ds h):B9 E ⟨dst,.makeFunc f #[] #[x1,x2,x3],ty,pos,af,gd⟩ V ds h bN:=FT (by simp [h1,h2,h3]) k
theorem WX{f:Fn}{x1 x2 x3 x4:Operand}{v1 v2 v3 v4:bW}(h1:Ag V x1=v1)(h2:Ag V x2=v2)(h3:Ag V x3=v3)(h4:Ag V x4=v4)(k:bN (putS V dst (.func f #[] #[v1,v2,v3,v4])) ds h):B9 E ⟨dst,.makeFunc f #[] #[x1,x2,x3,x4],ty,pos,af,gd⟩ V ds h bN:=FT (by simp [h1,h2,h3,h4]) k
theorem WY{f:Fn}{x1 x2 x3 x4 x5:Operand}{v1 v2 v3 v4 v5:bW}(h1:Ag V x1=v1)(h2:Ag V x2=v2)(h3:Ag V x3=v3)(h4:Ag V x4=v4)(h5:Ag V x5=v5)(k:bN (putS V dst (.func f #[] #[v1,v2,v3,v4,v5])) ds h):B9 E ⟨dst,.makeFunc f #[] #[x1,x2,x3,x4,x5],ty,pos,af,gd⟩ V ds h bN:=FT (by simp [h1,h2,h3,h4,h5]) k
theorem FK{v:bW}{p:Prop}[Decidable p](e:v=.bool (decide p))(g:v=.bool false):¬p:=by
 rw [e] at g;simpa using g
theorem Ae.fresh{h0 h:A}{v:bW}{t:bX}{n:Nat}{enc:α->Array bW}{xs:List α}(x:Ae h0 h v t n enc xs):∀b,DH v=some b->h0 b=none:=by
 intro b a;rcases x with ⟨rfl,_⟩ | ⟨f,d,c,rfl,e,_⟩
 ·cases a
 ·simp [DH] at a;subst a;exact e
theorem Ae.inDom{h0 h:A}{v:bW}{t:bX}{n:Nat}{enc:α->Array bW}{xs:List α}(x:Ae h0 h v t n enc xs):∀b,DH v=some b->∃o,h b=some o:=by
 intro b a;rcases x with ⟨rfl,_⟩ | ⟨f,d,c,rfl,g,e,_⟩
 ·cases a
 ·simp [DH] at a;subst a;exact ⟨_,e⟩
def Bp(v:bW)(b:Nat):Prop:=DH v≠some b
def Apart(v w:bW):Prop:=∀b,DH v=some b->DH w≠some b
theorem Apart.symm{v w:bW}(a:Apart v w):Apart w v:=λb h c=>a b c h
theorem Bp.nil{b:Nat}:Bp (.slice none 0 0) b:=by intro h;cases h
theorem Apart.nil{w:bW}:Apart (.slice none 0 0) w:=by intro b h;cases h
theorem Bp.old{h0 h:A}{v:bW}{t:bX}{n:Nat}{enc:α->Array bW}{xs:List α}(x:Ae h0 h v t n enc xs){b:Nat}{o:Bool×Obj}(hb:h0 b=some o):Bp v b:=λe=>by
 rw [x.fresh b e] at hb;cases hb
theorem Bp.new{h0 h:A}{v:bW}{t:bX}{n:Nat}{enc:α->Array bW}{xs:List α}(x:Ae h0 h v t n enc xs){b:Nat}(hb:h b=none):Bp v b:=λe=>by
 obtain ⟨o,a⟩:=x.inDom b e;rw [hb] at a;cases a
def HQ(h h':A)(v v':bW):Prop:=(∀b o,h b=some o->DH v≠some b->h' b=some o)/\(DH v'=DH v\/((∃r,DH v'=some r/\h r=none)/\∀b o,h b=some o->h' b=some o))
theorem Bp.grown{h h':A}{v v':bW}(g:HQ h h' v v'){b:Nat}{o:Bool×Obj}(hb:h b=some o)(x:Bp v b):Bp v' b:=λe=>by
 rcases g.2 with q | ⟨⟨r,a,c⟩,_⟩
 ·exact x (q▸e)
 ·rw [a] at e;cases e;rw [c] at hb;cases hb
theorem Apart.grown{h h' h0:A}{v v' w:bW}(g:HQ h h' v v'){t:bX}{n:Nat}{enc:α->Array bW}{xs:List α}(y:Ae h0 h w t n enc xs)(x:Apart v w):Apart v' w:=λb e a=>by
 obtain ⟨o,c⟩:=y.inDom b a;rcases g.2 with q | ⟨⟨r,d,f⟩,_⟩
 ·exact x b (q▸e) a
 ·rw [d] at e;cases e;rw [f] at c;cases c
theorem Ae.grown{h h' h0:A}{v v' w:bW}(g:HQ h h' v v'){t:bX}{n:Nat}{enc:α->Array bW}{xs:List α}(y:Ae h0 h w t n enc xs)(x:Apart v w):Ae h0 h' w t n enc xs:=
 y.keep λb o a c=>g.1 b o c λe=>x b e a
theorem A.Le.grown{h1 h h':A}{v v':bW}(g:HQ h h' v v')(l:h1.Le h)(f:∀b,DH v=some b->h1 b=none):h1.Le h':=λb p o a=>by
 obtain ⟨c,d,i⟩:=l b p o a;exact ⟨c,g.1 b _ d λe=>(by rw [f b e] at a;cases a),i⟩
theorem D4{h h':A}{v v':bW}(g:HQ h h' v v'){b:Nat}{o:Bool×Obj}(hb:h b=some o)(x:Bp v b):h' b=some o:=g.1 b o hb x
theorem Ae.stored{h0 h h':A}{v:bW}{t:bX}{n:Nat}{enc:α->Array bW}{xs:List α}(y:Ae h0 h v t n enc xs){r:Nat}(x:Bp v r)(ho:∀b,b≠r->h' b=h b):Ae h0 h' v t n enc xs:=
 y.keep λb o c a=>by rw [ho b λe=>by subst e;exact x c];exact a
theorem Bs{s x:bX}{o1 o2:Operand}{h0:A}{v w:bW}{e n bytes:Nat}{enc:α->Array bW}{xs ys:List α}(ht:JU P s x=some (e,n,bytes))(h1:Ag V o1=v)(h2:Ag V o2=w)
  (hv:Ae h0 h v e n enc xs) (hw:Ai h w n enc ys) (l0:∀r,h r=none->h0 r=none) (hb:(2*(xs.length+ys.length)+512)*bytes<=2 ^ 48) (hfine:∀y ∈ ys,(enc y).toList.all (·.oneCell')=true)
  (k:∀v' h',Ae h0 h' v' e n enc (xs++ys)->HQ h h' v v'->bN (putS V dst v') ds h') :
  B9 E ⟨dst,.call ⟨.builtin .append,#[o1,o2],#[s,x]⟩,ty,pos,af,gd⟩ V ds h bN:=
 ok_append ht h1 h2 hv hw l0 hb hfine λv' h' a b c=>k v' h' a ⟨b,c⟩
theorem Ar{h0:A}{t:bX}{x ix:Operand}{n:Nat}{enc:α->Array bW}{xs:List α}{v:bW}{kd:IntKind}{i:Int}(ht:F6 P t=some n)(hs:Ai h0 v n enc xs)(hx:Ag V x=v)(hi:Ag V ix=.int kd i)(h0':0<=i)(h1:i<xs.length)
  (k:∀b off,Ao h0 b off n (enc (xs[i.toNat]' O))->bN (putS V dst (.pointer (some ⟨b,off,none⟩))) ds h):B9 E ⟨dst,.indexAddr t x ix,ty,pos,af,gd⟩ V ds h bN:=by
 obtain ⟨a,c,rfl,_,_,d⟩:=hs;obtain ⟨b,off,rfl,e⟩:=d i.toNat O;exact AK ht hx hi h0' h1 (k b _ e)
theorem Ae.built{h h':A}{r:Nat}{t:bX}{n:Nat}{enc:α->Array bW}{xs:List α}{c:Array bW}{m:Nat}(hr:h r=none)(hb:h' r=some (true,.cells c t (0,0)))(hm:xs.length=m)(hml:Nat.ble m 16777216=true)(hn:∀x ∈ xs,(enc x).size=n)(hc:c.toList=ET enc xs) :
  Ae h h' (.slice (some ⟨r,0,none⟩) m m) t n enc xs:=by
 subst hm
 have:=Nat.le_of_ble_eq_true hml
 refine .inr ⟨r,_,c,rfl,hr,hb,?_,Nat.le_refl _,O,?_,hn⟩
 ·rw [<-GC hn,<-hc,Array.length_toList]
 ·rw [hc,<-GC hn,List.take_length]
theorem Aq{t:bX}{len n:Nat}{z cells:Array bW}{e:bX}{parts:Array (Nat×Operand)}(hs:EA P t=some (n,z,e))(hl:len*n<=2 ^ 24)(hn:(len*n=0)=False)
  (hf:Instr.fill (λi=>some (i*n,n)) ((Array.range (len*n)).map (z[·%z.size]!)) (parts.map λ(i,x)=>(i,Ag V x)).toList=some cells)
  (k:∀r h',h r=none->h.Le h'->h' r=some (true,.cells cells e (0,0))->(∀b,b≠r->h' b=h b)->bN (putS V dst (.slice (some ⟨r,0,none⟩) len len)) ds h'):B9 E ⟨dst,.buildSlice t len parts,ty,pos,af,gd⟩ V ds h bN:=
 UV hs hl hn hf λr a=>k r _ a (A.Le.new a _ _) (A.set_same _ _ _ _) λb c=>A.set_ne _ _ _ c
theorem Ei{t:bX}{n:Nat}{z:Array bW}{e:bX}(hs:EA P t=some (n,z,e))(k:∀r h',h r=none->h.Le h'->h' r=some (true,.cells #[] e (0,0))->(∀b,b≠r->h' b=h b)->bN (putS V dst (.slice (some ⟨r,0,none⟩) 0 0)) ds h') :
  B9 E ⟨dst,.buildSlice t 0 #[],ty,pos,af,gd⟩ V ds h bN:=by
 unfold B9 execOp;refine HL ?_;unfold EA at hs;unfold Instr.buildSlice;cases c:P.underlying t with
 | none=>rw [c] at hs;cases hs
 | some d=>
  rw [c] at hs;cases d <;> first | (cases hs;done) | skip
  rename_i f
  simp only at hs;cases a:DN P f with
  | none=>rw [a] at hs;cases hs
  | some x=>
   cases g:CZ P f with
   | none=>rw [a,g] at hs;cases hs
   | some o=>
    rw [a,g] at hs;simp only [Option.some.injEq,Prod.mk.injEq] at hs;obtain ⟨rfl,rfl,rfl⟩:=hs;refine AI _ _ (BG c ?_);refine AI _ _ (Ht (by rw [a];rfl) ?_);rw [Nat.zero_mul,bU aF];dsimp only;rw [bV rfl];refine AI _ _ (BS ?_);have l:Instr.fill (λi=>some (i*x.snd,x.snd)) (Array.map (λy=>(#[]:Array bW)[y%(#[]:Array bW).size]!) (Array.range 0)) (Array.map (λy:Nat×Operand=>(y.fst,Ag V y.snd)) #[]).toList=some #[]:=by
     simp [Instr.fill]
    rw [l];dsimp only;refine AI _ _ ?_;unfold newRow;refine AI _ _ (λr j=>?_);exact k r _ j (A.Le.new j _ _) (A.set_same _ _ _ _) λb m=>A.set_ne _ _ _ m
end
end Go.Ns
namespace Go.Ns
open Go.Conc
section
variable {P:Program} {E:Ho P}
def If:Op->Option (List Operand)
 | .move x | .assign x | .box _ x | .unOp _ _ x | .convert _ _ x | .load _ x | .fieldAddr _ x _ | .field _ x _ | .nilCheck x | .extract x _ | .makeInterface _ x | .makeChan _ x | .typeAssert x _ _ _=>some [x]
 | .pick c a b=>some [c,a,b]
 | .alloc _=>some []
 | .build _ ps | .buildSlice _ _ ps=>some (ps.toList.map (·.2))
 | .store _ a x | .binOp _ _ a x _ | .indexAddr _ a x | .index _ a x | .lookup _ a x _ | .makeSlice _ a x=>some [a,x]
 | .makeFunc _ f c=>some (f.toList++c.toList)
 | .makeMap _ r=>some r.toList
 | .slice _ x lo hi mx=>some (x ::(lo.toList++(hi.toList++mx.toList)))
 | .mapUpdate _ m k x=>some [m,k,x]
 | .call c=>some (c.args.toList++match c.callee with | .value f=>[f] | .invoke r _=>[r] | .builtin _=>[])
 | _=>none
theorem SF{ρ ρ':Operand->bW}{a:Array Operand}(e:∀x ∈ a.toList,ρ x=ρ' x):a.map ρ=a.map ρ':=by
 apply Array.toList_inj.1;rw [Array.toList_map,Array.toList_map];exact List.map_congr_left e
theorem YC{ρ ρ':Operand->bW}{a:Array (Nat×Operand)}(e:∀x ∈ a.toList.map (·.2),ρ x=ρ' x):(a.map λ(i,x)=>(i,ρ x))=a.map λ(i,x)=>(i,ρ' x):=by
 apply Array.toList_inj.1;rw [Array.toList_map,Array.toList_map];exact List.map_congr_left λx b=>by
  have:=e x.2 (List.mem_map.2 ⟨x,b,rfl⟩)
  obtain ⟨i,y⟩:=x;exact congrArg (Prod.mk i) this
theorem map_o{ρ ρ':Operand->bW}{a:Option Operand}(e:∀x ∈ a.toList,ρ x=ρ' x):a.map ρ=a.map ρ':=by
 cases a with
 | none=>rfl
 | some x=>simp [e x aG]
theorem N4{ρ ρ':Operand->bW}{o:Oper}{xs:List Operand}(hx:If o.op=some xs)(e:∀x ∈ xs,ρ x=ρ' x):execOp ρ o=execOp ρ' o:=by
 obtain ⟨h,op,k,i,l,p⟩:=o;cases op <;> simp only [If,Option.some.injEq,reduceCtorEq] at hx
 case call c=>
  subst hx;have j:=SF (a:=c.args) λx hx=>e x (List.mem_append_left _ hx);simp only [execOp,resolve,j];cases d:c.callee with
  | builtin b=>rfl
  | value f=>simp only [];rw [e f (List.mem_append_right _ (by rw [d];simp))]
  | invoke r m=>simp only [];rw [e r (List.mem_append_right _ (by rw [d];simp))]
 case makeFunc f a b=>
  subst hx;simp only [execOp];rw [SF (a:=a) λx hx=>e x (List.mem_append_left _ hx),SF (a:=b) λx hx=>e x (List.mem_append_right _ hx)]
 case slice t x lo hi mx=>
  subst hx;simp only [execOp];rw [e x aG,map_o (a:=lo) λy g=>e y aI,map_o (a:=hi) λy g=>e y aI,map_o (a:=mx) λy g=>e y aI]
 case build t ps=>subst hx;simp only [execOp];rw [YC e]
 case buildSlice t n ps=>subst hx;simp only [execOp];rw [YC e]
 case makeMap t r=>subst hx;simp only [execOp];rw [map_o e]
 all_goals
  subst hx;simp only [List.mem_cons,or_false,forall_eq_or_imp,forall_eq,List.not_mem_nil,false_implies,implies_true] at e;simp [execOp,e]
def JV(xs:List Operand):List Nat:=xs.filterMap λx=>match x with | .tmp t=>some t | _=>none
theorem P5{V σ':Nat->bW}{xs:List Operand}(e:∀t ∈ JV xs,V t=σ' t):∀x ∈ xs,Ag V x=Ag σ' x:=λx a=>by
 cases x with
 | tmp t=>exact e t (List.mem_filterMap.2 ⟨_,a,rfl⟩)
 | const v=>rfl
 | global g=>rfl
 | func f=>rfl
def Mq:Op->Bool
 | .call c=>match c.callee with
  | .builtin b=>b==.len || b==.cap || b==.min || b==.max
  | _=>false
 | .move _ | .assign _ | .nilCheck _ | .pick .. | .build .. | .load .. | .binOp .. | .unOp .. | .convert .. | .makeFunc .. | .fieldAddr .. | .field .. | .indexAddr .. | .index .. | .extract .. | .lookup .. | .slice .. | .makeInterface .. | .typeAssert .. =>true
 | _=>false
theorem MS{β:Type}{s:Sem β}{f:β->bW}{h:A}{Q:Next->A->Prop}:(s.bind λx=>(Sem.pure (Next.value (f x)):Sem Next)).gh P h Q->(s.bind λx=>(Sem.pure (Next.value (f x)):Sem Next)).gh P h λa h'=>Q a h'/\∃v,a=.value v:=by
 induction s generalizing h with
 | pure a=>intro x;exact ⟨x,_,rfl⟩
 | load m a k b=>rintro ⟨i,j,p,c,t,f,v,e,d,z⟩;exact ⟨i,j,p,c,t,f,v,e,d,b v z⟩
 | store m a v k b=>rintro ⟨i,j,u,c,t,f,e,d,g,z⟩;exact ⟨i,j,u,c,t,f,e,d,g,b z⟩
 | new o k b=>intro x r w;exact b r (x r w)
 | shape r k b=>rintro ⟨p,c,t,f,y,z⟩;exact ⟨p,c,t,f,y,b _ z⟩
 | freeze a n k b=>
  rintro (⟨y,z⟩ | ⟨y,c,t,f,d,z⟩)
  ·exact .inl ⟨y,b z⟩
  ·exact .inr ⟨y,c,t,f,d,b z⟩
 | frozen a k b=>rintro ⟨p,c,t,f,y,z⟩;exact ⟨p,c,t,f,y,b _ z⟩
 | getObj r k b=>rintro ⟨p,o,e,d,g,z⟩;exact ⟨p,o,e,d,g,b _ z⟩
 | setObj r o k b=>rintro ⟨C,e,d,l,g,z⟩;exact ⟨C,e,d,l,g,b z⟩
 | choose q k b=>rintro ⟨y,z⟩;exact ⟨λx=>b _ (y x),λx t=>b _ (z x t)⟩
 | sys c k b=>intro x;exact x.elim
 | program k b=>intro x;exact b _ x
 | mark m k b=>rintro ⟨y,z⟩;exact ⟨y,b z⟩
 | halt x=>intro y;exact y.elim
def I3(P:Program)(e:Sem Next):Prop:=∀(h:A)(Q:Next->A->Prop),e.gh P h Q->e.gh P h λa h'=>Q a h'/\∃v,a=.value v
theorem I3.bind{β:Type}{s:Sem β}{f:β->Sem Next}(hf:∀a,I3 P (f a)):I3 P (s.bind f):=by
 induction s with
 | pure a=>exact hf a
 | load m a k b=>rintro h Q ⟨i,j,p,c,t,f,v,e,d,z⟩;exact ⟨i,j,p,c,t,f,v,e,d,b v _ _ z⟩
 | store m a v k b=>rintro h Q ⟨i,j,u,c,t,f,e,d,g,z⟩;exact ⟨i,j,u,c,t,f,e,d,g,b _ _ z⟩
 | new o k b=>intro h Q x r w;exact b r _ _ (x r w)
 | shape r k b=>rintro h Q ⟨p,c,t,f,y,z⟩;exact ⟨p,c,t,f,y,b _ _ _ z⟩
 | freeze a n k b=>
  rintro h Q (⟨y,z⟩ | ⟨y,c,t,f,d,z⟩)
  ·exact .inl ⟨y,b _ _ z⟩
  ·exact .inr ⟨y,c,t,f,d,b _ _ z⟩
 | frozen a k b=>rintro h Q ⟨p,c,t,f,y,z⟩;exact ⟨p,c,t,f,y,b _ _ _ z⟩
 | getObj r k b=>rintro h Q ⟨p,o,e,d,g,z⟩;exact ⟨p,o,e,d,g,b _ _ _ z⟩
 | setObj r o k b=>rintro h Q ⟨C,e,d,l,g,z⟩;exact ⟨C,e,d,l,g,b _ _ z⟩
 | choose q k b=>rintro h Q ⟨y,z⟩;exact ⟨λx=>b _ _ _ (y x),λx t=>b _ _ _ (z x t)⟩
 | sys c k b=>intro h Q x;exact x.elim
 | program k b=>intro h Q x;exact b _ _ _ x
 | mark m k b=>rintro h Q ⟨y,z⟩;exact ⟨y,b _ _ z⟩
 | halt x=>intro h Q y;exact y.elim
theorem I3.value(v:bW):I3 P (pure (.value v)):=λ_ _ x=>⟨x,v,rfl⟩
theorem leaf_val{ρ:Operand->bW}{o:Oper}(hv:Mq o.op=true){h:A}{Q:Next->A->Prop}(x:(execOp ρ o).gh P h Q):(execOp ρ o).gh P h λa h'=>Q a h'/\∃v,a=.value v:=by
 obtain ⟨d,op,i,g,j,k⟩:=o;cases op
 case nilCheck a=>
  have l:I3 P (runtimePanic .nilDeref:Sem Next):=λ_ _ y=>by first | exact y.elim | exact I3.bind (λ_=>λ_ _ z=>z.elim) _ _ y
  have t:I3 P (execOp ρ ⟨d,.nilCheck a,i,g,j,k⟩):=by
   unfold execOp;dsimp only;split
   ·exact l
   ·exact l
   ·exact l
   ·split
    ·exact l
    ·refine I3.bind λp=>I3.bind λr=>?_;split
     ·exact I3.bind λ_=>I3.value _
     ·exact I3.value _
    ·exact I3.value _
   ·exact I3.value _
  exact t _ _ x
 case call c=>
  simp only [Mq] at hv;have e:∀s:Sem bW,execOp ρ ⟨d,.call c,i,g,j,k⟩=s.bind (λx=>Sem.pure (Next.value x))->(execOp ρ ⟨d,.call c,i,g,j,k⟩).gh P h λa h'=>Q a h'/\∃v,a=.value v:=λs q=>by
   rw [q] at x ⊢;exact MS (f:=λx=>x) x
  cases n:c.callee with
  | value f=>rw [n] at hv;cases hv
  | invoke r m=>rw [n] at hv;cases hv
  | builtin b=>
   rw [n] at hv;have q:execOp ρ ⟨d,.call c,i,g,j,k⟩=builtin b c.argTypes i (c.args.map fun | .const _=>true | _=>false) (c.args.map ρ):=by
    show (resolve ρ c i).bind _=_;unfold resolve;rw [n];rfl
   cases b <;> first | (simp at hv;done) | exact e _ q
 all_goals first | (simp [Mq] at hv;done) | skip
 all_goals first | exact MS (s:=Sem.pure _) (f:=λ_=>_) x | exact MS (f:=λx=>x) x | exact MS (β:=Bool) x
theorem A.Le.get{h h':A}(l:h.Le h'){b:Nat}{x:Bool×Obj}(hb:h b=some x):h' b=some x:=l.keep (p:=x.1) (o:=x.2) hb rfl
theorem A.Le.of{h h':A}(x:∀b y,h b=some y->h' b=some y):h.Le h':=λb p o a=>⟨o,x b _ a,.inl rfl⟩
def over(h' h2:A):A:=λb=>match h' b with
 | some x=>some x
 | none=>h2 b
theorem Uw{h h2:A}(l:h.Le h2):over h h2=h2:=funext λb=>by
 unfold over;split
 ·rename_i x a;exact (l.get a).symm
 ·rfl
theorem A.Le.set2{h h2:A}(l:h.Le h2)(r:Nat)(p:Bool)(o:Obj):(h.set r p o).Le (h2.set r p o):=.of λb y a=>by
 by_cases e:b=r
 ·subst e;rw [A.set_same] at a ⊢;exact a
 ·rw [A.set_ne h p o e] at a;rw [A.set_ne h2 p o e];exact l.get a
def YD(h h':A):Prop:=∀b,(∃x,h b=some x)->∃x,h' b=some x
theorem N5{h h' h2:A}{r:Nat}{p:Bool}{o:Obj}(d:YD (h.set r p o) h'):over h' (h2.set r p o)=over h' h2:=funext λb=>by
 unfold over;by_cases e:b=r
 ·subst e;obtain ⟨x,a⟩:=d b ⟨_,A.set_same h b p o⟩;rw [a]
 ·rw [A.set_ne h2 p o e]
theorem YD.set{h h':A}{r:Nat}{p:Bool}{o:Obj}(d:YD (h.set r p o) h'):YD h h':=λb ⟨x,a⟩=>by
 by_cases e:b=r
 ·subst e;exact d b ⟨_,A.set_same h b p o⟩
 ·exact d b ⟨x,by rw [A.set_ne h p o e];exact a⟩
theorem gh_over{α:Type}(e:Sem α){Q:α->A->Prop}:∀{h h2:A},h.Le h2->e.gh P h Q->e.gh P h2 λa h3=>∃h',YD h h'/\Q a h'/\h3=over h' h2:=by
 induction e with
 | pure a=>intro h h2 l x;exact ⟨h,λ_ y=>y,x,(Uw l).symm⟩
 | load m a k b=>rintro h h2 l ⟨s,u,p,c,t,f,v,i,g,z⟩;exact ⟨s,u,p,c,t,f,v,l.get i,g,b v l z⟩
 | store m a v k b=>
  rintro h h2 l ⟨s,u,F,c,t,f,i,g,j,z⟩;exact ⟨s,u,F,c,t,f,l.get i,g,j,GO _ (λ_ _ ⟨h',d,q,r⟩=>⟨h',d.set,q,r.trans (N5 d)⟩) _ (b (l.set2 _ _ _) z)⟩
 | new o k b=>
  intro h h2 l x r D;have w:h r=none:=by
   cases H:h r with
   | none=>rfl
   | some y=>rw [l.get H] at D;cases D
  exact GO _ (λ_ _ ⟨h',d,q,r⟩=>⟨h',d.set,q,r.trans (N5 d)⟩) _ (b r (l.set2 _ _ _) (x r w))
 | shape r k b=>rintro h h2 l ⟨p,c,t,f,y,z⟩;exact ⟨p,c,t,f,l.get y,b _ l z⟩
 | freeze a n k b=>
  rintro h h2 l (⟨y,z⟩ | ⟨y,c,t,f,g,z⟩)
  ·exact .inl ⟨y,b l z⟩
  ·exact .inr ⟨y,c,t,f,l.get g,GO _ (λ_ _ ⟨h',d,q,r⟩=>⟨h',d.set,q,r.trans (N5 d)⟩) _ (b (l.set2 _ _ _) z)⟩
 | frozen a k b=>rintro h h2 l ⟨p,c,t,f,y,z⟩;exact ⟨p,c,t,f,l.get y,b _ l z⟩
 | getObj r k b=>rintro h h2 l ⟨p,o,i,g,j,z⟩;exact ⟨p,o,l.get i,g,j,b _ l z⟩
 | setObj r o k b=>
  rintro h h2 l ⟨I,i,g,C,j,z⟩;exact ⟨I,l.get i,g,C,j,GO _ (λ_ _ ⟨h',d,q,r⟩=>⟨h',d.set,q,r.trans (N5 d)⟩) _ (b (l.set2 _ _ _) z)⟩
 | choose q k b=>rintro h h2 l ⟨y,z⟩;exact ⟨λx=>b _ l (y x),λx t=>b _ l (z x t)⟩
 | sys c k b=>intro h h2 l x;exact x.elim
 | program k b=>intro h h2 l x;exact b _ l x
 | mark m k b=>rintro h h2 l ⟨y,z⟩;exact ⟨y,b l z⟩
 | halt x=>intro h h2 l y;exact y.elim
def WZ(E:Ho P)(o:Oper)(V:Nat->bW)(ds:List Deferred)(h:A)(v:bW):Prop:=B9 E o V ds h λσ' ds' h'=>σ'=putS V o.dst v/\ds'=ds/\h'=h
theorem WZ.move{o:Oper}{xs:List Operand}{V σ2:Nat->bW}{ds:List Deferred}{h h2:A}{v:bW}(hv:Mq o.op=true)(hx:If o.op=some xs)(e:∀t ∈ JV xs,V t=σ2 t)(l:h.Le h2)
  (y:WZ E o V ds h v):WZ E o σ2 ds h2 v:=by
 unfold WZ B9 at y ⊢;rw [<-N4 hx (P5 e)];refine GO _ ?_ _ (gh_over _ l (leaf_val hv y));rintro a f ⟨g,_,⟨q,i,rfl⟩,rfl⟩;obtain ⟨b,_,rfl⟩:=q;refine ⟨?_,rfl,Uw l⟩;cases c:o.dst with
 | none=>rfl
 | some d=>
  have:=congrFun b d
  simp only [c,putS,upd_same] at this;rw [this]
theorem B9.move{o:Oper}{xs:List Operand}{V σ2:Nat->bW}{ds:List Deferred}{h:A}{bN T2:(Nat->bW)->List Deferred->A->Prop}(hx:If o.op=some xs)(e:∀t ∈ JV xs,V t=σ2 t)
  (ht:∀x ds' h',bN (putS V o.dst x) ds' h'->T2 (putS σ2 o.dst x) ds' h') (y:B9 E o V ds h bN):B9 E o σ2 ds h T2:=by
 unfold B9 at y ⊢;rw [<-N4 hx (P5 e)];refine GO _ (λb h' q=>?_) _ y;cases b <;> first | exact ht _ _ _ q | exact Al.mono q λv a r=>ht _ _ _ r | exact B3.mono q λv a r=>ht _ _ _ r | exact q
inductive Kd where
 | p | r | e | w | a | l | b
 deriving DecidableEq
def Kd.fix:Kd->Bool
 | .a | .l | .b=>false
 | _=>true
def isB:bW->Bool->Bool
 | .bool is,w=>is==w
 | _,_=>false
def Gd(l:List Oper)(o:Oper)(V:Nat->bW)(b:Bool):Prop:=match o.guard with
 | none=>b=true
 | some (g,w)=>∃og d is,l[g]? =some og/\og.dst=some d/\V d=is/\b=isB is w
theorem Gd.iff{l:List Oper}{o:Oper}{V:Nat->bW}{b:Bool}(x:Gd l o V b):EB l o V↔b=true:=by
 unfold Gd at x;unfold EB;cases a:o.guard with
 | none=>rw [a] at x;simp only at x;simp [x]
 | some y=>
  obtain ⟨g,w⟩:=y;rw [a] at x;obtain ⟨h,d,is,c,e,f,rfl⟩:=x;simp only [c,e,f];cases is <;> simp [isB]
def Gw(fl:Bool)(h hx:A):Prop:=h.Le hx/\(fl=false->hx=h)
theorem Gw.refl(fl:Bool)(h:A):Gw fl h h:=⟨A.Le.refl h,λ_=>rfl⟩
def zOf(P:Program)(t:bX):Array bW:=(CZ P t).getD #[]
def skS:Kd->(Nat->bW)->Option Nat->Nat->bW
 | .l,V,_=>V
 | _,V,d=>putS V d undef
def TD(E:Ho P)(l:List Oper)(n:Nat)(fl:Bool)(hs:A)(ds:List Deferred)(Lw:Nat->bW->A->Prop)(F:(Nat->bW)->A->Prop):List (Kd×Nat)->(Nat->bW)->A->Prop
 | [],V,h=>∀hx,Gw fl h hx->F V hx
 | (kd,k) ::π,V,h=>∃o b,l[k]? =some o/\Gd l o V b/\(b=false->TD E l n fl hs ds Lw F π (skS kd V o.dst) h)/\(b=true->match kd with
  | .p=>∃v,(∀hx,Lw n undef hx->WZ E o V ds hx v)/\TD E l n fl hs ds Lw F π (putS V o.dst v) h
  | .r=>∃v,WZ E o V ds h v/\TD E l n fl hs ds Lw F π (putS V o.dst v) h
  | .e=>∀hx,Gw fl h hx->B9 E o V ds hx λσ' ds' h'=>ds'=ds/\∃v,σ'=putS V o.dst v/\hx.Le h'/\TD E l n fl hs ds Lw F π (putS V o.dst v) h'
  | .w=>∀hx,Gw fl h hx->B9 E o V ds hx λσ' ds' h'=>ds'=ds/\∃v,σ'=putS V o.dst v/\Lw n undef h'/\TD E l n false hs ds Lw F π (putS V o.dst v) h'
  | .a=>∀t r hx,o.op=.alloc t->h.Le hx->hs r=none->hx r=some (true,.cells (zOf P t) t (0,0))->TD E l n fl hs ds Lw F π (putS V o.dst (.pointer (some ⟨r,0,none⟩))) hx
  | .l=>(∀hx,h.Le hx->B9 E o V ds hx λσ' ds' h'=>ds'=ds/\∃v,σ'=putS V o.dst v/\hx.Le h'/\Lw k v h')/\TD E l n fl hs ds Lw F π V h
  | .b=>∀v hx,h.Le hx->Lw k v hx->TD E l n fl hs ds Lw F π (putS V o.dst v) hx)
def IW(l:List Oper)(n:Nat)(cl seen:List Nat)(t:Nat):Bool:= !(EP l n).contains t || seen.any λj=>cl.contains j && match l[j]? with
 | some oj=>oj.dst==some t
 | none=>false
def Jp(l:List Oper)(n:Nat)(cls:List (List Nat))(seen:List Nat)(k t:Nat):Bool:=(List.range n).any λj=> !seen.contains j && (cls.getD j []).contains k && match l[j]? with
 | some oj=>oj.dst==some t
 | none=>false
def Wa(P:Program):Op->Bool
 | .alloc t=>(CZ P t).isSome
 | _=>false
def HR(P:Program)(l:List Oper)(n:Nat)(cls:List (List Nat))(fl:Bool):List (Kd×Nat)->List Nat->List Nat->List Nat->Bool->Bool
 | [],seen,_,_,_=>(List.range n).all seen.contains
 | (kd,k) ::π,seen,effs,rds,wr=>match l[k]? with
  | none=>false
  | some o=>(match If o.op with
    | none=>false
    | some xs=>Nat.blt k n && !seen.contains k && (JV xs).all λt=>IW l n (cls.getD k []) seen t || (kd.fix && Jp l n cls seen k t)) &&
   (match o.guard with
    | none=>true
    | some (g,_)=>seen.contains g && (cls.getD k []).contains g) &&
   (match kd with
    | .p=>Mq o.op && effs.all (cls.getD k []).contains && HR P l n cls fl π (k ::seen) effs rds wr
    | .r=>Mq o.op && effs.all (cls.getD k []).contains && HR P l n cls fl π (k ::seen) effs (k ::rds) wr
    | .e=>effs.all (cls.getD k []).contains && HR P l n cls fl π (k ::seen) (k ::effs) rds wr
    | .w=>effs.all (cls.getD k []).contains && rds.all (cls.getD k []).contains && HR P l n cls fl π (k ::seen) (k ::effs) rds true
    | .a=>fl && !wr && Wa P o.op && o.dst.isSome && o.guard.isNone && HR P l n cls fl π (k ::seen) (k ::effs) rds wr
    | .l=>fl && o.dst.isSome && effs.all (cls.getD k []).contains && HR P l n cls fl π seen effs rds wr
    | .b=>fl && !wr && o.dst.isSome && HR P l n cls fl π (k ::seen) (k ::effs) rds wr)
structure PF(E:Ho P)(l:List Oper)(n:Nat)(cls:List (List Nat))(ds:List Deferred)(Lw:Nat->bW->A->Prop)(σ0:Nat->bW)(seen rds:List Nat)(σr:Nat->bW)(h':A)(k:Nat)(o:Oper)(xs:List Operand)(b:Bool)(v:bW):Prop where
 at':l[k]? =some o
 op:If o.op=some xs
 val:Mq o.op=true
 gfix:∀g w,o.guard=some (g,w)->g ∈ seen/\g ∈ cls.getD k []
 gd:Gd l o σr b
 vop:b=true->∃σk,(∀t ∈ JV xs,(IW l n (cls.getD k []) seen t=true/\σk t=σr t)\/(Jp l n cls [] k t=true/\σk t=σ0 t))/\WZ E o σk ds h' v/\(k ∈ rds\/∀hx,Lw n undef hx->WZ E o σk ds hx v)
 is:∀d,o.dst=some d->σr d=if b=true then v else undef
def Prm(E:Ho P)(l:List Oper)(n:Nat)(cls:List (List Nat))(ds:List Deferred)(Lw:Nat->bW->A->Prop)(seen:List Nat)(σr:Nat->bW)(h':A)(k:Nat):Prop:=
 ∃o xs b,l[k]? =some o/\If o.op=some xs/\(∀t ∈ JV xs,IW l n (cls.getD k []) seen t=true)/\(∀g w,o.guard=some (g,w)->g ∈ seen/\g ∈ cls.getD k [])/\Gd l o σr b/\(b=true->
  ∀σ2 hx,(∀t ∈ JV xs,σr t=σ2 t)->h'.Le hx->B9 E o σ2 ds hx λσ'' ds' h2=>ds'=ds/\∃v,σ''=putS σ2 o.dst v/\hx.Le h2/\Lw k v h2)
structure Ig(E:Ho P)(l:List Oper)(n:Nat)(cls:List (List Nat))(fl:Bool)(hs:A)(ds:List Deferred)(Lw:Nat->bW->A->Prop)(F:(Nat->bW)->A->Prop)(σ0:Nat->bW)(seen effs rds:List Nat)(wr:Bool)(π:List (Kd×Nat))(σr:Nat->bW)(hr:A)
  (D:Nat->Bool) (σ':Nat->bW) (h':A):Prop where
 td:TD E l n (fl && !wr) hs ds Lw F π σr hr
 ok:HR P l n cls fl π seen effs rds wr=true
 gw:Gw (fl && !wr) hr h'
 base:∀t,(EP l n).contains t=false->σ' t=σr t
 lt:∀k ∈ seen,k<n
 eff:∀k ∈ effs,D k=true
 rest:∀kd k,(kd,k) ∈ π->kd.fix=true->D k=false
 done:∀k ∈ seen,D k=true->∀o d,l[k]? =some o->o.dst=some d->σ' d=σr d
 pend:∀k ∈ seen,D k=false->∃o xs b v,PF E l n cls ds Lw σ0 seen rds σr h' k o xs b v
 flo:∀k,(Kd.a,k) ∈ π->D k=true->∀o t d,l[k]? =some o->o.op=.alloc t->o.dst=some d->∃r,σ' d=.pointer (some ⟨r,0,none⟩)/\hs r=none/\h' r=some (true,.cells (zOf P t) t (0,0))
 flb:∀k,(Kd.b,k) ∈ π->D k=false->(Kd.l,k) ∈ π\/Prm E l n cls ds Lw seen σr h' k
 fld:∀k,(Kd.b,k) ∈ π->D k=true->∀o d,l[k]? =some o->o.dst=some d->∃b,Gd l o σ' b/\(b=true->Lw k (σ' d) h')/\(b=false->σ' d=undef)
 mono:∀k v h1 h2,A.Le h1 h2->Lw k v h1->Lw k v h2
 frm:Lw n undef h'
 pre:wr=false->hs.Le h'
 clos:∀k,k<n->D k=true->∀q ∈ cls.getD k [],D q=true
 iniR:∀j,j<n->j ∉ seen->∀o t,l[j]? =some o->o.dst=some t->σr t=σ0 t
 iniS:∀j,j<n->D j=false->∀o t,l[j]? =some o->o.dst=some t->σ' t=σ0 t
theorem ND{l:List Oper}{n:Nat}{cls:List (List Nat)}{seen:List Nat}{k t:Nat}(x:Jp l n cls seen k t=true):∃j o,j<n/\j ∉ seen/\k ∈ cls.getD j []/\l[j]? =some o/\o.dst=some t:=by
 unfold Jp at x;obtain ⟨j,b,y⟩:=List.any_eq_true.1 x;rw [Bool.and_eq_true,Bool.and_eq_true] at y;cases a:l[j]? with
 | none=>rw [a] at y;simp at y
 | some c=>
  rw [a] at y;exact ⟨j,c,List.mem_range.1 b,(λd=>by rw [List.contains_iff_mem.2 d] at y;simp at y),List.contains_iff_mem.1 y.1.2,a,by simpa using y.2⟩
theorem SG{l:List Oper}{n:Nat}{cls:List (List Nat)}{seen:List Nat}{k t:Nat}(x:Jp l n cls seen k t=true):Jp l n cls [] k t=true:=by
 unfold Jp at x ⊢;obtain ⟨j,a,y⟩:=List.any_eq_true.1 x;rw [Bool.and_eq_true,Bool.and_eq_true] at y;exact List.any_eq_true.2 ⟨j,a,by rw [Bool.and_eq_true,Bool.and_eq_true];exact ⟨⟨rfl,y.1.2⟩,y.2⟩⟩
theorem LW{l:List Oper}{n:Nat}{cl seen:List Nat}{k t:Nat}(x:IW l n cl seen t=true):IW l n cl (k ::seen) t=true:=by
 unfold IW at x ⊢;rw [Bool.or_eq_true] at x ⊢;rcases x with x | x
 ·exact .inl x
 ·exact .inr (by rw [List.any_cons,x];simp)
theorem O7{l:List Oper}{n:Nat}{cl seen:List Nat}{k t d:Nat}{o:Oper}(nd:(EP l n).Nodup)(hlt:∀k ∈ seen,k<n)(hk:k<n)(hs:k ∉ seen)(ho:l[k]? =some o)(hd:o.dst=some d)(x:IW l n cl seen t=true):t≠d:=by
 intro e;subst e;unfold IW at x;rw [Bool.or_eq_true] at x;rcases x with x | x
 ·have:t ∈ EP l n:=by
   simp only [EP,List.mem_filterMap];refine ⟨o,?_,hd⟩
   have:(l.take n)[k]? =some o:=by rw [List.getElem?_take];simp [hk,ho]
   exact List.mem_of_getElem? this
  simp [this] at x
 ·rw [List.any_eq_true] at x;obtain ⟨j,b,y⟩:=x;rw [Bool.and_eq_true] at y;cases a:l[j]? with
  | none=>rw [a] at y;simp at y
  | some c=>
   rw [a] at y;have f:c.dst=some t:=by simpa using y.2
   exact E7 nd hk (hlt j b) (λe=>hs (e▸b)) ho a hd f rfl
theorem De{V:Nat->bW}{o:Oper}{v:bW}{t:Nat}(h:∀d,o.dst=some d->t≠d):putS V o.dst v t=V t:=by
 cases a:o.dst with
 | none=>rfl
 | some d=>exact upd_ne V v (WW (h d a))
theorem Ih{l:List Oper}{n k t:Nat}{o:Oper}(hk:k<n)(ho:l[k]? =some o)(ht:(EP l n).contains t=false):∀d,o.dst=some d->t≠d:=λd a e=>by
 subst e;rw [X8 hk ho a] at ht;cases ht
section
variable {l:List Oper} {n:Nat} {cls:List (List Nat)} {fl:Bool} {hs:A} {ds:List Deferred} {Lw:Nat->bW->A->Prop} {F:(Nat->bW)->A->Prop} {seen effs rds:List Nat} {wr:Bool} {π:List (Kd×Nat)} {σ0 σr σ':Nat->bW} {hr h':A} {D:Nat->Bool}
theorem Gd.put{o ok:Oper}{k:Nat}{b:Bool}{v:bW}(nd:(EP l n).Nodup)(hlt:∀k ∈ seen,k<n)(hk:k<n)(hks:k ∉ seen)(hok:l[k]? =some ok)(hg:∀g w,o.guard=some (g,w)->g ∈ seen)(x:Gd l o σr b):Gd l o (putS σr ok.dst v) b:=by
 unfold Gd at x ⊢;cases a:o.guard with
 | none=>rw [a] at x;exact x
 | some y=>
  obtain ⟨g,w⟩:=y;rw [a] at x;obtain ⟨j,d,is,h,i,m,p⟩:=x;have c:=hg g w a;exact ⟨j,d,is,h,i,by rw [De λq f=>E7 nd hk (hlt g c) (λe=>hks (e▸c)) hok h f i];exact m,p⟩
theorem PF.put{k j:Nat}{o ok:Oper}{xs:List Operand}{b:Bool}{v w:bW}(nd:(EP l n).Nodup)(hlt:∀k ∈ seen,k<n)(hk:k<n)(hks:k ∉ seen)(hok:l[k]? =some ok)(hj:j ∈ seen)(l2:hr.Le h')
  (x:PF E l n cls ds Lw σ0 seen rds σr hr j o xs b v):PF E l n cls ds Lw σ0 (k ::seen) rds (putS σr ok.dst w) h' j o xs b v where
 at':=x.at'
 op:=x.op
 val:=x.val
 gfix:=λg a c=>⟨List.mem_cons_of_mem _ (x.gfix g a c).1,(x.gfix g a c).2⟩
 gd:=x.gd.put nd hlt hk hks hok λg a c=>(x.gfix g a c).1
 vop:=λi=>by
  obtain ⟨σk,m,p,r⟩:=x.vop i;exact ⟨σk,λt s=>(m t s).imp (λq=>⟨LW q.1,q.2.trans (De λd f=>O7 nd hlt hk hks hok f q.1).symm⟩) id,p.move x.val x.op (λ_ _=>rfl) l2,r⟩
 is:=λd f=>by rw [De λu h=>E7 nd hk (hlt j hj) (λe=>hks (e▸hj)) hok x.at' h f];exact x.is d f
theorem PF.more{j:Nat}{o:Oper}{xs:List Operand}{b:Bool}{v:bW}{k:Nat}(x:PF E l n cls ds Lw σ0 seen rds σr h' j o xs b v):PF E l n cls ds Lw σ0 seen (k ::rds) σr h' j o xs b v:=
 { x with vop:=λa=>by obtain ⟨σk,c,d,e⟩:=x.vop a;exact ⟨σk,c,d,e.imp (List.mem_cons_of_mem _) id⟩ }
theorem Prm.put{k j:Nat}{ok:Oper}{w:bW}(nd:(EP l n).Nodup)(hlt:∀k ∈ seen,k<n)(hk:k<n)(hks:k ∉ seen)(hok:l[k]? =some ok)(x:Prm E l n cls ds Lw seen σr h' j):Prm E l n cls ds Lw (k ::seen) (putS σr ok.dst w) h' j:=by
 obtain ⟨o,m,b,p,q,i,f,h,r⟩:=x;exact ⟨o,m,b,p,q,λt a=>LW (i t a),λg c e=>⟨List.mem_cons_of_mem _ (f g c e).1,(f g c e).2⟩,h.put nd hlt hk hks hok λg c e=>(f g c e).1,
  λs σ2 u e v=>r s σ2 u (λt a=>(De λd y=>O7 nd hlt hk hks hok y (i t a)).symm.trans (e t a)) v⟩
theorem Prm.le{j:Nat}{h2:A}(l2:h'.Le h2)(x:Prm E l n cls ds Lw seen σr h' j):Prm E l n cls ds Lw seen σr h2 j:=by
 obtain ⟨o,c,b,d,f,g,h,a,i⟩:=x;exact ⟨o,c,b,d,f,g,h,a,λk σ2 m e p=>i k σ2 m e (l2.trans p)⟩
theorem HT{kd kd2:Kd}{k j:Nat}(h:(kd2,j) ∈ (kd,k) ::π)(ne:kd2≠kd):(kd2,j) ∈ π:=by
 rcases List.mem_cons.1 h with e | h
 ·cases e;exact absurd rfl ne
 ·exact h
def headOK(P:Program)(l:List Oper)(n:Nat)(cls:List (List Nat))(fl:Bool)(π:List (Kd×Nat))(seen effs rds:List Nat)(wr:Bool)(k:Nat)(o:Oper):Kd->Prop
 | .p=>Mq o.op=true/\(∀q ∈ effs,q ∈ cls.getD k [])/\HR P l n cls fl π (k ::seen) effs rds wr=true
 | .r=>Mq o.op=true/\(∀q ∈ effs,q ∈ cls.getD k [])/\HR P l n cls fl π (k ::seen) effs (k ::rds) wr=true
 | .e=>(∀q ∈ effs,q ∈ cls.getD k [])/\HR P l n cls fl π (k ::seen) (k ::effs) rds wr=true
 | .w=>(∀q ∈ effs,q ∈ cls.getD k [])/\(∀q ∈ rds,q ∈ cls.getD k [])/\HR P l n cls fl π (k ::seen) (k ::effs) rds true=true
 | .a=>fl=true/\wr=false/\Wa P o.op=true/\o.dst.isSome=true/\o.guard=none/\HR P l n cls fl π (k ::seen) (k ::effs) rds wr=true
 | .l=>fl=true/\o.dst.isSome=true/\(∀q ∈ effs,q ∈ cls.getD k [])/\HR P l n cls fl π seen effs rds wr=true
 | .b=>fl=true/\wr=false/\o.dst.isSome=true/\HR P l n cls fl π (k ::seen) (k ::effs) rds wr=true
theorem Fu{kd:Kd}{k:Nat}(x:HR P l n cls fl ((kd,k) ::π) seen effs rds wr=true) :
  ∃o xs,l[k]? =some o/\If o.op=some xs/\k<n/\k ∉ seen/\(∀t ∈ JV xs,IW l n (cls.getD k []) seen t=true\/(kd.fix=true/\Jp l n cls seen k t=true))/\(∀g w,o.guard=some (g,w)->g ∈ seen/\g ∈ cls.getD k [])/\
  headOK P l n cls fl π seen effs rds wr k o kd:=by
 unfold HR at x;cases e:l[k]? with
 | none=>rw [e] at x;cases x
 | some o=>
  rw [e] at x;simp only [Bool.and_eq_true] at x;obtain ⟨⟨b,c⟩,a⟩:=x;cases d:If o.op with
  | none=>rw [d] at b;cases b
  | some xs=>
   rw [d] at b;simp only [Bool.and_eq_true,Bool.or_eq_true,Bool.not_eq_true',List.all_eq_true] at b;obtain ⟨⟨h,f⟩,i⟩:=b;refine ⟨o,xs,rfl,d,Nat.blt_eq▸h,(λj=>by rw [List.contains_iff_mem.2 j] at f;cases f),i,λg w m=>?_,?_⟩
   ·rw [m] at c;simp only [Bool.and_eq_true] at c;exact ⟨List.contains_iff_mem.1 c.1,List.contains_iff_mem.1 c.2⟩
   ·cases kd <;> unfold headOK <;> simp only [Bool.and_eq_true,List.all_eq_true,List.contains_iff_mem,Bool.not_eq_true',Option.isNone_iff_eq_none] at a ⊢
    ·exact ⟨a.1.1,a.1.2,a.2⟩
    ·exact ⟨a.1.1,a.1.2,a.2⟩
    ·exact a
    ·exact ⟨a.1.1,a.1.2,a.2⟩
    ·exact ⟨a.1.1.1.1.1,a.1.1.1.1.2,a.1.1.1.2,a.1.1.2,a.1.2,a.2⟩
    ·exact ⟨a.1.1.1,a.1.1.2,a.1.2,a.2⟩
    ·exact ⟨a.1.1.1,a.1.1.2,a.1.2,a.2⟩
theorem Hw{kd:Kd}{k:Nat}(x:HR P l n cls fl ((kd,k) ::π) seen effs rds wr=true):∃seen' effs' rds' wr',HR P l n cls fl π seen' effs' rds' wr'=true/\(∀q ∈ seen,q ∈ seen')/\(kd≠.l->seen'=k ::seen)/\(kd=.l->seen'=seen)/\(∀q ∈ effs,q ∈ effs')/\(kd=.e\/kd=.w\/kd=.a\/kd=.b->k ∈ effs'):=by
 obtain ⟨o,c,_,_,_,_,_,_,y⟩:=Fu x;cases kd with
 | p=>exact ⟨_,_,_,_,y.2.2,λ_ q=>List.mem_cons_of_mem _ q,λ_=>rfl,(λe=>by cases e),λ_ q=>q,λe=>by rcases e with e | e | e | e <;> cases e⟩
 | r=>exact ⟨_,_,_,_,y.2.2,λ_ q=>List.mem_cons_of_mem _ q,λ_=>rfl,(λe=>by cases e),λ_ q=>q,λe=>by rcases e with e | e | e | e <;> cases e⟩
 | e=>exact ⟨_,_,_,_,y.2,λ_ q=>List.mem_cons_of_mem _ q,λ_=>rfl,(λe=>by cases e),λ_ q=>List.mem_cons_of_mem _ q,λ_=>List.mem_cons_self⟩
 | w=>exact ⟨_,_,_,_,y.2.2,λ_ q=>List.mem_cons_of_mem _ q,λ_=>rfl,(λe=>by cases e),λ_ q=>List.mem_cons_of_mem _ q,λ_=>List.mem_cons_self⟩
 | a=>exact ⟨_,_,_,_,y.2.2.2.2.2,λ_ q=>List.mem_cons_of_mem _ q,λ_=>rfl,(λe=>by cases e),λ_ q=>List.mem_cons_of_mem _ q,λ_=>List.mem_cons_self⟩
 | l=>exact ⟨_,_,_,_,y.2.2.2,λ_ q=>q,(λe=>absurd rfl e),λ_=>rfl,λ_ q=>q,λe=>by rcases e with e | e | e | e <;> cases e⟩
 | b=>exact ⟨_,_,_,_,y.2.2.2,λ_ q=>List.mem_cons_of_mem _ q,λ_=>rfl,(λe=>by cases e),λ_ q=>List.mem_cons_of_mem _ q,λ_=>List.mem_cons_self⟩
theorem EU:∀{π:List (Kd×Nat)} {seen effs rds:List Nat} {wr:Bool},HR P l n cls fl π seen effs rds wr=true->∀kd k,(kd,k) ∈ π->k ∉ seen/\k<n
 | [],_,_,_,_,_,kd,k,h=>by cases h
 | (b,g) ::π,seen,effs,rds,wr,x,kd,k,h=>by
  obtain ⟨o,i,_,_,c,d,_⟩:=Fu x;rcases List.mem_cons.1 h with e | h
  ·cases e;exact ⟨d,c⟩
  ·obtain ⟨seen',effs',a,f,y,z,_⟩:=Hw x
   have:=EU y kd k h
   exact ⟨λq=>this.1 (z _ q),this.2⟩
theorem SH:∀{π:List (Kd×Nat)} {seen effs rds:List Nat} {wr:Bool},HR P l n cls fl π seen effs rds wr=true->∀i,i<n->i ∈ seen\/∃kd,(kd,i) ∈ π/\kd≠.l
 | [],seen,_,_,_,x,i,b=>by
  unfold HR at x;exact .inl (List.contains_iff_mem.1 (List.all_eq_true.1 x i (List.mem_range.2 b)))
 | (a,k) ::π,seen,effs,rds,wr,x,i,b=>by
  obtain ⟨seen',effs',d,f,y,_,g,j,_⟩:=Hw x;rcases SH y i b with h | ⟨kd,h,c⟩
  ·by_cases e:a=.l
   ·rw [j e] at h;exact .inl h
   ·rw [g e] at h;rcases List.mem_cons.1 h with rfl | h
    ·exact .inr ⟨a,List.mem_cons_self,e⟩
    ·exact .inl h
  ·exact .inr ⟨kd,List.mem_cons_of_mem _ h,c⟩
theorem SI:∀{π:List (Kd×Nat)} {seen effs rds:List Nat} {wr:Bool},HR P l n cls fl π seen effs rds wr=true->∀kd k,(kd,k) ∈ π->kd≠.a->kd≠.b->∀q ∈ effs,q ∈ cls.getD k []
 | [],_,_,_,_,_,kd,k,h=>by cases h
 | (g,m) ::π,seen,effs,rds,wr,x,kd,k,h=>by
  intro d f q c;rcases List.mem_cons.1 h with e | h
  ·cases e;obtain ⟨o,s,_,_,_,_,_,_,y⟩:=Fu x;cases g with
   | p=>exact y.2.1 q c
   | r=>exact y.2.1 q c
   | e=>exact y.1 q c
   | w=>exact y.1 q c
   | a=>exact absurd rfl d
   | l=>exact y.2.2.1 q c
   | b=>exact absurd rfl f
  ·obtain ⟨seen',effs',i,j,y,_,_,_,z,_⟩:=Hw x;exact SI y kd k h d f q (z q c)
theorem Ii{n k:Nat}{seen:List Nat}(h:∀q ∈ seen,q<n)(hk:k<n):∀q ∈ k ::seen,q<n:=λq hq=>by
 rcases List.mem_cons.1 hq with rfl | hq
 ·exact hk
 ·exact h q hq
theorem D5:∀{π:List (Kd×Nat)} {seen effs rds:List Nat} {wr:Bool},HR P l n cls fl π seen effs rds wr=true->(∀q ∈ seen,q<n)->∀kd k,(kd,k) ∈ π->kd=.a\/kd=.b->fl=true/\wr=false/\k<n/\∃o,l[k]? =some o/\(kd=.a->Wa P o.op=true/\o.guard=none)/\o.dst.isSome=true/\∀g w,o.guard=some (g,w)->g<n/\g ∈ cls.getD k []
 | [],_,_,_,_,_,_,kd,k,h=>by cases h
 | (s,u) ::π,seen,effs,rds,wr,x,c,kd,k,h=>by
  intro d;obtain ⟨o,v,t,y,i,z,C,m,f⟩:=Fu x;rcases List.mem_cons.1 h with e | h6
  ·cases e;rcases d with rfl | rfl
   ·exact ⟨f.1,f.2.1,i,o,t,λ_=>⟨f.2.2.1,f.2.2.2.2.1⟩,f.2.2.2.1,λg w j=>⟨c g (m g w j).1,(m g w j).2⟩⟩
   ·exact ⟨f.1,f.2.1,i,o,t,(λe=>by cases e),f.2.2.1,λg w j=>⟨c g (m g w j).1,(m g w j).2⟩⟩
  ·cases s with
   | p=>exact D5 f.2.2 (Ii c i) kd k h6 d
   | r=>exact D5 f.2.2 (Ii c i) kd k h6 d
   | e=>exact D5 f.2 (Ii c i) kd k h6 d
   | w=>have:=(D5 f.2.2 (Ii c i) kd k h6 d).2.1;cases this
   | a=>exact D5 f.2.2.2.2.2 (Ii c i) kd k h6 d
   | l=>exact D5 f.2.2.2 c kd k h6 d
   | b=>exact D5 f.2.2.2 (Ii c i) kd k h6 d
theorem Gd.other{o ok:Oper}{k:Nat}{b:Bool}{v:bW}{V:Nat->bW}(nd:(EP l n).Nodup)(hk:k<n)(hok:l[k]? =some ok)(hg:∀g w,o.guard=some (g,w)->g<n/\g≠k)(x:Gd l o V b):Gd l o (putS V ok.dst v) b:=by
 unfold Gd at x ⊢;cases a:o.guard with
 | none=>rw [a] at x;exact x
 | some y=>
  obtain ⟨g,w⟩:=y;rw [a] at x;obtain ⟨m,d,is,i,j,p,q⟩:=x;obtain ⟨c,f⟩:=hg g w a;exact ⟨m,d,is,i,j,by rw [De λr h=>E7 nd hk c (λe=>f e.symm) hok i h j];exact p,q⟩
theorem Gd.uniq{o:Oper}{V:Nat->bW}{b b':Bool}(x:Gd l o V b)(y:Gd l o V b'):b=b':=by
 have a:=x.iff;have c:=y.iff;rw [a] at c;cases b <;> cases b' <;> simp_all
theorem J3{k:Nat}:IV D k k=true:=by simp [IV]
theorem CP{k j:Nat}(h:j≠k):IV D k j=D j:=by unfold IV;rw [bU (λe=>h e.symm)]
theorem G0{k j:Nat}(h:D j=true):IV D k j=true:=by unfold IV;split <;> simp [h]
theorem Ig.agree(x:Ig E l n cls fl hs ds Lw F σ0 seen effs rds wr π σr hr D σ' h'){cl:List Nat}(hcl:∀q ∈ cl,D q=true){t:Nat}(y:IW l n cl seen t=true):σr t=σ' t:=by
 unfold IW at y;rw [Bool.or_eq_true] at y;rcases y with y | y
 ·exact (x.base t (by simpa using y)).symm
 ·rw [List.any_eq_true] at y;obtain ⟨j,b,z⟩:=y;rw [Bool.and_eq_true] at z;cases a:l[j]? with
  | none=>rw [a] at z;simp at z
  | some c=>
   rw [a] at z;exact (x.done j b (hcl j (List.contains_iff_mem.1 z.1)) c t a (by simpa using z.2)).symm
theorem Ig.late(x:Ig E l n cls fl hs ds Lw F σ0 seen effs rds wr π σr hr D σ' h'){k t:Nat}(hkD:D k=false)(y:Jp l n cls [] k t=true):σ' t=σ0 t:=by
 obtain ⟨j,o,a,_,b,c,d⟩:=ND y;refine x.iniS j a ?_ o t c d;cases e:D j with
 | false=>rfl
 | true=>have:=x.clos j a e k b;rw [hkD] at this;cases this
theorem Ig.agree2(x:Ig E l n cls fl hs ds Lw F σ0 seen effs rds wr π σr hr D σ' h'){k:Nat}{kd:Kd}(hcl:∀q ∈ cls.getD k [],D q=true)(hkD:D k=false){t:Nat}(y:IW l n (cls.getD k []) seen t=true\/(kd.fix=true/\Jp l n cls seen k t=true)):σr t=σ' t:=by
 rcases y with y | ⟨_,y⟩
 ·exact x.agree hcl y
 ·obtain ⟨j,o,b,a,_,c,d⟩:=ND y;rw [x.iniR j b a o t c d,x.late hkD (SG y)]
theorem Ig.iniR'(x:Ig E l n cls fl hs ds Lw F σ0 seen effs rds wr π σr hr D σ' h')(nd:(EP l n).Nodup){k:Nat}{o:Oper}{v:bW}(hkn:k<n)(ho:l[k]? =some o):∀j,j<n->j ∉ k ::seen->∀o' t,l[j]? =some o'->o'.dst=some t->putS σr o.dst v t=σ0 t:=λj f a o' t b c=>by
 rw [De λd g=>E7 nd hkn f (λe=>a (by rw [e];exact List.mem_cons_self)) ho b g c];exact x.iniR j f (λq=>a (List.mem_cons_of_mem _ q)) o' t b c
theorem Ig.iniS'(x:Ig E l n cls fl hs ds Lw F σ0 seen effs rds wr π σr hr D σ' h')(nd:(EP l n).Nodup){k:Nat}{o:Oper}{v:bW}(hkn:k<n)(ho:l[k]? =some o):∀j,j<n->IV D k j=false->∀o' t,l[j]? =some o'->o'.dst=some t->putS σ' o.dst v t=σ0 t:=λj f c o' t a b=>by
 have e:k≠j:=λe=>by subst e;rw [J3] at c;cases c
 rw [De λd g=>E7 nd hkn f e ho a g b];rw [CP e.symm] at c;exact x.iniS j f c o' t a b
theorem Ig.guard(x:Ig E l n cls fl hs ds Lw F σ0 seen effs rds wr π σr hr D σ' h'){cl:List Nat}(hcl:∀q ∈ cl,D q=true){o:Oper}{b:Bool}(hg:∀g w,o.guard=some (g,w)->g ∈ seen/\g ∈ cl)(y:Gd l o σr b):Gd l o σ' b:=by
 unfold Gd at y ⊢;cases a:o.guard with
 | none=>rw [a] at y;exact y
 | some z=>
  obtain ⟨g,w⟩:=z;rw [a] at y;obtain ⟨c,d,is,e,f,h,i⟩:=y;exact ⟨c,d,is,e,f,by rw [x.done g (hg g w a).1 (hcl g (hg g w a).2) c d e f];exact h,i⟩
theorem Ig.unfoldV{kd:Kd}{k:Nat}(nd:(EP l n).Nodup)(hkd:kd=.p\/kd=.r)(x:Ig E l n cls fl hs ds Lw F σ0 seen effs rds wr ((kd,k) ::π) σr hr D σ' h') :
  ∃rds' σr',Ig E l n cls fl hs ds Lw F σ0 (k ::seen) effs rds' wr π σr' hr D σ' h':=by
 obtain ⟨o,xs,h,I,a,f,K,W,M⟩:=Fu x.ok;obtain ⟨y,b,X,Y,hF,hT⟩:=x.td;obtain rfl:y=o:=Option.some.inj (X.symm.trans h);have hkD:D k=false:=x.rest kd k List.mem_cons_self (by rcases hkd with e | e <;> rw [e] <;> rfl);have u:Mq y.op=true:=by rcases hkd with rfl | rfl <;> exact M.1
 have i:∀(v:bW)(rds':List Nat),(rds'=rds\/rds'=k ::rds)->HR P l n cls fl π (k ::seen) effs rds' wr=true->TD E l n (fl && !wr) hs ds Lw F π (putS σr y.dst (if b=true then v else undef)) hr->
   (b=true->WZ E y σr ds h' v/\(k ∈ rds'\/∀I,Lw n undef I->WZ E y σr ds I v))->Ig E l n cls fl hs ds Lw F σ0 (k ::seen) effs rds' wr π (putS σr y.dst (if b=true then v else undef)) hr D σ' h':=by
  intro v rds' N ok' td' hv;refine ⟨td',ok',x.gw,λt R=>?_,λj hj=>?_,x.eff,λkd' j hj hne=>x.rest kd' j (List.mem_cons_of_mem _ hj) hne,λj hj c C d m H=>?_,λj hj c=>?_,λj hj=>x.flo j (List.mem_cons_of_mem _ hj),λj hj c=>(x.flb j (List.mem_cons_of_mem _ hj) c).imp (λq=>HT q (by rcases hkd with e | e <;> rw [e] <;> decide)) (Prm.put nd x.lt a f h),λj hj=>x.fld j (List.mem_cons_of_mem _ hj),x.mono,x.frm,x.pre,x.clos,x.iniR' nd a h,x.iniS⟩
  ·rw [De (Ih a h R)];exact x.base t R
  ·rcases List.mem_cons.1 hj with rfl | hj
   ·exact a
   ·exact x.lt j hj
  ·rcases List.mem_cons.1 hj with rfl | hj
   ·rw [hkD] at c;cases c
   ·rw [De λd' z=>E7 nd a (x.lt j hj) (λe=>f (e▸hj)) h m z H];exact x.done j hj c C d m H
  ·rcases List.mem_cons.1 hj with rfl | hj
   ·refine ⟨y,xs,b,v,h,I,u,λg w s=>⟨List.mem_cons_of_mem _ (W g w s).1,(W g w s).2⟩,Y.put nd x.lt a f h λg w s=>(W g w s).1,λhb=>?_,λd H=>?_⟩
    ·obtain ⟨y1,y2⟩:=hv hb;refine ⟨σr,λt R=>?_,y1,y2⟩;rcases K t R with q | ⟨_,q⟩
     ·exact .inl ⟨LW q,(De λd H=>O7 nd x.lt a f h H q).symm⟩
     ·obtain ⟨j',C,hj',hns,_,m,z⟩:=ND q;exact .inr ⟨SG q,x.iniR j' hj' hns C t m z⟩
    ·rw [H];exact upd_same _ _ _
   ·obtain ⟨C,Q,b',v',pf⟩:=x.pend j hj c
    have:=pf.put (w:=if b=true then v else undef) nd x.lt a f h hj (A.Le.refl _)
    rcases N with rfl | rfl
    ·exact ⟨C,Q,b',v',this⟩
    ·exact ⟨C,Q,b',v',this.more⟩
 cases b with
 | false=>
  rcases hkd with rfl | rfl
  ·exact ⟨_,_,i undef _ (.inl rfl) M.2.2 (hF rfl) (λe=>by cases e)⟩
  ·exact ⟨_,_,i undef _ (.inr rfl) M.2.2 (hF rfl) (λe=>by cases e)⟩
 | true=>
  rcases hkd with rfl | rfl
  ·obtain ⟨v,V,h2⟩:=hT rfl;exact ⟨_,_,i v _ (.inl rfl) M.2.2 h2 (λ_=>⟨V _ x.frm,.inr V⟩)⟩
  ·obtain ⟨v,V,h2⟩:=hT rfl;exact ⟨_,_,i v _ (.inr rfl) M.2.2 h2 (λ_=>⟨V.move u I (λ_ _=>rfl) x.gw.1,.inl List.mem_cons_self⟩)⟩
theorem Ig.unfoldA{k:Nat}(nd:(EP l n).Nodup)(hD:D k=true)(x:Ig E l n cls fl hs ds Lw F σ0 seen effs rds wr ((Kd.a,k) ::π) σr hr D σ' h') :
  ∃σr',Ig E l n cls fl hs ds Lw F σ0 (k ::seen) (k ::effs) rds wr π σr' h' D σ' h':=by
 obtain ⟨o,xs,g,hx,f,h,N,hg,V⟩:=Fu x.ok;obtain ⟨s,b,w,i,hF,W⟩:=x.td;obtain rfl:s=o:=Option.some.inj (w.symm.trans g);obtain ⟨X,Y,u,y,z,C⟩:=V;obtain rfl:b=true:=by unfold Gd at i;rw [z] at i;exact i
 obtain ⟨t,DL⟩:∃t,s.op=.alloc t:=by
  cases hq:s.op <;> rw [hq] at u <;> first | exact ⟨_,rfl⟩ | cases u
 obtain ⟨d,H⟩:=Option.isSome_iff_exists.1 y;obtain ⟨r,h1,h2,h3⟩:=x.flo k List.mem_cons_self hD s t d g DL H;refine ⟨putS σr s.dst (.pointer (some ⟨r,0,none⟩)),W rfl t r h' DL x.gw.1 h2 h3,C,Gw.refl _ _,λt Q=>?_,λj hj=>?_,λj hj=>?_,λI j hj K=>x.rest I j (List.mem_cons_of_mem _ hj) K,λj hj c v R m p=>?_,λj hj c=>?_,
  λj hj=>x.flo j (List.mem_cons_of_mem _ hj),λj hj c=>(x.flb j (List.mem_cons_of_mem _ hj) c).imp (λq=>HT q aF) (Prm.put nd x.lt f h g),λj hj=>x.fld j (List.mem_cons_of_mem _ hj),x.mono,x.frm,x.pre,x.clos,x.iniR' nd f g,x.iniS⟩
 ·rw [De (Ih f g Q)];exact x.base t Q
 ·rcases List.mem_cons.1 hj with rfl | hj
  ·exact f
  ·exact x.lt j hj
 ·rcases List.mem_cons.1 hj with rfl | hj
  ·exact hD
  ·exact x.eff j hj
 ·rcases List.mem_cons.1 hj with rfl | hj
  ·obtain rfl:v=s:=Option.some.inj (m.symm.trans g);obtain rfl:R=d:=Option.some.inj (p.symm.trans H);rw [h1,H];exact (upd_same _ _ _).symm
  ·rw [De λe he=>E7 nd f (x.lt j hj) (λe=>h (e▸hj)) g m he p];exact x.done j hj c v R m p
 ·rcases List.mem_cons.1 hj with rfl | hj
  ·rw [hD] at c;cases c
  ·obtain ⟨v,M,b',v',pf⟩:=x.pend j hj c;exact ⟨v,M,b',v',pf.put nd x.lt f h g hj (A.Le.refl _)⟩
theorem Ig.unfoldB{k:Nat}(nd:(EP l n).Nodup)(hD:D k=true)(x:Ig E l n cls fl hs ds Lw F σ0 seen effs rds wr ((Kd.b,k) ::π) σr hr D σ' h') :
  ∃σr' hr',Ig E l n cls fl hs ds Lw F σ0 (k ::seen) (k ::effs) rds wr π σr' hr' D σ' h':=by
 obtain ⟨o,xs,f,hx,a,g,M,R,V⟩:=Fu x.ok;obtain ⟨m,b,r,s,W,X⟩:=x.td;obtain rfl:m=o:=Option.some.inj (r.symm.trans f);obtain ⟨Y,hwr,u,v⟩:=V;obtain ⟨d,w⟩:=Option.isSome_iff_exists.1 u;obtain ⟨b2,y,hL,hU⟩:=x.fld k List.mem_cons_self hD m d f w;obtain rfl:b=b2:=(x.guard (x.clos k a hD) R s).uniq y;obtain ⟨hr',z,C⟩:∃hr',Gw (fl && !wr) hr' h'/\TD E l n (fl && !wr) hs ds Lw F π (putS σr m.dst (σ' d)) hr':=by
  cases b with
  | true=>exact ⟨h',Gw.refl _ _,X rfl (σ' d) h' x.gw.1 (hL rfl)⟩
  | false=>exact ⟨hr,x.gw,by rw [hU rfl];exact W rfl⟩
 refine ⟨putS σr m.dst (σ' d),hr',C,v,z,λt N=>?_,λj hj=>?_,λj hj=>?_,λH j hj I=>x.rest H j (List.mem_cons_of_mem _ hj) I,λj hj c p Q h i=>?_,λj hj c=>?_,
  λj hj=>x.flo j (List.mem_cons_of_mem _ hj),λj hj c=>(x.flb j (List.mem_cons_of_mem _ hj) c).imp (λq=>HT q aF) (Prm.put nd x.lt a g f),λj hj=>x.fld j (List.mem_cons_of_mem _ hj),x.mono,x.frm,x.pre,x.clos,x.iniR' nd a f,x.iniS⟩
 ·rw [De (Ih a f N)];exact x.base t N
 ·rcases List.mem_cons.1 hj with rfl | hj
  ·exact a
  ·exact x.lt j hj
 ·rcases List.mem_cons.1 hj with rfl | hj
  ·exact hD
  ·exact x.eff j hj
 ·rcases List.mem_cons.1 hj with rfl | hj
  ·obtain rfl:p=m:=Option.some.inj (h.symm.trans f);obtain rfl:Q=d:=Option.some.inj (i.symm.trans w);rw [w];exact (upd_same _ _ _).symm
  ·rw [De λe he=>E7 nd a (x.lt j hj) (λe=>g (e▸hj)) f h he i];exact x.done j hj c p Q h i
 ·rcases List.mem_cons.1 hj with rfl | hj
  ·rw [hD] at c;cases c
  ·obtain ⟨p,K,b',v',pf⟩:=x.pend j hj c;exact ⟨p,K,b',v',pf.put nd x.lt a g f hj (A.Le.refl _)⟩
theorem Ig.unfoldL{k:Nat}(x:Ig E l n cls fl hs ds Lw F σ0 seen effs rds wr ((Kd.l,k) ::π) σr hr D σ' h') :
  Ig E l n cls fl hs ds Lw F σ0 seen effs rds wr π σr hr D σ' h':=by
 obtain ⟨o,I,u,w,K,M,c,N,Q⟩:=Fu x.ok;obtain ⟨y,b,f,g,R,C⟩:=x.td;obtain rfl:y=o:=Option.some.inj (f.symm.trans u);obtain ⟨V,h,H,i⟩:=Q;obtain ⟨d,W⟩:=Option.isSome_iff_exists.1 h;have td:TD E l n (fl && !wr) hs ds Lw F π σr hr:=by
  cases b with
  | true=>exact (C rfl).2
  | false=>exact R rfl
 refine ⟨td,i,x.gw,x.base,x.lt,x.eff,λm j a p=>x.rest m j (List.mem_cons_of_mem _ a) p,x.done,x.pend,λj a=>x.flo j (List.mem_cons_of_mem _ a),λj a r=>?_,λj a=>x.fld j (List.mem_cons_of_mem _ a),x.mono,x.frm,x.pre,x.clos,x.iniR,x.iniS⟩;by_cases e:j=k
 ·subst e;refine .inr ⟨y,I,b,u,w,λt X=>(c t X).resolve_right (λq=>by cases q.1),N,g,λY σ2 s e l2=>?_⟩;have hp:=(C Y).1;refine B9.move w e (λz ds' h2 q=>?_) (hp s (x.gw.1.trans l2));obtain ⟨rfl,v,hv,l3,hL⟩:=q;have hz:z=v:=by
   have:=congrFun hv d
   simp only [W,putS,upd_same] at this;exact this
  exact ⟨rfl,v,by rw [hz],l3,hL⟩
 ·refine (x.flb j (List.mem_cons_of_mem _ a) r).imp (λq=>?_) id;rcases List.mem_cons.1 q with e2 | q
  ·cases e2;exact absurd rfl e
  ·exact q
theorem Ig.fldPut(x:Ig E l n cls fl hs ds Lw F σ0 seen effs rds wr π σr hr D σ' h')(nd:(EP l n).Nodup){k:Nat}{o:Oper}{v:bW}{h2:A}(hkn:k<n)(ho:l[k]? =some o)(hkD:D k=false)(l2:h'.Le h2){j:Nat}(hj:(Kd.b,j) ∈ π)(hjk:j≠k)(hDj:D j=true)
  {o':Oper} {d':Nat} (ho':l[j]? =some o') (hd':o'.dst=some d'):∃b,Gd l o' (putS σ' o.dst v) b/\(b=true->Lw j (putS σ' o.dst v d') h2)/\(b=false->putS σ' o.dst v d'=undef):=by
 obtain ⟨_,_,c,h,f,_,_,i⟩:=D5 x.ok x.lt _ j hj (.inr rfl);obtain rfl:h=o':=Option.some.inj (f.symm.trans ho');obtain ⟨b,m,p,r⟩:=x.fld j hj hDj h d' ho' hd';have e:putS σ' o.dst v d'=σ' d':=De λe s=>E7 nd hkn c (λq=>hjk q.symm) ho ho' s hd';refine ⟨b,m.other nd hkn ho λg w d=>⟨(i g w d).1,λq=>?_⟩,λa=>by rw [e];exact x.mono _ _ _ _ l2 (p a),λa=>by rw [e];exact r a⟩
 have:=x.clos j c hDj g (i g w d).2
 rw [q,hkD] at this;cases this
theorem Ig.ran{kd:Kd}{k:Nat}{o:Oper}{xs:List Operand}{v:bW}{hr2 h2:A}{wr':Bool}(nd:(EP l n).Nodup)(hkD:D k=false)(hkl:kd≠.l)(ho:l[k]? =some o)(hkn:k<n)(hks:k ∉ seen)(hcl:∀q ∈ cls.getD k [],D q=true)
  (x:Ig E l n cls fl hs ds Lw F σ0 seen effs rds wr ((kd,k) ::π) σr hr D σ' h') (td:TD E l n (fl && !wr') hs ds Lw F π (putS σr o.dst v) hr2) (ok':HR P l n cls fl π (k ::seen) (k ::effs) rds wr'=true) (gw:Gw (fl && !wr') hr2 h2)
  (how:(wr'=wr/\h'.Le h2)\/(wr'=true/\(∀q ∈ rds,D q=true)/\Lw n undef h2)) :
  Ig E l n cls fl hs ds Lw F σ0 (k ::seen) (k ::effs) rds wr' π (putS σr o.dst v) hr2 (IV D k) (putS σ' o.dst v) h2:=by
 refine ⟨td,ok',gw,λt z=>?_,λj hj=>?_,λj hj=>?_,λw j hj h=>?_,λj hj a i y d f=>?_,λj hj a=>?_,λj hj a i t y d DL f=>?_,λj hj a=>?_,λj hj a i y d f=>?_,x.mono,(by rcases how with ⟨_,g⟩ | ⟨_,_,V⟩;exact x.mono _ _ _ _ g x.frm;exact V),λm=>?_,λj C a q R=>?_,x.iniR' nd hkn ho,x.iniS' nd hkn ho⟩
 ·rw [De (Ih hkn ho z),De (Ih hkn ho z)];exact x.base t z
 ·rcases List.mem_cons.1 hj with rfl | hj
  ·exact hkn
  ·exact x.lt j hj
 ·rcases List.mem_cons.1 hj with rfl | hj
  ·exact J3
  ·exact G0 (x.eff j hj)
 ·have b:=(EU ok' w j hj).1;rw [CP λe=>b (by rw [e];exact List.mem_cons_self)];exact x.rest w j (List.mem_cons_of_mem _ hj) h
 ·rcases List.mem_cons.1 hj with rfl | hj
  ·obtain rfl:i=o:=Option.some.inj (d.symm.trans ho);rw [f];exact (upd_same _ _ _).trans (upd_same _ _ _).symm
  ·have c:j≠k:=λe=>hks (e▸hj);rw [CP c] at a;have h:∀e,o.dst=some e->y≠e:=λe H=>E7 nd hkn (x.lt j hj) (λe=>c e.symm) ho d H f;rw [De h,De h];exact x.done j hj a i y d f
 ·rcases List.mem_cons.1 hj with rfl | hj
  ·rw [J3] at a;cases a
  ·have c:j≠k:=λe=>hks (e▸hj);rw [CP c] at a;obtain ⟨i,u,I,K,p⟩:=x.pend j hj a;rcases how with ⟨_,g⟩ | ⟨_,M,N⟩
   ·exact ⟨i,u,I,K,p.put nd x.lt hkn hks ho hj g⟩
   ·have Q:PF E l n cls ds Lw σ0 seen rds σr h2 j i u I K:=⟨p.at',p.op,p.val,p.gfix,p.gd,λW=>by obtain ⟨σk,X,y1,Y⟩:=p.vop W;exact ⟨σk,X,Y.elim (λhm=>by rw [M j hm] at a;cases a) λs=>⟨s h2 N,.inr s⟩⟩,p.is⟩;exact ⟨i,u,I,K,Q.put nd x.lt hkn hks ho hj (A.Le.refl _)⟩
 ·have b:=(EU ok' _ j hj);have c:j≠k:=λe=>b.1 (by rw [e];exact List.mem_cons_self);rw [CP c] at a;obtain ⟨r,h1,h3,h4⟩:=x.flo j (List.mem_cons_of_mem _ hj) a i t y d DL f;rcases how with ⟨_,g⟩ | ⟨m,_⟩
  ·exact ⟨r,by rw [De λe H=>E7 nd hkn b.2 (λe=>c e.symm) ho d H f];exact h1,h3,g.get h4⟩
  ·have:=(D5 ok' (Ii x.lt hkn) _ j hj (.inl rfl)).2.1;rw [m] at this;cases this
 ·have b:=(EU ok' _ j hj);have c:j≠k:=λe=>b.1 (by rw [e];exact List.mem_cons_self);rw [CP c] at a;rcases how with ⟨_,g⟩ | ⟨m,_⟩
  ·exact (x.flb j (List.mem_cons_of_mem _ hj) a).imp (λq=>HT q hkl.symm) λq=>(q.put nd x.lt hkn hks ho).le g
  ·have:=(D5 ok' (Ii x.lt hkn) _ j hj (.inr rfl)).2.1;rw [m] at this;cases this
 ·have b:=(EU ok' _ j hj);have c:j≠k:=λe=>b.1 (by rw [e];exact List.mem_cons_self);rw [CP c] at a;rcases how with ⟨_,g⟩ | ⟨m,_⟩
  ·exact x.fldPut nd hkn ho hkD g (List.mem_cons_of_mem _ hj) c a d f
  ·have:=(D5 ok' (Ii x.lt hkn) _ j hj (.inr rfl)).2.1;rw [m] at this;cases this
 ·rcases how with ⟨e,g⟩ | ⟨e,_⟩
  ·exact (x.pre (e▸m)).trans g
  ·rw [e] at m;cases m
 ·by_cases e:j=k
  ·subst e;exact G0 (hcl q R)
  ·rw [CP e] at a;exact G0 (x.clos j C a q R)
def TdAt(E:Ho P)(l:List Oper)(n:Nat)(cls:List (List Nat))(fl:Bool)(hs:A)(ds:List Deferred)(Lw:Nat->bW->A->Prop)(F:(Nat->bW)->A->Prop)(σ0:Nat->bW)(D:Nat->Bool)(σ':Nat->bW)(h':A):Prop:=
 ∃seen effs rds wr π σr hr,Ig E l n cls fl hs ds Lw F σ0 seen effs rds wr π σr hr D σ' h'
abbrev RunK(E:Ho P)(l:List Oper)(n:Nat)(cls:List (List Nat))(fl:Bool)(hs:A)(ds:List Deferred)(Lw:Nat->bW->A->Prop)(F:(Nat->bW)->A->Prop)(σ0:Nat->bW)(D:Nat->Bool)(σ':Nat->bW)(h':A)(k:Nat)(o:Oper):Prop:=
 (EB l o σ'->B9 E o σ' ds h' λσ'' ds'' h''=>ds''=ds/\TdAt E l n cls fl hs ds Lw F σ0 (IV D k) σ'' h'')/\(¬EB l o σ'->TdAt E l n cls fl hs ds Lw F σ0 (IV D k) (putS σ' o.dst undef) h')
theorem Ig.runV{k:Nat}{o:Oper}(nd:(EP l n).Nodup)(ho:l[k]? =some o)(hks:k ∈ seen)(hkD:D k=false)(hcl:∀q ∈ cls.getD k [],D q=true)(x:Ig E l n cls fl hs ds Lw F σ0 seen effs rds wr π σr hr D σ' h') :
  RunK E l n cls fl hs ds Lw F σ0 D σ' h' k o:=by
 obtain ⟨I,xs,b,v,m⟩:=x.pend k hks hkD;obtain rfl:I=o:=Option.some.inj (m.at'.symm.trans ho);have i:=x.lt k hks;have p:=(x.guard hcl m.gfix m.gd).iff;have s:Ig E l n cls fl hs ds Lw F σ0 seen effs rds wr π σr hr (IV D k) (putS σ' I.dst (if b=true then v else undef)) h':=by
  refine ⟨x.td,x.ok,x.gw,λt H=>?_,x.lt,λj g=>G0 (x.eff j g),λu j g K=>?_,λj g a w C h f=>?_,λj g a=>?_,λj g a w t C h DL f=>?_,λj g a=>?_,λj g a w C h f=>?_,x.mono,x.frm,x.pre,λj M a q R=>?_,x.iniR,x.iniS' nd i ho⟩
  ·rw [De (Ih i ho H)];exact x.base t H
  ·have d:=(EU x.ok u j g).1;rw [CP λ(e:j=k)=>d (by rw [e];exact hks)];exact x.rest u j g K
  ·by_cases c:j=k
   ·subst c;obtain rfl:w=I:=Option.some.inj (h.symm.trans ho);rw [m.is C f,f];exact upd_same _ _ _
   ·rw [CP c] at a;rw [De λe N=>E7 nd i (x.lt j g) (λe=>c e.symm) ho h N f];exact x.done j g a w C h f
  ·by_cases c:j=k
   ·subst c;rw [J3] at a;cases a
   ·rw [CP c] at a;exact x.pend j g a
  ·have d:=EU x.ok _ j g;have c:j≠k:=λe=>d.1 (by rw [e];exact hks);rw [CP c] at a;obtain ⟨r,V,W⟩:=x.flo j g a w t C h DL f;exact ⟨r,by rw [De λe N=>E7 nd i d.2 (λe=>c e.symm) ho h N f];exact V,W⟩
  ·have d:=EU x.ok _ j g;have c:j≠k:=λe=>d.1 (by rw [e];exact hks);rw [CP c] at a;exact x.flb j g a
  ·have d:=EU x.ok _ j g;have c:j≠k:=λe=>d.1 (by rw [e];exact hks);rw [CP c] at a;exact x.fldPut nd i ho hkD (A.Le.refl _) g c a h f
  ·by_cases e:j=k
   ·subst e;exact G0 (hcl q R)
   ·rw [CP e] at a;exact G0 (x.clos j M a q R)
 refine ⟨λQ=>?_,λQ=>?_⟩
 ·obtain rfl:=p.1 Q;obtain ⟨σk,X,Y,_⟩:=m.vop rfl;have y:=Y.move (σ2:=σ') m.val m.op (λt H=>(X t H).elim (λq=>q.2.trans (x.agree hcl q.1)) λq=>q.2.trans (x.late hkD q.1).symm) (A.Le.refl _);refine B9.move m.op (λ_ _=>rfl) (λz ds' h'' q=>?_) y;obtain ⟨q1,rfl,rfl⟩:=q;exact ⟨rfl,_,_,_,_,_,_,_,by rw [q1];exact s⟩
 ·cases b with
  | true=>exact absurd (p.2 rfl) Q
  | false=>exact ⟨_,_,_,_,_,_,_,s⟩
theorem TD.grow{E:Ho P}{fl2:Bool}:∀{π:List (Kd×Nat)} {seen effs rds:List Nat} {wr fl:Bool} {V:Nat->bW} {h h':A},HR P l n cls fl2 π seen effs rds wr=true->Gw fl h h'->TD E l n fl hs ds Lw F π V h->TD E l n false hs ds Lw F π V h'
 | [],_,_,_,_,fl,V,h,h',_,g,x=>λy i=>by rw [i.2 rfl];exact x h' g
 | (I,k) ::π,_,_,_,_,fl,V,h,h',z,g,⟨o,b,C,s,K,M⟩=>by
  obtain ⟨H,xs,u,y,_,_,_,_,N⟩:=Fu z;obtain rfl:H=o:=Option.some.inj (u.symm.trans C);obtain ⟨_,_,_,_,d,_⟩:=Hw z;refine ⟨H,b,C,s,λe=>TD.grow d g (K e),λe=>?_⟩;have c:=M e;cases I with
  | p=>obtain ⟨v,a,j⟩:=c;exact ⟨v,a,TD.grow d g j⟩
  | r=>obtain ⟨v,a,j⟩:=c;exact ⟨v,a.move N.1 y (λ_ _=>rfl) g.1,TD.grow d g j⟩
  | e=>intro f i;rw [i.2 rfl];exact (c h' g).mono λ_ _ _ ⟨Q,v,R,W,j⟩=>⟨Q,v,R,W,TD.grow d (Gw.refl _ _) j⟩
  | w=>intro f i;rw [i.2 rfl];exact c h' g
  | a=>intro t r f X m hr Y;exact TD.grow d (Gw.refl _ _) (c t r f X (g.1.trans m) hr Y)
  | l=>exact ⟨λf m=>c.1 f (g.1.trans m),TD.grow d g c.2⟩
  | b=>intro v f m q;exact TD.grow d (Gw.refl _ _) (c v f (g.1.trans m) q)
theorem Ig.runE{kd:Kd}{k:Nat}{o:Oper}(nd:(EP l n).Nodup)(hkd:kd=.e\/kd=.w)(ho:l[k]? =some o)(hcl:∀q ∈ cls.getD k [],D q=true)(x:Ig E l n cls fl hs ds Lw F σ0 seen effs rds wr ((kd,k) ::π) σr hr D σ' h') :
  RunK E l n cls fl hs ds Lw F σ0 D σ' h' k o:=by
 obtain ⟨N,xs,m,Q,c,f,g,W,h⟩:=Fu x.ok;obtain rfl:N=o:=Option.some.inj (m.symm.trans ho);obtain ⟨i,b,p,r,R,V⟩:=x.td;obtain rfl:i=N:=Option.some.inj (p.symm.trans ho);have j:=(x.guard hcl W r).iff;have a:D k=false:=x.rest kd k List.mem_cons_self (by rcases hkd with e | e <;> rw [e] <;> rfl);refine ⟨λs=>?_,λs=>?_⟩
 ·obtain rfl:=j.1 s;rcases hkd with rfl | rfl
  ·refine (V rfl h' x.gw).move Q (λt u=>x.agree2 hcl a (g t u)) λz y C q=>?_;obtain ⟨rfl,v,H,X,td⟩:=q;refine ⟨rfl,?_⟩;have e:putS σ' i.dst z=putS σ' i.dst v:=by
    cases I:i.dst with
    | none=>rfl
    | some d=>
     have:=congrFun H d
     simp only [I,putS,upd_same] at this;rw [this]
   rw [e];exact ⟨_,_,_,_,_,_,_,x.ran (xs:=xs) nd a aF ho c f hcl td h.2 (Gw.refl _ _) (.inl ⟨rfl,X⟩)⟩
  ·refine (V rfl h' x.gw).move Q (λt u=>x.agree2 hcl a (g t u)) λz y C q=>?_;obtain ⟨rfl,v,H,K,td⟩:=q;refine ⟨rfl,?_⟩;have e:putS σ' i.dst z=putS σ' i.dst v:=by
    cases I:i.dst with
    | none=>rfl
    | some d=>
     have:=congrFun H d
     simp only [I,putS,upd_same] at this;rw [this]
   rw [e];exact ⟨_,_,_,_,_,_,_,x.ran (xs:=xs) nd a aF ho c f hcl (by rw [Bool.not_true,Bool.and_false];exact td) h.2.2 (Gw.refl _ _) (.inr ⟨rfl,λq M=>hcl q (h.2.1 q M),K⟩)⟩
 ·cases b with
  | true=>exact absurd (j.2 rfl) s
  | false=>
   rcases hkd with rfl | rfl
   ·exact ⟨_,_,_,_,_,_,_,x.ran (xs:=xs) nd a aF ho c f hcl (R rfl) h.2 x.gw (.inl ⟨rfl,A.Le.refl _⟩)⟩
   ·exact ⟨_,_,_,_,_,_,_,x.ran (xs:=xs) nd a aF ho c f hcl (by rw [Bool.not_true,Bool.and_false];exact TD.grow h.2.2 x.gw (R rfl)) h.2.2 (Gw.refl _ _) (.inr ⟨rfl,λq M=>hcl q (h.2.1 q M),x.frm⟩)⟩
theorem Iw:∀{π:List (Kd×Nat)} {seen effs rds:List Nat} {wr:Bool},HR P l n cls fl π seen effs rds wr=true->∀{kd1 kd2:Kd}{j:Nat},(kd1,j) ∈ π->(kd2,j) ∈ π->kd1≠.l->kd2≠.l->kd1=kd2
 | [],_,_,_,_,_,_,_,_,h,_,_,_=>by cases h
 | (i,k) ::π,seen,effs,rds,wr,x,kd1,kd2,j,f,g,b,c=>by
  obtain ⟨seen',m,o,p,a,_,z,_⟩:=Hw x;rcases List.mem_cons.1 f with d | h3 <;> rcases List.mem_cons.1 g with e | h4
  ·cases d;cases e;rfl
  ·cases d;exact absurd (by rw [z b];exact List.mem_cons_self) (EU a _ _ h4).1
  ·cases e;exact absurd (by rw [z c];exact List.mem_cons_self) (EU a _ _ h3).1
  ·exact Iw a h3 h4 b c
theorem Ig.runA{k:Nat}{o:Oper}(nd:(EP l n).Nodup)(hk:(Kd.a,k) ∈ π)(hkD:D k=false)(ho:l[k]? =some o)(hcl:∀q ∈ cls.getD k [],D q=true)(x:Ig E l n cls fl hs ds Lw F σ0 seen effs rds wr π σr hr D σ' h') :
  RunK E l n cls fl hs ds Lw F σ0 D σ' h' k o:=by
 obtain ⟨X,C,h,R,Y,H,I,_⟩:=D5 x.ok x.lt _ k hk (.inl rfl);obtain ⟨i,K⟩:=H rfl;obtain rfl:R=o:=Option.some.inj (Y.symm.trans ho);have M:=(EU x.ok _ k hk).1;obtain ⟨t,DL⟩:∃t,R.op=.alloc t:=by
  cases V:R.op <;> rw [V] at i <;> first | exact ⟨_,rfl⟩ | cases i
 have hz:CZ P t=some (zOf P t):=by
  rw [DL] at i;obtain ⟨z,hz⟩:=Option.isSome_iff_exists.1 (show (CZ P t).isSome=true from i);unfold zOf;rw [hz];rfl
 refine ⟨λ_=>?_,λhG=>absurd (by unfold EB;rw [K];trivial) hG⟩;obtain ⟨dst,op,ty,pos,af,gd⟩:=R;simp only at DL I K;subst DL;obtain ⟨d,rfl⟩:=Option.isSome_iff_exists.1 I;refine An hz λr h2 N v hnb hoth=>⟨rfl,seen,effs,rds,wr,π,σr,hr,x.td,x.ok,⟨x.gw.1.trans v,λe=>by rw [X,C] at e;cases e⟩,λt' ht=>?_,x.lt,λj c=>G0 (x.eff j c),λkd' j c m=>?_,λj c b w W f g=>?_,λj c b=>?_,λj c b w t' W f u g=>?_,λj c b=>?_,λj c b w W f g=>?_,x.mono,x.mono _ _ _ _ v x.frm,λhw=>(x.pre hw).trans v,λj hjn b q V=>?_,x.iniR,x.iniS' nd h ho⟩
 ·rw [De (Ih h ho ht)];exact x.base t' ht
 ·by_cases e:j=k
  ·subst e;rw [Iw x.ok c hk (by rintro rfl;cases m) aF] at m;cases m
  ·rw [CP e];exact x.rest kd' j c m
 ·have p:j≠k:=λe=>M (e▸c);rw [CP p] at b;rw [De λe he=>E7 nd h (x.lt j c) (λe=>p e.symm) ho f he g];exact x.done j c b w W f g
 ·have p:j≠k:=λe=>M (e▸c);rw [CP p] at b;obtain ⟨w,xs',b',v',s⟩:=x.pend j c b;exact ⟨w,xs',b',v',s.at',s.op,s.val,s.gfix,s.gd,λhb=>by obtain ⟨σk,y0,y1,y2⟩:=s.vop hb;exact ⟨σk,y0,y1.move s.val s.op (λ_ _=>rfl) v,y2⟩,s.is⟩
 ·by_cases e:j=k
  ·subst e;cases f.symm.trans ho;cases g;cases u;have hb0:hs r=none:=by
    cases hb:hs r with
    | none=>rfl
    | some y=>rw [(x.pre C).get hb] at N;cases N
   exact ⟨r,upd_same _ _ _,hb0,hnb⟩
  ·rw [CP e] at b;have Q:=EU x.ok _ j c;obtain ⟨r',h1,h3,h4⟩:=x.flo j c b w t' W f u g;exact ⟨r',by rw [De λe' he=>E7 nd h Q.2 (λq=>e q.symm) ho f he g];exact h1,h3,v.get h4⟩
 ·have e:j≠k:=λe=>by subst e;cases Iw x.ok c hk aF aF
  rw [CP e] at b;exact (x.flb j c b).imp id (Prm.le v)
 ·have e:j≠k:=λe=>by subst e;cases Iw x.ok c hk aF aF
  rw [CP e] at b;exact x.fldPut nd h ho hkD v c e b f g
 ·by_cases e:j=k
  ·subst e;exact G0 (hcl q V)
  ·rw [CP e] at b;exact G0 (x.clos j hjn b q V)
theorem Ig.reachB{k:Nat}(nd:(EP l n).Nodup)(hkD:D k=false)(hcl:∀q ∈ cls.getD k [],D q=true):∀{π:List (Kd×Nat)} {seen effs rds:List Nat} {wr:Bool} {σr:Nat->bW} {hr:A},
  Ig E l n cls fl hs ds Lw F σ0 seen effs rds wr π σr hr D σ' h'->(Kd.b,k) ∈ π->∃seen effs rds wr π' σr hr,Ig E l n cls fl hs ds Lw F σ0 seen effs rds wr π' σr hr D σ' h'/\(Kd.b,k) ∈ π'/\Prm E l n cls ds Lw seen σr h' k:=by
 intro π
 induction π with
 | nil=>intro _ _ _ _ _ _ _ h;cases h
 | cons y π j=>
  intro seen effs rds wr σr hr x f;obtain ⟨d,u⟩:=y;rcases x.flb k f hkD with v | hp
  ·by_cases o:d=.l
   ·subst o;exact j x.unfoldL (HT f aF)
   ·have s:=HT v (Ne.symm o);have c:d=.e\/d=.w\/d=.a\/d=.b->D u=true:=λC=>by
     obtain ⟨I,K,M,N,t,_,_,_,_,z⟩:=Hw x.ok;exact hcl _ (SI t .l k s aF aF u (z C))
    cases d with
    | p=>obtain ⟨m,σr',g⟩:=x.unfoldV nd (.inl rfl);exact j g (HT f aF)
    | r=>obtain ⟨m,σr',g⟩:=x.unfoldV nd (.inr rfl);exact j g (HT f aF)
    | e=>have:=x.rest _ _ List.mem_cons_self rfl;rw [c (.inl rfl)] at this;cases this
    | w=>have:=x.rest _ _ List.mem_cons_self rfl;rw [c (.inr (.inl rfl))] at this;cases this
    | a=>obtain ⟨σr',g⟩:=x.unfoldA nd (c (.inr (.inr (.inl rfl))));exact j g (HT f aF)
    | l=>exact absurd rfl o
    | b=>
     have i:=c (.inr (.inr (.inr rfl)));obtain ⟨σr',H,g⟩:=x.unfoldB nd i;rcases List.mem_cons.1 f with e | hm2
     ·cases e;rw [hkD] at i;cases i
     ·exact j g hm2
  ·exact ⟨_,_,_,_,_,_,_,x,f,hp⟩
theorem Ig.runB{k:Nat}{o:Oper}(nd:(EP l n).Nodup)(hk0:(Kd.b,k) ∈ π)(hkD:D k=false)(ho:l[k]? =some o)(hcl:∀q ∈ cls.getD k [],D q=true)(x0:Ig E l n cls fl hs ds Lw F σ0 seen effs rds wr π σr hr D σ' h') :
  RunK E l n cls fl hs ds Lw F σ0 D σ' h' k o:=by
 obtain ⟨seen,effs,rds,wr,π,σr,hr,x,X,hp⟩:=x0.reachB nd hkD hcl hk0;obtain ⟨hfl,hwr,i,o2,ho2,_,hds,_⟩:=D5 x.ok x.lt _ k X (.inr rfl);obtain rfl:o2=o:=Option.some.inj (ho2.symm.trans ho);have y:=(EU x.ok _ k X).1;obtain ⟨K,xs,b,ho3,hx,M,hg,hgd,N⟩:=hp;obtain rfl:K=o2:=Option.some.inj (ho3.symm.trans ho);obtain ⟨d,hd⟩:=Option.isSome_iff_exists.1 hds;have C:=x.guard hcl hg hgd;have hgo:∀v,Gd l K (putS σ' K.dst v) b:=λv=>C.other nd i ho λg w e=>⟨x.lt g (hg g w e).1,λq=>y (q▸(hg g w e).1)⟩;have Q:∀(v:bW)(I:A),h'.Le I->(b=true->Lw k v I)->(b=false->v=undef)->TdAt E l n cls fl hs ds Lw F σ0 (IV D k) (putS σ' K.dst v) I:=by
  intro v I m hL hU;refine ⟨seen,effs,rds,wr,π,σr,hr,x.td,x.ok,⟨x.gw.1.trans m,λe=>by rw [hfl,hwr] at e;cases e⟩,λt' Y=>?_,x.lt,λj c=>G0 (x.eff j c),λkd' j c p=>?_,λj c a H u h f=>?_,λj c a=>?_,λj c a H t' u h R f=>?_,λj c a=>?_,λj c a H u h f=>?_,x.mono,x.mono _ _ _ _ m x.frm,λhw=>(x.pre hw).trans m,λj hjn a q hq=>?_,x.iniR,x.iniS' nd i ho⟩
  ·rw [De (Ih i ho Y)];exact x.base t' Y
  ·by_cases e:j=k
   ·subst e;rw [Iw x.ok c X (by rintro rfl;cases p) aF] at p;cases p
   ·rw [CP e];exact x.rest kd' j c p
  ·have r:j≠k:=λe=>y (e▸c);rw [CP r] at a;rw [De λe he=>E7 nd i (x.lt j c) (λe=>r e.symm) ho h he f];exact x.done j c a H u h f
  ·have r:j≠k:=λe=>y (e▸c);rw [CP r] at a;obtain ⟨H,xs',b',v',s⟩:=x.pend j c a;exact ⟨H,xs',b',v',s.at',s.op,s.val,s.gfix,s.gd,λV=>by obtain ⟨σk,y0,y1,y2⟩:=s.vop V;exact ⟨σk,y0,y1.move s.val s.op (λ_ _=>rfl) m,y2⟩,s.is⟩
  ·have e:j≠k:=λe=>by subst e;cases Iw x.ok c X aF aF
   rw [CP e] at a;have W:=EU x.ok _ j c;obtain ⟨r',h1,h3,h4⟩:=x.flo j c a H t' u h R f;exact ⟨r',by rw [De λe' he=>E7 nd i W.2 (λq=>e q.symm) ho h he f];exact h1,h3,m.get h4⟩
  ·have e:j≠k:=λe=>by subst e;rw [J3] at a;cases a
   rw [CP e] at a;exact (x.flb j c a).imp id (Prm.le m)
  ·by_cases e:j=k
   ·subst e;obtain rfl:H=K:=Option.some.inj (h.symm.trans ho);refine ⟨b,hgo v,λV=>?_,λV=>?_⟩
    ·rw [f,show putS σ' (some u) v u=v from upd_same _ _ _];exact hL V
    ·rw [f,show putS σ' (some u) v u=v from upd_same _ _ _];exact hU V
   ·rw [CP e] at a;exact x.fldPut nd i ho hkD m c e a h f
  ·by_cases e:j=k
   ·subst e;exact G0 (hcl q hq)
   ·rw [CP e] at a;exact G0 (x.clos j hjn a q hq)
 refine ⟨λhG=>?_,λhG=>?_⟩
 ·obtain rfl:=C.iff.1 hG;refine B9.move hx (λ_ _=>rfl) (λz ds' I q=>?_) (N rfl σ' h' (λt Y=>x.agree hcl (M t Y)) (A.Le.refl _));obtain ⟨rfl,v,hv,m,hL⟩:=q;rw [hv];exact ⟨rfl,Q v I m (λ_=>hL) (λe=>by cases e)⟩
 ·cases b with
  | true=>exact absurd (C.iff.2 rfl) hG
  | false=>exact Q undef h' (A.Le.refl _) (λe=>by cases e) (λ_=>rfl)
theorem Ig.reach{kd:Kd}{i:Nat}(nd:(EP l n).Nodup)(hne:kd.fix=true)(hcl:∀q ∈ cls.getD i [],D q=true):∀{π:List (Kd×Nat)} {seen effs rds:List Nat} {wr:Bool} {σr:Nat->bW} {hr:A},
  Ig E l n cls fl hs ds Lw F σ0 seen effs rds wr π σr hr D σ' h'->(kd,i) ∈ π->∃seen effs rds wr π' σr hr,Ig E l n cls fl hs ds Lw F σ0 seen effs rds wr ((kd,i) ::π') σr hr D σ' h':=by
 intro π
 induction π with
 | nil=>intro _ _ _ _ _ _ _ h;cases h
 | cons y π g=>
  intro seen effs rds wr σr hr x t;obtain ⟨c,m⟩:=y;rcases List.mem_cons.1 t with e | hm2
  ·cases e;exact ⟨_,_,_,_,_,_,_,x⟩
  ·have o:c=.p\/c=.r->∃seen effs rds wr π' σr hr,Ig E l n cls fl hs ds Lw F σ0 seen effs rds wr ((kd,i) ::π') σr hr D σ' h':=λj=>by
    obtain ⟨s,σr',f⟩:=x.unfoldV nd j;exact g f hm2
   have d:c=.e\/c=.w\/c=.a\/c=.b->D m=true:=λj=>by
    obtain ⟨v,C,H,I,k,_,_,_,_,z⟩:=Hw x.ok;exact hcl _ (SI k kd i hm2 (by rintro rfl;cases hne) (by rintro rfl;cases hne) m (z j))
   cases c with
   | p=>exact o (.inl rfl)
   | r=>exact o (.inr rfl)
   | e=>have:=x.rest _ _ List.mem_cons_self rfl;rw [d (.inl rfl)] at this;cases this
   | w=>have:=x.rest _ _ List.mem_cons_self rfl;rw [d (.inr (.inl rfl))] at this;cases this
   | a=>
    obtain ⟨σr',f⟩:=x.unfoldA nd (d (.inr (.inr (.inl rfl))));exact g f hm2
   | l=>exact g x.unfoldL hm2
   | b=>
    obtain ⟨σr',u,f⟩:=x.unfoldB nd (d (.inr (.inr (.inr rfl))));exact g f hm2
theorem Ig.ends(nd:(EP l n).Nodup)(hall:∀i,i<n->D i=true):∀{π:List (Kd×Nat)} {seen effs rds:List Nat} {wr:Bool} {σr:Nat->bW} {hr:A},
  Ig E l n cls fl hs ds Lw F σ0 seen effs rds wr π σr hr D σ' h'->F σ' h':=by
 intro π
 induction π with
 | nil=>
  intro seen effs rds wr σr hr x;have e:σ'=σr:=funext λt=>by
   cases f:(EP l n).contains t with
   | false=>exact x.base t f
   | true=>
    rw [List.contains_iff_mem] at f;simp only [EP,List.mem_filterMap] at f;obtain ⟨o,s,u⟩:=f;obtain ⟨k,c⟩:=List.mem_iff_getElem?.1 s;have d:k<n:=by
     have:=(List.getElem?_eq_some_iff.1 c).1
     simp at this;omega
    have g:l[k]? =some o:=by rw [List.getElem?_take] at c;simpa [d] using c
    rcases SH x.ok k d with h | ⟨_,h,_⟩
    ·exact x.done k h (hall k d) o t g u
    ·cases h
  rw [e];exact x.td h' x.gw
 | cons y π j=>
  intro seen effs rds wr σr hr x;obtain ⟨q,k⟩:=y;have c:=(EU x.ok q k List.mem_cons_self).2;cases q with
  | a=>obtain ⟨σr',m⟩:=x.unfoldA nd (hall k c);exact j m
  | b=>obtain ⟨σr',v,m⟩:=x.unfoldB nd (hall k c);exact j m
  | l=>exact j x.unfoldL
  | p=>have:=x.rest _ k List.mem_cons_self rfl;rw [hall k c] at this;cases this
  | r=>have:=x.rest _ k List.mem_cons_self rfl;rw [hall k c] at this;cases this
  | e=>have:=x.rest _ k List.mem_cons_self rfl;rw [hall k c] at this;cases this
  | w=>have:=x.rest _ k List.mem_cons_self rfl;rw [hall k c] at this;cases this
end
def Wb(c:List Nat)(k:List Nat->Bool):Bool:=match c with
 | []=>k []
 | x ::xs=>Wb xs λxs'=>k (x ::xs')
theorem Ux:∀(c:List Nat)(k:List Nat->Bool),Wb c k=k c
 | [],_=>rfl
 | x ::a,k=>by unfold Wb;rw [Ux a]
def Wc(cls:List (List Nat))(k:List (List Nat)->Bool):Bool:=match cls with
 | []=>k []
 | c ::cs=>Wc cs λcs'=>k (c ::cs')
theorem Uy:∀(cls:List (List Nat))(k:List (List Nat)->Bool),Wc cls k=k cls
 | [],_=>rfl
 | c ::a,k=>by unfold Wc;exact Uy a _
def SJ(l:List Oper):List Oper->Nat->List (List Nat)->(List (List Nat)->Bool)->Bool
 | [],_,acc,c=>Wc acc.reverse c
 | o ::os,k,acc,c=>Wb ((List.range k).filter λj=>JT o j || (List.range k).any λe=>JT o e && (acc.getD (k-1-e) []).contains j) λx=>SJ l os (k+1) (x ::acc) c
theorem I4{l:List Oper}{c:List (List Nat)->Bool}:∀{os:List Oper}{k:Nat}{acc:List (List Nat)},SJ l os k acc c=true->∃cls,c cls=true
 | [],k,acc,h=>⟨acc.reverse,(Uy acc.reverse c).symm.trans h⟩
 | o ::os,k,acc,h=>by unfold SJ at h;rw [Ux] at h;exact I4 h
def SK(P:Program)(N:Nat)(l:List Oper)(n:Nat)(cls:List (List Nat))(fl:Bool)(π:List (Kd×Nat)):Bool:=HN N l n cls && HR P l n cls fl π [] [] [] false && π.all λx=>x.1 !=.b || π.contains (.l,x.2)
theorem td_core{Lw:Nat->bW->A->Prop}{F:(Nat->bW)->A->Prop}{id:Nat}{l:List Oper}{V:Nat->bW}{ds:List Deferred}{h:A}(n:Nat)(cls:List (List Nat))(fl:Bool)(π:List (Kd×Nat))(hm:P.follows .mixedOrders=true)
  (hL:∀k v h1 h2,A.Le h1 h2->Lw k v h1->Lw k v h2) (hF:Lw n undef h) (ok:SK P E.N l n cls fl π=true) (x:TD E l n fl h ds Lw F π V h) {b:Frame} {k:List Item} {cs:List Frame} {t:Array bW} (hb:b.fn=E.fn) (hr:b.roundOf=E.rd) (hs:CE t E.N V)
  (y:∀σ' h',F σ' h'->∀t',CE t' E.N σ'->E.wk.K (G (DT b t' ds (.inRegion l.toArray (List.range' n (l.drop n).length) ::k)) cs) h') :
  E.wk.K (G (DT b t ds (.code (.region id l.toArray true) ::k)) cs) h:=by
 unfold SK at ok;rw [Bool.and_eq_true,Bool.and_eq_true] at ok;obtain ⟨⟨s,M⟩,Q⟩:=ok;have g:(EP l n).Nodup:=by
  have:=s
  unfold HN at this;simp only [Bool.and_eq_true] at this;exact of_decide_eq_true this.1.2
 refine R6 n cls (TdAt E l n cls fl h ds Lw F V) hm s ?_ ?_ hb hr hs ?_
 ·exact ⟨[],[],[],false,π,V,h,by rw [Bool.not_false,Bool.and_true];exact x,M,Gw.refl _ _,λ_ _=>rfl,(λ_ f=>by cases f),(λ_ f=>by cases f),(λ_ _ _ _=>rfl),(λ_ f=>by cases f),(λ_ f=>by cases f),(λ_ _ u=>by cases u),(λk f _=>.inl (by have:=List.all_eq_true.1 Q _ f;simpa using this)),(λ_ _ u=>by cases u),hL,hF,(λ_=>A.Le.refl _),(λ_ _ u=>by cases u),(λ_ _ _ _ _ _ _=>rfl),(λ_ _ _ _ _ _ _=>rfl)⟩
 ·rintro D σ' h' i o ⟨seen,effs,C,wr,π',σr,hr,m⟩ R j q c hgl;rcases SH m.ok i R with hs | ⟨W,f,X⟩
  ·exact m.runV g q hs j c
  ·by_cases d:W.fix=false
   ·cases W with
    | a=>exact m.runA g f j q c
    | b=>exact m.runB g f j q c
    | l=>exact absurd rfl X
    | p=>cases d
    | r=>cases d
    | e=>cases d
    | w=>cases d
   ·obtain ⟨seen,effs,C,wr,π'',σr,hr,z⟩:=m.reach g (by simpa using d) c f;cases W with
    | p=>
     obtain ⟨H,σr',Y⟩:=z.unfoldV g (.inl rfl);exact Y.runV g q List.mem_cons_self j c
    | r=>
     obtain ⟨H,σr',Y⟩:=z.unfoldV g (.inr rfl);exact Y.runV g q List.mem_cons_self j c
    | e=>exact z.runE g (.inl rfl) q c
    | w=>exact z.runE g (.inr rfl) q c
    | a=>exact absurd rfl d
    | l=>exact absurd rfl d
    | b=>exact absurd rfl d
 ·rintro D σ' h' ⟨seen,effs,C,wr,π',σr,hr,m⟩ I t' ht';exact y _ _ (m.ends g I) t' ht'
theorem tr_td{Lw:Nat->bW->A->Prop}{F:(Nat->bW)->A->Prop}{id:Nat}{l:List Oper}{V:Nat->bW}{ds:List Deferred}{h:A}{Q:Post}(n:Nat)(cls:List (List Nat))(fl:Bool)(π:List (Kd×Nat))(hm:P.follows .mixedOrders=true)
  (hL:∀k v h1 h2,A.Le h1 h2->Lw k v h1->Lw k v h2) (hF:Lw n undef h) (ok:SK P E.N l n cls fl π=true) (x:TD E l n fl h ds Lw F π V h) (y:∀σ' h',F σ' h'->Dy E l.toArray (l.drop n) σ' ds h' Q):Tr E (.region id l.toArray true) V ds h Q:=λb k e g t c d i m o=>
 td_core n cls fl π hm hL hF ok x c d m λσ' h' f p a=>y σ' h' f n b k e g p (λj=>aG) c d i a o
def FrW(n:Nat)(Fr:A->Prop)(k:Nat)(_:bW)(h:A):Prop:=k=n->Fr h
theorem FrW.mono{n:Nat}{Fr:A->Prop}(m:∀h1 h2,A.Le h1 h2->Fr h1->Fr h2):∀k v h1 h2,A.Le h1 h2->FrW n Fr k v h1->FrW n Fr k v h2:=λ_ _ _ _ l x e=>m _ _ l (x e)
abbrev LoIs(V:Nat->bW)(o:Option Operand)(lo d:Nat):Prop:=match o with
 | none=>lo=d
 | some o=>∃kd,Ag V o=.int kd lo
def Mr(m:Nat):Kd×Nat:=if 1000<=m then (if m%2=0 then .l else .b,(m-1000) / 2) else (match m%5 with | 0=>.p | 1=>.r | 2=>.e | 3=>.w | _=>.a,m / 5)
def dK:List Nat->List (Kd×Nat)
 | []=>[]
 | m ::l=>Mr m ::dK l
theorem B0{id:Nat}{l:List Oper}{V:Nat->bW}{ds:List Deferred}{h:A}{Q:Post}(n:Nat)(fl:Bool)(π:List Nat)(hm:P.follows .mixedOrders=true)
  (ok:SJ l (l.take n) 0 [] (λcls=>SK P E.N l n cls fl (dK π))=true) (x:TD E l n fl h ds (λ_ _ _=>True) (λσ' h'=>Dy E l.toArray (l.drop n) σ' ds h' Q) (dK π) V h):Tr E (.region id l.toArray true) V ds h Q:=
 let ⟨cls,h1⟩:=I4 ok
 tr_td n cls fl (dK π) hm (λ_ _ _ _ _ y=>y) trivial h1 x λ_ _ y=>y
theorem FV{id:Nat}{l:List Oper}{V:Nat->bW}{ds:List Deferred}{h:A}{Q:Post}(F:(Nat->bW)->A->Prop)(n:Nat)(fl:Bool)(π:List Nat)(hm:P.follows .mixedOrders=true)
  (ok:SJ l (l.take n) 0 [] (λcls=>SK P E.N l n cls fl (dK π))=true) (x:TD E l n fl h ds (λ_ _ _=>True) F (dK π) V h) (y:∀σ' h',F σ' h'->Dy E l.toArray (l.drop n) σ' ds h' Q):Tr E (.region id l.toArray true) V ds h Q:=
 let ⟨cls,h1⟩:=I4 ok
 tr_td n cls fl (dK π) hm (λ_ _ _ _ _ y=>y) trivial h1 x y
theorem SL{id:Nat}{l:List Oper}{V:Nat->bW}{ds:List Deferred}{h:A}{Q:Post}(n:Nat)(Lw:Nat->bW->A->Prop)(hL:∀k v h1 h2,A.Le h1 h2->Lw k v h1->Lw k v h2)(hF:Lw n undef h)(fl:Bool)(π:List Nat)(hm:P.follows .mixedOrders=true)
  (ok:SJ l (l.take n) 0 [] (λcls=>SK P E.N l n cls fl (dK π))=true) (x:TD E l n fl h ds Lw (λσ' h'=>Dy E l.toArray (l.drop n) σ' ds h' Q) (dK π) V h):Tr E (.region id l.toArray true) V ds h Q:=
 let ⟨cls,h1⟩:=I4 ok
 tr_td n cls fl (dK π) hm hL hF h1 x λ_ _ y=>y
section
variable {l:List Oper} {n:Nat} {fl:Bool} {hs:A} {ds:List Deferred} {Lw:Nat->bW->A->Prop} {F:(Nat->bW)->A->Prop} {π:List Nat} {V:Nat->bW} {h:A} {m k g d:Nat} {dst:Option Nat} {op:Op} {ty:bX} {pos:String} {af:Array Edge} {v:bW} {w is:Bool} {og:Oper}
theorem L{α β γ:Type}{a:α}{b:β}{c:γ}:a=a/\b=b/\c=c:=⟨rfl,rfl,rfl⟩
theorem tP(hk:Mr m=(.p,k))(ho:l[k]? =some ⟨dst,op,ty,pos,af,none⟩)(x:∀hx,WZ E ⟨dst,op,ty,pos,af,none⟩ V ds hx v)(y:TD E l n fl hs ds Lw F (dK π) (putS V dst v) h):TD E l n fl hs ds Lw F (dK (m ::π)) V h:=by
 unfold dK;rw [hk];exact ⟨_,true,ho,rfl,λe=>(by cases e),λ_=>⟨v,λhx _=>x hx,y⟩⟩
theorem tR(hk:Mr m=(.r,k))(ho:l[k]? =some ⟨dst,op,ty,pos,af,none⟩)(x:WZ E ⟨dst,op,ty,pos,af,none⟩ V ds h v)(y:TD E l n fl hs ds Lw F (dK π) (putS V dst v) h):TD E l n fl hs ds Lw F (dK (m ::π)) V h:=by
 unfold dK;rw [hk];exact ⟨_,true,ho,rfl,λe=>(by cases e),λ_=>⟨v,x,y⟩⟩
theorem tE(hk:Mr m=(.e,k))(ho:l[k]? =some ⟨dst,op,ty,pos,af,none⟩)
  (x:B9 E ⟨dst,op,ty,pos,af,none⟩ V ds h λσ' ds' h'=>ds'=ds/\∃v,σ'=putS V dst v/\h.Le h'/\TD E l n false hs ds Lw F (dK π) (putS V dst v) h'):TD E l n false hs ds Lw F (dK (m ::π)) V h:=by
 unfold dK;rw [hk];exact ⟨_,true,ho,rfl,λe=>(by cases e),λ_ b a=>by rw [a.2 rfl];exact x⟩
theorem tEf(hk:Mr m=(.e,k))(ho:l[k]? =some ⟨dst,op,ty,pos,af,none⟩)
  (x:∀hx,h.Le hx->B9 E ⟨dst,op,ty,pos,af,none⟩ V ds hx λσ' ds' h'=>ds'=ds/\∃v,σ'=putS V dst v/\hx.Le h'/\TD E l n true hs ds Lw F (dK π) (putS V dst v) h'):TD E l n true hs ds Lw F (dK (m ::π)) V h:=by
 unfold dK;rw [hk];exact ⟨_,true,ho,rfl,λe=>(by cases e),λ_ hx a=>x hx a.1⟩
theorem tW(hk:Mr m=(.w,k))(ho:l[k]? =some ⟨dst,op,ty,pos,af,none⟩)
  (x:B9 E ⟨dst,op,ty,pos,af,none⟩ V ds h λσ' ds' h'=>ds'=ds/\∃v,σ'=putS V dst v/\TD E l n false hs ds (λ_ _ _=>True) F (dK π) (putS V dst v) h'):TD E l n false hs ds (λ_ _ _=>True) F (dK (m ::π)) V h:=by
 unfold dK;rw [hk];exact ⟨_,true,ho,rfl,λe=>(by cases e),λ_ b a=>by rw [a.2 rfl];exact x.mono λ_ _ _ q=>⟨q.1,by obtain ⟨v,e,y⟩:=q.2;exact ⟨v,e,trivial,y⟩⟩⟩
theorem tWL(hk:Mr m=(.w,k))(ho:l[k]? =some ⟨dst,op,ty,pos,af,none⟩)
  (x:B9 E ⟨dst,op,ty,pos,af,none⟩ V ds h λσ' ds' h'=>ds'=ds/\∃v,σ'=putS V dst v/\Lw n undef h'/\TD E l n false hs ds Lw F (dK π) (putS V dst v) h'):TD E l n false hs ds Lw F (dK (m ::π)) V h:=by
 unfold dK;rw [hk];exact ⟨_,true,ho,rfl,λe=>(by cases e),λ_ b a=>by rw [a.2 rfl];exact x⟩
theorem tWfL(hk:Mr m=(.w,k))(ho:l[k]? =some ⟨dst,op,ty,pos,af,none⟩)
  (x:∀hx,h.Le hx->B9 E ⟨dst,op,ty,pos,af,none⟩ V ds hx λσ' ds' h'=>ds'=ds/\∃v,σ'=putS V dst v/\Lw n undef h'/\TD E l n false hs ds Lw F (dK π) (putS V dst v) h'):TD E l n true hs ds Lw F (dK (m ::π)) V h:=by
 unfold dK;rw [hk];exact ⟨_,true,ho,rfl,λe=>(by cases e),λ_ hx a=>x hx a.1⟩
theorem tA{t:bX}{z:Array bW}(hk:Mr m=(.a,k))(ho:l[k]? =some ⟨dst,.alloc t,ty,pos,af,none⟩)(hz:CZ P t=some z)
  (x:∀r hx,h.Le hx->hs r=none->hx r=some (true,.cells z t (0,0))->TD E l n true hs ds Lw F (dK π) (putS V dst (.pointer (some ⟨r,0,none⟩))) hx):TD E l n true hs ds Lw F (dK (m ::π)) V h:=by
 unfold dK;rw [hk];refine ⟨_,true,ho,rfl,λe=>(by cases e),λ_ i r hx e b c f=>?_⟩;cases e;exact x r hx b c (by rw [f];unfold zOf;rw [hz];rfl)
theorem tF(hk:Mr m=(.p,k))(ho:l[k]? =some ⟨dst,op,ty,pos,af,none⟩)(x:∀hx,Lw n undef hx->WZ E ⟨dst,op,ty,pos,af,none⟩ V ds hx v)(y:TD E l n fl hs ds Lw F (dK π) (putS V dst v) h):TD E l n fl hs ds Lw F (dK (m ::π)) V h:=by
 unfold dK;rw [hk];exact ⟨_,true,ho,rfl,λe=>(by cases e),λ_=>⟨v,x,y⟩⟩
theorem tL(hk:Mr m=(.l,k))(ho:l[k]? =some ⟨dst,op,ty,pos,af,none⟩)
  (x:∀hx,h.Le hx->B9 E ⟨dst,op,ty,pos,af,none⟩ V ds hx λσ' ds' h'=>ds'=ds/\∃v,σ'=putS V dst v/\hx.Le h'/\Lw k v h') (y:TD E l n fl hs ds Lw F (dK π) V h):TD E l n fl hs ds Lw F (dK (m ::π)) V h:=by
 unfold dK;rw [hk];exact ⟨_,true,ho,rfl,λe=>(by cases e),λ_=>⟨x,y⟩⟩
theorem tB(hk:Mr m=(.b,k))(ho:l[k]? =some ⟨dst,op,ty,pos,af,none⟩)(x:∀v hx,h.Le hx->Lw k v hx->TD E l n fl hs ds Lw F (dK π) (putS V dst v) hx):TD E l n fl hs ds Lw F (dK (m ::π)) V h:=by
 unfold dK;rw [hk];exact ⟨_,true,ho,rfl,λe=>(by cases e),λ_=>x⟩
theorem Ij(h1:l[g]? =some og)(h2:og.dst=some d)(h3:V d=.bool w):Gd l ⟨dst,op,ty,pos,af,some (g,w)⟩ V true:=⟨og,d,.bool w,h1,h2,h3,by cases w <;> rfl⟩
theorem tPg(hk:Mr m=(.p,k))(ho:l[k]? =some ⟨dst,op,ty,pos,af,some (g,w)⟩)(h1:l[g]? =some og)(h2:og.dst=some d)(h3:V d=.bool w)(x:∀hx,WZ E ⟨dst,op,ty,pos,af,some (g,w)⟩ V ds hx v)
  (y:TD E l n fl hs ds Lw F (dK π) (putS V dst v) h):TD E l n fl hs ds Lw F (dK (m ::π)) V h:=by
 unfold dK;rw [hk];exact ⟨_,true,ho,Ij h1 h2 h3,λe=>(by cases e),λ_=>⟨v,λhx _=>x hx,y⟩⟩
theorem tRg(hk:Mr m=(.r,k))(ho:l[k]? =some ⟨dst,op,ty,pos,af,some (g,w)⟩)(h1:l[g]? =some og)(h2:og.dst=some d)(h3:V d=.bool w)(x:WZ E ⟨dst,op,ty,pos,af,some (g,w)⟩ V ds h v)
  (y:TD E l n fl hs ds Lw F (dK π) (putS V dst v) h):TD E l n fl hs ds Lw F (dK (m ::π)) V h:=by
 unfold dK;rw [hk];exact ⟨_,true,ho,Ij h1 h2 h3,λe=>(by cases e),λ_=>⟨v,x,y⟩⟩
theorem Ms(hk:Mr m=(.e,k))(ho:l[k]? =some ⟨dst,op,ty,pos,af,some (g,w)⟩)(h1:l[g]? =some og)(h2:og.dst=some d)(h3:V d=.bool w)
  (x:B9 E ⟨dst,op,ty,pos,af,some (g,w)⟩ V ds h λσ' ds' h'=>ds'=ds/\∃v,σ'=putS V dst v/\h.Le h'/\TD E l n false hs ds Lw F (dK π) (putS V dst v) h'):TD E l n false hs ds Lw F (dK (m ::π)) V h:=by
 unfold dK;rw [hk];exact ⟨_,true,ho,Ij h1 h2 h3,λe=>(by cases e),λ_ b a=>by rw [a.2 rfl];exact x⟩
theorem tS{kd:Kd}(hk:Mr m=(kd,k))(ho:l[k]? =some ⟨dst,op,ty,pos,af,some (g,w)⟩)(h1:l[g]? =some og)(h2:og.dst=some d)(h3:V d=.bool is)(hne:(is==w)=false)
  (y:TD E l n fl hs ds Lw F (dK π) (putS V dst undef) h) (hl:(kd !=Kd.l)=true:=by rfl):TD E l n fl hs ds Lw F (dK (m ::π)) V h:=by
 unfold dK;rw [hk];exact ⟨_,false,ho,⟨og,d,.bool is,h1,h2,h3,hne.symm⟩,λ_=>(by cases kd <;> first | exact y | cases hl),λe=>(by cases e)⟩
theorem tSL(hk:Mr m=(.l,k))(ho:l[k]? =some ⟨dst,op,ty,pos,af,some (g,w)⟩)(h1:l[g]? =some og)(h2:og.dst=some d)(h3:V d=.bool is)(hne:(is==w)=false)
  (y:TD E l n fl hs ds Lw F (dK π) V h):TD E l n fl hs ds Lw F (dK (m ::π)) V h:=by
 unfold dK;rw [hk];exact ⟨_,false,ho,⟨og,d,.bool is,h1,h2,h3,hne.symm⟩,λ_=>y,λe=>(by cases e)⟩
theorem tEfg(hk:Mr m=(.e,k))(ho:l[k]? =some ⟨dst,op,ty,pos,af,some (g,w)⟩)(h1:l[g]? =some og)(h2:og.dst=some d)(h3:V d=.bool w)
  (x:∀hx,h.Le hx->B9 E ⟨dst,op,ty,pos,af,some (g,w)⟩ V ds hx λσ' ds' h'=>ds'=ds/\∃v,σ'=putS V dst v/\hx.Le h'/\TD E l n true hs ds Lw F (dK π) (putS V dst v) h'):TD E l n true hs ds Lw F (dK (m ::π)) V h:=by
 unfold dK;rw [hk];exact ⟨_,true,ho,Ij h1 h2 h3,λe=>(by cases e),λ_ hx a=>x hx a.1⟩
theorem tWfLg(hk:Mr m=(.w,k))(ho:l[k]? =some ⟨dst,op,ty,pos,af,some (g,w)⟩)(h1:l[g]? =some og)(h2:og.dst=some d)(h3:V d=.bool w)
  (x:∀hx,h.Le hx->B9 E ⟨dst,op,ty,pos,af,some (g,w)⟩ V ds hx λσ' ds' h'=>ds'=ds/\∃v,σ'=putS V dst v/\Lw n undef h'/\TD E l n false hs ds Lw F (dK π) (putS V dst v) h'):TD E l n true hs ds Lw F (dK (m ::π)) V h:=by
 unfold dK;rw [hk];exact ⟨_,true,ho,Ij h1 h2 h3,λe=>(by cases e),λ_ hx a=>x hx a.1⟩
theorem tLg(hk:Mr m=(.l,k))(ho:l[k]? =some ⟨dst,op,ty,pos,af,some (g,w)⟩)(h1:l[g]? =some og)(h2:og.dst=some d)(h3:V d=.bool w)
  (x:∀hx,h.Le hx->B9 E ⟨dst,op,ty,pos,af,some (g,w)⟩ V ds hx λσ' ds' h'=>ds'=ds/\∃v,σ'=putS V dst v/\hx.Le h'/\Lw k v h') (y:TD E l n fl hs ds Lw F (dK π) V h):TD E l n fl hs ds Lw F (dK (m ::π)) V h:=by
 unfold dK;rw [hk];exact ⟨_,true,ho,Ij h1 h2 h3,λe=>(by cases e),λ_=>⟨x,y⟩⟩
theorem tBg(hk:Mr m=(.b,k))(ho:l[k]? =some ⟨dst,op,ty,pos,af,some (g,w)⟩)(h1:l[g]? =some og)(h2:og.dst=some d)(h3:V d=.bool w)(x:∀v hx,h.Le hx->Lw k v hx->TD E l n fl hs ds Lw F (dK π) (putS V dst v) hx):TD E l n fl hs ds Lw F (dK (m ::π)) V h:=by
 unfold dK;rw [hk];exact ⟨_,true,ho,Ij h1 h2 h3,λe=>(by cases e),λ_=>x⟩
theorem tN(x:F V h):TD E l n false hs ds Lw F (dK []) V h:=λb a=>by rw [a.2 rfl];exact x
theorem tNf(x:∀hx,h.Le hx->F V hx):TD E l n true hs ds Lw F (dK []) V h:=λhx a=>x hx a.1
section
variable {α:Type} {enc:α->Array bW} {xs:List α} {h0:A} {t:bX} {a ix:Operand} {z:Nat} {sv:bW} {kd:IntKind} {i:Int}
theorem tI(hk:Mr m=(.p,k))(ho:l[k]? =some ⟨dst,.indexAddr t a ix,ty,pos,af,none⟩)(ht:F6 P t=some z)(hs':Ai h0 sv z enc xs)(hx:Ag V a=sv)(hi:Ag V ix=.int kd i)(h0':0<=i)(h1:i<xs.length)
  (y:∀b off,Ao h0 b off z (enc (xs[i.toNat]' O))->TD E l n fl hs ds Lw F (dK π) (putS V dst (.pointer (some ⟨b,off,none⟩))) h):TD E l n fl hs ds Lw F (dK (m ::π)) V h:=by
 obtain ⟨p,c,rfl,_,_,e⟩:=hs';obtain ⟨b,off,rfl,f⟩:=e i.toNat O;exact tP hk ho (λ_=>AK ht hx hi h0' h1 L) (y b _ f)
theorem tSl{olo ohi:Option Operand}(lo hi:Nat)(hk:Mr m=(.p,k))(ho:l[k]? =some ⟨dst,.slice t a olo ohi none,ty,pos,af,none⟩)(ht:F6 P t=some z)(hs':Ai h0 sv z enc xs)(hx:Ag V a=sv)
  (hlo:LoIs V olo lo 0) (hhi:LoIs V ohi hi xs.length) (h1:lo<=hi) (h2:hi<=xs.length)
  (y:∀v',Ai h0 v' z enc ((xs.take hi).drop lo)->TD E l n fl hs ds Lw F (dK π) (putS V dst v') h):TD E l n fl hs ds Lw F (dK (m ::π)) V h:=by
 have b:=hs';obtain ⟨p,c,rfl,e,_,_⟩:=hs';exact tP hk ho (λ_=>MR lo hi ht e hx hlo hhi h1 h2 L) (y _ (b.part h1 h2))
theorem tIg(hk:Mr m=(.p,k))(ho:l[k]? =some ⟨dst,.indexAddr t a ix,ty,pos,af,some (g,w)⟩)(h1':l[g]? =some og)(h2':og.dst=some d)(h3':V d=.bool w)(ht:F6 P t=some z)(hs':Ai h0 sv z enc xs)(hx:Ag V a=sv)(hi:Ag V ix=.int kd i)(h0':0<=i)(h1:i<xs.length)
  (y:∀b off,Ao h0 b off z (enc (xs[i.toNat]' O))->TD E l n fl hs ds Lw F (dK π) (putS V dst (.pointer (some ⟨b,off,none⟩))) h):TD E l n fl hs ds Lw F (dK (m ::π)) V h:=by
 obtain ⟨p,c,rfl,_,_,e⟩:=hs';obtain ⟨b,off,rfl,f⟩:=e i.toNat O;exact tPg hk ho h1' h2' h3' (λ_=>AK ht hx hi h0' h1 L) (y b _ f)
end
theorem eT{h':A}{π':List (Kd×Nat)}(l2:h.Le h')(y:TD E l n fl hs ds Lw F π' (putS V dst v) h'):ds=ds/\∃v',putS V dst v=putS V dst v'/\h.Le h'/\TD E l n fl hs ds Lw F π' (putS V dst v') h':=⟨rfl,v,rfl,l2,y⟩
theorem wTL{h':A}{π':List (Kd×Nat)}(fr:Lw n undef h')(y:TD E l n fl hs ds Lw F π' (putS V dst v) h'):ds=ds/\∃v',putS V dst v=putS V dst v'/\Lw n undef h'/\TD E l n fl hs ds Lw F π' (putS V dst v') h':=⟨rfl,v,rfl,fr,y⟩
theorem wT{h':A}{π':List (Kd×Nat)}(y:TD E l n fl hs ds Lw F π' (putS V dst v) h'):ds=ds/\∃v',putS V dst v=putS V dst v'/\TD E l n fl hs ds Lw F π' (putS V dst v') h':=⟨rfl,v,rfl,y⟩
end
theorem EY{X:Prop}{p:Prop}[Decidable p](a:p->X)(b:¬p->X):X:=if h:p then a h else b h
theorem SM{X:Prop}{b:Bool}(x:b=true->X)(y:b=false->X):X:=by cases b with
 | true=>exact x rfl
 | false=>exact y rfl
end
end Go.Ns
namespace Go.Ns
def eI(i:Int):Array bW:=#[.int .i64 i]
def eB(i:Int):Array bW:=#[.int .u8 i]
structure Good where
 name:bY
 cost:Int
 pack:Int
 low:Int
 high:Int
structure JR where
 kind:Int
 good:Int
 day:Int
 low:Int
 high:Int
structure LK where
 good:Int
 day:Int
 low:Int
 high:Int
structure Wd where
 first:Nat->Int
 many:Nat->Int
 lies:Nat->Bool
def realOf(p:Wd)(i:Nat):Int:=if p.lies i then 0 else p.many i
def Good.z:Good:=⟨⟨#[]⟩,0,0,0,0⟩
def JR.z:JR:=⟨0,0,0,0,0⟩
def LK.z:LK:=⟨0,0,0,0⟩
theorem Cy{α:Type}{xs:List α}{i:Nat}(d:α)(hi:i<xs.length):xs.getD i d=xs[i]'hi:=by
 simp [List.getD_eq_getElem?_getD,List.getElem?_eq_getElem hi]
theorem Ao.getD{α:Type}{h:A}{b off n:Nat}{enc:α->Array bW}{xs:List α}{i:Nat}{hi:i<xs.length}(d:α)(x:Ao h b off n (enc (xs[i]'hi))):Ao h b off n (enc (xs.getD i d)):=by
 rw [Cy d hi];exact x
theorem DF{α:Type}{a:List α}{k:Nat}(d:α)(ha:k<a.length):a.take (k+1)=a.take k++[a.getD k d]:=by
 rw [List.take_succ_eq_append_getElem ha,Cy d ha]
theorem SN{α:Type}{a b:List α}{k:Nat}(d:α)(h:a.take k=b.take k)(ha:k<a.length)(hb:k<b.length)(e:a.getD k d=b.getD k d):a.take (k+1)=b.take (k+1):=by
 rw [DF d ha,DF d hb,h,e]
theorem We{a b:List Int}{k:Nat}(h:a.take k=b.take k)(hk:k<=a.length)(hk':¬(k:Int)<a.length)(hl:(a.length:Int)=b.length):a=b:=by
 have c:k=a.length:=O
 have d:b.length=a.length:=O
 rw [c,List.take_length,<-d,List.take_length] at h;exact h
theorem ne_len{α:Type}{a b:List α}(h:¬(a.length:Int)=b.length):¬a=b:=λe=>h (by rw [e])
theorem ne_getD{α:Type}{a b:List α}{k:Nat}{d:α}(e:¬a.getD k d=b.getD k d):¬a=b:=λh=>e (by rw [h])
theorem has_hit{a:List Int}{k:Nat}{n:Int}(hk:(k:Int)<a.length)(e:a.getD k 0=n):n ∈ a:=by
 have b:k<a.length:=O
 rw [Cy 0 b] at e;exact e▸List.getElem_mem b
theorem has_next{a:List Int}{k:Nat}{n:Int}(hk:(k:Int)<a.length)(h:¬n ∈ a.take k)(e:¬a.getD k 0=n):¬n ∈ a.take (k+1):=by
 rw [DF 0 O];simp only [List.mem_append,List.mem_singleton,not_or];exact ⟨h,λq=>e q.symm⟩
theorem has_end{a:List Int}{k:Nat}{n:Int}(hk:¬(k:Int)<a.length)(h:¬n ∈ a.take k):¬n ∈ a:=by
 rwa [List.take_of_length_le O] at h
def GD(c:Int):Prop:=97<=c/\c<=122
def GS(c:Int):Prop:=48<=c/\c<=57
instance (c:Int):Decidable (GD c):=inferInstanceAs (Decidable (_/\_))
instance (c:Int):Decidable (GS c):=inferInstanceAs (Decidable (_/\_))
def idxOf{α:Type}(p:α->Bool):List α->Int
 | []=> -1
 | x ::l=>if p x then 0 else if idxOf p l<0 then-1 else idxOf p l+1
theorem SO{α:Type}(p:α->Bool):∀l:List α,-1<=idxOf p l
 | []=>by simp [idxOf]
 | x ::l=>by have:=SO p l;unfold idxOf;split <;> (try split) <;> omega
theorem GT{α:Type}(p:α->Bool):∀l:List α,(0<=idxOf p l)↔l.any p=true
 | []=>by simp [idxOf]
 | x ::l=>by
  have:=GT p l
  have b:=SO p l;unfold idxOf;cases a:p x with
  | true=>simp [a]
  | false=>
   simp only [Bool.false_eq_true,if_false,List.any_cons,a,Bool.false_or];rw [<-this];split <;> omega
theorem Ix{α:Type}{p:α->Bool}{l:List α}{k:Nat}{d:α}(hk:(k:Int)<l.length)(h:(l.take k).any p=false)(e:p (l.getD k d)=true):idxOf p l=k:=by
 induction l generalizing k with
 | nil=>simp at hk;omega
 | cons x l a=>
  unfold idxOf;cases k with
  | zero=>simp at e;simp [e]
  | succ k=>
   simp only [List.take_succ_cons,List.any_cons,Bool.or_eq_false_iff] at h;rw [h.1]
   have:=a (k:=k) (by simp at hk;omega) h.2 (by simpa using e)
   rw [this];simp only [Bool.false_eq_true,if_false];rw [bU O];omega
theorem Hx{α:Type}{p:α->Bool}{l:List α}{k:Nat}(hk:¬(k:Int)<l.length)(h:(l.take k).any p=false):idxOf p l= -1:=by
 rw [List.take_of_length_le O] at h
 have:=GT p l
 have a:=SO p l;rw [h] at this;simp at this;omega
theorem Fk{α:Type}{p:α->Bool}{l:List α}{k:Nat}{d:α}(hk:(k:Int)<l.length)(h:(l.take k).any p=false)(e:p (l.getD k d)=false):(l.take (k+1)).any p=false:=by
 rw [DF d O,List.any_append,h];simp only [Bool.false_or,List.any_cons,List.any_nil,Bool.or_false,e]
theorem CS{α:Type}{l:List α}{k:Nat}{d:α}(hk:k<l.length):l.getD k d ∈ l:=by
 rw [Cy d hk];exact List.getElem_mem hk
def Da(f:Nat->Int):Nat->Nat->Int
 | _,0=>0
 | i,n+1=>if f i=0 then Da f (i+1) n else f i
theorem SP{f:Nat->Int}{c:Int}:∀{n i k:Nat},(∀j,i<=j->j<i+k->f j=0)->k<n->f (i+k)=c->c≠0->Da f i n=c
 | 0,i,k,_,b,_,_=>O
 | n+1,i,0,_,_,e,a=>by unfold Da;rw [Nat.add_zero] at e;rw [e,bU a]
 | n+1,i,k+1,h,b,e,a=>by
  unfold Da;rw [bV (h i (Nat.le_refl _) O)];exact SP (k:=k) (λj d g=>h j O O) O (by rw [<-e];congr 1;omega) a
theorem P6{f:Nat->Int}:∀{n i:Nat},(∀j,i<=j->j<i+n->f j=0)->Da f i n=0
 | 0,_,_=>rfl
 | n+1,i,h=>by
  unfold Da;rw [bV (h i (Nat.le_refl _) O)];exact P6 λj a b=>h j O O
theorem EK{f:Nat->Int}{k:Nat}(h:∀j,j<k->f j=0)(e:f k=0):∀j,j<k+1->f j=0:=λj a=>by
 rcases Nat.lt_or_ge j k with q | q
 ·exact h j q
 ·rw [show j=k by omega];exact e
theorem Bw{f:Nat->Int}{c:Int}{n k:Nat}(h:∀j,j<k->f j=0)(hk:k<n)(e:f k=c)(hc:c≠0):Da f 0 n=c:=
 SP (i:=0) (k:=k) (λj _ a=>h j O) hk (by rw [Nat.zero_add];exact e) hc
theorem DA{f:Nat->Int}{n k:Nat}(h:∀j,j<k->f j=0)(hk:n<=k):Da f 0 n=0:=P6 λj _ a=>h j O
def Jq(s:bY)(k:Nat):Int:=if¬GD ((bytesOf s).getD k 0)/\(k=0\/¬GS ((bytesOf s).getD k 0)) then 1 else 0
def GE(s:bY):Bool:=decide (Da (Jq s) 0 s.size=0) && decide (1<=(s.size:Int)/\(s.size:Int)<=10)
theorem Mt(s:bY)(k:Nat):0<=(bytesOf s).getD k 0/\(bytesOf s).getD k 0<=255:=by
 by_cases h:k<(bytesOf s).length
 ·rw [Cy 0 h];have a:k<s.data.toList.length:=by rw [Dq] at h;rw [Array.length_toList];exact h
  have e:(bytesOf s)[k]'h=((s.data.toList[k]'a).toNat:Int):=List.getElem_map _;rw [e]
  have:=(s.data.toList[k]'a).toNat_lt
  omega
 ·simp only [List.getD_eq_getElem?_getD];rw [List.getElem?_eq_none O];decide
theorem SQ{s:bY}{k:Nat}(h:∀j,j<k->Jq s j=0)(hk:k<s.size)(e:Jq s k=1):GE s=false:=by
 unfold GE;rw [Bw h hk e aF];simp
theorem SR{s:bY}{k:Nat}(h:∀j,j<k->Jq s j=0)(hk:s.size<=k):GE s=decide (1<=(s.size:Int)/\(s.size:Int)<=10):=by
 unfold GE;rw [DA h hk];simp
end Go.Ns
namespace Go.Ns
open Go.Conc
def DC(lo:Int)(k:Nat):List Int:=(List.range k).map λ(j:Nat)=>lo+(j:Int)
def FI(lo hi:Int):List Int:=DC lo (hi-lo+1).toNat
theorem LX(lo:Int)(k:Nat):DC lo (k+1)=DC lo k++[lo+(k:Int)]:=by
 simp [DC,List.range_succ]
theorem SS{lo n:Int}{k:Nat}:n ∈ DC lo k↔lo<=n/\n<lo+k:=by
 simp only [DC,List.mem_map,List.mem_range];constructor
 ·rintro ⟨j,a,rfl⟩;omega
 ·rintro ⟨b,c⟩;exact ⟨(n-lo).toNat,O,O⟩
theorem mem_spanL{lo hi n:Int}:n ∈ FI lo hi↔lo<=n/\n<=hi:=by
 unfold FI;rw [SS];omega
theorem AAB{β:Type}{f:Int->List β}{lo hi:Int}{k:Nat}(h:¬lo+(k:Int)<=hi)(hk:(k:Int)<=hi-lo+1\/k=0):(DC lo k).flatMap f=(FI lo hi).flatMap f:=by
 unfold FI;congr 2;omega
theorem P7{β:Type}{f:Int->List β}{lo:Int}{k:Nat}:(DC lo (k+1)).flatMap f=(DC lo k).flatMap f++f (lo+k):=by
 rw [LX,List.flatMap_append];simp
def CF(X:Nat->Prop)(h h':A):Prop:=∀b p o,h b=some (p,o)->¬X b->∃o',h' b=some (p,o')/\(o'=o\/(LR o=true/\LR o'=true))
theorem CF.refl(X:Nat->Prop)(h:A):CF X h h:=λ_ _ o x _=>⟨o,x,.inl rfl⟩
theorem A.Le.keepX{h h':A}(l:h.Le h')(X:Nat->Prop):CF X h h':=λb p o x _=>l b p o x
theorem CF.trans{X X1:Nat->Prop}{a b c:A}(x:CF X a b)(hX:∀r,X1 r->X r\/a r=none)(y:CF X1 b c):CF X a c:=λr p o d f=>by
 obtain ⟨g,h,h2⟩:=x r p o d f;obtain ⟨i,j,h4⟩:=y r p g h λq=>(hX r q).elim f λe=>by rw [e] at d;cases d
 refine ⟨i,j,?_⟩;rcases h2 with rfl | h2
 ·exact h4
 ·rcases h4 with rfl | h4
  ·exact .inr h2
  ·exact .inr ⟨h2.1,h4.2⟩
theorem CF.box{X:Nat->Prop}{h h':A}(x:CF X h h'){b:Nat}{p:Bool}{o:Obj}(hb:h b=some (p,o))(hX:¬X b)(ho:LR o=false):h' b=some (p,o):=by
 obtain ⟨d,c,rfl | ⟨a,_⟩⟩:=x b p o hb hX
 ·exact c
 ·rw [ho] at a;cases a
theorem CF.store{X:Nat->Prop}{h h1 h2:A}(x:CF X h h1){r:Nat}(hr:h r=none)(ho:∀b,b≠r->h2 b=h1 b):CF X h h2:=λb p o a c=>by
 rw [ho b λe=>by subst e;rw [hr] at a;cases a];exact x b p o a c
structure Hk{α:Type}(hB:A)(I:List α->(Nat->Prop)->A->Prop):Prop where
 dom:∀pre X h b,I pre X h->X b->∃p o,h b=some (p,o)/\LR o=false
 stable:∀pre X h h',I pre X h->(∀b,X b->h' b=h b)->hB.Le h'->I pre X h'
theorem Hk.le{α:Type}{hB:A}{I:List α->(Nat->Prop)->A->Prop}(P:Hk hB I){pre:List α}{X:Nat->Prop}{h h':A}(x:I pre X h)(l:h.Le h')(lB:hB.Le h'):I pre X h':=
 P.stable pre X h h' x (λb c=>by
  obtain ⟨p,o,a,d⟩:=P.dom pre X h b x c;rw [l.keep a d,a]) lB
theorem Hk.store{α:Type}{hB:A}{I:List α->(Nat->Prop)->A->Prop}(P:Hk hB I){pre:List α}{X:Nat->Prop}{h h':A}(x:I pre X h){r:Nat}(hr:¬X r)(ho:∀b,b≠r->h' b=h b)(lB:hB.Le h'):I pre X h':=
 P.stable pre X h h' x (λb a=>ho b λe=>hr (e▸a)) lB
theorem Hk.off{α:Type}{hB:A}{I:List α->(Nat->Prop)->A->Prop}(P:Hk hB I){pre:List α}{X:Nat->Prop}{h:A}(x:I pre X h){r:Nat}(hr:h r=none):¬X r:=λq=>by
 obtain ⟨p,o,a,_⟩:=P.dom pre X h r x q;rw [hr] at a;cases a
theorem RO{X X1:Nat->Prop}{h:A}(hX:∀r,X1 r->X r\/h r=none){r:Nat}{o:Bool×Obj}(hr:h r=some o)(n:¬X r):¬X1 r:=λq=>(hX r q).elim n λe=>by rw [e] at hr;cases hr
def F3{α:Type}(hB:A)(I:List α->(Nat->Prop)->A->Prop)(bK:A->Prop)(pre:List α)(X:Nat->Prop)(h:A)(l:List α)(v:bW)(h':A):Prop:=
 ∃ok X',v=.bool ok/\(∀b,X' b->X b\/h b=none)/\CF X h h'/\hB.Le h'/\(ok=true->I (pre++l) X' h')/\(ok=false->bK h')
structure ST{α:Type}{P:Program}(W:Wk P)(hB:A)(yv:bW)(enc:α->Array bW)(I:List α->(Nat->Prop)->A->Prop)(bK:A->Prop)(all:List α):Prop where
 prom:Hk hB I
 one:yv.cells=#[yv]
 call:∀pre p post X h,all=pre++p ::post->I pre X h->hB.Le h->CW W yv #[.agg (enc p)] h (F3 hB I bK pre X h [p])
structure Fl{α:Type}(hB:A)(I:List α->(Nat->Prop)->A->Prop)(X0:Nat->Prop)(h:A)(pre:List α)(X:Nat->Prop)(hc:A):Prop where
 inv:I pre X hc
 sub:∀b,X b->X0 b\/h b=none
 keep:CF X0 h hc
 base:hB.Le hc
section
variable {α:Type} {hB:A} {I:List α->(Nat->Prop)->A->Prop} {bK:A->Prop} {X0 X X1:Nat->Prop} {h hc h':A} {pre l:List α}
theorem Fl.start(x:I pre X h)(lB:hB.Le h):Fl hB I X h pre X h:=⟨x,λ_ q=>.inl q,CF.refl _ _,lB⟩
theorem Fl.le(P:Hk hB I)(y:Fl hB I X0 h pre X hc)(l:hc.Le h'):Fl hB I X0 h pre X h':=
 ⟨P.le y.inv l (y.base.trans l),y.sub,y.keep.trans (λ_ q=>.inl q) (l.keepX X0),y.base.trans l⟩
theorem Fl.store(P:Hk hB I)(y:Fl hB I X0 h pre X hc){r:Nat}(hr:h r=none)(rB:hB r=none)(hn:¬X r)(ho:∀b,b≠r->h' b=hc b):Fl hB I X0 h pre X h':=
 ⟨P.store y.inv hn ho (y.base.upd rB ho),y.sub,y.keep.store hr ho,y.base.upd rB ho⟩
theorem subX(s:∀b,X b->X0 b\/h b=none)(k:CF X0 h hc)(s':∀b,X1 b->X b\/hc b=none):∀b,X1 b->X0 b\/h b=none:=λb q=>by
 rcases s' b q with q | q
 ·exact s b q
 ·by_cases a:X0 b
  ·exact .inl a
  ·refine .inr ?_;cases c:h b with
   | none=>rfl
   | some x=>
    obtain ⟨e,d,_⟩:=k b x.1 x.2 c a;rw [d] at q;cases q
theorem Fl.call(y:Fl hB I X0 h pre X hc){v:bW}(r:F3 hB I bK pre X hc l v h') :
  ∃ok X',v=.bool ok/\(∀b,X' b->X b\/hc b=none)/\CF X hc h'/\(ok=true->Fl hB I X0 h (pre++l) X' h')/\(ok=false->∀l',F3 hB I bK pre X0 h l' (.bool false) h'):=by
 obtain ⟨ok,X',i,a,c,d,j,k⟩:=r;have f:CF X0 h h':=y.keep.trans y.sub c;have g:=subX y.sub y.keep a;exact ⟨ok,X',i,a,c,λe=>⟨j e,g,f,d⟩,λe l'=>⟨false,X',rfl,g,f,d,(λx=>by cases x),λ_=>k e⟩⟩
theorem Fl.done(y:Fl hB I X0 h (pre++l) X hc):F3 hB I bK pre X0 h l (.bool true) hc:=⟨true,X,rfl,y.sub,y.keep,y.base,λ_=>y.inv,λx=>by cases x⟩
theorem Fl.pass{α:Type}{hB:A}{I:List α->(Nat->Prop)->A->Prop}{bK:A->Prop}{X0 X:Nat->Prop}{h hc h':A}{pre:List α}{l:List α}{v:bW}(y:Fl hB I X0 h pre X hc)(r:F3 hB I bK pre X hc l v h'):F3 hB I bK pre X0 h l v h':=by
 obtain ⟨a,X',b,c,d,e,f,g⟩:=r;exact ⟨a,X',b,subX y.sub y.keep c,y.keep.trans y.sub d,e,f,g⟩
theorem F3.stopped{pre':List α}{v:bW}(hv:v=.bool false)(r:∀l',F3 hB I bK pre X0 h l' (.bool false) h'):F3 hB I bK pre' X0 h l v h':=by
 obtain ⟨f,X',e,a,b,c,_,d⟩:=r [];cases e;exact ⟨false,X',hv,a,b,c,(λx=>by cases x),d⟩
end
def DD{α:Type}(all pre l:List α):Prop:=∃post,all=pre++l++post
section
variable {α:Type} {all pre a b:List α}
theorem DD.left(w:DD all pre (a++b)):DD all pre a:=by
 obtain ⟨post,h⟩:=w;exact ⟨b++post,by rw [h];simp⟩
theorem DD.right(w:DD all pre (a++b)):DD all (pre++a) b:=by
 obtain ⟨post,h⟩:=w;exact ⟨post,by rw [h];simp⟩
theorem DD.one{p:α}(w:DD all pre [p]):∃post,all=pre++p ::post:=by
 obtain ⟨post,h⟩:=w;exact ⟨post,by rw [h];simp⟩
theorem AAC(lo:Int)(i j:Nat):DC lo (i+j)=DC lo i++DC (lo+i) j:=by
 unfold DC;rw [List.range_add,List.map_append,List.map_map];congr 1;apply List.map_congr_left;intro x _;simp only [Function.comp];omega
theorem DD.round{lo hi:Int}{k:Nat}{F:Int->List α}(w:DD all pre ((FI lo hi).flatMap F))(hk:lo+(k:Int)<=hi):DD all (pre++(DC lo k).flatMap F) (F (lo+k)):=by
 have e:FI lo hi=DC lo k++([lo+(k:Int)]++DC (lo+((k+1:Nat):Int)) ((hi-lo+1).toNat-(k+1))):=by
  unfold FI;rw [<-List.append_assoc,<-LX,<-AAC];congr 1;omega
 rw [e,List.flatMap_append,List.flatMap_append] at w;have c:=w.right.left;simpa using c
theorem DD.roundEnd{lo hi:Int}{k:Nat}{F:Int->List α}(h:¬lo+(k:Int)<=hi)(hk:(k:Int)<=hi-lo+1\/k=0):(FI lo hi).flatMap F=(DC lo k).flatMap F:=(AAB h hk).symm
end
section
variable {ag:Wd->Bool} {gs:List Good} {ms:List JR} {mo:Int} {f i k:Nat} {p pc:Wd} {all pre:List Wd} {lo hi x:Int}
end
theorem EF{f:Nat->Int}:∀{n i:Nat},Da f i n=0->∀j,i<=j->j<i+n->f j=0
 | 0,i,_,j,a,b=>O
 | n+1,i,h,j,a,b=>by
  unfold Da at h;split at h
  ·rename_i e
   rcases Nat.eq_or_lt_of_le a with rfl | h3
   ·exact e
   ·exact EF h j h3 O
  ·rename_i e;exact absurd h e
section
variable {d m:Int} {gs:List Good} {ms:List JR} {cs:List LK}
theorem CH{α:Type}{l:List α}{k:Nat}{z:α}(h:l.length<=k):l.getD k z=z:=by
 simp [List.getD_eq_getElem?_getD,List.getElem?_eq_none h]
variable {f y l:List Int}
end
section
variable {d m:Int} {gs:List Good} {ms:List JR} {cs:List LK} {f y l:List Int}
end
theorem LY{α β:Type}{f:α->List β}{c:Nat}:∀{l:List α},(∀x ∈ l,(f x).length<=c)->(l.flatMap f).length<=l.length*c
 | [],_=>aG
 | x ::l,h=>by
  rw [List.flatMap_cons,List.length_append,List.length_cons,Nat.succ_mul];have b:=h x aG;have d:=LY (l:=l) λy a=>h y (by simp [a]);omega
theorem pre_len{α:Type}{all pre post:List α}{p:α}(h:all=pre++p ::post){n:Nat}(hn:all.length<=n):pre.length+1<=n:=by
 rw [h,List.length_append,List.length_cons] at hn;omega
theorem Ai.one{α:Type}{h:A}{v:bW}{n:Nat}{enc:α->Array bW}{xs:List α}(x:Ai h v n enc xs):v.cells=#[v]/\v.oneCell'=true:=by
 obtain ⟨a,b,rfl,_⟩:=x;exact ⟨rfl,rfl⟩
theorem HU{v:bW}(h:v.cells=#[v]/\v.oneCell'=true):Value.fine v=true:=by unfold Value.fine;rw [h.1];simp [h.2]
theorem HV{v:bW}(h:v.cells=#[v]/\v.oneCell'=true):v.cells.size=1:=by rw [h.1];rfl
theorem I5{v:bW}(h:v.cells=#[v]/\v.oneCell'=true){c c':Array bW}{o:Nat}(e:CK c o [v]=c'):CK c o v.cells.toList=c':=by rw [h.1];exact e
end Go.Ns
namespace Go.Ns
open Go.Conc
section
variable {P:Program} {E:Ho P} {V:Nat->bW} {ds:List Deferred} {α:Type}
def YE(hB:A)(J:List α->(Nat->Prop)->A->Prop)(Stop:Code->A->Prop)(pre:List α)(Y:Nat->Prop)(h:A)(l:Nat)(lo:Loop):Post:=λe _ _ h3=>
 h3 l=some (true,.loop { lo with state:=.busy })/\∃Y',(∀b,Y' b->Y b\/h b=none)/\CF (λb=>Y b\/b=l) h h3/\hB.Le h3/\match e with
  | .normal=>J pre Y' h3
  | .exit id=>Stop (.exit id) h3
  | .ret=>Stop .ret h3
  | _=>False
def P8(J:List α->(Nat->Prop)->A->Prop)(l d:Nat)(lo:Loop)(pre:List α)(X:Nat->Prop)(h:A):Prop:=
 ∃Y,J pre Y h/\(∀b,X b↔Y b\/b=l\/b=d)/\¬Y l/\¬Y d/\h l=some (true,.loop lo)/\h d=some (true,.deferred (some []))
def Uz(Stop:Code->A->Prop)(l d:Nat)(lo:Loop)(h:A):Prop:=
 ∃c,Stop c h/\h l=some (true,.loop { lo with state:=.done,pending:=some c })/\h d=some (true,.deferred (some []))
def YEnd(hB:A)(I:List α->(Nat->Prop)->A->Prop)(Sp:A->Prop)(all:List α)(X:Nat->Prop)(h h':A):Prop:=
 ∃X',(∀b,X' b->X b\/h b=none)/\CF X h h'/\hB.Le h'/\(I all X' h'\/Sp h')
theorem F3.final{hB:A}{I:List α->(Nat->Prop)->A->Prop}{Sp:A->Prop}{all:List α}{X:Nat->Prop}{h h':A}{v:bW}(r:F3 hB I Sp [] X h all v h'):YEnd hB I Sp all X h h':=by
 obtain ⟨d,X',g,a,b,c,e,f⟩:=r;cases d with
 | true=>exact ⟨X',a,b,c,.inl (e rfl)⟩
 | false=>exact ⟨X',a,b,c,.inr (f rfl)⟩
theorem tr_range{enc:α->Array bW}{all:List α}{hB hc:A}{J:List α->(Nat->Prop)->A->Prop}{Stop:Code->A->Prop}{Y0:Nat->Prop}{par:Tmp}{f:Operand}{assign body:Code}{Q:Post}
  (hrd:E.rd=none) (hpar:Nat.blt par E.N=true) (hJ:Hk hB J) (hB0:hB.Le hc) (j0:J [] Y0 hc)
  (hS:∀c (h h':A) l lo,Stop c h->h l=some (true,.loop lo)->(∀b,b≠l->h' b=h b)->Stop c h')
  (src:∀(yv:bW)(I:List α->(Nat->Prop)->A->Prop)(Sp:A->Prop)(X:Nat->Prop)(h:A),ST E.wk hB yv enc I Sp all->hB.Le h->I [] X h->CW E.wk (Ag V f) #[yv] h λ_ h'=>YEnd hB I Sp all X h h')
  (round:∀(l d:Nat)(lo:Loop)(pre:List α)(p:α)(post:List α)(Y:Nat->Prop)(h:A),all=pre++p ::post->J pre Y h->hB.Le h->hB l=none->¬Y l->h l=some (true,.loop lo)->
   Tr ⟨E.wk,E.fn,some l,E.N⟩ assign (upd V par (.agg (enc p))) [] h λe σ' ds' h1=>e=.normal/\h1 l=some (true,.loop lo)/\∀h2,h2 l=some (true,.loop { lo with state:=.busy })->(∀b,b≠l->h2 b=h1 b)->
    Tr ⟨E.wk,E.fn,some l,E.N⟩ body σ' ds' h2 (YE hB J Stop (pre++[p]) Y h l lo))
  (fin:∀(d l:Nat)(h':A),hB.Le h'->hB d=none->hB l=none->hc d=none->h' d=some (true,.deferred (some []))->
   (∀Y,J all Y h'->(∀b,Y b->b≠d)->Q .normal V ({ target:=.collected d,args:=#[] } ::ds) h')/\
   (∀c,Stop c h'->match c with
    | .exit id=>Q (.exit id) V ({ target:=.collected d,args:=#[] } ::ds) h'
    | .ret=>Q .ret V ({ target:=.collected d,args:=#[] } ::ds) h'
    | _=>False)):Tr E (.rangeFunc f #[par] assign body) V ds hc Q:=by
 refine N3 hrd λt d l hs K hl k=>?_;have m:hB l=none:=hB0.nothing hl;have M:hB d=none:=hB0.nothing K;let lo:Loop:={ state:=.ready,pending:=none,fn:=E.fn,tmps:=t,params:=#[par],assign,body,defers:=d };have nYl:¬Y0 l:=hJ.off j0 hl;have nYd:¬Y0 d:=hJ.off j0 K;have hL1:((hc.set d true (.deferred (some []))).set l true (.loop lo)) l=some (true,.loop lo):=A.set_same _ _ _ _;have hL2:((hc.set d true (.deferred (some []))).set l true (.loop lo)) d=some (true,.deferred (some [])):=by rw [A.set_ne _ _ _ (Ne.symm k)];exact A.set_same _ _ _ _
 have hL3:∀b,b≠l->b≠d->((hc.set d true (.deferred (some []))).set l true (.loop lo)) b=hc b:=λb h1 h2=>by rw [A.set_ne _ _ _ h1,A.set_ne _ _ _ h2]
 have R:hB.Le ((hc.set d true (.deferred (some []))).set l true (.loop lo)):=(hB0.trans (A.Le.new K _ _)).trans (A.Le.new (by rw [A.set_ne _ _ _ k];exact hl) _ _);have hI0:P8 J l d lo [] (λb=>Y0 b\/b=l\/b=d) ((hc.set d true (.deferred (some []))).set l true (.loop lo)):=by
  refine ⟨Y0,hJ.stable _ _ hc _ j0 (λb a=>hL3 b (λe=>nYl (e▸a)) (λe=>nYd (e▸a))) R,λb=>Iff.rfl,nYl,nYd,hL1,hL2⟩
 have prom:Hk hB (P8 J l d lo):=by
  refine ⟨?_,?_⟩
  ·rintro pre X h b ⟨Y,j,n,_,_,h1,h2⟩ a;rcases (n b).1 a with r | rfl | rfl
   ·exact hJ.dom _ _ _ _ j r
   ·exact ⟨_,_,h1,rfl⟩
   ·exact ⟨_,_,h2,rfl⟩
  ·rintro pre X h h' ⟨Y,j,n,D,F,h1,h2⟩ same lB;refine ⟨Y,hJ.stable _ _ h h' j (λb a=>same b ((n b).2 (.inl a))) lB,n,D,F,?_,?_⟩
   ·rw [same l ((n l).2 (.inr (.inl rfl)))];exact h1
   ·rw [same d ((n d).2 (.inr (.inr rfl)))];exact h2
 have yk:ST E.wk hB (.func (.yield l) #[] #[]) enc (P8 J l d lo) (Uz Stop l d lo) all:=by
  refine ⟨prom,rfl,?_⟩;rintro pre p post X h W ⟨Y,j,n,D,F,h1,h2⟩ lB;refine SD h1 rfl ?_;have ef:(lo.params.zip #[Value.agg (enc p)]).foldl (λtmps x=>tmps.setIfInBounds x.1 x.2) lo.tmps=t.setIfInBounds par (.agg (enc p)):=by simp [lo]
  rw [ef];show B3 E.wk l E.fn (t.setIfInBounds par (.agg (enc p))) assign body h _;have u:=hs.put hpar (.agg (enc p));refine P4 (N:=E.N) u.1 ?_;have e0:(λi=>(t.setIfInBounds par (.agg (enc p))).getD i undef)=upd V par (.agg (enc p)):=funext u.2;rw [e0];refine MI ?_ (round l d lo pre p post Y h W j lB m D h1);rintro e σ' ds' ha ⟨rfl,ha1,a⟩;refine ⟨rfl,lo,ha1,rfl,?_⟩;refine MI ?_ (a _ (A.set_same _ _ _ _) λb a=>A.set_ne _ _ _ a);rintro e σ2 ds2 r ⟨g1,Y',g2,g3,g4,H⟩;have w:r d=some (true,.deferred (some [])):=g3.box h2 (λq=>q.elim F (λe=>k e.symm)) rfl;have nl:¬Y' l:=λq=>(g2 l q).elim D λe=>by rw [h1] at e;cases e
  have nd:¬Y' d:=λq=>(g2 d q).elim F λe=>by rw [h2] at e;cases e
  have y:∀(g:Loop)(ok:Bool),(if ok then J (pre++[p]) Y' (r.set l true (.loop g))/\g=lo else Uz Stop l d lo (r.set l true (.loop g)))->F3 hB (P8 J l d lo) (Uz Stop l d lo) pre X h [p] (.bool ok) (r.set l true (.loop g)):=by
   intro g ok C;refine ⟨ok,λb=>Y' b\/b=l\/b=d,rfl,?_,?_,?_,?_,?_⟩
   ·rintro b (a | rfl | rfl)
    ·exact (g2 b a).imp (λq=>(n b).2 (.inl q)) id
    ·exact .inl ((n _).2 (.inr (.inl rfl)))
    ·exact .inl ((n _).2 (.inr (.inr rfl)))
   ·intro b q o a hn;have nb:b≠l:=λe=>hn ((n b).2 (.inr (.inl e)));rw [A.set_ne _ _ _ nb];exact g3 b q o a λq=>q.elim (λz=>hn ((n b).2 (.inl z))) nb
   ·exact g4.upd m λb a=>A.set_ne _ _ _ a
   ·rintro rfl;simp only [if_true] at C;obtain ⟨hj,rfl⟩:=C;exact ⟨Y',hj,λb=>Iff.rfl,nl,nd,A.set_same _ _ _ _,by rw [A.set_ne _ _ _ (Ne.symm k)];exact w⟩
   ·rintro rfl;simpa using C
  have js:∀(g:Loop),J (pre++[p]) Y' r->J (pre++[p]) Y' (r.set l true (.loop g)):=λg hj=>hJ.store hj nl (λb a=>A.set_ne _ _ _ a) (g4.upd m λb a=>A.set_ne _ _ _ a);have ss:∀c (g:Loop),Stop c r->Stop c (r.set l true (.loop g)):=λc g hc=>hS c r _ l _ hc g1 λb a=>A.set_ne _ _ _ a;refine ⟨_,g1,?_⟩;cases e with
  | normal=>exact y _ true (by simp only [if_true];exact ⟨js _ H,rfl⟩)
  | exit id=>exact y _ false (by simp only [Bool.false_eq_true,if_false];exact ⟨_,ss _ _ H,A.set_same _ _ _ _,by rw [A.set_ne _ _ _ (Ne.symm k)];exact w⟩)
  | ret=>exact y _ false (by simp only [Bool.false_eq_true,if_false];exact ⟨_,ss _ _ H,A.set_same _ _ _ _,by rw [A.set_ne _ _ _ (Ne.symm k)];exact w⟩)
  | goto _=>exact H.elim
  | panic _=>exact H.elim
  | outgrown=>exact H.elim
 refine (src _ _ _ _ _ yk R hI0).mono ?_;rintro v h' ⟨X',u,hk,hl2,hor⟩;rcases hor with ⟨Y,j,n,D,F,h1,h2⟩ | ⟨c,hst,h1,h2⟩
 ·refine ⟨lo,h1,rfl,?_⟩;show Q .normal V _ _;have s:=hl2.upd m (λb a=>A.set_ne h' true (.loop { lo with state:=.exhausted }) a);refine (fin d l _ s M m K (by rw [A.set_ne _ _ _ (Ne.symm k)];exact h2)).1 Y (hJ.store j D (λb a=>A.set_ne _ _ _ a) s) λb a e=>F (e▸a)
 ·refine ⟨_,h1,rfl,?_⟩;have s:=hl2.upd m (λb a=>A.set_ne h' true (.loop { { lo with state:=.done,pending:=some c } with state:=.exhausted }) a)
  have:=(fin d l _ s M m K (by rw [A.set_ne _ _ _ (Ne.symm k)];exact h2)).2 c (hS c h' _ l _ hst h1 λb a=>A.set_ne _ _ _ a)
  cases c with
  | exit id=>exact this
  | ret=>exact this
  | _=>exact this.elim
structure RY(hB:A)(X:Nat->Prop)(h hc:A):Prop where
 keep:CF X h hc
 base:hB.Le hc
 dom:∀b,X b->∃o,hc b=some o
section
variable {hB h hc h':A} {X:Nat->Prop}
theorem A.Le.someOf{h h':A}(l:h.Le h'){b:Nat}(x:∃o,h b=some o):∃o,h' b=some o:=by
 obtain ⟨o,a⟩:=x;obtain ⟨d,c,_⟩:=l b o.1 o.2 a;exact ⟨_,c⟩
theorem RY.start(lB:hB.Le h)(d:∀b,X b->∃o,h b=some o):RY hB X h h:=⟨CF.refl _ _,lB,d⟩
theorem RY.le(r:RY hB X h hc)(l:hc.Le h'):RY hB X h h':=⟨r.keep.trans (λ_ q=>.inl q) (l.keepX X),r.base.trans l,λb a=>l.someOf (r.dom b a)⟩
theorem RY.nothing(r:RY hB X h hc){q:Nat}(hq:hc q=none):h q=none:=by
 cases d:h q with
 | none=>rfl
 | some x=>
  by_cases a:X q
  ·obtain ⟨o,b⟩:=r.dom q a;rw [hq] at b;cases b
  ·obtain ⟨e,c,_⟩:=r.keep q x.1 x.2 d a;rw [hq] at c;cases c
theorem RY.store(r:RY hB X h hc){q:Nat}(hq:X q\/h q=none)(rB:hB q=none)(ho:∀b,b≠q->h' b=hc b)(hn:∃o,h' q=some o):RY hB X h h':=
 ⟨λb p o a c=>by
   have d:b≠q:=λe=>by
    subst e;rcases hq with hq | hq
    ·exact c hq
    ·rw [hq] at a;cases a
   rw [ho b d];exact r.keep b p o a c,
  r.base.upd rB ho,λb a=>by
   by_cases e:b=q
   ·subst e;exact hn
   ·rw [ho b e];exact r.dom b a⟩
theorem CF.app{v v':bW}(k:CF X h hc)(g:HQ hc h' v v')(hv:∀b,DH v=some b->X b):CF X h h':=λb p o c a=>by
 obtain ⟨d,f,i⟩:=k b p o c a;exact ⟨d,g.1 b _ f λe=>a (hv b e),i⟩
theorem CF.store'{q:Nat}(k:CF X h hc)(hq:X q\/h q=none)(ho:∀b,b≠q->h' b=hc b):CF X h h':=λb p o a c=>by
 have d:b≠q:=λe=>by
  subst e;rcases hq with hq | hq
  ·exact c hq
  ·rw [hq] at a;cases a
 rw [ho b d];exact k b p o a c
end
def A.del(h:A)(r:Nat):A:=λb=>if b=r then none else h b
theorem A.del_le(h:A)(r:Nat):(h.del r).Le h:=λb p o a=>by
 unfold A.del at a;split at a
 ·cases a
 ·exact ⟨o,a,.inl rfl⟩
theorem A.del_none(h:A)(r:Nat):h.del r r=none:=bV rfl
theorem A.del_ne{h:A}{r b:Nat}(e:b≠r):h.del r b=h b:=bU e
theorem A.Le.del{h0 h:A}(l:h0.Le h){r:Nat}(hr:h0 r=none):h0.Le (h.del r):=λb p o a=>by
 rw [A.del_ne (A.ne_of a hr)];exact l b p o a
theorem Ao.del{h:A}{r b off n:Nat}{vs:Array bW}(x:Ao h b off n vs)(e:b≠r):Ao (h.del r) b off n vs:=x.same (A.del_ne e)
theorem Wf{W:Wk P}{x v:bW}{args:Array bW}{h:A}{R:bW->A->Prop}(e:x=v)(k:CW W v args h R):CW W x args h R:=e▸k
def JCol{α:Type}(hB:A)(r:Nat)(bN t:bX)(n:Nat)(enc:α->Array bW)(pre:List α)(Y:Nat->Prop)(h:A):Prop:=
 ∃w,h r=some (true,.cells #[w] bN (0,0))/\Ae hB h w t n enc pre/\Bp w r/\hB r=none/\∀b,Y b↔b=r\/DH w=some b
theorem Ae.cellsAt{α:Type}{h0 h:A}{v:bW}{t:bX}{n:Nat}{enc:α->Array bW}{xs:List α}(x:Ae h0 h v t n enc xs):∀b,DH v=some b->∃c,h b=some (true,.cells c t (0,0)):=by
 intro b a;rcases x with ⟨rfl,_⟩ | ⟨f,d,c,rfl,g,e,_⟩
 ·cases a
 ·simp [DH] at a;subst a;exact ⟨_,e⟩
theorem U0{α:Type}(hB:A)(r:Nat)(bN t:bX)(n:Nat)(enc:α->Array bW):Hk hB (JCol hB r bN t n enc):=by
 refine ⟨?_,?_⟩
 ·rintro d Y h b ⟨w,e,f,i,j,a⟩ g;rcases (a b).1 g with rfl | h5
  ·exact ⟨_,_,e,rfl⟩
  ·obtain ⟨c,k⟩:=f.cellsAt b h5;exact ⟨_,_,k,rfl⟩
 ·rintro d Y h m ⟨w,e,f,i,j,a⟩ same p;refine ⟨w,by rw [same r ((a r).2 (.inl rfl))];exact e,f.keep λb o g l=>by rw [same b ((a b).2 (.inr g))];exact l,i,j,a⟩
theorem AAD{α:Type}{hB h:A}{r:Nat}{bN t:bX}{n:Nat}{enc:α->Array bW}(x:h r=some (true,.cells #[.slice none 0 0] bN (0,0)))(h0:hB r=none):JCol hB r bN t n enc [] (λb=>b=r) h:=
 ⟨_,x,Ae.nil _ _ _ _ _,Bp.nil,h0,λ_=>⟨.inl,λq=>q.elim id λe=>by cases e⟩⟩
theorem jcol_end{α:Type}{hB h h' ha hb:A}{r:Nat}{bN t:bX}{n:Nat}{enc:α->Array bW}{pre:List α}{w w':bW}{Y:Nat->Prop}(hY:∀b,Y b↔b=r\/DH w=some b)(g:HQ ha hb w w')(hn:∀q,ha q=none->h q=none)
  (x:h' r=some (true,.cells #[w'] bN (0,0))) (o:Ae hB h' w' t n enc pre) (f:Bp w' r) (h0:hB r=none) :
  ∃Y',(∀b,Y' b->Y b\/h b=none)/\JCol hB r bN t n enc pre Y' h':=by
 refine ⟨λb=>b=r\/DH w'=some b,?_,w',x,o,f,h0,λ_=>Iff.rfl⟩;rintro b (rfl | hb)
 ·exact .inl ((hY _).2 (.inl rfl))
 ·rcases g.2 with e | ⟨⟨q,a,c⟩,_⟩
  ·exact .inl ((hY _).2 (.inr (by rw [<-e];exact hb)))
  ·rw [a] at hb;cases hb;exact .inr (hn _ c)
theorem O8{fn:Func}{V:Nat->bW}{R:bW->A->Prop}{d:Nat}{ds:List Deferred}{h:A}(hd:h d=some (true,.deferred (some [])))(x:∀h',(∀b,b≠d->h' b=h b)->Hp P fn V R ds h') :
  Hp P fn V R ({ target:=.collected d,args:=#[] } ::ds) h:=⟨d,rfl,_,hd,rfl,x _ λb a=>A.set_ne _ _ _ a⟩
end
end Go.Ns
namespace Go.Ns
open Go.Conc
section
variable {P:Program} {E:Ho P}
abbrev Law2:=(Nat->bW)->bW->A->Prop
def KeepD(bK:Nat->Prop)(h h':A):Prop:=CF bK h h'/\∀b,(∃o,h b=some o)->∃o,h' b=some o
section
variable {Pre:Nat->A->Prop} {Φ:List Law2} {bK:Nat->Prop} {k:Nat} {cl:List Nat} {h h':A}
end
theorem Ae.apartTy{α β:Type}{h0 h1 h:A}{v w:bW}{t t':bX}{n n':Nat}{enc:α->Array bW}{enc':β->Array bW}{xs:List α}{ys:List β}(x:Ae h0 h v t n enc xs)(y:Ae h1 h w t' n' enc' ys)(ne:t≠t'):Apart v w:=λb e a=>by
 rcases x with ⟨rfl,_⟩ | ⟨f,_,g,rfl,_,d,_⟩
 ·cases e
 ·rcases y with ⟨rfl,_⟩ | ⟨i,_,j,rfl,_,c,_⟩
  ·cases a
  ·simp only [DH,Option.some.injEq] at e a;subst e;subst a;rw [d] at c;simp only [Option.some.injEq,Prod.mk.injEq,Obj.cells.injEq] at c;exact ne c.2.2.1
end
end Go.Ns
namespace Go.Ns
open Go.Conc
section
variable {P:Program} {E:Ho P} {V:Nat->bW} {ds:List Deferred} {h:A} {bN:(Nat->bW)->List Deferred->A->Prop}
variable {dst:Option Nat} {ty:bX} {pos:String} {af:Array Edge} {gd:Option (Nat×Bool)}
def AAE:bW->Bool
 | .slice none _ _=>true
 | _=>false
theorem ok_eqlNil{xt yt:bX}{x y:Operand}{a:Option Addr}{l c:Nat}(ht:LU P xt=true)(hx:Ag V x=.slice a l c)(hy:Ag V y=.slice none 0 0)(k:bN (putS V dst (.bool (AAE (.slice a l c)))) ds h) :
  B9 E ⟨dst,.binOp .eql xt x y yt,ty,pos,af,gd⟩ V ds h bN:=by
 unfold B9 execOp;simp only [hx,hy];refine HL (AI _ _ ?_);show Sem.gh P (do pure (Value.bool (<-Op.equal xt (.slice a l c) (.slice none 0 0))):Sem bW) h _;refine AI _ _ ?_;unfold Op.equal Op.maxDepth;show (Op.equalIn (9999+1) xt (.slice a l c) (.slice none 0 0)).gh P h _;unfold Op.equalIn;unfold LU at ht;cases b:P.underlying xt with
 | none=>rw [b] at ht;cases ht
 | some d=>
  rw [b] at ht;refine AI _ _ (BG b ?_);cases d <;> first | (cases ht;done) | skip
  cases a with
  | none=>exact k
  | some a=>exact k
theorem I6{α:Type}{xt yt:bX}{x y:Operand}{v:bW}{n:Nat}{enc:α->Array bW}{xs:List α}(ht:LU P xt=true)(s:Ai h v n enc xs)(hx:Ag V x=v)(hy:Ag V y=.slice none 0 0)(k:bN (putS V dst (.bool (AAE v))) ds h) :
  B9 E ⟨dst,.binOp .eql xt x y yt,ty,pos,af,gd⟩ V ds h bN:=by
 obtain ⟨a,b,rfl,_⟩:=s;exact ok_eqlNil ht hx hy k
theorem I7{α:Type}{v:bW}{n:Nat}{enc:α->Array bW}{xs:List α}(s:Ai h v n enc xs)(e:AAE v=true):xs=[]:=by
 obtain ⟨a,c,rfl,_,_,q⟩:=s;cases a with
 | some a=>cases e
 | none=>
  cases xs with
  | nil=>rfl
  | cons x xs=>obtain ⟨b,d,f,_⟩:=q 0 aG;cases f
theorem shr_eq{a:Int}{k:Nat}(h:k<=63):a.fdiv (2 ^ (min ((k:Int)).toNat IntKind.i64.bits))=a.fdiv (2 ^ k):=by
 have:min ((k:Int)).toNat IntKind.i64.bits=k:=by
  show min ((k:Int)).toNat 64=k;omega
 rw [this]
theorem shl_eq{k:Nat}(h:k<=60):IntKind.i64.wrap (1*2 ^ (min ((k:Int)).toNat IntKind.i64.bits))=2 ^ k:=by
 have:min ((k:Int)).toNat IntKind.i64.bits=k:=by
  show min ((k:Int)).toNat 64=k;omega
 rw [this,Int.one_mul];have a:(2:Int) ^ k<=2 ^ 60:=by
  have:=Nat.pow_le_pow_right (show 0<2 by decide) h
  exact_mod_cast this
 have b:(0:Int)<=2 ^ k:=by
  have:=Nat.zero_le (2 ^ k)
  exact_mod_cast this
 exact IntWalk.i64_in _ O
end
theorem SU{a:Int}(h:0<=a/\a<=65535)(k:Nat):0<=a.fdiv (2 ^ k)/\a.fdiv (2 ^ k)<=65535:=by
 have b:(0:Int)<2 ^ k:=by
  have:=Nat.pow_pos (n:=k) (show 0<2 by decide)
  exact_mod_cast this
 rw [Int.fdiv_eq_ediv_of_nonneg _ (Int.le_of_lt b)];refine ⟨Int.ediv_nonneg h.1 (Int.le_of_lt b),Int.le_trans (Int.ediv_le_self _ h.1) h.2⟩
def P9(mask:Int)(k:Nat):Bool:=decide (mask.fdiv (2 ^ k)%2=1)
def Eo(mask:Int)(k:Nat):List Int:=((List.range k).filter (P9 mask)).map λ(i:Nat)=>(i:Int)
theorem LZ{p:Nat->Bool}{k:Nat}(h:p k=true):(List.range (k+1)).filter p=(List.range k).filter p++[k]:=by
 rw [List.range_succ,List.filter_append];simp [h]
theorem La{p:Nat->Bool}{k:Nat}(h:p k=false):(List.range (k+1)).filter p=(List.range k).filter p:=by
 rw [List.range_succ,List.filter_append];simp [h]
theorem pickI_t{mask:Int}{k:Nat}(h:mask.fdiv (2 ^ k)%2=1):Eo mask (k+1)=Eo mask k++[(k:Int)]:=by
 unfold Eo;rw [LZ (by unfold P9;rw [decide_eq_true h]),List.map_append];rfl
theorem pickI_f{mask:Int}{k:Nat}(h:¬mask.fdiv (2 ^ k)%2=1):Eo mask (k+1)=Eo mask k:=by
 unfold Eo;rw [La (by unfold P9;rw [decide_eq_false h])]
theorem U1(mask:Int)(k:Nat):(Eo mask k).length<=k:=by
 unfold Eo;rw [List.length_map]
 have:=List.length_filter_le (P9 mask) (List.range k)
 rwa [List.length_range] at this
def Wg(a b:Int):Int:=if a<b then-1 else if b<a then 1 else 0
def MT(a b:List Int):Nat->Nat->Int
 | 0,_=>if (a.length:Int)<b.length then-1 else 0
 | f+1,k=>if (b.length:Int)<=k then 1 else if¬Wg (a.getD k 0) (b.getD k 0)=0 then Wg (a.getD k 0) (b.getD k 0) else MT a b f (k+1)
def YF(a b:List Int):Int:=MT a b a.length 0
theorem QA{a b:List Int}{k:Nat}(hk:¬(k:Int)<a.length):MT a b (a.length-k) k=if (a.length:Int)<b.length then-1 else 0:=by
 rw [show a.length-k=0 by omega];rfl
theorem NE{a b:List Int}{k:Nat}(hk:k<a.length):MT a b (a.length-k) k=if (b.length:Int)<=k then 1 else if¬Wg (a.getD k 0) (b.getD k 0)=0 then Wg (a.getD k 0) (b.getD k 0) else MT a b (a.length-(k+1)) (k+1):=by
 rw [show a.length-k=(a.length-(k+1))+1 by omega];rfl
abbrev Sl:=bW×List Int
def Sl.z:Sl:=(.slice none 0 0,[])
def KN(x:Sl):Array bW:=#[x.1]
def Ib(h:A)(l:List Sl):Prop:=∀k,Ai h (l.getD k Sl.z).1 1 eI (l.getD k Sl.z).2
theorem Ib.le{h h':A}{l:List Sl}(x:Ib h l)(e:h.Le h'):Ib h' l:=λk=>(x k).le e
def BT(l:List Sl):List (List Int):=l.map (·.2)
theorem E8{l:List Sl}{k:Nat}(hk:k<l.length):(BT l).getD k []=(l.getD k Sl.z).2:=by
 unfold BT;rw [Cy [] (by simpa using hk),Cy Sl.z hk];simp
end Go.Ns
namespace Go.Ns
open Go.Conc
def En(n:Int):bW:=.int .i64 n
section
variable {hB h hc h':A} {ms:List JR} {pasts:List Wd} {r:Nat}
end
section
variable {P:Program} {E:Ho P} {V:Nat->bW} {ds:List Deferred} {h:A} {bN:(Nat->bW)->List Deferred->A->Prop}
variable {dst:Option Nat} {ty:bX} {pos:String} {af:Array Edge} {gd:Option (Nat×Bool)}
end
section
variable {hB h hc h':A} {ms:List JR} {pasts:List Wd} {r:Nat}
theorem Ae.keepX{α:Type}{X:Nat->Prop}{h0:A}{v:bW}{t:bX}{n:Nat}{enc:α->Array bW}{xs:List α}(x:Ae h0 h v t n enc xs)(k:CF X h h')(hS:∀b,DH v=some b->¬X b):Ae h0 h' v t n enc xs:=by
 rcases x with x | ⟨b,a,c,rfl,d,e,f⟩
 ·exact .inl x
 ·exact .inr ⟨b,a,c,rfl,d,k.box e (hS b rfl) rfl,f⟩
theorem Ai.slDel{α:Type}{v:bW}{n:Nat}{enc:α->Array bW}{xs:List α}(x:Ai h v n enc xs){p:Bool}{es:Array MapEntry}{clk:Nat}(hr:h r=some (p,.map es clk)):Ai (h.del r) v n enc xs:=by
 obtain ⟨a,d,l,hc,m,o⟩:=x;refine ⟨a,d,l,hc,m,λi q=>?_⟩;obtain ⟨b,g,s,j⟩:=o i q;refine ⟨b,g,s,j.del λe=>?_⟩;obtain ⟨u,c,t,f,k,_⟩:=j;rw [e,hr] at k;cases k
end
section
variable {P:Program} {E:Ho P} {V:Nat->bW} {ds:List Deferred} {h:A}
end
section
variable {d m:Int} {gs:List Good} {ms:List JR} {cs:List LK} {o:List Int}
end
end Go.Ns
namespace Go.Ns
open Go.Conc Go.Sort
def CT(rest:List bW)(d:Array Int):Array bW:=(d.toList.map (λx=>Value.int .i64 x)++rest).toArray
theorem Bz(rest:List bW)(d:Array Int):(CT rest d).size=d.size+rest.length:=by simp [CT]
theorem BI{rest:List bW}{d:Array Int}{i:Nat}(h:i<d.size):(CT rest d)[0+i*1]? =some (.int .i64 d[i]!):=by
 have a:i<(d.toList.map (λx=>Value.int .i64 x)).length:=by simpa using h
 rw [Nat.zero_add,Nat.mul_one];unfold CT;rw [List.getElem?_toArray,List.getElem?_append_left a,List.getElem?_map];simp [h,getElem!_pos]
theorem CU{rest:List bW}{d:Array Int}{i:Nat}{v:Int}(h:i<d.size):CK (CT rest d) (0+i*1) [.int .i64 v]=CT rest (d.setIfInBounds i v):=by
 rw [Nat.zero_add,Nat.mul_one];show (CT rest d).setIfInBounds i (.int .i64 v)=_;unfold CT;apply Array.toList_inj.1;have a:i<(d.toList.map (λx=>Value.int .i64 x)).length:=by simpa using h
 rw [Array.toList_setIfInBounds];simp only [];rw [List.set_append_left _ _ a,Array.toList_setIfInBounds,List.map_set]
structure BC(b:Nat)(h hc:A):Prop where
 keep:CF (λx=>x=b) h hc
 dom:∃o,hc b=some o
section
variable {b:Nat} {h hc h':A}
theorem BC.start(x:∃o,h b=some o):BC b h h:=⟨CF.refl _ _,x⟩
theorem BC.le(y:BC b h hc)(l:hc.Le h'):BC b h h':=⟨y.keep.trans (λ_ q=>.inl q) (l.keepX _),l.someOf y.dom⟩
theorem BC.put(y:BC b h hc)(ho:∀x,x≠b->h' x=hc x)(x:∃o,h' b=some o):BC b h h':=⟨y.keep.store' (.inl rfl) ho,x⟩
theorem BC.ne(y:BC b h hc){q:Nat}(hq:hc q=none):q≠b:=λe=>by
 obtain ⟨o,a⟩:=y.dom;rw [e,a] at hq;cases hq
theorem BC.nothing(y:BC b h hc){q:Nat}(hq:hc q=none):h q=none:=by
 cases a:h q with
 | none=>rfl
 | some x=>
  obtain ⟨d,c,_⟩:=y.keep q x.1 x.2 a (y.ne hq);rw [c] at hq;cases hq
theorem BC.store(y:BC b h hc){q:Nat}(hq:h q=none)(hn:q≠b)(ho:∀x,x≠q->h' x=hc x):BC b h h':=⟨y.keep.store hq ho,by rw [ho b (Ne.symm hn)];exact y.dom⟩
theorem BC.call(y:BC b h hc)(k:CF (λx=>x=b) hc h')(x:∃o,h' b=some o):BC b h h':=⟨y.keep.trans (λ_ q=>.inl q) k,x⟩
end
def IM(d:Array Int)(off:Nat):Array Int:=(d.toList.take off++List.replicate (d.size-off) 0).toArray
theorem UW(d:Array Int)(off:Nat):(IM d off).size=d.size:=by simp [IM];omega
theorem ins_round{a j:Nat}{dd:Array Int}(h:(a:Int)<(j:Int)/\dd[j]! <dd[((j:Int)-1).toNat]!) :
  insInner ltInt a j dd=insInner ltInt a (j-1) ((dd.setIfInBounds j dd[((j:Int)-1).toNat]!).setIfInBounds ((j:Int)-1).toNat dd[j]!):=by
 obtain ⟨c,b⟩:=h;cases j with
 | zero=>omega
 | succ j=>
  have e:(((j+1:Nat):Int)-1).toNat=j:=O
  rw [e] at b ⊢
  conv=>lhs;unfold insInner
  rw [bV (by unfold ltInt;simp;exact ⟨O,b⟩)];rfl
theorem ins_stop{a j:Nat}{dd:Array Int}(h:¬((a:Int)<(j:Int)/\dd[j]! <dd[((j:Int)-1).toNat]!)):insInner ltInt a j dd=dd:=by
 cases j with
 | zero=>rfl
 | succ j=>
  have e:(((j+1:Nat):Int)-1).toNat=j:=O
  rw [e] at h;unfold insInner;rw [bU (by unfold ltInt;simp;intro q;exact Int.not_lt.1 λr=>h ⟨O,r⟩)]
theorem UX{a b i:Nat}{dd:Array Int}(h:i<b):insOuter ltInt a b i dd=insOuter ltInt a b (i+1) (insInner ltInt a i dd):=by
 conv=>lhs;unfold insOuter
 rw [bV h]
theorem Wh{a b i:Nat}{dd:Array Int}(h:¬(i:Int)<b):insOuter ltInt a b i dd=dd:=by
 unfold insOuter;rw [bU O]
def EV(l:List Int):List Int:=(Go.Sort.sort ltInt l.toArray).toList
theorem JW{a r:Int}{k:Nat}(h:k<=63)(e:a / 2 ^ k=r):a.fdiv (2 ^ (min ((k:Int)).toNat IntKind.u64.bits))=r:=by
 have:min ((k:Int)).toNat IntKind.u64.bits=k:=by
  show min ((k:Int)).toNat 64=k;omega
 have b:(0:Int)<=2 ^ k:=by
  have:=Nat.zero_le (2 ^ k)
  exact_mod_cast this
 rw [this,Int.fdiv_eq_ediv_of_nonneg _ b,e]
section
variable {P:Program} {E:Ho P} {V:Nat->bW} {ds:List Deferred} {h:A} {bN:(Nat->bW)->List Deferred->A->Prop}
variable {dst:Option Nat} {ty:bX} {pos:String} {af:Array Edge} {gd:Option (Nat×Bool)}
end
theorem flat_eI(l:List Int):ET eI l=l.map (λx=>Value.int .i64 x):=by
 induction l with
 | nil=>rfl
 | cons x l a=>show (eI x).toList++ET eI l=_;rw [a];rfl
theorem Ae.row{h0 h:A}{v:bW}{xs:List Int}(x:Ae h0 h v 3 1 eI xs)(hne:xs≠[]) :
  ∃b cap rest,v=.slice (some ⟨b,0,none⟩) xs.toArray.size cap/\h b=some (true,.cells (CT rest xs.toArray) 3 (0,0)):=by
 rcases x with ⟨_,e⟩ | ⟨b,cap,c,rfl,f,a,g,i,j,d,k⟩
 ·exact absurd e hne
 ·refine ⟨b,cap,c.toList.drop xs.length,aG,?_⟩;have e:c=CT (c.toList.drop xs.length) xs.toArray:=by
   apply Array.toList_inj.1;unfold CT;simp only [];rw [<-flat_eI,<-d,Nat.mul_one,List.take_append_drop]
  rw [<-e];exact a
theorem Ae.ofRow{h0 h h':A}{b cap:Nat}{rest:List bW}{xs:List Int}{D:Array Int}(x:Ae h0 h (.slice (some ⟨b,0,none⟩) xs.toArray.size cap) 3 1 eI xs)(hne:xs≠[])(hD:D.size=xs.length)(hb:h b=some (true,.cells (CT rest xs.toArray) 3 (0,0)))(hb':h' b=some (true,.cells (CT rest D) 3 (0,0))) :
  Ae h0 h' (.slice (some ⟨b,0,none⟩) xs.toArray.size cap) 3 1 eI D.toList:=by
 rcases x with ⟨e,_⟩ | ⟨k,g,c,e,j,a,i,l,m,n,o⟩
 ·cases e
 ·simp only [Value.slice.injEq,Option.some.injEq,Addr.mk.injEq] at e;obtain ⟨⟨rfl,_⟩,_,rfl⟩:=e;rw [hb] at a;simp only [Option.some.injEq,Prod.mk.injEq,Obj.cells.injEq,true_and,and_true] at a;subst a;have d:D.toList.length=xs.length:=by rw [Array.length_toList];exact hD
  refine .inr ⟨b,cap,_,by rw [d];simp,j,hb',?_,O,O,?_,λy _=>rfl⟩
  ·rw [Bz] at i ⊢;rw [hD];simpa using i
  ·unfold CT;simp only [Nat.mul_one];rw [flat_eI,<-List.length_map (f:=λx=>Value.int .i64 x),List.take_append_of_le_length (Nat.le_refl _),List.take_length]
theorem CF.grownSame{h h':A}{b cap n:Nat}(k:CF (λx=>x=b) h h'):HQ h h' (.slice (some ⟨b,0,none⟩) n cap) (.slice (some ⟨b,0,none⟩) n cap):=
 ⟨λr o a c=>(by
  obtain ⟨g,d,rfl | ⟨f,_⟩⟩:=k r o.1 o.2 a (λe=>c (by rw [e];rfl))
  ·exact d
  ·cases f),.inl rfl⟩
section
variable {P:Program} {E:Ho P} {V:Nat->bW} {ds:List Deferred} {h:A} {bN:(Nat->bW)->List Deferred->A->Prop}
variable {dst:Option Nat} {ty:bX} {pos:String} {af:Array Edge} {gd:Option (Nat×Bool)}
theorem AAF{t:bX}{x o:Operand}{b len cap hi:Nat}(ht:F6 P t=some 1)(hc:len<=cap)(hx:Ag V x=.slice (some ⟨b,0,none⟩) len cap)(ho:∃kd,Ag V o=.int kd hi)(h2:hi<=len)(k:bN (putS V dst (.slice (some ⟨b,0,none⟩) hi cap)) ds h) :
  B9 E ⟨dst,.slice t x none (some o) none,ty,pos,af,gd⟩ V ds h bN:=by
 refine MR (olo:=none) (ohi:=some o) 0 hi ht hc hx rfl ho (Nat.zero_le _) h2 ?_;have e:(if cap=0 then (some ⟨b,0,none⟩:Option Addr) else (some ⟨b,0,none⟩:Option Addr).map (·.add (0*1)))=some ⟨b,0,none⟩:=by
  split
  ·rfl
  ·simp [KR]
 rw [e];exact k
theorem N6{t:bX}{x o:Operand}{b len cap lo:Nat}(ht:F6 P t=some 1)(hc:len<=cap)(hx:Ag V x=.slice (some ⟨b,0,none⟩) len cap)(ho:∃kd,Ag V o=.int kd lo)(h2:lo<len)(k:bN (putS V dst (.slice (some ⟨b,lo,none⟩) (len-lo) (cap-lo))) ds h) :
  B9 E ⟨dst,.slice t x (some o) none none,ty,pos,af,gd⟩ V ds h bN:=by
 refine MR (olo:=some o) (ohi:=none) lo len ht hc hx ho rfl (Nat.le_of_lt h2) (Nat.le_refl _) ?_;have e:(if cap=lo then (some ⟨b,0,none⟩:Option Addr) else (some ⟨b,0,none⟩:Option Addr).map (·.add (lo*1)))=some ⟨b,lo,none⟩:=by
  rw [bU O];simp [KR]
 rw [e];exact k
theorem YG{t e:bX}{x:Operand}{b off len cap:Nat}{rest:List bW}{d:Array Int}{z:Nat}(ht:EA P t=some (1,#[.int .i64 0],e))(hx:Ag V x=.slice (some ⟨b,off,none⟩) len cap)(hb:h b=some (true,.cells (CT rest d) z (0,0)))(hn:off+len=d.size)(hl:0<len)
  (k:∀h',h' b=some (true,.cells (CT rest (IM d off)) z (0,0))->(∀x,x≠b->h' x=h x)->bN (putS V dst (.tuple #[])) ds h') :
  B9 E ⟨dst,.call ⟨.builtin .clear,#[x],#[t]⟩,ty,pos,af,gd⟩ V ds h bN:=by
 refine Hu (vs:=#[.slice (some ⟨b,off,none⟩) len cap]) (s:=Builtin.clear_ #[t] ty #[.slice (some ⟨b,off,none⟩) len cap]) (by simp [hx]) (λ_=>rfl) ?_;unfold EA at ht;cases l:P.underlying t with
 | none=>rw [l] at ht;cases ht
 | some r=>
 rw [l] at ht;cases r <;> first | (cases ht;done) | skip
 rename_i j
 simp only at ht;cases f:DN P j with
 | none=>rw [f] at ht;cases ht
 | some g=>
 cases c:CZ P j with
 | none=>rw [f,c] at ht;cases ht
 | some D=>
 rw [f,c] at ht;simp only [Option.some.injEq,Prod.mk.injEq] at ht;obtain ⟨_,rfl,rfl⟩:=ht;unfold Builtin.clear_;simp only [List.getElem?_toArray,List.getElem?_cons_zero];refine AI _ _ (BG l ?_);obtain ⟨len,rfl⟩:∃m,len=m+1:=⟨len-1,O⟩;have hzero:∀{Q:bW->A->Prop}{h:A},(∀v,v.cells=#[.int .i64 0]->Q v h)->(zeroValue j).gh P h Q:=λ{Q h} q=>by
  unfold CZ at c;unfold zeroValue;cases n:P.info? j with
  | none=>rw [n] at c;cases c
  | some i=>
   rw [n] at c;simp only [Option.map_eq_some_iff] at c;obtain ⟨v,u,e⟩:=c;refine AI _ _ (DU n ?_);rw [u];exact q v e
 refine AI _ _ (hzero λL o=>?_);rw [o];have hcells:(Builtin.zeroCells #[.int .i64 0] (len+1)).toList=List.replicate (len+1) (.int .i64 0):=by
  unfold Builtin.zeroCells;apply List.ext_getElem
  ·simp
  ·intro i p F;simp [Nat.mod_one]
 rw [hcells];have w:d.size=d.toList.length:=aG
 refine AI _ _ (Jl (a:=⟨b,off,none⟩) rfl _ 0 (CT rest d) h ?_ hb ?_ ?_)
 ·intro y C;rw [List.eq_of_mem_replicate C];rfl
 ·rw [Bz,List.length_replicate];show off+0+(len+1)<=_;omega
 ·refine BS (k _ ?_ λx hx=>A.set_ne _ _ _ hx);have e:CK (CT rest d) (off+0) (List.replicate (len+1) (.int .i64 0))=CT rest (IM d off):=by
   apply Array.toList_inj.1;rw [Fi _ _ _ (by rw [Bz,List.length_replicate];omega)];unfold CT IM;simp only [List.length_replicate,Nat.add_zero,List.map_append,List.map_take,List.map_replicate];have p:off<=(d.toList.map (λx=>Value.int .i64 x)).length:=by simp;omega
   rw [List.take_append_of_le_length p,show d.size-off=len+1 by omega];congr 1;rw [show off+(len+1)=(d.toList.map (λx=>Value.int .i64 x)).length by simp;omega,List.drop_left]
  rw [<-e];exact A.set_same _ _ _ _
end
def JX(acc:List Int)(x:Int):List Int:=if acc.getLast? =some x then acc else acc++[x]
def Dr(l:List Int):List Int:=l.foldl JX []
theorem AAG(acc:List Int)(x:Int):(JX acc x).getLast? =some x:=by
 unfold JX;split
 ·assumption
 ·simp
theorem I8{d:Array Int}{j:Nat}(hj:j<d.size):Dr (d.toList.take (j+1))=JX (Dr (d.toList.take j)) d[j]! :=by
 have e:d.toList.take (j+1)=d.toList.take j++[d[j]!]:=by
  rw [List.take_succ_eq_append_getElem (by simpa using hj)];simp [getElem!_pos,hj]
 rw [e];unfold Dr;rw [List.foldl_append];rfl
theorem AAH{d:Array Int}{j:Nat}(hj:j<d.size):(Dr (d.toList.take (j+1))).getLast? =some d[j]! :=by
 rw [I8 hj];exact AAG _ _
theorem O9{rest:List bW}{d:Array Int}{o i:Nat}(h:o+i<d.size):(CT rest d)[o+i*1]? =some (.int .i64 d[o+i]!):=by
 have:=BI (rest:=rest) h
 rw [Nat.zero_add,Nat.mul_one] at this;rw [Nat.mul_one];exact this
theorem Mu{d:Array Int}{j:Nat}(hj:j<d.size):d.toList.take (j+1)=d.toList.take j++[d[j]!]:=by
 rw [List.take_succ_eq_append_getElem (by simpa using hj)];simp [getElem!_pos,hj]
theorem Ke{d:Array Int}{j:Nat}(h1:1<=j)(hj:j<=d.size):(Dr (d.toList.take j)).getLast? =some d[j-1]! :=by
 obtain ⟨i,rfl⟩:∃i,j=i+1:=⟨j-1,O⟩;exact AAH O
theorem Wi{d:Array Int}{k:Nat}(h1:1<=k)(hk:k<d.size)(h:¬d[k]! =d[((k:Int)-1).toNat]!)(hs:Dr (d.toList.take k)=d.toList.take k):Dr (d.toList.take (k+1))=d.toList.take (k+1):=by
 rw [I8 hk,Mu hk];unfold JX;rw [Ke h1 O,bU (by rw [show ((k:Int)-1).toNat=k-1 by omega] at h;simpa using λe=>h e.symm),hs]
theorem Wj{d:Array Int}{k:Nat}(h1:1<=k)(hk:k<d.size)(h:d[k]! =d[((k:Int)-1).toNat]!)(hs:Dr (d.toList.take k)=d.toList.take k):d.toList.take k=Dr (d.toList.take (k+1)):=by
 rw [I8 hk];unfold JX;rw [Ke h1 O,bV (by rw [show ((k:Int)-1).toNat=k-1 by omega] at h;rw [h]),hs]
theorem AAI{d dd:Array Int}{k q kk:Nat}(hq:1<=q/\k+q<d.size)(hkk:k<=kk/\kk+1<=k+q)(hsz:dd.size=d.size)(hd:∀j,kk<=j->dd[j]! =d[j]!)(hdd:dd.toList.take kk=Dr (d.toList.take (k+q)))(h:¬dd[k+q]! =dd[k+((q:Int)-1).toNat]!) :
  (dd.setIfInBounds kk dd[k+q]!).toList.take (kk+1)=Dr (d.toList.take (k+(q+1))):=by
 have a:((q:Int)-1).toNat=q-1:=O
 rw [a,hd _ O,hd _ O] at h;rw [show k+(q+1)=(k+q)+1 by omega,I8 hq.2];unfold JX;rw [Ke O O,bU (by rw [show k+q-1=k+(q-1) by omega];simpa using λe=>h e.symm),<-hdd,hd _ O,Array.toList_setIfInBounds];rw [List.take_succ_eq_append_getElem (by simp;omega),List.take_set_of_le O];simp
theorem AAJ{d dd:Array Int}{k q kk:Nat}(hq:1<=q/\k+q<d.size)(hkk:k<=kk/\kk+1<=k+q)(hd:∀j,kk<=j->dd[j]! =d[j]!)(hdd:dd.toList.take kk=Dr (d.toList.take (k+q)))(h:dd[k+q]! =dd[k+((q:Int)-1).toNat]!) :
  dd.toList.take kk=Dr (d.toList.take (k+(q+1))):=by
 have a:((q:Int)-1).toNat=q-1:=O
 rw [a,hd _ O,hd _ O] at h;rw [show k+(q+1)=(k+q)+1 by omega,I8 hq.2];unfold JX;rw [Ke O O,bV (by rw [show k+q-1=k+(q-1) by omega,h]),hdd]
theorem set_other{d dd:Array Int}{kk:Nat}{x:Int}(hd:∀j,kk<=j->dd[j]! =d[j]!):∀j,kk+1<=j->(dd.setIfInBounds kk x)[j]! =d[j]! :=λj a=>by
 rw [<-hd j O];simp only [getElem!_def,Array.getElem?_setIfInBounds_ne (show kk≠j by omega)]
theorem UY{d:Array Int}{k:Nat}(h:k<=d.size):(IM d k).toList.take k=d.toList.take k:=by
 unfold IM;simp only [];rw [List.take_append_of_le_length (by simp;omega),List.take_take];simp
theorem YH{d:Array Int}(h:2<=d.size):Dr (d.toList.take 1)=d.toList.take 1:=by
 have e:=Mu (d:=d) (j:=0) O;rw [Nat.zero_add] at e;rw [e];rfl
theorem YI{d:Array Int}{k:Nat}(hs:Dr (d.toList.take k)=d.toList.take k)(h1:k<=d.size)(h2:d.size<=k):d.toList.take d.size=Dr d.toList:=by
 rw [show k=d.toList.length by simp;omega,List.take_length] at hs;rw [hs,<-Array.length_toList,List.take_length]
theorem YJ{d:Array Int}(h:d.size<2):d.toList.take d.size=Dr d.toList:=by
 rw [<-Array.length_toList,List.take_length]
 have:d.toList.length<2:=by simpa using h
 match hd:d.toList,this with
 | [],_=>rfl
 | [x],_=>rfl
 | _ ::_ ::_,h=>simp at h;omega
theorem J4(l:List Int):EV l=l.mergeSort (λx y=>decide (x<=y)):=sortInt l
theorem EZ(l:List Int):(EV l).length=l.length:=by rw [J4,List.length_mergeSort]
theorem sortI_ne{l:List Int}(h:l≠[]):EV l≠[]:=λe=>by
 have:=congrArg List.length e
 rw [EZ] at this;exact h (List.length_eq_zero_iff.1 this)
end Go.Ns
namespace Go.Ns
open Go.Conc Go.Sort
theorem PA:SWO ltInt:=⟨λx=>by unfold ltInt;simp,λx y z=>by unfold ltInt;simp;omega,λx y z=>by unfold ltInt;simp;omega⟩
theorem YK{d dd:Array Int}{a b i j:Nat}(h:PermIn a b d dd)(hi:a<=i/\i<b)(hj:a<=j/\j<b)(hb:b<=d.size):PermIn a b d ((dd.setIfInBounds i dd[j]!).setIfInBounds j dd[i]!):=
 permIn_trans _ _ _ a b h (swp_permIn dd a b i j hi.1 hi.2 hj.1 hj.2 (by rw [h.1];exact hb))
theorem sift_end{hi first root:Nat}{dd:Array Int}(h:hi<=2*root+1):siftDown ltInt hi first root dd=dd:=by
 unfold siftDown;rw [dif_pos h]
theorem sift_r{hi first root:Nat}{dd:Array Int}(h:¬hi<=2*root+1)(h1:2*root+1+1<hi)(h1':dd[first+(2*root+1)]! <dd[first+(2*root+1)+1]!)(h2:dd[first+root]! <dd[first+(2*root+1+1)]!) :
  siftDown ltInt hi first root dd=siftDown ltInt hi first (2*root+1+1) (swp dd (first+root) (first+(2*root+1+1))):=by
 have a:dd[first+root]! <dd[first+(2*root+2)]! :=h2
 conv=>lhs;unfold siftDown
 rw [dif_neg h,bV (by unfold ltInt;simpa using ⟨h1,h1'⟩),bU (by unfold ltInt;simpa using a),dif_pos O]
theorem sift_r0{hi first root:Nat}{dd:Array Int}(h:¬hi<=2*root+1)(h1:2*root+1+1<hi)(h1':dd[first+(2*root+1)]! <dd[first+(2*root+1)+1]!)(h2:¬dd[first+root]! <dd[first+(2*root+1+1)]!) :
  siftDown ltInt hi first root dd=dd:=by
 have a:¬dd[first+root]! <dd[first+(2*root+2)]! :=h2;unfold siftDown;rw [dif_neg h,bV (by unfold ltInt;simpa using ⟨h1,h1'⟩),bV (by unfold ltInt;simpa using a)]
theorem sift_l{hi first root:Nat}{dd:Array Int}(h:¬hi<=2*root+1)(h1:¬(2*root+1+1<hi/\dd[first+(2*root+1)]! <dd[first+(2*root+1)+1]!))(h2:dd[first+root]! <dd[first+(2*root+1)]!) :
  siftDown ltInt hi first root dd=siftDown ltInt hi first (2*root+1) (swp dd (first+root) (first+(2*root+1))):=by
 conv=>lhs;unfold siftDown
 rw [dif_neg h,bU (by unfold ltInt;simpa using h1),bU (by unfold ltInt;simpa using h2)]
theorem sift_l0{hi first root:Nat}{dd:Array Int}(h:¬hi<=2*root+1)(h1:¬(2*root+1+1<hi/\dd[first+(2*root+1)]! <dd[first+(2*root+1)+1]!))(h2:¬dd[first+root]! <dd[first+(2*root+1)]!) :
  siftDown ltInt hi first root dd=dd:=by
 unfold siftDown;rw [dif_neg h,bU (by unfold ltInt;simpa using h1),bV (by unfold ltInt;simpa using h2)]
theorem PB(hi first root:Nat)(d:Array Int):(siftDown ltInt hi first root d).size=d.size:=by
 fun_induction siftDown ltInt hi first root d <;> simp_all [swp]
theorem AAK{z a k:Nat}{dd:Array Int}(hk:(0:Int)<=(k:Int)-1):heapBuild ltInt (z-a) a k dd=heapBuild ltInt (z-a) a (k-1) (siftDown ltInt ((z:Int)-(a:Int)).toNat a ((k:Int)-1).toNat dd):=by
 obtain ⟨q,rfl⟩:∃q,k=q+1:=⟨k-1,O⟩;rw [show ((z:Int)-(a:Int)).toNat=z-a by omega,show (((q+1:Nat):Int)-1).toNat=q by omega];rfl
theorem heapB_end{z a k:Nat}{dd:Array Int}(hk:¬(0:Int)<=(k:Int)-1):heapBuild ltInt (z-a) a k dd=dd:=by
 obtain rfl:k=0:=O
 rfl
theorem AAL{a k:Nat}{dd:Array Int}(hk:(0:Int)<=(k:Int)-1):heapPop ltInt a k dd=heapPop ltInt a (k-1) (siftDown ltInt ((k:Int)-1).toNat a (0:Int).toNat ((dd.setIfInBounds a dd[((a:Int)+((k:Int)-1)).toNat]!).setIfInBounds ((a:Int)+((k:Int)-1)).toNat dd[a]!)):=by
 obtain ⟨q,rfl⟩:∃q,k=q+1:=⟨k-1,O⟩;rw [show ((a:Int)+(((q+1:Nat):Int)-1)).toNat=a+q by omega,show (((q+1:Nat):Int)-1).toNat=q by omega];rfl
theorem heapP_end{a k:Nat}{dd:Array Int}(hk:¬(0:Int)<=(k:Int)-1):heapPop ltInt a k dd=dd:=by
 obtain rfl:k=0:=O
 rfl
theorem Fm{P:Program}{W:Wk P}{f:FuncId}{b cap m n:Nat}{as:List bW}{h:A}{R:bW->A->Prop}(e:m=n)(x:Al W f (Value.slice (some ⟨b,0,none⟩) m cap ::as).toArray h R):Al W f (Value.slice (some ⟨b,0,none⟩) n cap ::as).toArray h R:=e▸x
def upL(dd:Array Int)(a j i:Nat):Nat:=scanUp (λx=>ltInt x dd[a]!) dd j i
def dnL(dd:Array Int)(a i j:Nat):Nat:=scanDown (λx=> !ltInt x dd[a]!) dd i j
def upE(dd:Array Int)(a j i:Nat):Nat:=scanUp (λx=> !ltInt dd[a]! x) dd j i
def dnE(dd:Array Int)(a i j:Nat):Nat:=scanDown (λx=>ltInt dd[a]! x) dd i j
theorem U2{p:Int->Bool}{dd:Array Int}{j i:Nat}(h1:i<=j)(h2:p dd[i]! =true):scanUp p dd j i=scanUp p dd j (i+1):=by
 conv=>lhs;unfold scanUp
 rw [bV (by simp [h1,h2])]
theorem SV{p:Int->Bool}{dd:Array Int}{j i:Nat}(h:¬(i<=j/\p dd[i]! =true)):scanUp p dd j i=i:=by
 unfold scanUp;rw [bU (by simpa using h)]
theorem QB{p:Int->Bool}{dd:Array Int}{i j:Nat}(hi:1<=i)(h1:i<=j)(h2:p dd[j]! =true):scanDown p dd i j=scanDown p dd i (j-1):=by
 obtain ⟨q,rfl⟩:∃q,j=q+1:=⟨j-1,O⟩
 conv=>lhs;unfold scanDown
 rw [bV (by simp [h1,h2])];rfl
theorem N7{p:Int->Bool}{dd:Array Int}{i j:Nat}(h:¬(i<=j/\p dd[j]! =true)):scanDown p dd i j=j:=by
 cases j with
 | zero=>rfl
 | succ q=>unfold scanDown;rw [bU (by simpa using h)]
section
variable {d dd:Array Int} {a z p i j i0 j0:Nat}
theorem YL{J:Int}(h:(i:Int)<=J/\dd[i]! <dd[a]!)(hJ:J=(j:Int)):upL dd a j i=upL dd a j (i+1):=U2 O (decide_eq_true h.2)
theorem upL_end{J:Int}(h:¬((i:Int)<=J/\dd[i]! <dd[a]!))(hJ:J=(j:Int)):upL dd a j i=i:=SV λq=>h ⟨O,of_decide_eq_true q.2⟩
theorem YM(hi:1<=i)(h:(i:Int)<=(j:Int)/\¬dd[j]! <dd[a]!):dnL dd a i j=dnL dd a i (j-1):=QB hi O (by unfold ltInt;simpa using h.2)
theorem RZ(h:¬((i:Int)<=(j:Int)/\¬dd[j]! <dd[a]!)):dnL dd a i j=j:=N7 λq=>h ⟨O,by have:=q.2;unfold ltInt at this;simpa using this⟩
theorem upE_next{J:Int}(h:(i:Int)<=J/\¬dd[a]! <dd[i]!)(hJ:J=(j:Int)):upE dd a j i=upE dd a j (i+1):=U2 O (by unfold ltInt;simpa using h.2)
theorem upE_end{J:Int}(h:¬((i:Int)<=J/\¬dd[a]! <dd[i]!))(hJ:J=(j:Int)):upE dd a j i=i:=SV λq=>h ⟨O,by have:=q.2;unfold ltInt at this;simpa using this⟩
theorem dnE_next(hi:1<=i)(h:(i:Int)<=(j:Int)/\dd[a]! <dd[j]!):dnE dd a i j=dnE dd a i (j-1):=QB hi O (decide_eq_true h.2)
theorem dnE_end(h:¬((i:Int)<=(j:Int)/\dd[a]! <dd[j]!)):dnE dd a i j=j:=N7 λq=>h ⟨O,of_decide_eq_true q.2⟩
theorem U3(hu:upL dd a j0 i=upL dd a j0 i0)(hue:upL dd a j0 i=i)(hv:dnL dd a i j=dnL dd a i j0)(hve:dnL dd a i j=j)(h:j<i):partLoop ltInt a i0 j0 dd=(j,dd):=by
 have b:scanUp (λx=>ltInt x dd[a]!) dd j0 i0=i:=by rw [<-hue,hu];rfl
 have c:scanDown (λx=> !ltInt x dd[a]!) dd i j0=j:=by rw [<-hve,hv];rfl
 rw [partLoop_eq,b,c,bV h]
theorem YN(hu:upL dd a j0 i=upL dd a j0 i0)(hue:upL dd a j0 i=i)(hv:dnL dd a i j=dnL dd a i j0)(hve:dnL dd a i j=j)(h:¬j<i):partLoop ltInt a i0 j0 dd=partLoop ltInt a (i+1) (j-1) (swp dd i j):=by
 have b:scanUp (λx=>ltInt x dd[a]!) dd j0 i0=i:=by rw [<-hue,hu];rfl
 have c:scanDown (λx=> !ltInt x dd[a]!) dd i j0=j:=by rw [<-hve,hv];rfl
 rw [partLoop_eq,b,c,bU h]
theorem partE_now(hu:upE dd a j0 i=upE dd a j0 i0)(hue:upE dd a j0 i=i)(hv:dnE dd a i j=dnE dd a i j0)(hve:dnE dd a i j=j)(h:j<i):partEqLoop ltInt a i0 j0 dd=(i,dd):=by
 have b:scanUp (λx=> !ltInt dd[a]! x) dd j0 i0=i:=by rw [<-hue,hu];rfl
 have c:scanDown (λx=>ltInt dd[a]! x) dd i j0=j:=by rw [<-hve,hv];rfl
 rw [partEqLoop_eq,b,c,bV h]
theorem partE_on(hu:upE dd a j0 i=upE dd a j0 i0)(hue:upE dd a j0 i=i)(hv:dnE dd a i j=dnE dd a i j0)(hve:dnE dd a i j=j)(h:¬j<i):partEqLoop ltInt a i0 j0 dd=partEqLoop ltInt a (i+1) (j-1) (swp dd i j):=by
 have b:scanUp (λx=> !ltInt dd[a]! x) dd j0 i0=i:=by rw [<-hue,hu];rfl
 have c:scanDown (λx=>ltInt dd[a]! x) dd i j0=j:=by rw [<-hve,hv];rfl
 rw [partEqLoop_eq,b,c,bU h]
theorem YO(h:partLoop ltInt a (a+1) (z-1) (swp d a p)=(j,dd)):∃q,partition ltInt d a z p=(j,q,swp dd j a):=by
 have b:=partition_fst ltInt d a z p;have c:=partition_arr ltInt d a z p;rw [h] at b c;exact ⟨(partition ltInt d a z p).2.1,Prod.ext b (Prod.ext rfl c)⟩
theorem partE_res(h:partEqLoop ltInt a (a+1) (z-1) (swp d a p)=(i,dd)):partitionEqual ltInt d a z p=(i,dd):=h
theorem ijL{J:Int}{c:Int}(h1:¬((i:Int)<=J/\dd[i]! <c))(hJ:(j:Int)<=J)(h2:¬((i:Int)<=(j:Int)/\¬dd[j]! <c))(h:¬(j:Int)<(i:Int)):i<j:=by
 by_cases e:i=j
 ·subst e;exact absurd (Decidable.not_not.1 λq=>h2 ⟨O,q⟩) λq=>h1 ⟨hJ,q⟩
 ·omega
theorem ijE{J:Int}{c:Int}(h1:¬((i:Int)<=J/\¬c<dd[i]!))(hJ:(j:Int)<=J)(h2:¬((i:Int)<=(j:Int)/\c<dd[j]!))(h:¬(j:Int)<(i:Int)):i<j:=by
 by_cases e:i=j
 ·subst e;exact absurd (show¬c<dd[i]! from λq=>h2 ⟨O,q⟩) λq=>h1 ⟨hJ,q⟩
 ·omega
variable {de df:Array Int} {s i2:Nat} {J:Int}
theorem scanS_next(h:(i:Int)<(z:Int)/\¬dd[i]! <dd[((i:Int)-1).toNat]!):scanSorted ltInt dd z i=scanSorted ltInt dd z (i+1):=by
 rw [show ((i:Int)-1).toNat=i-1 by omega] at h
 conv=>lhs;unfold scanSorted
 rw [bV (by unfold ltInt;simp only [Bool.and_eq_true,decide_eq_true_eq,Bool.not_eq_true',decide_eq_false_iff_not];exact ⟨O,h.2⟩)]
theorem J5(h:¬((i:Int)<(z:Int)/\¬dd[i]! <dd[((i:Int)-1).toNat]!)):scanSorted ltInt dd z i=i:=by
 rw [show ((i:Int)-1).toNat=i-1 by omega] at h;unfold scanSorted;rw [bU (by unfold ltInt;simp only [Bool.and_eq_true,decide_eq_true_eq,Bool.not_eq_true',decide_eq_false_iff_not];exact λq=>h ⟨O,q.2⟩)]
theorem Wl(hj:1<=j)(h:dd[j]! <dd[((j:Int)-1).toNat]!):shiftDown ltInt j dd=shiftDown ltInt (j-1) ((dd.setIfInBounds j dd[((j:Int)-1).toNat]!).setIfInBounds ((j:Int)-1).toNat dd[j]!):=by
 obtain ⟨q,rfl⟩:∃q,j=q+1:=⟨j-1,O⟩;rw [show (((q+1:Nat):Int)-1).toNat=q by omega] at h ⊢
 conv=>lhs;unfold shiftDown
 rw [bU (by unfold ltInt;simpa using h)];rfl
theorem QC(h:¬(1:Int)<=(j:Int)\/¬dd[j]! <dd[((j:Int)-1).toNat]!):shiftDown ltInt j dd=dd:=by
 cases j with
 | zero=>rfl
 | succ q=>
  rw [show (((q+1:Nat):Int)-1).toNat=q by omega] at h;unfold shiftDown;rw [bV (by unfold ltInt;simp only [Bool.not_eq_true',decide_eq_false_iff_not];rcases h with h | h;omega;exact h)]
theorem Wm(hj:(j:Int)<(z:Int))(h1:1<=j)(h:dd[j]! <dd[((j:Int)-1).toNat]!):shiftUp ltInt z j dd=shiftUp ltInt z (j+1) ((dd.setIfInBounds j dd[((j:Int)-1).toNat]!).setIfInBounds ((j:Int)-1).toNat dd[j]!):=by
 rw [show ((j:Int)-1).toNat=j-1 by omega] at h ⊢
 conv=>lhs;unfold shiftUp
 rw [bV O,bU (by unfold ltInt;simpa using h)];rfl
theorem QD(h:¬(j:Int)<(z:Int)\/¬dd[j]! <dd[((j:Int)-1).toNat]!):shiftUp ltInt z j dd=dd:=by
 by_cases b:j<z
 ·rw [show ((j:Int)-1).toNat=j-1 by omega] at h;unfold shiftUp;rw [bV b,bV (by unfold ltInt;simp only [Bool.not_eq_true',decide_eq_false_iff_not];rcases h with h | h;omega;exact h)]
 ·unfold shiftUp;rw [bU b]
theorem pins_true(he:scanSorted ltInt dd z i=i2)(h:i2=z):partialIns ltInt a z (s+1) i dd=(dd,true):=by
 rw [partialIns_succ,he,bV h]
theorem pins_short(he:scanSorted ltInt dd z i=i2)(h:¬i2=z)(h2:z-a<50):partialIns ltInt a z (s+1) i dd=(dd,false):=by
 rw [partialIns_succ,he,bU h,bV h2]
theorem PC(he:scanSorted ltInt dd z i=i2)(h:¬i2=z)(h2:¬z-a<50)(hd:de=if i2-a>=2 then shiftDown ltInt (i2-1) (swp dd i2 (i2-1)) else swp dd i2 (i2-1))(hf:df=if z-i2>=2 then shiftUp ltInt z (i2+1) de else de) :
  partialIns ltInt a z (s+1) i dd=partialIns ltInt a z s i2 df:=by
 rw [partialIns_succ,he,bU h,bU h2,hf,hd];rfl
end
section
variable {P:Program} {E:Ho P} {V:Nat->bW} {ds:List Deferred} {h:A} {bN:(Nat->bW)->List Deferred->A->Prop} {dst:Option Nat} {ty:bX} {pos:String} {af:Array Edge} {gd:Option (Nat×Bool)} {xt yt:bX} {x y:Operand} {a b:Int}
def Mg(a b:Int):Int:=IntKind.u64.wrap ((BitVec.ofInt 64 a ^^^ BitVec.ofInt 64 b).toNat)
def SW(a b:Int):Int:=IntKind.u64.wrap ((BitVec.ofInt 64 a &&& BitVec.ofInt 64 b).toNat)
def Gk(a b:Int):Int:=IntKind.u64.wrap (a*2 ^ (min b.toNat IntKind.u64.bits))
theorem Wn(hx:Ag V x=.int .u64 a)(hy:Ag V y=.int .u64 b)(k:bN (putS V dst (.int .u64 (Mg a b))) ds h):B9 E ⟨dst,.binOp .xor xt x y yt,ty,pos,af,gd⟩ V ds h bN:=HM hx hy rfl k
theorem ok_andU(hx:Ag V x=.int .u64 a)(hy:Ag V y=.int .u64 b)(k:bN (putS V dst (.int .u64 (SW a b))) ds h):B9 E ⟨dst,.binOp .and xt x y yt,ty,pos,af,gd⟩ V ds h bN:=HM hx hy rfl k
theorem Wo{ke:IntKind}(hx:Ag V x=.int .u64 a)(hy:Ag V y=.int ke b)(h0:0<=b)(k:bN (putS V dst (.int .u64 (Gk a b))) ds h):B9 E ⟨dst,.binOp .shl xt x y yt,ty,pos,af,gd⟩ V ds h bN:=ok_shl hx hy h0 rfl k
theorem ok_subU(hx:Ag V x=.int .u64 a)(hy:Ag V y=.int .u64 b)(hr:0<=a-b/\a-b<=18446744073709551615)(k:bN (putS V dst (.int .u64 (a-b))) ds h):B9 E ⟨dst,.binOp .sub xt x y yt,ty,pos,af,gd⟩ V ds h bN:=HM hx hy (by
 show (pure (Value.int .u64 (IntKind.u64.wrap (a-b))):Sem bW)=_;rw [IntWalk.u64_in _ O]) k
theorem andU_range(hb:0<=b/\b<=9223372036854775807):0<=SW a b/\SW a b<=b:=by
 unfold SW;obtain ⟨n,rfl⟩:=Int.eq_ofNat_of_zero_le hb.1;have c:(BitVec.ofInt 64 (n:Int)).toNat=n:=by rw [BitVec.toNat_ofInt];omega
 have d:(BitVec.ofInt 64 a &&& BitVec.ofInt 64 (n:Int)).toNat<=n:=by rw [BitVec.toNat_and,c];exact Nat.and_le_right
 rw [IntWalk.u64_in _ O];omega
theorem shlU_one{k:Nat}(h:k<=60):Gk 1 (k:Int)=2 ^ k:=by
 unfold Gk
 have:min ((k:Int)).toNat IntKind.u64.bits=k:=by show min ((k:Int)).toNat 64=k;omega
 rw [this,Int.one_mul];have c:(2:Int) ^ k<=2 ^ 60:=by
  have:=Nat.pow_le_pow_right (show 0<2 by decide) h
  exact_mod_cast this
 have d:(0:Int)<=2 ^ k:=by
  have:=Nat.zero_le (2 ^ k)
  exact_mod_cast this
 rw [IntWalk.u64_in _ (by have:(2:Int) ^ 60=1152921504606846976:=rfl;omega)]
def tabOK(s:bY):Bool:=s.size==256 && (List.range 256).all λi=>(s.get! i).toNat==bitsLen i
theorem HC{t:bX}{x ix:Operand}{s:bY}{kd:IntKind}{i:Int}(ht:R3 P t=true)(hx:Ag V x=.string s)(hi:Ag V ix=.int kd i)(h0:0<=i)(h1:i<((256:Nat):Int))(hs:tabOK s=true)
  (k:bN (putS V dst (.int .u8 (bitsLen i.toNat:Int))) ds h):B9 E ⟨dst,.index t x ix,ty,pos,af,gd⟩ V ds h bN:=by
 unfold tabOK at hs;rw [Bool.and_eq_true,List.all_eq_true] at hs;have f:s.size=256:=by simpa using hs.1
 have e:=hs.2 i.toNat (List.mem_range.2 O);refine Uu ht hx hi h0 O ?_;have d:(s[i.toNat]' O).toNat=bitsLen i.toNat:=by
  rw [<-(show (s.get! i.toNat).toNat=bitsLen i.toNat by simpa using e)];have c:i.toNat<s.size:=O
  congr 1;show s.data[i.toNat]=s.data[i.toNat]!;rw [getElem!_pos s.data i.toNat c]
 rw [d];exact k
theorem QE{n k:Nat}(h:2 ^ k<=n):bitsLen n=k+bitsLen (n / 2 ^ k):=by
 have c:0<2 ^ k:=Nat.two_pow_pos k;have d:∀j,bitsLen n<=j↔k+bitsLen (n / 2 ^ k)<=j:=λj=>by
  rw [bitsLen_le_iff];constructor
  ·intro q;have f:k<j:=(Nat.pow_lt_pow_iff_right (aF:1<2)).1 (Nat.lt_of_le_of_lt h q)
   have:=(bitsLen_le_iff (n / 2 ^ k) (j-k)).2 ((Nat.div_lt_iff_lt_mul c).2 (by rw [<-Nat.pow_add,show j-k+k=j by omega];exact q))
   omega
  ·intro q;have g:=(bitsLen_le_iff (n / 2 ^ k) (j-k)).1 O;have e:=(Nat.div_lt_iff_lt_mul c).1 g;rw [<-Nat.pow_add,show j-k+k=j by omega] at e;exact e
 have i:=(d (bitsLen n)).1 (Nat.le_refl _);have l:=(d (k+bitsLen (n / 2 ^ k))).2 (Nat.le_refl _);omega
theorem YP{n:Int}(h:65536<=n):(bitsLen n.toNat:Int)=16+bitsLen (n / 65536).toNat:=by
 rw [QE (n:=n.toNat) (k:=16) O,show (n / 65536).toNat=n.toNat / 2 ^ 16 by omega];omega
theorem Zz{n:Int}(h:256<=n):(bitsLen n.toNat:Int)=8+bitsLen (n / 256).toNat:=by
 rw [QE (n:=n.toNat) (k:=8) O,show (n / 256).toNat=n.toNat / 2 ^ 8 by omega];omega
theorem E9{n:Nat}(h:n<4294967296):bitsLen n<=32:=(bitsLen_le_iff n 32).2 h
end
section
variable {d dd D D' R:Array Int} {a z a0 z0 p mid:Nat} {ap:Bool}
def HW(a0 z0:Nat)(d:Array Int)(a z:Nat)(dd:Array Int):Prop:=a<=z/\z<=dd.size/\dd.size=d.size/\Below ltInt a z dd/\∀R,PermIn a z dd R->SortedIn ltInt a z R->PermIn a0 z0 d R/\SortedIn ltInt a0 z0 R
theorem HW.start(h:a<=z)(hz:z<=d.size)(hB:Below ltInt a z d):HW a z d a z d:=⟨h,hz,rfl,hB,λ_ x y=>⟨x,y⟩⟩
theorem HW.perm(r:HW a0 z0 d a z dd)(x:PermIn a z dd D):HW a0 z0 d a z D:=
 ⟨r.1,by rw [x.1];exact r.2.1,x.1.trans r.2.2.1,r.2.2.2.1.perm r.2.1 x,λR y s=>r.2.2.2.2 R (permIn_trans _ _ _ a z x y) s⟩
theorem HW.done(r:HW a0 z0 d a z dd)(x:PermIn a z dd D)(s:SortedIn ltInt a z D):PermIn a0 z0 d D/\SortedIn ltInt a0 z0 D:=r.2.2.2.2 D x s
theorem HW.ins(r:HW a0 z0 d a z dd):PermIn a0 z0 d (insertionSort ltInt dd a z)/\SortedIn ltInt a0 z0 (insertionSort ltInt dd a z):=
 let x:=insertionSort_holds (lt:=ltInt) PA dd a z r.1 r.2.1
 r.done x.1 x.2
theorem HW.heap(r:HW a0 z0 d a z dd):PermIn a0 z0 d (heapSort ltInt dd a z)/\SortedIn ltInt a0 z0 (heapSort ltInt dd a z):=
 let x:=heapSort_holds (lt:=ltInt) PA dd a z r.1 r.2.1
 r.done x.1 x.2
theorem HW.pins(r:HW a0 z0 d a z dd)(h:a<z){fl:Bool}(e:partialInsertionSort ltInt dd a z=(D,fl)):HW a0 z0 d a z D/\(fl=true->PermIn a0 z0 d D/\SortedIn ltInt a0 z0 D):=by
 have x:=partialInsertionSort_holds (lt:=ltInt) PA dd a z h r.2.1 r.2.2.2.1;rw [e] at x;exact ⟨r.perm x.1,λq=>r.done x.1 (x.2 q)⟩
theorem HW.eq(r:HW a0 z0 d a z dd)(h0:0<a)(hp:a<=p/\p<z)(hl:¬dd[a-1]! <dd[p]!)(e:partitionEqual ltInt dd a z p=(mid,D)):a<mid/\mid<=z/\HW a0 z0 d mid z D:=by
 obtain ⟨f,b,c,g,h⟩:=round_eq PA (partitionEqual_holds ltInt) h0 hp.1 hp.2 r.2.1 r.2.2.2.1 (decide_eq_false hl) e;exact ⟨f,b,b,by rw [c];exact r.2.1,c.trans r.2.2.1,g,λR x s=>let y:=h R x s;r.2.2.2.2 R y.1 y.2⟩
theorem HW.eq'(r:HW a0 z0 d a z dd)(h0:0<a)(hp:a<=p/\p<z)(hl:¬dd[((a:Int)-1).toNat]! <dd[p]!)(e:partitionEqual ltInt dd a z p=(mid,D)):a<mid/\mid<=z/\HW a0 z0 d mid z D:=
 r.eq h0 hp (by rw [show ((a:Int)-1).toNat=a-1 by omega] at hl;exact hl) e
theorem HW.part(r:HW a0 z0 d a z dd)(hp:a<=p/\p<z)(e:∃q,partition ltInt dd a z p=(mid,q,D)):a<=mid/\mid<z/\D.size=d.size/\z<=D.size/\Below ltInt a mid D/\Below ltInt (mid+1) z D/\
  (∀bM,PermIn a mid D bM->SortedIn ltInt a mid bM->HW a0 z0 d (mid+1) z bM)/\(∀bM,PermIn (mid+1) z D bM->SortedIn ltInt (mid+1) z bM->HW a0 z0 d a mid bM):=by
 obtain ⟨q,e⟩:=e;obtain ⟨i,j,b,k,l,m,n⟩:=round_part PA (partition_holds ltInt) hp.1 hp.2 r.2.1 r.2.2.2.1 e;have o:=r.2.1;refine ⟨i,j,b.trans r.2.2.1,O,k,l,λbM x s=>?_,λbM x s=>?_⟩
 ·obtain ⟨c,f⟩:=m bM x s
  have:=x.1
  exact ⟨O,O,by rw [x.1,b];exact r.2.2.1,c,λR g h=>let y:=f R g h;r.2.2.2.2 R y.1 y.2⟩
 ·obtain ⟨c,f⟩:=n bM x s
  have:=x.1
  exact ⟨i,O,by rw [x.1,b];exact r.2.2.1,c,λR g h=>let y:=f R g h;r.2.2.2.2 R y.1 y.2⟩
theorem sorted_all{D:Array Int}{xs:List Int}(x:PermIn 0 xs.length xs.toArray D)(s:SortedIn ltInt 0 xs.length D):D=(EV xs).toArray:=by
 have y:=sorted_unique_holds (lt:=ltInt) PA (λx y c e=>by simp only [ltInt,decide_eq_false_iff_not] at c e;omega) xs.toArray D (by simpa using x) (by simpa using s);rw [J4];apply Array.toList_inj.1;rw [y];congr 1;funext a b;unfold ltInt;simp only [Bool.not_eq_eq_eq_not];by_cases h:a<=b
 ·simp [h]
 ·simp [h];omega
theorem YQ{D d:Array Int}(x:PermIn 0 d.size d D/\SortedIn ltInt 0 d.size D):D=(EV d.toList).toArray:=
 sorted_all (xs:=d.toList) (by simpa using x.1) (by simpa using x.2)
end
end Go.Ns
namespace Go.Ns
open Go.Conc
section
variable (d m:Int) (gs:List Good) (ms:List JR) (cs:List LK)
end
def lostTo(ms:List JR)(p:Wd)(g a b:Int):Nat->Int
 | 0=>0
 | k+1=>lostTo ms p g a b k+(if ((ms.getD k JR.z).kind=2/\(ms.getD k JR.z).good=g)/\a<=(ms.getD k JR.z).day/\(ms.getD k JR.z).day<=b then realOf p k else 0)
section
variable (d m:Int) (gs:List Good) (ms:List JR) (cs:List LK)
end
section
variable (d m:Int) (gs:List Good) (ms:List JR) (cs:List LK)
end
section
variable (d m:Int) (gs:List Good) (ms:List JR) (cs:List LK)
end
section
variable {P:Program} {E:Ho P} {V:Nat->bW} {ds:List Deferred} {h:A} {bN:(Nat->bW)->List Deferred->A->Prop}
variable {dst:Option Nat} {ty:bX} {pos:String} {af:Array Edge} {gd:Option (Nat×Bool)}
def fieldP(P:Program)(s:bX)(f:Nat)(cs:Array bW):Option bW:=match P.underlying s with
 | some (.struct fields)=>match fields[f]? with
  | some fl=>I0 P fl.type cs fl.offset
  | none=>none
 | _=>none
theorem U4{t:bX}{x:Operand}{f:Nat}{cs:Array bW}{v:bW}(hx:Ag V x=.agg cs)(hp:fieldP P t f cs=some v)(k:bN (putS V dst v) ds h):B9 E ⟨dst,.field t x f,ty,pos,af,gd⟩ V ds h bN:=by
 refine ok_field (v:=v) ?_ k;rw [hx];unfold fieldP at hp;unfold Instr.field;cases a:P.underlying t with
 | none=>rw [a] at hp;cases hp
 | some d=>
  rw [a] at hp;cases d <;> first | (cases hp;done) | skip
  rename_i fields
  refine AI _ _ (BG a ?_);simp only at hp ⊢;cases b:fields[f]? with
  | none=>rw [b] at hp;cases hp
  | some c=>
   rw [b] at hp;simp only at hp ⊢;exact I2 hp ⟨rfl,rfl⟩
end
section
variable {hB h hc h':A} {ms:List JR} {pasts:List Wd} {r:Nat}
end
section
variable {P:Program} {E:Ho P} {V:Nat->bW} {ds:List Deferred} {h hB:A} {ms:List JR} {pasts:List Wd} {r:Nat}
end
theorem KeepD.leOf{h0 h:A}(k:KeepD (λb=>h0 b=none) h0 h):h0.Le h:=λb p o a=>k.1 b p o a λ(e:h0 b=none)=>by rw [a] at e;cases e
theorem Ae.offTy{α:Type}{h0 h:A}{v:bW}{t bN:bX}{n:Nat}{enc:α->Array bW}{xs:List α}(x:Ae h0 h v t n enc xs){r:Nat}{p:Bool}{c:Array bW}{f:Nat×Nat}(hr:h r=some (p,.cells c bN f))(ne:t≠bN):Bp v r:=λe=>by
 obtain ⟨b,a⟩:=x.cellsAt r e;rw [a] at hr;simp only [Option.some.injEq,Prod.mk.injEq,Obj.cells.injEq] at hr;exact ne hr.2.2.1
section
variable {P:Program} {E:Ho P} {V:Nat->bW} {ds:List Deferred} {h:A} {bN:(Nat->bW)->List Deferred->A->Prop}
variable {dst:Option Nat} {ty:bX} {pos:String} {af:Array Edge} {gd:Option (Nat×Bool)}
end
section
variable {h h':A} {q r:Nat} {M:Int->Option Int}
theorem DZ.leNum(x:DZ h q En En M)(l:h.Le h'):DZ h' q En En M:=by
 obtain ⟨b,a,c,y⟩:=x;exact ⟨b,a,l.keep c rfl,y⟩
end
section
variable {P:Program} {E:Ho P} {V:Nat->bW} {ds:List Deferred} {h:A} {bN:(Nat->bW)->List Deferred->A->Prop}
variable {dst:Option Nat} {ty:bX} {pos:String} {af:Array Edge} {gd:Option (Nat×Bool)}
theorem SX{t kt vt:bX}{x ix:Operand}{r d:Nat}{M:Int->Option Int}{a:Int}(ht:N1 P t=some (kt,vt))(hx:Ag V x=.map (some r))(hk:Ag V ix=.int .i64 a)(hm:DZ h r En En M)(hd:Nat.ble (d+1) 10000=true)
  (hc:∀a,ckP P (d+1) kt (En a)=true) (he:∀a b,SA P (d+1) kt (En a) (En b)=some (a==b)) (hz:(P.info? vt).bind (·.zero)=some (.int .i64 0))
  (k:bN (putS V dst (.int .i64 ((M a).getD 0))) ds h):B9 E ⟨dst,.lookup t x ix false,ty,pos,af,gd⟩ V ds h bN:=by
 refine Uv (ek:=En) (ev:=En) (a:=a) (z:=.int .i64 0) ht hx hk hm hd (hc _) (λb=>he a b) hz ?_;cases c:M a <;> (rw [c] at k;exact k)
theorem ok_putNum{t kt vt:bX}{om ok ox:Operand}{r d:Nat}{M:Int->Option Int}{a n:Int}(ht:N1 P t=some (kt,vt))(hm':Ag V om=.map (some r))(hk:Ag V ok=.int .i64 a)(hv:Ag V ox=.int .i64 n)(hm:DZ h r En En M)(hd:Nat.ble (d+1) 10000=true)
  (hc:∀a,ckP P (d+1) kt (En a)=true) (he:∀a b,SA P (d+1) kt (En a) (En b)=some (a==b)) (hs:∀a,Instr.sameBits 10000 (En a) (En a)=true)
  (k:∀h',DZ h' r En En (λb=>if b=a then some n else M b)->(∀b,b≠r->h' b=h b)->bN (putS V dst undef) ds h'):B9 E ⟨dst,.mapUpdate t om ok ox,ty,pos,af,gd⟩ V ds h bN:=
 N2 (a:=a) (v:=n) (ek:=En) (ev:=En) ht hm' hk hv hm hd (hc _) (λb=>he a b) (hs _) k
end
theorem Wp(a:Int):Instr.sameBits 10000 (En a) (En a)=true:=by
 show Instr.sameBits (9999+1) (Value.int .i64 a) (Value.int .i64 a)=true;unfold Instr.sameBits;simp
def I9(f:Nat->Int):Nat->Int->Option Int
 | 0=>λ_=>none
 | k+1=>λb=>if b=f k then some ((I9 f k (f k)).getD 0+1) else I9 f k b
theorem Lb(f:Nat->Int):∀(k:Nat)(b:Int),0<=(I9 f k b).getD 0/\(I9 f k b).getD 0<=(k:Int)
 | 0,b=>by simp [I9]
 | k+1,b=>by
  have a:=Lb f k b;have c:=Lb f k (f k);unfold I9;split
  ·show 0<=(I9 f k (f k)).getD 0+1/\(I9 f k (f k)).getD 0+1<=((k+1:Nat):Int);omega
  ·omega
def Mw(f:Nat->Int):Nat->Int
 | 0=>0
 | k+1=>max (Mw f k) ((I9 f (k+1) (f k)).getD 0)
def askTo(w:Nat->Int)(n:Int):Nat->Int×Int
 | 0=>(-1,n)
 | k+1=>if w k<(askTo w n k).2 then ((k:Int),w k) else askTo w n k
section
variable (d m:Int) (gs:List Good) (ms:List JR) (cs:List LK)
end
end Go.Ns
namespace Go.Ns
open Go.Conc
section
variable {h h0 h':A} {X:Nat->Prop}
end
theorem SY{α:Type}{enc:α->Array bW}{n:Nat}:∀{xs:List α},(∀x ∈ xs,(enc x).size=n)->∀(i:Nat)(z:α),i<xs.length->ET enc xs=ET enc (xs.take i)++(enc (xs.getD i z)).toList++ET enc (xs.drop (i+1))
 | [],_,i,z,h=>by simp at h
 | y ::xs,a,0,z,h=>by simp [ET]
 | y ::xs,a,i+1,z,h=>by
  have:=SY (λx b=>a x (List.mem_cons_of_mem _ b)) i z (by simpa using h)
  show (enc y).toList++ET enc xs=((enc y).toList++ET enc (xs.take i))++(enc (xs.getD i z)).toList++ET enc (xs.drop (i+1));rw [this];simp only [List.append_assoc]
theorem YR{α:Type}{enc:α->Array bW}:∀{xs:List α}(i:Nat)(x:α),i<xs.length->ET enc (xs.set i x)=ET enc (xs.take i)++(enc x).toList++ET enc (xs.drop (i+1))
 | [],i,x,h=>by simp at h
 | y ::xs,0,x,h=>by simp [ET]
 | y ::xs,i+1,x,h=>by
  have:=YR (enc:=enc) (xs:=xs) i x (by simpa using h)
  show (enc y).toList++ET enc (xs.set i x)=((enc y).toList++ET enc (xs.take i))++(enc x).toList++ET enc (xs.drop (i+1));rw [this];simp only [List.append_assoc]
theorem Ae.put{α:Type}{h0 h h':A}{t:bX}{n cap b i dl:Nat}{enc:α->Array bW}{xs:List α}{c:Array bW}{vs:List bW}{x':α}(z:α)(x:Ae h0 h (.slice (some ⟨b,0,none⟩) xs.length cap) t n enc xs)(hb:h b=some (true,.cells c t (0,0)))
  (hi:i<xs.length) (hz:dl+vs.length<=n) (heq:CK (enc (xs.getD i z)) dl vs=enc x') (hb':h' b=some (true,.cells (CK c (i*n+dl) vs) t (0,0))):Ae h0 h' (.slice (some ⟨b,0,none⟩) xs.length cap) t n enc (xs.set i x'):=by
 rcases x with ⟨e,_⟩ | ⟨D,l,E,e,f0,f1,f2,f3,f4,f5,f6⟩
 ·cases e
 simp only [Value.slice.injEq,Option.some.injEq,Addr.mk.injEq] at e;obtain ⟨⟨rfl,_⟩,_,rfl⟩:=e;rw [hb] at f1;simp only [Option.some.injEq,Prod.mk.injEq,Obj.cells.injEq,true_and] at f1;obtain ⟨rfl,_⟩:=f1;have m:(enc (xs.getD i z)).size=n:=f6 _ (CS hi);have j:(enc x').size=n:=by rw [<-heq,IF];exact m
 refine .inr ⟨_,_,_,by rw [List.length_set],f0,hb',by rw [IF];exact f2,by rw [List.length_set];exact f3,by rw [List.length_set];exact f4,?_,λy k=>?_⟩
 ·rw [List.length_set];have q:(ET enc (xs.take i)).length=i*n:=by
   rw [GC (n:=n) (λy k=>f6 y (List.mem_of_mem_take k)),List.length_take];congr 1;omega
  have f:(ET enc xs).length=xs.length*n:=GC f6;have o:i*n+n<=xs.length*n:=by rw [<-Nat.succ_mul];exact Nat.mul_le_mul_right n hi
  have p:xs.length*n<=c.size:=by rw [f2];exact Nat.mul_le_mul_right n f3
  have r:c.toList=ET enc xs++c.toList.drop (xs.length*n):=by rw [<-f5,List.take_append_drop]
  have s:(enc x').toList=(enc (xs.getD i z)).toList.take dl++vs++(enc (xs.getD i z)).toList.drop (dl+vs.length):=by rw [<-heq,Fi _ _ _ O]
  have g:(enc (xs.getD i z)).toList.length=n:=by rw [Array.length_toList];exact m
  have F:(ET enc (xs.take i)).length+n+(ET enc (xs.drop (i+1))).length=xs.length*n:=by
   rw [<-f];conv=>rhs;rw [SY f6 i z hi]
   rw [List.length_append,List.length_append,g]
  rw [Fi _ _ _ O,YR i x' hi,s,r,SY f6 i z hi];generalize enc (xs.getD i z)=a at *;generalize ET enc (xs.take i)=d at *;generalize ET enc (xs.drop (i+1))=C at *;generalize c.toList.drop (xs.length*n)=R at *;have u:(d++a.toList++C++R).take (i*n+dl)=d++a.toList.take dl:=by
   rw [List.append_assoc,List.append_assoc,<-q,List.take_length_add_append,List.take_append_of_le_length O]
  have v:(d++a.toList++C++R).drop (i*n+dl+vs.length)=a.toList.drop (dl+vs.length)++C++R:=by
   rw [List.append_assoc,List.append_assoc,show i*n+dl+vs.length=d.length+(dl+vs.length) by omega,List.drop_length_add_append,List.drop_append_of_le_length O,List.append_assoc]
  rw [u,v];have w:d++a.toList.take dl++vs++(a.toList.drop (dl+vs.length)++C++R)=(d++(a.toList.take dl++vs++a.toList.drop (dl+vs.length))++C)++R:=by simp only [List.append_assoc]
  rw [w,List.take_left' ?_];simp only [List.length_append,List.length_take,List.length_drop,g];omega
 ·rcases List.mem_or_eq_of_mem_set k with h | rfl
  ·exact f6 y h
  ·exact j
theorem Ae.opened{α:Type}{h0 h:A}{v:bW}{t:bX}{n k:Nat}{enc:α->Array bW}{xs:List α}(x:Ae h0 h v t n enc xs)(hk:k<xs.length):∃b cap c,v=.slice (some ⟨b,0,none⟩) xs.length cap/\h b=some (true,.cells c t (0,0)):=by
 rcases x with ⟨_,rfl⟩ | ⟨b,cap,c,a,_,d,_⟩
 ·simp at hk
 ·exact ⟨b,cap,c,a,d⟩
theorem Ae.room{α:Type}{h0 h:A}{t:bX}{n cap b k:Nat}{enc:α->Array bW}{xs:List α}{c:Array bW}(x:Ae h0 h (.slice (some ⟨b,0,none⟩) xs.length cap) t n enc xs)(hb:h b=some (true,.cells c t (0,0)))(hk:k<xs.length):k*n+n<=c.size:=by
 rcases x with ⟨e,_⟩ | ⟨d,a,f,e,f0,f1,f2,f3,_⟩
 ·cases e
 simp only [Value.slice.injEq,Option.some.injEq,Addr.mk.injEq] at e;obtain ⟨⟨rfl,_⟩,_,rfl⟩:=e;rw [hb] at f1;simp only [Option.some.injEq,Prod.mk.injEq,Obj.cells.injEq,true_and] at f1;obtain ⟨rfl,_⟩:=f1;rw [f2,<-Nat.succ_mul];exact Nat.mul_le_mul_right n O
section
variable (d m:Int) (gs:List Good) (ms:List JR) (cs:List LK)
end
section
variable {d m:Int} {gs:List Good} {ms:List JR} {cs:List LK} {fl:List Sl} {k:Nat}
theorem Cs(l:List Sl):(BT l).length=l.length:=by unfold BT;simp
end
theorem J6{v:bW}(h:v.cells=#[v]):Instr.fill (λi=>some (i*1,1)) ((Array.range (1*1)).map (#[Value.slice none 0 0][·% #[Value.slice none 0 0].size]!)) [(0,v)]=some #[v]:=by
 have e:((Array.range (1*1)).map (#[Value.slice none 0 0][·% #[Value.slice none 0 0].size]!))=#[Value.slice none 0 0]:=aE
 rw [e];simp [Instr.fill,h]
end Go.Ns
namespace Go.Ns
open Go.Conc
section
variable {P:Program} {M:Type}
structure PD(P:Program)(M:Type) where
 W:Wk P
 Rep:Nat->M->bW->A->Prop
 main:Bool
 fn:FuncId
 rd:Option Nat
 N:Nat
def PD.wk(F:PD P M):Option (DX M)->Wk P
 | none=>F.W
 | some s=>⟨F.main,FS P F.main (Jj P F.Rep F.W.K s F.main),Nw _ _⟩
abbrev PD.env(F:PD P M)(i:Option (DX M)):Ho P:=⟨F.wk i,F.fn,F.rd,F.N⟩
abbrev SZ(M:Type):=Option (DX M)->Exit->(Nat->bW)->List Deferred->A->Prop
def RP(F:PD P M)(c:Code)(i:Option (DX M))(V:Nat->bW)(ds:List Deferred)(h:A)(Q:SZ M):Prop:=
 ∀(b:Frame)(k:List Item)(cs:List Frame)(bM:Option (DX M)->Lv)(t:Array bW),b.fn=F.fn->b.roundOf=F.rd->(∀i,Nu (F.wk i) b cs (bM i))->CE t F.N V->
  (∀i e σ' ds' h',Q i e σ' ds' h'->∀t',CE t' F.N σ'->D2 (F.wk i) (bM i) b k cs e t' ds' h')->(F.wk i).K (G (DT b t ds (.code c ::k)) cs) h
def Hl(F:PD P M)(ops:Array Oper)(l:List Oper)(i:Option (DX M))(V:Nat->bW)(ds:List Deferred)(h:A)(Q:SZ M):Prop:=
 ∀(n:Nat)(b:Frame)(k:List Item)(cs:List Frame)(bM:Option (DX M)->Lv)(t:Array bW),(∀j,l[j]? =ops[n+j]?)->b.fn=F.fn->b.roundOf=F.rd->(∀i,Nu (F.wk i) b cs (bM i))->CE t F.N V->
  (∀i e σ' ds' h',Q i e σ' ds' h'->∀t',CE t' F.N σ'->D2 (F.wk i) (bM i) b k cs e t' ds' h')->(F.wk i).K (G (DT b t ds (.inRegion ops (List.range' n l.length) ::k)) cs) h
variable {F:PD P M} {i:Option (DX M)} {V:Nat->bW} {ds:List Deferred} {h:A} {Q:SZ M}
theorem J7{c:Code}(x:Tr (F.env i) c V ds h (Q i)):RP F c i V ds h Q:=λb k a d t e f g j l=>x b k a (d i) t e f (g i) j (l i)
theorem IG{x y:Code}(a:RP F x i V ds h (λi e σ' ds' h'=>match e with | .normal=>RP F y i σ' ds' h' Q | e=>Q i e σ' ds' h')):RP F (.seq x y) i V ds h Q:=by
 intro b k g j t m n o p d;refine Wk.go (DT b t ds (.code x ::.code y ::k)) (λw=>by rw [Bc];simp [stepG.exec,DT,G]) ?_;refine a b (.code y ::k) g j t m n o p λi e σ' ds' h' q f c=>?_;cases e with
 | normal=>exact q b k g j f m n o c d
 | exit id=>exact D2.push rfl aG (d _ _ _ _ _ q f c)
 | ret=>exact D2.push rfl aG (d _ _ _ _ _ q f c)
 | goto l=>exact D2.push rfl aG (d _ _ _ _ _ q f c)
 | panic l=>exact D2.push rfl aG (d _ _ _ _ _ q f c)
 | outgrown=>exact D2.push rfl aG (d _ _ _ _ _ q f c)
theorem CL{x y:Code}(a:Tr (F.env i) x V ds h (λe σ' ds' h'=>match e with | .normal=>RP F y i σ' ds' h' Q | e=>Q i e σ' ds' h')):RP F (.seq x y) i V ds h Q:=
 IG (J7 (Q:=λi e σ' ds' h'=>match e with | .normal=>RP F y i σ' ds' h' Q | e=>Q i e σ' ds' h') a)
theorem Fv{id:Nat}{c:Code}(a:RP F c i V ds h (λi e σ' ds' h'=>match e with | .normal=>Q i .normal σ' ds' h' | .exit id'=>if id'=id then Q i .normal σ' ds' h' else Q i (.exit id') σ' ds' h' | e=>Q i e σ' ds' h')) :
  RP F (.block id c) i V ds h Q:=by
 intro b k n o t p r s u j;refine Wk.go (DT b t ds (.code c ::.inBlock id ::k)) (λw=>by rw [Bc];simp [stepG.exec,DT,G]) ?_;refine a b (.inBlock id ::k) n o t p r s u λi e σ' ds' h' q g d=>?_;cases e with
 | normal=>exact Wk.go (DT b g ds' k) (λw=>by rw [Bc];simp [stepG.exec,DT,G]) (j _ _ _ _ _ q g d)
 | exit id'=>
  by_cases f:id'=id
  ·simp only [f,if_true] at q
   have:=j _ _ _ _ _ q g d
   simp only [D2,exitTo,f,beq_self_eq_true,if_true];exact this
  ·simp only [f,if_false] at q
   have:=j _ _ _ _ _ q g d
   have m:(id==id')=false:=by simp;exact λh=>f h.symm
   simp only [D2,exitTo,m] at this ⊢;exact this
 | ret=>exact j _ _ _ _ _ q g d
 | goto l=>exact j _ _ _ _ _ q g d
 | panic l=>exact j _ _ _ _ _ q g d
 | outgrown=>exact j _ _ _ _ _ q g d
theorem Lc{c:Code}(I:Nat->Option (DX M)->(Nat->bW)->List Deferred->A->Prop){n:Nat}(i0:I n i V ds h)
  (round:∀n i V ds h,I n i V ds h->RP F c i V ds h (λi e σ' ds' h'=>match e with | .normal=>∃m,m<n/\I m i σ' ds' h' | e=>Q i e σ' ds' h')):RP F (.loop c) i V ds h Q:=by
 intro b k p r t s u v g f;refine Wk.go (DT b t ds (.code c ::.inLoop c ::k)) (λw=>by rw [Bc];simp [stepG.exec,DT,G]) ?_;have j:∀n i V ds h t,I n i V ds h->CE t F.N V->(F.wk i).K (G (DT b t ds (.code c ::.inLoop c ::k)) p) h:=by
  intro n
  induction n using Nat.strongRecOn with
  | ind n x=>
   intro i V ds h t y g;refine round n i V ds h y b (.inLoop c ::k) p r t s u v g λi e σ' ds' h' q d a=>?_;cases e with
   | normal=>
    obtain ⟨m,z,o⟩:=q;exact Wk.go (DT b d ds' (.code c ::.inLoop c ::k)) (λw=>by rw [Bc];simp [stepG.exec,DT,G]) (x m z _ _ _ _ _ o a)
   | exit id=>exact D2.push rfl aG (f _ _ _ _ _ q d a)
   | ret=>exact D2.push rfl aG (f _ _ _ _ _ q d a)
   | goto l=>exact D2.push rfl aG (f _ _ _ _ _ q d a)
   | panic l=>exact D2.push rfl aG (f _ _ _ _ _ q d a)
   | outgrown=>exact D2.push rfl aG (f _ _ _ _ _ q d a)
 exact j n i V ds h t i0 g
theorem G6{id:Nat}{l:List Oper}(a:Hl F l.toArray l i V ds h Q):RP F (.region id l.toArray false) i V ds h Q:=by
 intro b k c d t e f g j m;refine Wk.go (DT b t ds (.inRegion l.toArray (List.range' 0 l.length) ::k)) (λw=>?_) (a 0 b k c d t aG e f g j m);rw [Bc];simp [stepG.exec,DT,G,List.range_eq_range']
theorem Gp{ops:Array Oper}(q:Q i .normal V ds h):Hl F ops [] i V ds h Q:=by
 intro n b k d e t f g j l a c;exact Wk.go (DT b t ds k) (λw=>by rw [Bc];simp [stepG.exec,DT,G]) (c _ _ _ _ _ q t a)
theorem FA{ops:Array Oper}{o:Oper}{l:List Oper}(hg:o.guard=none)(hdf:F.rd=none\/Do o.op=false)(hd:Dj o.dst F.N=true)
  (x:B9 (F.env i) o V ds h λσ' ds' h'=>Hl F ops l i σ' ds' h' Q):Hl F ops (o ::l) i V ds h Q:=by
 intro n b k e f t c g d m p q;have r:ops[n]? =some o:=by simpa using (c 0).symm
 refine MN (E:=F.env i) (rest:=List.range' (n+1) l.length) r (by simp [Region.wanted,hg]) (d▸hdf) hd p x λσ' ds' h' y s a=>?_;exact y (n+1) b k e f s (λj=>by have:=c (j+1);simpa [Nat.add_assoc,Nat.add_comm 1 j] using this) g d m a q
theorem Sa{main:Bool}{b:Frame}{t:Array bW}{ops:Array Oper}{n:Nat}{rest:List Nat}{k:List Item}{cs:List Frame}{o:Oper}{N:Nat}(hs:CE t N V)(ho:ops[n]? =some o)(hw:Region.wanted o (yielded ops t)=true)
  (hdf:b.roundOf=none\/Do o.op=false) (w:World):stepG P main (G (DT b t ds (.inRegion ops (n ::rest) ::k)) cs) w=stepG.apply P true (DT b t ds (.inRegion ops (n ::rest) ::k)) cs none (execOp (Ag V) o) w:=by
 have a:=Nt (b:=b) (ds:=ds) (k:=.inRegion ops (n ::rest) ::k) hs;rw [<-a];have c:((ops[n]?).map (Region.wanted · (yielded ops t))).getD false=true:=by simp [ho,hw]
 rw [Bc];unfold stepG.exec;simp only [DT,c,↓reduceIte];unfold stepG.oper;simp only [Frame.oper?,ho];rcases hdf with e | e
 ·simp only [e]
 ·cases d:o.op <;> first | rfl | (rw [d] at e;cases e;done) | (cases b.roundOf <;> rfl)
theorem Wq{main:Bool}{b:Frame}{t:Array bW}{ops:Array Oper}{n:Nat}{rest:List Nat}{k:List Item}{cs:List Frame}{o:Oper}{N:Nat}{w:World}{cc:Array CommCase}{bl:Bool}{sh:CommShape}(hs:CE t N V)(ho:ops[n]? =some o)(hw:Region.wanted o (yielded ops t)=true)
  (hdf:b.roundOf=none\/Do o.op=false) (hr:(execOp (Ag V) o).runT P w #[]=(.ok (.comm cc bl sh) w,#[])) :
  stepG P main (G (DT b t ds (.inRegion ops (n ::rest) ::k)) cs) w=.comm (G (DT b t ds (.inRegion ops (n ::rest) ::k)) cs) cc bl sh w #[]:=by
 rw [Sa hs ho hw hdf];simp only [stepG.apply,hr,if_true,ite_self,seen_none];rfl
theorem spawn_at{main:Bool}{b:Frame}{t:Array bW}{ops:Array Oper}{n:Nat}{rest:List Nat}{k:List Item}{cs:List Frame}{o:Oper}{N:Nat}{w:World}{f:Fn}{cap args:Array bW}(hs:CE t N V)(ho:ops[n]? =some o)(hw:Region.wanted o (yielded ops t)=true)
  (hdf:b.roundOf=none\/Do o.op=false) (hr:(execOp (Ag V) o).runT P w #[]=(.ok (.spawn { target:=.fn f cap,args:=args }) w,#[])) :
  stepG P main (G (DT b t ds (.inRegion ops (n ::rest) ::k)) cs) w=.spawn (G ((DT b t ds (.inRegion ops (n ::rest) ::k)).finish undef) cs) (born P { target:=.fn f cap,args:=args }) w #[]:=by
 rw [Sa hs ho hw hdf];simp only [stepG.apply,hr,if_true,ite_self,seen_none];simp [GStep.after,G,born]
variable {ops:Array Oper} {o:Oper} {l:List Oper}
theorem U5{c:Code}:RP F c (some .never) V ds h Q:=λb k a d t e f _ g j=>FS.stop rfl
theorem trLI_send{c:Nat}{m:M}{nx:DX M}{v z:bW}{hm h1:A}(hg:o.guard=none)(hdf:Do o.op=false)(hd:Dj o.dst F.N=true)
  (hr:∀w,(execOp (Ag V) o).runT P w #[]=(.ok (.comm #[scase c v z] true .send) w,#[])) (hsp:A.Split h h1 hm) (hrep:F.Rep c m v hm) (hnx:¬nx.isDone)
  (x:Hl F ops l (some nx) (putS V o.dst undef) ds h1 Q):Hl F ops (o ::l) (some (.send c m nx)) V ds h Q:=by
 intro n b k d q t e r a s g u;have p:ops[n]? =some o:=by simpa using (e 0).symm
 refine FS.stop ⟨_,d,v,z,hm,h1,rfl,⟨λw f=>?_,hsp,hrep,?_⟩⟩
 ·rw [List.length_cons,List.range'_succ];exact Wq g p (by simp [Region.wanted,hg]) (.inr hdf) (hr w)
 ·rw [IJ hnx,List.length_cons,List.range'_succ,Dp p];exact x (n+1) b k d q _ (λj=>by have:=e (j+1);simpa [Nat.add_assoc,Nat.add_comm 1 j] using this) r a s (g.putS hd undef) u
theorem trLI_recv{c:Nat}{f:Option M->DX M}{z:bW}{ok:Bool}(hg:o.guard=none)(hdf:Do o.op=false)(hd:Dj o.dst F.N=true)
  (hr:∀w,(execOp (Ag V) o).runT P w #[]=(.ok (.comm #[rcase c z] true (.recv ok)) w,#[])) (hnx:∀o,¬(f o).isDone)
  (x:∀m v hm,F.Rep c m v hm->h.Compat hm->Hl F ops l (some (f (some m))) (putS V o.dst (recvd ok v true)) ds (h.join hm) Q)
  (y:Hl F ops l (some (f none)) (putS V o.dst (recvd ok z false)) ds h Q):Hl F ops (o ::l) (some (.recv c f)) V ds h Q:=by
 intro n b k e s t g u a C p D;have q:ops[n]? =some o:=by simpa using (g 0).symm
 refine FS.stop ⟨_,e,z,ok,rfl,⟨λw E=>?_,λm v hm d r=>?_,?_⟩⟩
 ·rw [List.length_cons,List.range'_succ];exact Wq p q (by simp [Region.wanted,hg]) (.inr hdf) (hr w)
 ·show Gi P F.Rep F.W.K (f (some m)) F.main _ _;rw [IJ (hnx _),List.length_cons,List.range'_succ,Dp q];exact x m v hm d r (n+1) b k e s _ (λj=>by have:=g (j+1);simpa [Nat.add_assoc,Nat.add_comm 1 j] using this) u a C (p.putS hd _) D
 ·show Gi P F.Rep F.W.K (f none) F.main _ _;rw [IJ (hnx _),List.length_cons,List.range'_succ,Dp q];exact y (n+1) b k e s _ (λj=>by have:=g (j+1);simpa [Nat.add_assoc,Nat.add_comm 1 j] using this) u a C (p.putS hd _) D
theorem Wr{ch nx:DX M}{f:Fn}{cap args:Array bW}{hc h1:A}(hg:o.guard=none)(hdf:Do o.op=false)(hd:Dj o.dst F.N=true)
  (hr:∀w,(execOp (Ag V) o).runT P w #[]=(.ok (.spawn { target:=.fn f cap,args:=args }) w,#[])) (hsp:A.Split h h1 hc) (hnx:¬nx.isDone)
  (child:Gi P F.Rep F.W.K ch false (born P { target:=.fn f cap,args:=args }) hc) (x:Hl F ops l (some nx) (putS V o.dst undef) ds h1 Q):Hl F ops (o ::l) (some (.spawn ch nx)) V ds h Q:=by
 intro n b k c m t d p a q e r;have g:ops[n]? =some o:=by simpa using (d 0).symm
 refine FS.stop ⟨_,c,(DT b t ds (.inRegion ops (List.range' n (o ::l).length) ::k)).finish undef,_,hc,h1,rfl,⟨λw s=>?_,hsp,?_,child⟩⟩
 ·rw [List.length_cons,List.range'_succ];exact spawn_at e g (by simp [Region.wanted,hg]) (.inr hdf) (hr w)
 ·rw [IJ hnx,List.length_cons,List.range'_succ,Dp g];exact x (n+1) b k c m _ (λj=>by have:=d (j+1);simpa [Nat.add_assoc,Nat.add_comm 1 j] using this) p a q (e.putS hd undef) r
theorem Ws{f:FuncId}{fn:Func}{args:Array bW}(hf:P.funcs[f]? =some fn)(hc:AV fn=true)(w:World):(callFunc f args).runT P w #[]=(.ok (.enter f args) w,#[]):=by
 unfold AV at hc;simp only [Bool.and_eq_true,Bool.not_eq_true'] at hc;unfold callFunc;show (match P.funcs[f]? with | none=>_ | some fn=>_:Sem Next).runT P w #[]=_;rw [hf];simp only [];rw [bU (by rw [hc.1];simp),bU (by cases a:fn.body with | none=>rw [a] at hc;simp at hc | some c=>simp)];rfl
theorem seen_close{fn:FuncId}{ch:Nat}:seen P fn #[⟨.obj ch,false,true⟩,⟨.obj ch,true,true⟩]=#[⟨.obj ch,false,true⟩,⟨.obj ch,true,true⟩]:=by
 rw [seen_def];simp [seenStep]
end
section
variable {P:Program} {M:Type} {Post:bW->World->Prop}
def A.Same(h h':A):Prop:=∀b p o,h b=some (p,o)->∃p',h' b=some (p',o)
theorem Ji.flags{g:Goroutine}{h h':A}{gs:Array Goroutine}{w:World}{q:Nat->Nat}{t:Trace}(bL:Ji P g h gs w q t)(s:h'.Same h):Ji P g h' gs w q t:=
 { bL with
  fits:=λb p o c=>by obtain ⟨d,x⟩:=s b p o c;exact bL.fits b d o x
  chn:=λb p o k a c=>by obtain ⟨d,x⟩:=s b p o c;exact bL.chn b d o k a x }
theorem E5.flags{g:Goroutine}{h h':A}(s:h'.Same h)(x:E5 P Post g h'):E5 P Post g h:=λa w b q t c=>x a w b q t (c.flags s)
def StartM(s0:DX M)(N:IK M):Prop:=0<N.n/\N.s 0=s0/\∀j,0<j->j<N.n->N.s j=.done/\N.kn 0 j
theorem Sb{Rep:Nat->M->bW->A->Prop}{g:Goroutine}{h:A}{s0:DX M}(good:∀N:IK M,StartM s0 N->Gm (λ_=>False) N)(d:Gi P Rep (E5 P Post) s0 true g h):E5 P Post g h:=by
 intro c w E q t b;let N:IK M:={ n:=c.size,s:=λj=>if j=0 then s0 else .done,kn:=λi j=>i=0/\0<j,cl:=λ_=>false,ck:=λ_ _=>False };have f:0<c.size:=b.lt;obtain ⟨x,l⟩:=IL (cl:=N.cl) d;have hsits:∀i o,c[i]? =some o->RX P Rep (E5 P Post) (N.s i) N.cl (i==0) o (only h i) (if i=0 then x else .leave (q i)):=by
  intro i o m;rcases Nat.eq_zero_or_pos i with rfl | hp
  ·have:=b.here;rw [m] at this;cases this
   simpa [N,only] using l
  ·have F:¬i=0:=O
   have H:=b.old i o hp m;simp only [N,F,if_false];exact .leave (q i) rfl H
 have hparked:∀i (p:Goroutine) y r,c[i]? =some (parked p y r)->i=0:=λi p y r m=>by
  rcases Nat.eq_zero_or_pos i with e | hp
  ·exact e
  ·rcases (b.old i _ hp m).status with e | e <;> cases e
 refine net_runs (used:=λ_=>False) (N:=N) (good N ⟨f,rfl,λj C I=>⟨bU O,rfl,C⟩⟩) (λi=>if i=0 then x else .leave (q i)) c w E t (only h)
  ⟨rfl,b.HS,b.TI,hsits,λ_ q=>q.elim,λ_ _ q=>q.elim,λ_ _ _ q=>q.elim,?_,?_,λ_ q=>q.elim⟩
 ·intro i j p V W v z r X K D u;obtain rfl:=hparked i _ _ _ D;obtain rfl:=hparked j _ _ _ u;rw [D] at u;exact Iu (Option.some.inj u).symm
 ·rintro i j m C ⟨rfl,Q⟩;refine ⟨bU O,λk a R _=>b.known k a R⟩
def NF(W:Wk P):Prop:=∃Post:bW->World->Prop,W.K=E5 P Post
variable {F:PD P M} {i:Option (DX M)} {V:Nat->bW} {ds:List Deferred} {h:A} {Q:SZ M}
theorem trI_made{c:Code}{s0:DX M}(hm:F.main=true)(hW:NF F.W)(hs:¬s0.isDone)(good:∀N:IK M,StartM s0 N->Gm (λ_=>False) N)(x:RP F c (some s0) V ds h Q):RP F c none V ds h Q:=by
 intro b k d e t f g j l m
 have:=x b k d e t f g j l m
 obtain ⟨Post,a⟩:=hW;show F.W.K _ _;rw [a];refine Sb (Rep:=F.Rep) good ?_;rw [IJ hs];unfold PD.wk at this;simp only [hm,a] at this;exact this
theorem Sd{c:Code}{f:Nat->DX M}{ch:Nat}(hc:h ch=some (true,.chan 0 #[] false 0 0 false))(hs:¬(f ch).isDone)(x:RP F c (some (f ch)) V ds (h.cut ch) Q):RP F c (some (.make f)) V ds h Q:=by
 intro b k a d t e g j l m;refine FS.stop ⟨rfl,ch,hc,?_⟩;rw [IJ hs];exact x b k a d t e g j l m
theorem trI_out{c:Code}{h0:A}(hW:NF F.W)(hs:h0.Same h)(x:RP F c none V ds (h0.join h) Q):RP F c (some .stop) V ds h Q:=by
 intro b k e f t a g j l m
 have:=x b k e f t a g j l m
 obtain ⟨Post,n⟩:=hW;refine FS.stop ?_;show F.W.K _ _;have d:F.W.K _ _:=this;rw [n] at d ⊢;refine d.flags λb p o a=>?_;rcases hj:h0 b with _ | ⟨q,r⟩
 ·unfold A.join at a;rw [hj] at a;exact ⟨p,a⟩
 ·unfold A.join at a;rw [hj] at a;cases a;exact hs b p o hj
def A.ro(h:A):A:=λb=>(h b).map λx=>(false,x.2)
theorem A.ro_some{h:A}{b:Nat}{p:Bool}{o:Obj}(hb:h b=some (p,o)):h.ro b=some (false,o):=by unfold A.ro;rw [hb];rfl
theorem A.ro_inv{h:A}{b:Nat}{p:Bool}{o:Obj}(hb:h.ro b=some (p,o)):p=false/\∃p',h b=some (p',o):=by
 unfold A.ro at hb;cases e:h b with
 | none=>rw [e] at hb;cases hb
 | some x=>rw [e] at hb;obtain ⟨p',a⟩:=x;cases hb;exact ⟨rfl,p',rfl⟩
theorem A.split_ro(h:A):A.Split h h.ro h.ro where
 left:=λb p o a=>by obtain ⟨rfl,c,x⟩:=A.ro_inv a;exact ⟨c,x,λe=>by cases e⟩
 right:=λb p o a=>by obtain ⟨rfl,c,x⟩:=A.ro_inv a;exact ⟨c,x,λe=>by cases e⟩
 one:=λr o x a=>by cases (A.ro_inv a).1
 two:=λr o x a=>by cases (A.ro_inv a).1
theorem A.same_ro(h:A):h.Same h.ro:=λ_ _ _ a=>⟨false,A.ro_some a⟩
theorem A.Same.trans{a b c:A}(x:a.Same b)(y:b.Same c):a.Same c:=λr p o d=>by obtain ⟨e,z⟩:=x r p o d;exact y r e o z
theorem A.Le.same{a b:A}(x:a.Le b):a.Same b:=λr p o c=>⟨p,x.keep c rfl⟩
theorem A.le_join(a b:A):a.Le (a.join b):=λr p o c=>⟨o,by unfold A.join;rw [c],.inl rfl⟩
theorem A.Same.join{a b:A}(s:a.Same b):b.Same (a.join b):=λr p o c=>by
 unfold A.join;cases e:a r with
 | none=>exact ⟨p,c⟩
 | some x=>obtain ⟨d,f⟩:=x;obtain ⟨g,y⟩:=s r d f e;rw [c] at y;cases y;exact ⟨d,rfl⟩
theorem Ao.flags{h h':A}(s:h.Same h'){b off n:Nat}{vs:Array bW}(x:Ao h b off n vs):Ao h' b off n vs:=by
 obtain ⟨p,c,t,f,y,z⟩:=x;obtain ⟨a,d⟩:=s _ _ _ y;exact ⟨a,c,t,f,d,z⟩
theorem Ai.flags{α:Type}{h h':A}(s:h.Same h'){v:bW}{n:Nat}{enc:α->Array bW}{xs:List α}(x:Ai h v n enc xs):Ai h' v n enc xs:=by
 obtain ⟨a,c,e,f,g,j⟩:=x;refine ⟨a,c,e,f,g,λi k=>?_⟩;obtain ⟨b,d,l,m⟩:=j i k;exact ⟨b,d,l,m.flags s⟩
end
section
variable {M:Type} [DecidableEq M]
end
end Go.Ns
namespace Go.Ns
inductive Ej where
 | job (i:Nat)
 | res (i:Nat) (b:Bool)
 | tick
section
variable (cj co cd:Nat) (n:Nat) (ok:Nat->Bool)
def Ic:Nat->Nat->DX Ej
 | 0,_=>.close cj .done
 | m+1,k=>.send cj (.job k) (Ic m (k+1))
def YS(W:DX Ej):Option Ej->DX Ej
 | none=>.send cd .tick .done
 | some (.job i)=>.send co (.res i (ok i)) W
 | some _=>.never
def Gq:Nat->DX Ej
 | 0=>.never
 | m+1=>.recv cj (YS co cd ok (Gq m))
def PE(W:DX Ej):Option Ej->DX Ej
 | some .tick=>W
 | _=>.never
def FN:Nat->DX Ej
 | 0=>.close co .done
 | t+1=>.recv cd (PE (FN t))
def JY(R:List Nat)(W:List Nat->DX Ej):Option Ej->DX Ej
 | none=>if R=[] then .stop else .never
 | some (.res i b)=>if i ∈ R/\b=ok i then W (R.erase i) else .never
 | some _=>.never
def Gr:Nat->List Nat->DX Ej
 | 0,_=>.never
 | m+1,R=>.recv co (JY ok R (Gr m))
def JA:Nat->DX Ej
 | 0=>.spawn (FN co cd 3) (Gr co ok (n+1) (List.range n))
 | m+1=>.spawn (Gq cj co cd ok (n+1)) (JA m)
def poolS:DX Ej:=.make λco=>.make λcj=>.spawn (Ic cj n 0) (.make λcd=>JA cj co cd n ok 3)
inductive WS where
 | wait (m:Nat)
 | hold (m i:Nat)
 | tick
 | fin
def WS.scr:WS->DX Ej
 | .wait m=>Gq cj co cd ok (m+1)
 | .hold m i=>.send co (.res i (ok i)) (Gq cj co cd ok (m+1))
 | .tick=>.send cd .tick .done
 | .fin=>.done
def WS.left:WS->Nat
 | .wait _=>3
 | .hold _ _=>4
 | .tick=>2
 | .fin=>0
def WS.finN:WS->Nat
 | .fin=>1
 | _=>0
def Wt(a:Nat)(c5:Bool)(R:List Nat):DX Ej:=if c5 then Gr co ok (R.length+1) R else JA cj co cd n ok (3-a)
end
structure Ea(cj co cd n:Nat)(ok:Nat->Bool)(k0 a:Nat)(c5:Bool)(k:Nat)(bj bo:Bool)(w:Nat->WS)(R:List Nat)(N:IK Ej):Prop where
 pos:0<k0
 nn:N.n=k0+1+a+(if c5 then 1 else 0)
 ha:a<=3
 h5:c5=true->a=3
 main:N.s 0=Wt cj co cd n ok a c5 R
 old:∀j,0<j->j<k0->N.s j=.done/\N.kn 0 j
 feed:N.s k0=if bj then .done else Ic cj (n-k) k
 hk:k<=n
 bjk:bj=true->k=n
 clj:N.cl cj=bj
 clo:N.cl co=bo
 cld:N.cl cd=false
 work:∀x,x<a->N.s (k0+1+x)=(w x).scr cj co cd ok
 out:∀x,a<=x->w x=.wait n
 wait:∀x m,w x=.wait m->n-k<=m
 hold:∀x m i,w x=.hold m i->n-k<=m/\i<k
 over:∀x,w x=.tick\/w x=.fin->bj=true
 closer:c5=true->N.s (k0+4)=if bo then .done else FN co cd (3-((w 0).finN+(w 1).finN+(w 2).finN))
 nofin:c5=false->(∀x,w x≠.fin)/\bo=false
 allfin:bo=true->∀x,x<3->w x=.fin
 nd:R.Nodup
 mem:∀i,i ∈ R↔(k<=i/\i<n)\/∃x m,w x=.hold m i
 uniq:∀x y m m' i,w x=.hold m i->w y=.hold m' i->x=y
 full:c5=false->R=List.range n
 ckj:bj=true->N.ck cj k0
 knw:∀x,x<a->w x=.tick\/w x=.fin->N.kn (k0+1+x) k0
 knc:∀x,x<a->w x=.fin->N.kn (k0+4) (k0+1+x)/\N.kn (k0+4) k0
 cko:bo=true->N.ck co (k0+4)/\N.ck co k0/\∀x,x<3->N.ck co (k0+1+x)
def Mh(w:Nat->WS)(x:Nat)(v:WS):Nat->WS:=λy=>if y=x then v else w y
theorem CQ{w:Nat->WS}{x:Nat}{v:WS}:Mh w x v x=v:=bV rfl
theorem Bm{w:Nat->WS}{x y:Nat}{v:WS}(h:y≠x):Mh w x v y=w y:=bU h
def N8(n a:Nat)(c5:Bool)(k:Nat)(bj bo:Bool)(w:Nat->WS):Nat:=
 (3-a)+(if c5 then 0 else 1)+3*(n-k)+(if bj then 0 else 1)+((w 0).left+(w 1).left+(w 2).left)+(if bo then 0 else 1)
section
variable {cj co cd n:Nat} {ok:Nat->Bool} {k0 a:Nat} {c5:Bool} {k:Nat} {bj bo:Bool} {w:Nat->WS} {R:List Nat} {N:IK Ej}
theorem Ea.cases(I:Ea cj co cd n ok k0 a c5 k bj bo w R N){i:Nat}(hi:i<N.n):i=0\/(0<i/\i<k0)\/i=k0\/(∃x,x<a/\i=k0+1+x)\/(c5=true/\i=k0+4):=by
 have b:=I.nn;rcases Nat.eq_zero_or_pos i with e | h0
 ·exact .inl e
 rcases Nat.lt_trichotomy i k0 with h | h | h
 ·exact .inr (.inl ⟨h0,h⟩)
 ·exact .inr (.inr (.inl h))
 by_cases d:i<k0+1+a
 ·exact .inr (.inr (.inr (.inl ⟨i-(k0+1),O,O⟩)))
 ·cases c:c5 with
  | false=>rw [c] at b;simp at b;omega
  | true=>have f:=I.h5 c;rw [c] at b;simp at b;exact .inr (.inr (.inr (.inr ⟨rfl,O⟩)))
theorem Ea.mainC(I:Ea cj co cd n ok k0 a c5 k bj bo w R N):(c5=true/\N.s 0=.recv co (JY ok R (Gr co ok R.length)))\/(c5=false/\((a<3/\N.s 0=.spawn (Gq cj co cd ok (n+1)) (JA cj co cd n ok (3-(a+1))))\/
  (a=3/\N.s 0=.spawn (FN co cd 3) (Gr co ok (n+1) (List.range n))))):=by
 have h:=I.main;unfold Wt at h;cases b:c5 with
 | true=>rw [b] at h;exact .inl ⟨rfl,h⟩
 | false=>
  rw [b] at h;refine .inr ⟨rfl,?_⟩;have ha:=I.ha;by_cases c:a=3
  ·subst c;exact .inr ⟨rfl,h⟩
  ·have e:3-a=(3-(a+1))+1:=O
   rw [e] at h;exact .inl ⟨O,h⟩
theorem Ea.feedC(I:Ea cj co cd n ok k0 a c5 k bj bo w R N):(bj=true/\N.s k0=.done)\/(bj=false/\k=n/\N.s k0=.close cj .done)\/(bj=false/\k<n/\N.s k0=.send cj (.job k) (Ic cj (n-(k+1)) (k+1))):=by
 have h:=I.feed;have hk:=I.hk;cases b:bj with
 | true=>rw [b] at h;exact .inl ⟨rfl,h⟩
 | false=>
  rw [b] at h;by_cases e:k=n
  ·subst e;rw [Nat.sub_self] at h;exact .inr (.inl ⟨rfl,rfl,h⟩)
  ·have c:n-k=(n-(k+1))+1:=O
   rw [c] at h;exact .inr (.inr ⟨rfl,O,h⟩)
theorem Ea.closeC(I:Ea cj co cd n ok k0 a c5 k bj bo w R N)(hc:c5=true):(bo=true/\N.s (k0+4)=.done)\/(bo=false/\3<=(w 0).finN+(w 1).finN+(w 2).finN/\N.s (k0+4)=.close co .done)\/
  (bo=false/\∃t,3-((w 0).finN+(w 1).finN+(w 2).finN)=t+1/\N.s (k0+4)=.recv cd (PE (FN co cd t))):=by
 have h:=I.closer hc;cases b:bo with
 | true=>rw [b] at h;exact .inl ⟨rfl,h⟩
 | false=>
  rw [b] at h;generalize (w 0).finN+(w 1).finN+(w 2).finN=q at h;cases e:3-q with
  | zero=>rw [e] at h;exact .inr (.inl ⟨rfl,O,h⟩)
  | succ t=>rw [e] at h;exact .inr (.inr ⟨rfl,t,rfl,h⟩)
theorem Ea.send(I:Ea cj co cd n ok k0 a c5 k bj bo w R N){i c:Nat}{m:Ej}{nx:DX Ej}(hi:i<N.n)(hs:N.s i=.send c m nx) :
  (i=k0/\bj=false/\k<n/\c=cj/\m=.job k/\nx=Ic cj (n-(k+1)) (k+1))\/(∃x,x<a/\i=k0+1+x/\∃f j,w x=.hold f j/\c=co/\m=.res j (ok j)/\nx=Gq cj co cd ok (f+1))\/
  (∃x,x<a/\i=k0+1+x/\w x=.tick/\c=cd/\m=.tick/\nx=.done):=by
 rcases I.cases hi with rfl | ⟨d,g⟩ | rfl | ⟨x,l,rfl⟩ | ⟨o,rfl⟩
 ·rcases I.mainC with ⟨_,e⟩ | ⟨_,⟨_,e⟩ | ⟨_,e⟩⟩ <;> rw [e] at hs <;> cases hs
 ·rw [(I.old i d g).1] at hs;cases hs
 ·rcases I.feedC with ⟨_,e⟩ | ⟨_,_,e⟩ | ⟨d,g,e⟩
  ·rw [e] at hs;cases hs
  ·rw [e] at hs;cases hs
  ·rw [e] at hs;cases hs;exact .inl ⟨rfl,d,g,rfl,rfl,rfl⟩
 ·rw [I.work x l] at hs;cases b:w x with
  | wait f=>rw [b] at hs;have h:DX.recv _ _=DX.send c m nx:=hs;cases h
  | hold f j=>rw [b] at hs;have h:DX.send co (.res j (ok j)) (Gq cj co cd ok (f+1))=DX.send c m nx:=hs;cases h;exact .inr (.inl ⟨x,l,rfl,f,j,b,rfl,rfl,rfl⟩)
  | tick=>rw [b] at hs;have h:DX.send cd .tick .done=DX.send c m nx:=hs;cases h;exact .inr (.inr ⟨x,l,rfl,b,rfl,rfl,rfl⟩)
  | fin=>rw [b] at hs;have h:DX.done=DX.send c m nx:=hs;cases h
 ·rcases I.closeC o with ⟨_,e⟩ | ⟨_,_,e⟩ | ⟨_,t,_,e⟩ <;> rw [e] at hs <;> cases hs
theorem Ea.recv(I:Ea cj co cd n ok k0 a c5 k bj bo w R N){i c:Nat}{f:Option Ej->DX Ej}(hi:i<N.n)(hs:N.s i=.recv c f) :
  (i=0/\c5=true/\c=co/\f=JY ok R (Gr co ok R.length))\/(∃x,x<a/\i=k0+1+x/\∃m,w x=.wait m/\c=cj/\f=YS co cd ok (Gq cj co cd ok m))\/
  (c5=true/\i=k0+4/\bo=false/\∃t,3-((w 0).finN+(w 1).finN+(w 2).finN)=t+1/\c=cd/\f=PE (FN co cd t)):=by
 rcases I.cases hi with rfl | ⟨b,g⟩ | rfl | ⟨x,l,rfl⟩ | ⟨o,rfl⟩
 ·rcases I.mainC with ⟨b,e⟩ | ⟨_,⟨_,e⟩ | ⟨_,e⟩⟩
  ·rw [e] at hs;cases hs;exact .inl ⟨rfl,b,rfl,rfl⟩
  ·rw [e] at hs;cases hs
  ·rw [e] at hs;cases hs
 ·rw [(I.old i b g).1] at hs;cases hs
 ·rcases I.feedC with ⟨_,e⟩ | ⟨_,_,e⟩ | ⟨b,g,e⟩ <;> rw [e] at hs <;> cases hs
 ·rw [I.work x l] at hs;cases d:w x with
  | wait m=>rw [d] at hs;have h:DX.recv cj (YS co cd ok (Gq cj co cd ok m))=DX.recv c f:=hs;cases h;exact .inr (.inl ⟨x,l,rfl,m,d,rfl,rfl⟩)
  | hold m j=>rw [d] at hs;have h:DX.send _ _ _=DX.recv c f:=hs;cases h
  | tick=>rw [d] at hs;have h:DX.send _ _ _=DX.recv c f:=hs;cases h
  | fin=>rw [d] at hs;have h:DX.done=DX.recv c f:=hs;cases h
 ·rcases I.closeC o with ⟨_,e⟩ | ⟨_,_,e⟩ | ⟨b,t,g,e⟩
  ·rw [e] at hs;cases hs
  ·rw [e] at hs;cases hs
  ·rw [e] at hs;cases hs;exact .inr (.inr ⟨o,rfl,b,t,g,rfl,rfl⟩)
theorem Ea.close(I:Ea cj co cd n ok k0 a c5 k bj bo w R N){i c:Nat}{nx:DX Ej}(hi:i<N.n)(hs:N.s i=.close c nx) :
  (i=k0/\bj=false/\k=n/\c=cj/\nx=.done)\/(c5=true/\i=k0+4/\bo=false/\3<=(w 0).finN+(w 1).finN+(w 2).finN/\c=co/\nx=.done):=by
 rcases I.cases hi with rfl | ⟨b,d⟩ | rfl | ⟨x,l,rfl⟩ | ⟨g,rfl⟩
 ·rcases I.mainC with ⟨_,e⟩ | ⟨_,⟨_,e⟩ | ⟨_,e⟩⟩ <;> rw [e] at hs <;> cases hs
 ·rw [(I.old i b d).1] at hs;cases hs
 ·rcases I.feedC with ⟨_,e⟩ | ⟨b,d,e⟩ | ⟨b,d,e⟩
  ·rw [e] at hs;cases hs
  ·rw [e] at hs;cases hs;exact .inl ⟨rfl,b,d,rfl,rfl⟩
  ·rw [e] at hs;cases hs
 ·rw [I.work x l] at hs;cases f:w x with
  | wait m=>rw [f] at hs;have h:DX.recv _ _=DX.close c nx:=hs;cases h
  | hold m j=>rw [f] at hs;have h:DX.send _ _ _=DX.close c nx:=hs;cases h
  | tick=>rw [f] at hs;have h:DX.send _ _ _=DX.close c nx:=hs;cases h
  | fin=>rw [f] at hs;have h:DX.done=DX.close c nx:=hs;cases h
 ·rcases I.closeC g with ⟨_,e⟩ | ⟨b,d,e⟩ | ⟨b,t,d,e⟩
  ·rw [e] at hs;cases hs
  ·rw [e] at hs;cases hs;exact .inr ⟨g,rfl,b,d,rfl,rfl⟩
  ·rw [e] at hs;cases hs
theorem Ea.spawn(I:Ea cj co cd n ok k0 a c5 k bj bo w R N){i:Nat}{ch nx:DX Ej}(hi:i<N.n)(hs:N.s i=.spawn ch nx) :
  i=0/\c5=false/\((a<3/\ch=Gq cj co cd ok (n+1)/\nx=JA cj co cd n ok (3-(a+1)))\/(a=3/\ch=FN co cd 3/\nx=Gr co ok (n+1) (List.range n))):=by
 rcases I.cases hi with rfl | ⟨b,c⟩ | rfl | ⟨x,f,rfl⟩ | ⟨g,rfl⟩
 ·rcases I.mainC with ⟨b,e⟩ | ⟨b,⟨c,e⟩ | ⟨c,e⟩⟩
  ·rw [e] at hs;cases hs
  ·rw [e] at hs;cases hs;exact ⟨rfl,b,.inl ⟨c,rfl,rfl⟩⟩
  ·rw [e] at hs;cases hs;exact ⟨rfl,b,.inr ⟨c,rfl,rfl⟩⟩
 ·rw [(I.old i b c).1] at hs;cases hs
 ·rcases I.feedC with ⟨_,e⟩ | ⟨_,_,e⟩ | ⟨b,c,e⟩ <;> rw [e] at hs <;> cases hs
 ·rw [I.work x f] at hs;cases d:w x with
  | wait m=>rw [d] at hs;have h:DX.recv _ _=DX.spawn ch nx:=hs;cases h
  | hold m j=>rw [d] at hs;have h:DX.send _ _ _=DX.spawn ch nx:=hs;cases h
  | tick=>rw [d] at hs;have h:DX.send _ _ _=DX.spawn ch nx:=hs;cases h
  | fin=>rw [d] at hs;have h:DX.done=DX.spawn ch nx:=hs;cases h
 ·rcases I.closeC g with ⟨_,e⟩ | ⟨_,_,e⟩ | ⟨_,t,_,e⟩ <;> rw [e] at hs <;> cases hs
theorem Ea.noMake(I:Ea cj co cd n ok k0 a c5 k bj bo w R N){i:Nat}{f:Nat->DX Ej}(hi:i<N.n):N.s i≠.make f:=by
 intro b;rcases I.cases hi with rfl | ⟨d,g⟩ | rfl | ⟨x,l,rfl⟩ | ⟨o,rfl⟩
 ·rcases I.mainC with ⟨_,e⟩ | ⟨_,⟨_,e⟩ | ⟨_,e⟩⟩ <;> rw [e] at b <;> cases b
 ·rw [(I.old i d g).1] at b;cases b
 ·rcases I.feedC with ⟨_,e⟩ | ⟨_,_,e⟩ | ⟨d,g,e⟩ <;> rw [e] at b <;> cases b
 ·rw [I.work x l] at b;cases c:w x with
  | wait m=>rw [c] at b;have h:DX.recv _ _=DX.make f:=b;cases h
  | hold m j=>rw [c] at b;have h:DX.send _ _ _=DX.make f:=b;cases h
  | tick=>rw [c] at b;have h:DX.send _ _ _=DX.make f:=b;cases h
  | fin=>rw [c] at b;have h:DX.done=DX.make f:=b;cases h
 ·rcases I.closeC o with ⟨_,e⟩ | ⟨_,_,e⟩ | ⟨_,t,_,e⟩ <;> rw [e] at b <;> cases b
theorem Ea.fine(I:Ea cj co cd n ok k0 a c5 k bj bo w R N){aY:Nat->Prop}(u1:aY cj)(u2:aY co)(u3:aY cd){i:Nat}(hi:i<N.n):LS aY N.cl i (N.s i):=by
 have o:=I.pos;rcases I.cases hi with rfl | ⟨b,d⟩ | rfl | ⟨x,f,rfl⟩ | ⟨g,rfl⟩
 ·rcases I.mainC with ⟨_,e⟩ | ⟨_,⟨_,e⟩ | ⟨_,e⟩⟩ <;> rw [e]
  ·exact u2
  ·trivial
  ·trivial
 ·rw [(I.old i b d).1];show i≠0;omega
 ·rcases I.feedC with ⟨_,e⟩ | ⟨b,_,e⟩ | ⟨b,d,e⟩ <;> rw [e]
  ·show _≠0;omega
  ·exact ⟨u1,by rw [I.clj,b]⟩
  ·exact ⟨u1,by rw [I.clj,b]⟩
 ·rw [I.work x f];have c:bo=false\/w x=.fin:=by
   cases h:bo with
   | false=>exact .inl rfl
   | true=>exact .inr (I.allfin h x (by have:=I.ha;omega))
  cases l:w x with
  | wait m=>exact u1
  | hold m j=>exact ⟨u2,by rw [I.clo];exact c.elim id λe=>by rw [l] at e;cases e⟩
  | tick=>exact ⟨u3,I.cld⟩
  | fin=>show _≠0;omega
 ·rcases I.closeC g with ⟨_,e⟩ | ⟨b,_,e⟩ | ⟨_,t,_,e⟩ <;> rw [e]
  ·show _≠0;omega
  ·exact ⟨u2,by rw [I.clo,b]⟩
  ·exact u3
theorem WS.finN_le(x:WS):x.finN<=1:=by cases x <;> simp [WS.finN]
theorem WS.finN_one{x:WS}(h:1<=x.finN):x=.fin:=by cases x <;> simp_all [WS.finN]
theorem WS.finN_zero{x:WS}(h:x≠.fin):x.finN=0:=by cases x <;> simp_all [WS.finN]
theorem Ea.goes(I:Ea cj co cd n ok k0 a c5 k bj bo w R N):∃N',J2 N N':=by
 have y:=I.pos;have r:=I.nn;rcases I.mainC with ⟨l,s⟩ | ⟨_,⟨_,e⟩ | ⟨_,e⟩⟩
 ·have v:=I.h5 l;subst v;rw [l] at r;simp at r;have p:∀x,x<3->w x≠.fin->∃N',J2 N N':=by
   intro x d g;have b:=I.work x d;cases o:w x with
   | fin=>exact absurd o g
   | wait m=>
    rw [o] at b;rcases I.feedC with ⟨f,_⟩ | ⟨_,_,e⟩ | ⟨_,_,e⟩
    ·exact ⟨_,.hear (j:=k0+1+x) O b (by rw [I.clj,f])⟩
    ·exact ⟨_,.shut (i:=k0) O e⟩
    ·exact ⟨_,.meet (i:=k0) (j:=k0+1+x) O O O e b⟩
   | hold m j=>rw [o] at b;exact ⟨_,.meet (i:=k0+1+x) (j:=0) O O O b s⟩
   | tick=>
    rw [o] at b;have z:=(w 0).finN_le;have C:=(w 1).finN_le;have D:=(w 2).finN_le;have E:=WS.finN_zero g;rcases I.closeC l with ⟨f,_⟩ | ⟨_,f,_⟩ | ⟨_,t,_,e⟩
    ·exact absurd (I.allfin f x d) g
    ·obtain rfl | rfl | rfl:x=0\/x=1\/x=2:=O
     all_goals omega
    ·exact ⟨_,.meet (i:=k0+1+x) (j:=k0+4) O O O b e⟩
  by_cases h:∃x,x<3/\w x≠.fin
  ·obtain ⟨x,d,g⟩:=h;exact p x d g
  ·have c:∀x,x<3->w x=.fin:=λx d=>Classical.byContradiction λq=>h ⟨x,d,q⟩;rcases I.closeC l with ⟨f,_⟩ | ⟨_,_,e⟩ | ⟨_,t,u,e⟩
   ·exact ⟨_,.hear (j:=0) O s (by rw [I.clo,f])⟩
   ·exact ⟨_,.shut (i:=k0+4) O e⟩
   ·rw [c 0 O,c 1 O,c 2 O] at u;simp [WS.finN] at u
 ·exact ⟨_,.hire (i:=0) O e⟩
 ·exact ⟨_,.hire (i:=0) O e⟩
end
end Go.Ns
namespace Go.Ns
section
variable {M:Type} {N:IK M} {i j x y c c':Nat} {si sj ch nx:DX M}
theorem NG(h1:y≠N.n)(h2:y≠i):(N.hire i ch nx).s y=N.s y:=by show (if y=N.n then _ else if y=i then _ else _)=_;rw [bU h1,bU h2]
theorem Se:(N.hire i ch nx).s N.n=ch:=bV rfl
theorem hire_i(h:i≠N.n):(N.hire i ch nx).s i=nx:=by show (if i=N.n then _ else if i=i then _ else _)=_;rw [bU h,bV rfl]
theorem N9(h1:x≠N.n)(h2:y≠N.n)(k:N.kn x y):(N.hire i ch nx).kn x y:=by show if y=N.n then False else if x=N.n then _ else _;rw [bU h2,bU h1];exact k
theorem hire_ck(h2:y≠N.n)(k:N.ck c y):(N.hire i ch nx).ck c y:=by show if y=N.n then False else _;rw [bU h2];exact k
theorem IX(h1:y≠i)(h2:y≠j):(N.meet i j si sj).s y=N.s y:=by show (if y=i then _ else if y=j then _ else _)=_;rw [bU h1,bU h2]
theorem meet_i:(N.meet i j si sj).s i=si:=bV rfl
theorem meet_j(h:j≠i):(N.meet i j si sj).s j=sj:=by show (if j=i then _ else if j=j then _ else _)=_;rw [bU h,bV rfl]
theorem GU(k:N.kn x y):(N.meet i j si sj).kn x y:=by
 show if x=i\/x=j then _ else _
 split
 ·rename_i h;rcases h with rfl | rfl
  ·exact .inl k
  ·exact .inr (.inl k)
 ·exact k
theorem meet_knj(k:N.kn i y):(N.meet i j si sj).kn j y:=by show if j=i\/j=j then _ else _;rw [bV (.inr rfl)];exact .inl k
theorem meet_done(h:si.isDone):(N.meet i j si sj).kn j i:=by show if j=i\/j=j then _ else _;rw [bV (.inr rfl)];exact .inr (.inr (.inl ⟨rfl,h⟩))
theorem Jr(h:y≠i):(N.shut i c nx).s y=N.s y:=bU h
theorem shut_i:(N.shut i c nx).s i=nx:=bV rfl
theorem Wu:(N.shut i c nx).cl c=true:=bV rfl
theorem Lf(h:c'≠c):(N.shut i c nx).cl c'=N.cl c':=bU h
theorem shut_ck(k:N.kn i y):(N.shut i c nx).ck c y:=by show if c=c then _ else _;rw [bV rfl];exact .inl k
theorem PG(h:nx.isDone):(N.shut i c nx).ck c i:=by show if c=c then _ else _;rw [bV rfl];exact .inr ⟨rfl,h⟩
theorem shut_ck'(h:c'≠c)(k:N.ck c' y):(N.shut i c nx).ck c' y:=by show if c'=c then _ else _;rw [bU h];exact k
theorem PH(h:y≠j):(N.hear j c nx).s y=N.s y:=bU h
theorem hear_j:(N.hear j c nx).s j=nx:=bV rfl
theorem OA(k:N.kn x y):(N.hear j c nx).kn x y:=by
 show if x=j then _ else _
 split
 ·rename_i h;subst h;exact .inl k
 ·exact k
theorem Ra(k:N.ck c y):(N.hear j c nx).kn j y:=by show if j=j then _ else _;rw [bV rfl];exact .inr k
end
section
variable {cj co cd n:Nat} {ok:Nat->Bool} {k0 a:Nat} {c5:Bool} {k:Nat} {bj bo:Bool} {w:Nat->WS} {R:List Nat} {N:IK Ej}
theorem left_hold{f k:Nat}:(WS.hold f k).left=4:=rfl
theorem Sf{v:WS}{x:Nat}(h:v.finN=(w x).finN)(y:Nat):(Mh w x v y).finN=(w y).finN:=by
 by_cases e:y=x
 ·subst e;rw [CQ];exact h
 ·rw [Bm e]
theorem Ea.hire1(I:Ea cj co cd n ok k0 a false k bj bo w R N)(h3:a<3):Ea cj co cd n ok k0 (a+1) false k bj bo w R (N.hire 0 (Gq cj co cd ok (n+1)) (JA cj co cd n ok (3-(a+1)))):=by
 have i:N.n=k0+1+a:=by simpa using I.nn
 have l:=I.pos;obtain ⟨b,c⟩:=I.nofin rfl;refine ⟨l,by show N.n+1=_;simp;omega,h3,λe=>(by cases e),?_,λj d f=>⟨?_,?_⟩,?_,I.hk,I.bjk,I.clj,I.clo,I.cld,λx g=>?_,λx g=>I.out x O,I.wait,I.hold,I.over,λe=>(by cases e),λ_=>⟨b,c⟩,I.allfin,I.nd,I.mem,I.uniq,I.full,λe=>hire_ck O (I.ckj e),λx g h=>?_,λx _ h=>absurd h (b x),λe=>by rw [c] at e;cases e⟩
 ·rw [hire_i O];rfl
 ·rw [NG O O];exact (I.old j d f).1
 ·exact N9 O O (I.old j d f).2
 ·rw [NG O O];exact I.feed
 ·by_cases e:x=a
  ·subst e;rw [<-i,Se,I.out x (Nat.le_refl _)];rfl
  ·rw [NG O O];exact I.work x O
 ·have e:x≠a:=λe=>by subst e;rw [I.out x (Nat.le_refl _)] at h;rcases h with h | h <;> cases h
  exact N9 O O (I.knw x O h)
theorem Ea.hire2(I:Ea cj co cd n ok k0 3 false k bj bo w R N):Ea cj co cd n ok k0 3 true k bj bo w R (N.hire 0 (FN co cd 3) (Gr co ok (n+1) (List.range n))):=by
 have i:N.n=k0+4:=by have:=I.nn;simp at this;omega
 have l:=I.pos;obtain ⟨b,d⟩:=I.nofin rfl;refine ⟨l,by show N.n+1=_;simp;omega,I.ha,λ_=>rfl,?_,λj f g=>⟨?_,?_⟩,?_,I.hk,I.bjk,I.clj,I.clo,I.cld,λx c=>?_,I.out,I.wait,I.hold,I.over,λ_=>?_,λe=>(by cases e),I.allfin,I.nd,I.mem,I.uniq,λe=>(by cases e),λe=>hire_ck O (I.ckj e),λx c h=>?_,λx _ h=>absurd h (b x),λe=>by rw [d] at e;cases e⟩
 ·rw [hire_i O,I.full rfl];unfold Wt;rw [List.length_range];rfl
 ·rw [NG O O];exact (I.old j f g).1
 ·exact N9 O O (I.old j f g).2
 ·rw [NG O O];exact I.feed
 ·rw [NG O O];exact I.work x c
 ·rw [<-i,Se,d,WS.finN_zero (b 0),WS.finN_zero (b 1),WS.finN_zero (b 2)];rfl
 ·exact N9 O O (I.knw x c h)
theorem Ea.job(I:Ea cj co cd n ok k0 a c5 k false bo w R N)(hkn:k<n){x f:Nat}(hx:x<a)(hw:w x=.wait (f+1)) :
  Ea cj co cd n ok k0 a c5 (k+1) false bo (Mh w x (.hold f k)) R (N.meet k0 (k0+1+x) (Ic cj (n-(k+1)) (k+1)) (.send co (.res k (ok k)) (Gq cj co cd ok (f+1)))):=by
 have o:=I.pos;have ha:=I.ha;have s:=I.wait x _ hw;have F:=Sf (w:=w) (x:=x) (v:=.hold f k) (by rw [hw];rfl);have p:∀{y:Nat}{v:WS},w y=v->v≠.wait (f+1)->y≠x:=λh b e=>b (by rw [<-h,e,hw]);refine ⟨o,I.nn,ha,I.h5,?_,λj c b=>⟨?_,GU (I.old j c b).2⟩,?_,hkn,λe=>(by cases e),I.clj,I.clo,I.cld,λy d=>?_,λy d=>?_,λy m h=>?_,λy m i h=>?_,λy h=>?_,λe=>?_,λe=>⟨λy=>?_,(I.nofin e).2⟩,λe=>?_,I.nd,λi=>?_,λy z m r i c b=>?_,I.full,λe=>(by cases e),λy d h=>?_,λy d h=>?_,I.cko⟩
 ·rw [IX O O];exact I.main
 ·rw [IX O O];exact (I.old j c b).1
 ·rw [meet_i];rfl
 ·by_cases e:y=x
  ·subst e;rw [meet_j O,CQ];rfl
  ·rw [IX O O,Bm e];exact I.work y d
 ·rw [Bm O];exact I.out y d
 ·by_cases e:y=x
  ·subst e;rw [CQ] at h;cases h
  ·rw [Bm e] at h;have:=I.wait y m h;omega
 ·by_cases e:y=x
  ·subst e;rw [CQ] at h;cases h;exact ⟨O,O⟩
  ·rw [Bm e] at h;have:=I.hold y m i h;omega
 ·by_cases e:y=x
  ·subst e;rw [CQ] at h;rcases h with h | h <;> cases h
  ·rw [Bm e] at h;exact I.over y h
 ·have h5:=I.h5 e;rw [IX O O,F,F,F];exact I.closer e
 ·by_cases g:y=x
  ·subst g;rw [CQ];intro q;cases q
  ·rw [Bm g];exact (I.nofin e).1 y
 ·have:=I.allfin e x O;rw [hw] at this;cases this
 ·rw [I.mem i];constructor
  ·rintro (⟨c,b⟩ | ⟨y,m,h⟩)
   ·by_cases e:i=k
    ·subst e;exact .inr ⟨x,f,CQ⟩
    ·exact .inl ⟨O,b⟩
   ·exact .inr ⟨y,m,by rw [Bm (p h (by intro q;cases q))];exact h⟩
  ·rintro (⟨c,b⟩ | ⟨y,m,h⟩)
   ·exact .inl ⟨O,b⟩
   ·by_cases e:y=x
    ·subst e;rw [CQ] at h;cases h;exact .inl ⟨Nat.le_refl _,hkn⟩
    ·rw [Bm e] at h;exact .inr ⟨y,m,h⟩
 ·by_cases l:y=x
  ·by_cases g:z=x
   ·rw [l,g]
   ·subst l;rw [CQ] at c;cases c;rw [Bm g] at b;have:=(I.hold z _ _ b).2;omega
  ·rw [Bm l] at c;by_cases g:z=x
   ·subst g;rw [CQ] at b;cases b;have:=(I.hold y _ _ c).2;omega
   ·rw [Bm g] at b;exact I.uniq y z m r i c b
 ·by_cases e:y=x
  ·subst e;rw [CQ] at h;rcases h with h | h <;> cases h
  ·rw [Bm e] at h;exact GU (I.knw y d h)
 ·by_cases e:y=x
  ·subst e;rw [CQ] at h;cases h
  ·rw [Bm e] at h;exact ⟨GU (I.knc y d h).1,GU (I.knc y d h).2⟩
theorem Ea.res(I:Ea cj co cd n ok k0 a true k bj bo w R N){x f j:Nat}(hx:x<a)(hw:w x=.hold f j) :
  j ∈ R/\Ea cj co cd n ok k0 a true k bj bo (Mh w x (.wait f)) (R.erase j) (N.meet (k0+1+x) 0 (Gq cj co cd ok (f+1)) (Gr co ok R.length (R.erase j))):=by
 have q:=I.pos;have ha:=I.h5 rfl;have l:j ∈ R:=(I.mem j).2 (.inr ⟨x,f,hw⟩);have u:=List.length_erase_of_mem l;have r:=List.length_pos_of_mem l;have s:=I.hold x _ _ hw;have F:=Sf (w:=w) (x:=x) (v:=.wait f) (by rw [hw];rfl);refine ⟨l,q,I.nn,I.ha,I.h5,?_,λy c d=>⟨?_,GU (I.old y c d).2⟩,?_,I.hk,I.bjk,I.clj,I.clo,I.cld,λy b=>?_,λy b=>?_,λy m h=>?_,λy m i h=>?_,λy h=>?_,λe=>?_,λe=>(by cases e),λe=>?_,I.nd.erase j,λi=>?_,λy z m t i c d=>?_,λe=>(by cases e),I.ckj,λy b h=>?_,λy b h=>?_,I.cko⟩
 ·rw [meet_j O];unfold Wt;rw [bV rfl,show (R.erase j).length+1=R.length by omega]
 ·rw [IX O O];exact (I.old y c d).1
 ·rw [IX O O];exact I.feed
 ·by_cases e:y=x
  ·subst e;rw [meet_i,CQ];rfl
  ·rw [IX O O,Bm e];exact I.work y b
 ·rw [Bm O];exact I.out y b
 ·by_cases e:y=x
  ·subst e;rw [CQ] at h;cases h;exact s.1
  ·rw [Bm e] at h;exact I.wait y m h
 ·by_cases e:y=x
  ·subst e;rw [CQ] at h;cases h
  ·rw [Bm e] at h;exact I.hold y m i h
 ·by_cases e:y=x
  ·subst e;rw [CQ] at h;rcases h with h | h <;> cases h
  ·rw [Bm e] at h;exact I.over y h
 ·rw [IX O O,F,F,F];exact I.closer e
 ·have:=I.allfin e x O;rw [hw] at this;cases this
 ·rw [List.Nodup.mem_erase_iff I.nd,I.mem i];constructor
  ·rintro ⟨o,h | ⟨y,m,h⟩⟩
   ·exact .inl h
   ·refine .inr ⟨y,m,?_⟩;rw [Bm (λe=>by subst e;rw [hw] at h;cases h;exact o rfl)];exact h
  ·rintro (h | ⟨y,m,h⟩)
   ·exact ⟨λe=>by subst e;omega,.inl h⟩
   ·by_cases e:y=x
    ·subst e;rw [CQ] at h;cases h
    ·rw [Bm e] at h;exact ⟨λg=>by subst g;exact e (I.uniq y x m f i h hw),.inr ⟨y,m,h⟩⟩
 ·by_cases p:y=x
  ·subst p;rw [CQ] at c;cases c
  ·by_cases g:z=x
   ·subst g;rw [CQ] at d;cases d
   ·rw [Bm p] at c;rw [Bm g] at d;exact I.uniq y z m t i c d
 ·by_cases e:y=x
  ·subst e;rw [CQ] at h;rcases h with h | h <;> cases h
  ·rw [Bm e] at h;exact GU (I.knw y b h)
 ·by_cases e:y=x
  ·subst e;rw [CQ] at h;cases h
  ·rw [Bm e] at h;exact ⟨GU (I.knc y b h).1,GU (I.knc y b h).2⟩
theorem Ea.tick(I:Ea cj co cd n ok k0 a true k bj false w R N){x t:Nat}(hx:x<a)(hw:w x=.tick)(ht:3-((w 0).finN+(w 1).finN+(w 2).finN)=t+1) :
  Ea cj co cd n ok k0 a true k bj false (Mh w x .fin) R (N.meet (k0+1+x) (k0+4) .done (FN co cd t)):=by
 have l:=I.pos;have ha:=I.h5 rfl;have o:=I.over x (.inl hw);refine ⟨l,I.nn,I.ha,I.h5,?_,λy c d=>⟨?_,GU (I.old y c d).2⟩,?_,I.hk,I.bjk,I.clj,I.clo,I.cld,λy b=>?_,λy b=>?_,λy m h=>?_,λy m i h=>?_,λy h=>o,λe=>?_,λe=>(by cases e),λe=>(by cases e),I.nd,λi=>?_,λy z m p i c d=>?_,λe=>(by cases e),I.ckj,λy b h=>?_,λy b h=>?_,I.cko⟩
 ·rw [IX O O];exact I.main
 ·rw [IX O O];exact (I.old y c d).1
 ·rw [IX O O];exact I.feed
 ·by_cases e:y=x
  ·subst e;rw [meet_i,CQ];rfl
  ·rw [IX O O,Bm e];exact I.work y b
 ·rw [Bm O];exact I.out y b
 ·by_cases e:y=x
  ·subst e;rw [CQ] at h;cases h
  ·rw [Bm e] at h;exact I.wait y m h
 ·by_cases e:y=x
  ·subst e;rw [CQ] at h;cases h
  ·rw [Bm e] at h;exact I.hold y m i h
 ·rw [meet_j O];have g:(w x).finN=0:=by rw [hw];rfl
  have f:(Mh w x .fin 0).finN+(Mh w x .fin 1).finN+(Mh w x .fin 2).finN=(w 0).finN+(w 1).finN+(w 2).finN+1:=by
   obtain rfl | rfl | rfl:x=0\/x=1\/x=2:=O
   ·rw [CQ,Bm O,Bm O,g];simp only [WS.finN];omega
   ·rw [CQ,Bm O,Bm O,g];simp only [WS.finN];omega
   ·rw [CQ,Bm O,Bm O,g];simp only [WS.finN]
  rw [f,show 3-((w 0).finN+(w 1).finN+(w 2).finN+1)=t by omega];rfl
 ·rw [I.mem i];refine or_congr Iff.rfl ⟨?_,?_⟩
  ·rintro ⟨y,m,h⟩;exact ⟨y,m,by rw [Bm (λe=>by subst e;rw [hw] at h;cases h)];exact h⟩
  ·rintro ⟨y,m,h⟩;by_cases e:y=x
   ·subst e;rw [CQ] at h;cases h
   ·rw [Bm e] at h;exact ⟨y,m,h⟩
 ·by_cases f:y=x
  ·subst f;rw [CQ] at c;cases c
  ·by_cases j:z=x
   ·subst j;rw [CQ] at d;cases d
   ·rw [Bm f] at c;rw [Bm j] at d;exact I.uniq y z m p i c d
 ·by_cases e:y=x
  ·subst e;exact GU (I.knw y b (.inl hw))
  ·rw [Bm e] at h;exact GU (I.knw y b h)
 ·by_cases e:y=x
  ·subst e;exact ⟨meet_done trivial,meet_knj (I.knw y b (.inl hw))⟩
  ·rw [Bm e] at h;exact ⟨GU (I.knc y b h).1,GU (I.knc y b h).2⟩
theorem Ea.fed(I:Ea cj co cd n ok k0 a c5 n false bo w R N)(d1:cj≠co)(d2:cj≠cd):Ea cj co cd n ok k0 a c5 n true bo w R (N.shut k0 cj .done):=by
 have g:=I.pos;have ha:=I.ha;have b:∀x,¬(w x=.tick\/w x=.fin):=λx h=>by have:=I.over x h;cases this
 refine ⟨g,I.nn,ha,I.h5,?_,λy d f=>⟨?_,(I.old y d f).2⟩,?_,I.hk,λ_=>rfl,Wu,by rw [Lf d1.symm];exact I.clo,by rw [Lf d2.symm];exact I.cld,λy c=>?_,I.out,I.wait,I.hold,λ_ _=>rfl,λe=>?_,I.nofin,I.allfin,I.nd,I.mem,I.uniq,I.full,λ_=>PG trivial,λy c h=>absurd h (b y),λy c h=>absurd (.inr h) (b y),λe=>absurd (.inr (I.allfin e 0 O)) (b 0)⟩
 ·rw [Jr O];exact I.main
 ·rw [Jr O];exact (I.old y d f).1
 ·rw [shut_i];rfl
 ·rw [Jr O];exact I.work y c
 ·rw [Jr O];exact I.closer e
theorem Ea.shut(I:Ea cj co cd n ok k0 a true k bj false w R N)(d1:cj≠co)(d3:co≠cd)(h3:3<=(w 0).finN+(w 1).finN+(w 2).finN):Ea cj co cd n ok k0 a true k bj true w R (N.shut (k0+4) co .done):=by
 have g:=I.pos;have ha:=I.h5 rfl;have i:=(w 0).finN_le;have c:=(w 1).finN_le;have d:=(w 2).finN_le;have b:∀x,x<3->w x=.fin:=λx f=>by
  obtain rfl | rfl | rfl:x=0\/x=1\/x=2:=O
  all_goals exact WS.finN_one O
 refine ⟨g,I.nn,I.ha,I.h5,?_,λy c d=>⟨?_,(I.old y c d).2⟩,?_,I.hk,I.bjk,by rw [Lf d1];exact I.clj,Wu,by rw [Lf d3.symm];exact I.cld,λy h=>?_,I.out,I.wait,I.hold,I.over,λ_=>?_,λe=>(by cases e),λ_=>b,I.nd,I.mem,I.uniq,λe=>(by cases e),λe=>shut_ck' d1 (I.ckj e),I.knw,I.knc,λ_=>⟨PG trivial,shut_ck (I.knc 0 O (b 0 O)).2,λx f=>shut_ck (I.knc x O (b x f)).1⟩⟩
 ·rw [Jr O];exact I.main
 ·rw [Jr O];exact (I.old y c d).1
 ·rw [Jr O];exact I.feed
 ·rw [Jr O];exact I.work y h
 ·rw [shut_i];rfl
theorem Ea.hears(I:Ea cj co cd n ok k0 a c5 k true bo w R N){x m:Nat}(hx:x<a)(hw:w x=.wait m):Ea cj co cd n ok k0 a c5 k true bo (Mh w x .tick) R (N.hear (k0+1+x) cj (.send cd .tick .done)):=by
 have j:=I.pos;have ha:=I.ha;have F:=Sf (w:=w) (x:=x) (v:=.tick) (by rw [hw];rfl);refine ⟨j,I.nn,ha,I.h5,?_,λy c d=>⟨?_,OA (I.old y c d).2⟩,?_,I.hk,I.bjk,I.clj,I.clo,I.cld,λy b=>?_,λy b=>?_,λy m h=>?_,λy m i h=>?_,λy h=>rfl,λe=>?_,λe=>⟨λy=>?_,(I.nofin e).2⟩,λe=>?_,I.nd,λi=>?_,λy z m l i c d=>?_,I.full,I.ckj,λy b h=>?_,λy b h=>?_,I.cko⟩
 ·rw [PH O];exact I.main
 ·rw [PH O];exact (I.old y c d).1
 ·rw [PH O];exact I.feed
 ·by_cases e:y=x
  ·subst e;rw [hear_j,CQ];rfl
  ·rw [PH O,Bm e];exact I.work y b
 ·rw [Bm O];exact I.out y b
 ·by_cases e:y=x
  ·subst e;rw [CQ] at h;cases h
  ·rw [Bm e] at h;exact I.wait y m h
 ·by_cases e:y=x
  ·subst e;rw [CQ] at h;cases h
  ·rw [Bm e] at h;exact I.hold y m i h
 ·have h5:=I.h5 e;rw [PH O,F,F,F];exact I.closer e
 ·by_cases f:y=x
  ·subst f;rw [CQ];intro q;cases q
  ·rw [Bm f];exact (I.nofin e).1 y
 ·have:=I.allfin e x O;rw [hw] at this;cases this
 ·rw [I.mem i];refine or_congr Iff.rfl ⟨?_,?_⟩
  ·rintro ⟨y,m,h⟩;exact ⟨y,m,by rw [Bm (λe=>by subst e;rw [hw] at h;cases h)];exact h⟩
  ·rintro ⟨y,m,h⟩;by_cases e:y=x
   ·subst e;rw [CQ] at h;cases h
   ·rw [Bm e] at h;exact ⟨y,m,h⟩
 ·by_cases g:y=x
  ·subst g;rw [CQ] at c;cases c
  ·by_cases f:z=x
   ·subst f;rw [CQ] at d;cases d
   ·rw [Bm g] at c;rw [Bm f] at d;exact I.uniq y z m l i c d
 ·by_cases e:y=x
  ·subst e;exact Ra (I.ckj rfl)
  ·rw [Bm e] at h;exact OA (I.knw y b h)
 ·by_cases e:y=x
  ·subst e;rw [CQ] at h;cases h
  ·rw [Bm e] at h;exact ⟨OA (I.knc y b h).1,OA (I.knc y b h).2⟩
theorem Ea.ends(I:Ea cj co cd n ok k0 a true k bj true w R N){aY:Nat->Prop}{W:List Nat->DX Ej}:Gm aY (N.hear 0 co (JY ok R W none)):=by
 have u:=I.pos;have v:=I.h5 rfl;have b:=I.allfin rfl;have d:=I.over 0 (.inr (b 0 O));have z:=I.bjk d;have l:R=[]:=List.eq_nil_iff_forall_not_mem.2 λi o=>by
  rcases (I.mem i).1 o with h | ⟨y,m,h⟩
  ·omega
  ·by_cases e:y<3
   ·rw [b y e] at h;cases h
   ·rw [I.out y O] at h;cases h
 have p:(N.hear 0 co (JY ok R W none)).n=N.n:=rfl;refine .stop aY _ (by rw [p,I.nn];omega) (by rw [hear_j,l];rfl) λj C c=>?_;rw [PH O];obtain ⟨q,r,s⟩:=I.cko rfl;rcases I.cases c with rfl | ⟨f,g⟩ | rfl | ⟨x,t,rfl⟩ | ⟨D,rfl⟩
 ·omega
 ·exact ⟨(I.old j f g).1,OA (I.old j f g).2⟩
 ·refine ⟨?_,Ra r⟩;rw [I.feed,d];rfl
 ·refine ⟨?_,Ra (s x O)⟩;rw [I.work x t,b x O];rfl
 ·refine ⟨?_,Ra q⟩;rw [I.closer rfl];rfl
theorem pool_on{aY:Nat->Prop}(d1:cj≠co)(d2:cj≠cd)(d3:co≠cd)(u1:aY cj)(u2:aY co)(u3:aY cd):∀(q a:Nat)(c5:Bool)(k:Nat)(bj bo:Bool)(w:Nat->WS)(R:List Nat)(N:IK Ej),N8 n a c5 k bj bo w=q->Ea cj co cd n ok k0 a c5 k bj bo w R N->Gm aY N:=by
 intro q
 induction q using Nat.strongRecOn with
 | ind q g=>
  intro a c5 k bj bo w R N h I;have M:=I.pos;have ha:=I.ha;have u:∀{x:Nat}{v:WS}(_:x<3)(_:v.left<(w x).left),(Mh w x v 0).left+(Mh w x v 1).left+(Mh w x v 2).left<(w 0).left+(w 1).left+(w 2).left:=by
   intro x v l P;obtain rfl | rfl | rfl:x=0\/x=1\/x=2:=O
   all_goals rw [CQ,Bm O,Bm O];omega
  refine .plain N (by rw [I.nn];omega) I.goes (λi d=>I.fine u1 u2 u3 d) (λN' E=>?_) (λi f d=>I.noMake d);cases E with
  | hire d o=>
   obtain ⟨rfl,rfl,⟨z,rfl,rfl⟩ | ⟨rfl,rfl,rfl⟩⟩:=I.spawn d o
   ·exact g _ (by rw [<-h];unfold N8;omega) _ _ _ _ _ _ _ _ rfl (I.hire1 z)
   ·exact g _ (by rw [<-h];unfold N8;simp) _ _ _ _ _ _ _ _ rfl I.hire2
  | shut d o=>
   rcases I.close d o with ⟨rfl,rfl,rfl,rfl,rfl⟩ | ⟨rfl,rfl,rfl,z,rfl,rfl⟩
   ·exact g _ (by rw [<-h];unfold N8;simp) _ _ _ _ _ _ _ _ rfl (I.fed d1 d2)
   ·exact g _ (by rw [<-h];unfold N8;simp) _ _ _ _ _ _ _ _ rfl (I.shut d1 d3 z)
  | hear r o b=>
   rcases I.recv r o with ⟨rfl,rfl,rfl,rfl⟩ | ⟨x,l,rfl,m,c,rfl,rfl⟩ | ⟨rfl,rfl,rfl,t,s,rfl,rfl⟩
   ·rw [I.clo] at b;subst b;exact I.ends
   ·rw [I.clj] at b;subst b
    have:=u (x:=x) (v:=.tick) O (by rw [c];simp [WS.left])
    exact g _ (by rw [<-h];unfold N8;omega) _ _ _ _ _ _ _ _ rfl (I.hears l c)
   ·rw [I.cld] at b;cases b
  | meet d r F o p=>
   rcases I.send d o with ⟨rfl,rfl,H,rfl,rfl,rfl⟩ | ⟨x,l,rfl,f,j,c,rfl,rfl,rfl⟩ | ⟨x,l,rfl,c,rfl,rfl,rfl⟩
   ·rcases I.recv r p with ⟨rfl,rfl,e,rfl⟩ | ⟨x,l,rfl,m,c,_,rfl⟩ | ⟨rfl,rfl,_,t,s,e,rfl⟩
    ·exact absurd e d1
    ·obtain ⟨f,rfl⟩:∃f,m=f+1:=⟨m-1,by have:=I.wait x m c;omega⟩;have Q:(Mh w x (.hold f k) 0).left+(Mh w x (.hold f k) 1).left+(Mh w x (.hold f k) 2).left<=(w 0).left+(w 1).left+(w 2).left+1:=by
      have V:(w x).left=3:=by rw [c];rfl
      obtain rfl | rfl | rfl:x=0\/x=1\/x=2:=O
      all_goals rw [CQ,Bm O,Bm O];simp only [left_hold];omega
     exact g _ (by rw [<-h];unfold N8;omega) _ _ _ _ _ _ _ _ rfl (I.job H l c)
    ·exact absurd e d2
   ·rcases I.recv r p with ⟨rfl,rfl,_,rfl⟩ | ⟨y,K,rfl,m,C,e,rfl⟩ | ⟨rfl,rfl,_,t,s,e,rfl⟩
    ·obtain ⟨D,I'⟩:=I.res l c
     have:=u (x:=x) (v:=.wait f) O (by rw [c];simp [WS.left])
     show Gm aY (N.meet _ 0 _ (if j ∈ R/\ok j=ok j then _ else _));rw [bV ⟨D,rfl⟩];exact g _ (by rw [<-h];unfold N8;omega) _ _ _ _ _ _ _ _ rfl I'
    ·exact absurd e.symm d1
    ·exact absurd e d3
   ·rcases I.recv r p with ⟨rfl,rfl,e,rfl⟩ | ⟨y,K,rfl,m,C,e,rfl⟩ | ⟨rfl,rfl,rfl,t,s,_,rfl⟩
    ·exact absurd e.symm d3
    ·exact absurd e.symm d2
    ·have:=u (x:=x) (v:=.fin) O (by rw [c];simp [WS.left])
     exact g _ (by rw [<-h];unfold N8;omega) _ _ _ _ _ _ _ _ rfl (I.tick l c s)
theorem mk_s{M:Type}{N:IK M}{i y c:Nat}{nx:DX M}(h:y≠i):(N.mk' i c nx).s y=N.s y:=bU h
theorem mk_i{M:Type}{N:IK M}{i c:Nat}{nx:DX M}:(N.mk' i c nx).s i=nx:=bV rfl
theorem mk_cl{M:Type}{N:IK M}{i c:Nat}{nx:DX M}:(N.mk' i c nx).cl c=false:=bV rfl
theorem mk_cl'{M:Type}{N:IK M}{i c c':Nat}{nx:DX M}(h:c'≠c):(N.mk' i c nx).cl c'=N.cl c':=bU h
structure PTwo(cj co n:Nat)(ok:Nat->Bool)(k0:Nat)(bj:Bool)(N:IK Ej):Prop where
 pos:0<k0
 nn:N.n=k0+1
 main:N.s 0=.make λcd=>JA cj co cd n ok 3
 old:∀j,0<j->j<k0->N.s j=.done/\N.kn 0 j
 feed:N.s k0=if bj then .done else Ic cj n 0
 bjk:bj=true->0=n/\N.ck cj k0
 clj:N.cl cj=bj
 clo:N.cl co=false
theorem PTwo.cases{i:Nat}(I:PTwo cj co n ok k0 bj N)(hi:i<N.n):i=0\/(0<i/\i<k0)\/i=k0:=by have:=I.nn;omega
theorem PTwo.feedC(I:PTwo cj co n ok k0 bj N):N.s k0=.done\/(bj=false/\n=0/\N.s k0=.close cj .done)\/(bj=false/\∃m,N.s k0=.send cj (.job 0) m):=by
 have h:=I.feed;cases b:bj with
 | true=>rw [b] at h;exact .inl h
 | false=>
  rw [b] at h;cases c:n with
  | zero=>rw [c] at h;exact .inr (.inl ⟨rfl,rfl,h⟩)
  | succ m=>rw [c] at h;exact .inr (.inr ⟨rfl,_,h⟩)
theorem PTwo.good(d1:cj≠co):∀(q:Nat)(bj:Bool)(N:IK Ej),(if bj then 0 else 1)=q->PTwo cj co n ok k0 bj N->Gm (λx=>(False\/x=co)\/x=cj) N:=by
 intro q
 induction q using Nat.strongRecOn with
 | ind q C=>
 intro bj N D I;have v:=I.pos;have E:=I.nn;refine .step _ N O (.inr ⟨0,_,O,I.main⟩) (λi l=>?_) (λN' F=>?_) (λi f cd l b t=>?_)
 ·rcases I.cases l with rfl | ⟨d,g⟩ | rfl
  ·rw [I.main];trivial
  ·rw [(I.old i d g).1];show i≠0;omega
  ·rcases I.feedC with e | ⟨o,_,e⟩ | ⟨o,m,e⟩ <;> rw [e]
   ·show _≠0;omega
   ·exact ⟨.inr rfl,by rw [I.clj,o]⟩
   ·exact ⟨.inr rfl,by rw [I.clj,o]⟩
 ·have z:∀j c f,j<N.n->N.s j≠.recv c f:=by
   intro j c f p b;rcases I.cases p with rfl | ⟨d,g⟩ | rfl
   ·rw [I.main] at b;cases b
   ·rw [(I.old j d g).1] at b;cases b
   ·rcases I.feedC with e | ⟨_,_,e⟩ | ⟨_,m,e⟩ <;> rw [e] at b <;> cases b
  cases F with
  | hire l b=>
   rcases I.cases l with rfl | ⟨d,g⟩ | rfl
   ·rw [I.main] at b;cases b
   ·rw [(I.old _ d g).1] at b;cases b
   ·rcases I.feedC with e | ⟨_,_,e⟩ | ⟨_,m,e⟩ <;> rw [e] at b <;> cases b
  | meet _ p _ _ u=>exact absurd u (z _ _ _ p)
  | hear p b _=>exact absurd b (z _ _ _ p)
  | shut l b=>
   rcases I.cases l with rfl | ⟨d,g⟩ | rfl
   ·rw [I.main] at b;cases b
   ·rw [(I.old _ d g).1] at b;cases b
   ·rcases I.feedC with e | ⟨o,H,e⟩ | ⟨_,m,e⟩
    ·rw [e] at b;cases b
    ·rw [e] at b;cases b;refine C 0 (by rw [<-D,o];simp) true _ rfl ⟨v,E,?_,λj d g=>⟨?_,(I.old j d g).2⟩,?_,λ_=>⟨H.symm,PG trivial⟩,Wu,by rw [Lf d1.symm];exact I.clo⟩
     ·rw [Jr O];exact I.main
     ·rw [Jr O];exact (I.old j d g).1
     ·rw [shut_i];rfl
    ·rw [e] at b;cases b
 ·rcases I.cases l with rfl | ⟨d,g⟩ | rfl
  ·rw [I.main] at b;cases b;refine pool_on d1 (λe=>t (.inr e.symm)) (λe=>t (.inl (.inr e.symm))) (.inl (.inr rfl)) (.inl (.inl (.inr rfl))) (.inr rfl) _ 0 false 0 bj false (λ_=>.wait n) (List.range n) _ rfl
    ⟨v,by show N.n=_;simp;omega,O,λe=>(by cases e),by rw [mk_i];rfl,λj d g=>⟨by rw [mk_s O];exact (I.old j d g).1,(I.old j d g).2⟩,by rw [mk_s O];exact I.feed,Nat.zero_le _,λe=>(I.bjk e).1,?_,?_,mk_cl,
     λx r=>absurd r O,λ_ _=>rfl,λx m h=>by cases h;omega,λx m i h=>(by cases h),λx h=>(by rcases h with h | h <;> cases h),λe=>(by cases e),λ_=>⟨λx h=>(by cases h),rfl⟩,λe=>(by cases e),List.nodup_range,λi=>?_,λx y m K i h=>(by cases h),λ_=>rfl,λe=>(I.bjk e).2,
     λx r=>absurd r O,λx r=>absurd r O,λe=>(by cases e)⟩
   ·rw [mk_cl' (λe=>t (.inr e.symm))];exact I.clj
   ·rw [mk_cl' (λe=>t (.inl (.inr e.symm)))];exact I.clo
   ·rw [List.mem_range];constructor
    ·exact λh=>.inl ⟨Nat.zero_le _,h⟩
    ·rintro (h | ⟨x,m,h⟩)
     ·exact h.2
     ·cases h
  ·rw [(I.old _ d g).1] at b;cases b
  ·rcases I.feedC with e | ⟨_,_,e⟩ | ⟨_,m,e⟩ <;> rw [e] at b <;> cases b
theorem pool_good{N:IK Ej}(bK:StartM (poolS n ok) N):Gm (λ_=>False) N:=by
 obtain ⟨p,u,o⟩:=bK;have t:∀{N:IK Ej}{z:DX Ej},N.s 0=z->(∀j,0<j->j<N.n->N.s j=.done/\N.kn 0 j)->∀i,i<N.n->(i=0/\N.s i=z)\/(i≠0/\N.s i=.done):=by
  intro N z l m i d;rcases Nat.eq_zero_or_pos i with rfl | hp
  ·exact .inl ⟨rfl,l⟩
  ·exact .inr ⟨O,(m i hp d).1⟩
 have made:∀{v:Nat->Prop}{N:IK Ej}{f:Nat->DX Ej},0<N.n->N.s 0=.make f->(∀j,0<j->j<N.n->N.s j=.done/\N.kn 0 j)->
   (∀c,¬v c->Gm (λx=>v x\/x=c) (N.mk' 0 c (f c)))->Gm v N:=by
  intro v N f p u o D;have q:=t u o;refine .step _ N p (.inr ⟨0,f,p,u⟩) (λi d=>?_) (λN' C=>?_) (λi g c d b y=>?_)
  ·rcases q i d with ⟨rfl,e⟩ | ⟨h,e⟩ <;> rw [e]
   ·trivial
   ·exact h
  ·cases C with
   | hire d b=>rcases q _ d with ⟨rfl,e⟩ | ⟨h,e⟩ <;> rw [e] at b <;> cases b
   | meet d _ _ b _=>rcases q _ d with ⟨rfl,e⟩ | ⟨h,e⟩ <;> rw [e] at b <;> cases b
   | shut d b=>rcases q _ d with ⟨rfl,e⟩ | ⟨h,e⟩ <;> rw [e] at b <;> cases b
   | hear d b _=>rcases q _ d with ⟨rfl,e⟩ | ⟨h,e⟩ <;> rw [e] at b <;> cases b
  ·rcases q i d with ⟨rfl,e⟩ | ⟨h,e⟩
   ·rw [e] at b;cases b;exact D c y
   ·rw [e] at b;cases b
 refine made p u o λco _=>made p mk_i (λj l m=>⟨by rw [mk_s O];exact (o j l m).1,(o j l m).2⟩) λcj y=>?_;have r:=t (N:=(N.mk' 0 co (.make λcj=>.spawn (Ic cj n 0) (.make λcd=>JA cj co cd n ok 3))).mk' 0 cj (.spawn (Ic cj n 0) (.make λcd=>JA cj co cd n ok 3))) mk_i
  (λj l m=>⟨by rw [mk_s O,mk_s O];exact (o j l m).1,(o j l m).2⟩)
 refine .plain _ p ⟨_,.hire p mk_i⟩ (λi d=>?_) (λN' C=>?_) (λi f d b=>?_)
 ·rcases r i d with ⟨rfl,e⟩ | ⟨h,e⟩ <;> rw [e]
  ·trivial
  ·exact h
 ·cases C with
  | meet d _ _ b _=>rcases r _ d with ⟨rfl,e⟩ | ⟨h,e⟩ <;> rw [e] at b <;> cases b
  | shut d b=>rcases r _ d with ⟨rfl,e⟩ | ⟨h,e⟩ <;> rw [e] at b <;> cases b
  | hear d b _=>rcases r _ d with ⟨rfl,e⟩ | ⟨h,e⟩ <;> rw [e] at b <;> cases b
  | hire d b=>
   rcases r _ d with ⟨rfl,e⟩ | ⟨h,e⟩
   ·rw [e] at b;cases b;refine PTwo.good (k0:=N.n) (n:=n) (ok:=ok) (λe=>y (.inr e)) _ false _ rfl ⟨p,rfl,?_,λj l m=>⟨?_,?_⟩,?_,λe=>(by cases e),bV rfl,?_⟩
    ·rw [hire_i (λe=>by have:0=N.n:=e;omega)]
    ·rw [NG (λe=>by have:j=N.n:=e;omega) O,mk_s O,mk_s O];exact (o j l m).1
    ·exact N9 (λe=>by have:0=N.n:=e;omega) (λe=>by have:j=N.n:=e;omega) (o j l m).2
    ·exact Se
    ·show (if co=cj then false else if co=co then false else N.cl co)=false;rw [bU (λe=>y (.inr e.symm)),bV rfl]
   ·rw [e] at b;cases b
 ·rcases r i d with ⟨rfl,e⟩ | ⟨h,e⟩ <;> rw [e] at b <;> cases b
end
end Go.Ns
namespace Go.Ns
def F9(s:bY):Array bW:=#[.string s]
structure AF where
 a:Int
 b:Int
 low:Int
 high:Int
structure AY where
 place:Int
 low:Int
 high:Int
 due:Int
 pv:bW
 parts:List Int
structure AO where
 wv:bW
 ways:List Int
 low:Int
 high:Int
def EW(x:AF):Array bW:=#[.int .i64 x.a,.int .i64 x.b,.int .i64 x.low,.int .i64 x.high]
def Dk(x:AY):Array bW:=#[.int .i64 x.place,.int .i64 x.low,.int .i64 x.high,.int .i64 x.due,x.pv]
def Co(x:AO):Array bW:=#[x.wv,.int .i64 x.low,.int .i64 x.high]
def AF.z:AF:=⟨0,0,0,0⟩
def AY.z:AY:=⟨0,0,0,0,.slice none 0 0,[]⟩
def AO.z:AO:=⟨.slice none 0 0,[],0,0⟩
def DJ(h:A)(js:List AY):Prop:=∀k,Ai h (js.getD k AY.z).pv 1 eI (js.getD k AY.z).parts
def BR(h:A)(ns:List AO):Prop:=∀k,Ai h (ns.getD k AO.z).wv 1 eI (ns.getD k AO.z).ways
theorem DJ.le{h h':A}{js:List AY}(x:DJ h js)(l:h.Le h'):DJ h' js:=λk=>(x k).le l
theorem BR.le{h h':A}{ns:List AO}(x:BR h ns)(l:h.Le h'):BR h' ns:=λk=>(x k).le l
theorem BR.nil(h:A):BR h []:=λk=>by simpa [AO.z] using Ai.nil h 1 eI
def Mx(l h top many:Int):Prop:=((0<=l/\l<=h)/\h<=top)/\h-l<many
instance (l h top many:Int):Decidable (Mx l h top many):=inferInstanceAs (Decidable (_/\_))
def HX(bP bO:Int):Int:=if¬(0<=bP/\bP<=9)\/¬(0<=bO/\bO<=3) then 1 else 0
def GV(ps:List bY)(k:Nat):Int:=if GE (ps.getD k ⟨#[]⟩)=false then 4 else if (ps.take k).any (λx=>(ps.getD k ⟨#[]⟩).toList==x.toList) then 5 else 0
def B4(ps:List bY):Int:=if¬(1<=(ps.length:Int)/\(ps.length:Int)<=4) then 2 else Da (GV ps) 0 ps.length
def FX(np:Nat)(l:List Int)(k:Nat):Int:=if¬(0<=l.getD k 0/\l.getD k 0<=(np:Int)-1) then 6 else 0
def BE(np:Nat)(l:List Int):Int:=Da (FX np l) 0 l.length
def Dx(np:Nat)(ws:List AF)(k:Nat):Int:=
 if¬BE np [(ws.getD k AF.z).a,(ws.getD k AF.z).b]=0 then BE np [(ws.getD k AF.z).a,(ws.getD k AF.z).b]
 else if (ws.getD k AF.z).b<=(ws.getD k AF.z).a then 7
 else if (ws.take k).any (λy=>decide (y.a=(ws.getD k AF.z).a/\y.b=(ws.getD k AF.z).b)) then 5
 else if¬Mx (ws.getD k AF.z).low (ws.getD k AF.z).high 30 2 then 1 else 0
abbrev G2:=Nat->Bool
def HY(c:G2):Array bW:=#[.bool (c 0),.bool (c 1),.bool (c 2),.bool (c 3)]
def G2.none:G2:=λ_=>false
def G2.set(c:G2)(i:Nat)(b:Bool):G2:=λk=>if k=i then b else c k
theorem Lg{c:G2}{i:Nat}(h:i<4):(HY c)[0+i*1]? =some (.bool (c i)):=by
 match i,h with
 | 0,_=>rfl
 | 1,_=>rfl
 | 2,_=>rfl
 | 3,_=>rfl
theorem Sg{c:G2}{i:Nat}{b:Bool}(h:i<4):CK (HY c) (0+i*1) [.bool b]=HY (c.set i b):=by
 match i,h with
 | 0,_=>rfl
 | 1,_=>rfl
 | 2,_=>rfl
 | 3,_=>rfl
def GF(c:G2)(x:AF):G2:=(c.set x.a.toNat (c x.a.toNat || c x.b.toNat)).set x.b.toNat ((c.set x.a.toNat (c x.a.toNat || c x.b.toNat)) x.b.toNat || (c.set x.a.toNat (c x.a.toNat || c x.b.toNat)) x.a.toNat)
def IN(ws:List AF)(c:G2):G2:=ws.foldl GF c
def FB(ws:List AF):Nat->G2->G2
 | 0,c=>c
 | n+1,c=>FB ws n (IN ws c)
def OB(c:G2)(n:Nat):List Bool:=(List.range n).map c
def FY(np:Nat)(ws:List AF):Int:=if (OB (FB ws np (G2.none.set 0 true)) np).any (λx=>(false==x)) then 8 else 0
def Fo(np:Nat)(ws:List AF):Int:=if (5:Int)<ws.length then 2 else if¬Da (Dx np ws) 0 ws.length=0 then Da (Dx np ws) 0 ws.length else FY np ws
def HD(np:Nat)(bO:Int)(js:List AY)(k:Nat):Int:=
 if¬BE np [(js.getD k AY.z).place]=0 then BE np [(js.getD k AY.z).place]
 else if¬Mx (js.getD k AY.z).low (js.getD k AY.z).high 30 2\/¬(0<=(js.getD k AY.z).due/\(js.getD k AY.z).due<=200) then 1
 else if¬((js.getD k AY.z).parts.length:Int)=bO then 2
 else if (js.getD k AY.z).parts.any (λn=>decide (¬(0<=n/\n<=5))) then 1 else 0
def Cg(np:Nat)(bO:Int)(js:List AY):Int:=if (4:Int)<js.length then 2 else Da (HD np bO js) 0 js.length
def Ek(nw:Nat)(ns:List AO)(k:Nat):Int:=
 if (5:Int)<(ns.getD k AO.z).ways.length then 2
 else if (ns.getD k AO.z).ways.any (λn=>decide (¬(0<=n/\n<=(nw:Int)-1))) then 6
 else if¬Mx (ns.getD k AO.z).low (ns.getD k AO.z).high 200 201 then 1 else 0
def DP(nw:Nat)(ns:List AO):Int:=if (4:Int)<ns.length then 2 else Da (Ek nw ns) 0 ns.length
def Js(bP bO:Int)(ps:List bY)(ws:List AF)(js:List AY)(ns:List AO):Nat->Int
 | 0=>HX bP bO
 | 1=>B4 ps
 | 2=>Fo ps.length ws
 | 3=>Cg ps.length bO js
 | _=>DP ws.length ns
def B7(bP bO:Int)(ps:List bY)(ws:List AF)(js:List AY)(ns:List AO):Int:=Da (Js bP bO ps ws js ns) 0 5
theorem Gt{np:Nat}:∀{l:List Int},BE np l=0->∀x ∈ l,0<=x/\x<=(np:Int)-1:=by
 intro l h x b;obtain ⟨k,c,rfl⟩:=List.mem_iff_getElem.1 b;have a:=EF h k (Nat.zero_le _) O;unfold FX at a;rw [Cy 0 c] at a;by_cases e:0<=l[k]/\l[k]<=(np:Int)-1
 ·exact e
 ·rw [bV e] at a;cases a
structure WayOK(np:Nat)(x:AF):Prop where
 a:0<=x.a/\x.a<=(np:Int)-1
 b:0<=x.b/\x.b<=(np:Int)-1
 lt:x.a<x.b
 time:0<=x.low/\x.low<=x.high/\x.high<=30/\x.high-x.low<2
theorem wayAt_ok'{np:Nat}{ws:List AF}{k:Nat}(h:Dx np ws k=0):WayOK np (ws.getD k AF.z):=by
 unfold Dx at h;split at h
 ·rename_i e;exact absurd h e
 ·rename_i e
  have b:=Decidable.not_not.1 e;have c:=Gt b _ (List.mem_cons_self);have d:=Gt b _ (List.mem_cons_of_mem _ List.mem_cons_self);split at h
  ·cases h
  ·split at h
   ·cases h
   ·split at h
    ·cases h
    ·rename_i f
     have a:=Decidable.not_not.1 f;unfold Mx at a;exact ⟨c,d,O,O⟩
theorem JB{np:Nat}{ws:List AF}(h:∀k,k<ws.length->Dx np ws k=0)(k:Nat)(hk:k<ws.length):WayOK np (ws.getD k AF.z):=wayAt_ok' (h k hk)
theorem way_rng{np:Nat}{ws:List AF}(h:∀k,k<ws.length->Dx np ws k=0)(hnp:np<=4)(k:Nat):0<=(ws.getD k AF.z).a/\(ws.getD k AF.z).a<4/\0<=(ws.getD k AF.z).b/\(ws.getD k AF.z).b<4:=by
 rcases Nat.lt_or_ge k ws.length with hk | hk
 ·have x:=JB h k hk;have c:=x.a;have d:=x.b;omega
 ·rw [CH hk];exact ⟨Int.le_refl _,aF,Int.le_refl _,aF⟩
theorem Ik{np:Nat}{ws:List AF}{k:Nat}{c:Int}(h5:¬(5:Int)<ws.length)(hs:∀j,j<k->Dx np ws j=0)(hk:k<ws.length)(e:Dx np ws k=c)(hc:c≠0):Fo np ws=c:=by
 have a:=Bw hs hk e hc;rw [Fo,bU h5,a,bV hc]
theorem Wv{np:Nat}{ws:List AF}{k:Nat}(h5:¬(5:Int)<ws.length)(hs:∀j,j<k->Dx np ws j=0)(hk:ws.length<=k):Fo np ws=FY np ws:=by
 rw [Fo,bU h5,DA hs hk,bU aG]
theorem Sh{ps:List bY}(h:B4 ps=0):ps.length<=4:=by
 unfold B4 at h;split at h
 ·cases h
 ·rename_i e;have:=Decidable.not_not.1 e;omega
theorem Ww{np:Nat}{l:List Int}{k:Nat}(h:∀j,j<k->FX np l j=0)(hk:k<l.length)(e:¬(0<=l.getD k 0/\l.getD k 0<=(np:Int)-1)):BE np l=6:=
 Bw h hk (by unfold FX;rw [bV e]) aF
theorem YT{np:Nat}{l:List Int}{k:Nat}(h:∀j,j<k->FX np l j=0)(hk:l.length<=k):BE np l=0:=DA h hk
structure Bd(bP bO:Int)(ps:List bY)(ws:List AF)(js:List AY)(ns:List AO):Prop where
 hbag:0<=bP/\bP<=9
 hkin:0<=bO/\bO<=3
 plen:1<=ps.length/\ps.length<=4
 place:∀k,k<ps.length->GV ps k=0
 wlen:ws.length<=5
 way:∀k,k<ws.length->Dx ps.length ws k=0
 led:FY ps.length ws=0
 jlen:js.length<=4
 job:∀k,k<js.length->HD ps.length bO js k=0
 nlen:ns.length<=4
 note:∀k,k<ns.length->Ek ws.length ns k=0
theorem Db{bP bO:Int}{ps:List bY}{ws:List AF}{js:List AY}{ns:List AO}(h:B7 bP bO ps ws js ns=0):Bd bP bO ps ws js ns:=by
 have b:=EF h;have f:HX bP bO=0:=b 0 O O;have c:B4 ps=0:=b 1 O O;have a:Fo ps.length ws=0:=b 2 O O;have d:Cg ps.length bO js=0:=b 3 O O;have e:DP ws.length ns=0:=b 4 O O;unfold HX at f;unfold B4 at c;unfold Fo at a;unfold Cg at d;unfold DP at e;split at f
 ·cases f
 rename_i p
 split at c
 ·cases c
 rename_i q
 split at a
 ·cases a
 rename_i r
 split at a
 ·rename_i g;exact absurd a g
 rename_i g
 split at d
 ·cases d
 rename_i s
 split at e
 ·cases e
 rename_i t
 have j:(0<=bP/\bP<=9)/\(0<=bO/\bO<=3):=O
 have l:=EF c;have m:=EF (Decidable.not_not.1 g);have n:=EF d;have o:=EF e;exact ⟨j.1,j.2,O,λk i=>l k (Nat.zero_le _) O,O,λk i=>m k (Nat.zero_le _) O,a,O,λk i=>n k (Nat.zero_le _) O,O,λk i=>o k (Nat.zero_le _) O⟩
structure JobOK(np:Nat)(bO:Int)(x:AY):Prop where
 place:0<=x.place/\x.place<=(np:Int)-1
 time:0<=x.low/\x.low<=x.high/\x.high<=30/\x.high-x.low<2
 due:0<=x.due/\x.due<=200
 len:(x.parts.length:Int)=bO
 part:∀q,0<=x.parts.getD q 0/\x.parts.getD q 0<=5
theorem Lh{np:Nat}{bO:Int}{js:List AY}{k:Nat}(h:HD np bO js k=0):JobOK np bO (js.getD k AY.z):=by
 unfold HD at h;split at h
 ·rename_i e;exact absurd h e
 rename_i e
 have a:=Gt (Decidable.not_not.1 e) _ (List.mem_cons_self);split at h
 ·cases h
 rename_i b
 split at h
 ·cases h
 rename_i c
 split at h
 ·cases h
 rename_i d
 unfold Mx at b;refine ⟨a,O,O,Decidable.not_not.1 c,λq=>?_⟩;rcases Nat.lt_or_ge q (js.getD k AY.z).parts.length with hq | hq
 ·have f:¬∃x ∈ (js.getD k AY.z).parts,¬(0<=x/\x<=5):=by simpa [List.any_eq_true] using d
  exact Classical.byContradiction λz=>f ⟨_,CS hq,z⟩
 ·rw [CH hq];decide
end Go.Ns
