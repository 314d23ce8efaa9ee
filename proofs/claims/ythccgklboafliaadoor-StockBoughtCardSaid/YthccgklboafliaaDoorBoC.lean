/- Rules and walks, part 3 of 6. No conditions. -/
import Derived.Carry
import Derived.Conc.LeavingOf
import Derived.LaidMore
import Derived.OpenShut
import Derived.ProofKit
import Derived.Test.YthccgklboafliaaDoorBoA
import Derived.Test.YthccgklboafliaaDoorBoB
import Derived.Test.YthccgklboafliaaDoorProg
set_option linter.unusedVariables false
set_option linter.unusedSimpArgs false
set_option linter.unnecessarySimpa false
set_option linter.unusedSectionVars false
namespace Go.Ns
open Go.Conc
section
variable {P:Program} {M:Type}
structure FEnv (P:Program) (M:Type) where
 W:Wk P
 Rep:Nat→M→Value→GH→Prop
 main:Bool
 fn:FuncId
 rd:Option Nat
 N:Nat
def FEnv.wk (F:FEnv P M):Option (Scr M)→Wk P
 | none=>F.W
 | some s=>⟨F.main,RunTo P F.main (StopOf P F.Rep F.W.K s F.main),runTo_closed _ _⟩
abbrev FEnv.env (F:FEnv P M) (i:Option (Scr M)):Env P:=⟨F.wk i,F.fn,F.rd,F.N⟩
abbrev PostI (M:Type):=Option (Scr M)→Exit→(Nat→Value)→List Deferred→GH→Prop
def TrI (F:FEnv P M) (c:Code) (i:Option (Scr M)) (σ:Nat→Value) (ds:List Deferred) (h:GH) (Q:PostI M):Prop:=
 ∀(b:Frame) (k:List Item) (cs:List Frame) (L:Option (Scr M)→Lv) (t:Array Value),b.fn=F.fn→b.roundOf=F.rd→(∀i,LeaveOK (F.wk i) b cs (L i))→SlotsAre t F.N σ→
  (∀i e σ' ds' h',Q i e σ' ds' h'→∀t',SlotsAre t' F.N σ'→After (F.wk i) (L i) b k cs e t' ds' h')→(F.wk i).K (G (fat b t ds (.code c ::k)) cs) h
def TrLI (F:FEnv P M) (ops:Array Oper) (l:List Oper) (i:Option (Scr M)) (σ:Nat→Value) (ds:List Deferred) (h:GH) (Q:PostI M):Prop:=
 ∀(n:Nat) (b:Frame) (k:List Item) (cs:List Frame) (L:Option (Scr M)→Lv) (t:Array Value),(∀j,l[j]? =ops[n+j]?)→b.fn=F.fn→b.roundOf=F.rd→(∀i,LeaveOK (F.wk i) b cs (L i))→SlotsAre t F.N σ→
  (∀i e σ' ds' h',Q i e σ' ds' h'→∀t',SlotsAre t' F.N σ'→After (F.wk i) (L i) b k cs e t' ds' h')→(F.wk i).K (G (fat b t ds (.inRegion ops (List.range' n l.length) ::k)) cs) h
variable {F:FEnv P M} {i:Option (Scr M)} {σ:Nat→Value} {ds:List Deferred} {h:GH} {Q:PostI M}
theorem trI_lift {c:Code} (x:Tr (F.env i) c σ ds h (Q i)):TrI F c i σ ds h Q:=fun b k cs L t hb hr hl hs hc=>x b k cs (L i) t hb hr (hl i) hs (hc i)
theorem trI_seq {x y:Code} (a:TrI F x i σ ds h (fun i e σ' ds' h'=>match e with | .normal=>TrI F y i σ' ds' h' Q | e=>Q i e σ' ds' h')):TrI F (.seq x y) i σ ds h Q:=by
 intro b k cs L t hb hr hl hs hc;refine Wk.go (fat b t ds (.code x ::.code y ::k)) (fun w=>by rw [stepG_fat];simp [stepG.exec,fat,G]) ?_;refine a b (.code y ::k) cs L t hb hr hl hs fun i e σ' ds' h' q t' ht'=>?_;cases e with
 | normal=>exact q b k cs L t' hb hr hl ht' hc
 | exit id=>exact After.push rfl (by simp) (hc _ _ _ _ _ q t' ht')
 | ret=>exact After.push rfl (by simp) (hc _ _ _ _ _ q t' ht')
 | goto l=>exact After.push rfl (by simp) (hc _ _ _ _ _ q t' ht')
 | panic l=>exact After.push rfl (by simp) (hc _ _ _ _ _ q t' ht')
 | outgrown=>exact After.push rfl (by simp) (hc _ _ _ _ _ q t' ht')
theorem trI_seq_lift {x y:Code} (a:Tr (F.env i) x σ ds h (fun e σ' ds' h'=>match e with | .normal=>TrI F y i σ' ds' h' Q | e=>Q i e σ' ds' h')):TrI F (.seq x y) i σ ds h Q:=
 trI_seq (trI_lift (Q:=fun i e σ' ds' h'=>match e with | .normal=>TrI F y i σ' ds' h' Q | e=>Q i e σ' ds' h') a)
theorem trI_cond {c:Operand} {x y:Code} {t:Bool} (hc:evalS σ c=.bool t) (a:TrI F (if t then x else y) i σ ds h Q):TrI F (.cond c x y) i σ ds h Q:=by
 intro b k cs L tm hb hr hl hs hq;refine Wk.go (fat b tm ds (.code (if t then x else y) ::k)) (fun w=>?_) (a b k cs L tm hb hr hl hs hq);have he:(fat b tm ds (.code (.cond c x y) ::k)).eval c=.bool t:=by rw [eval_fat hs];exact hc
 simp only [fat] at he;rw [stepG_fat];simp [stepG.exec,fat,G,he]
theorem trI_true {c:Operand} {x y:Code} (hc:evalS σ c=.bool true) (a:TrI F x i σ ds h Q):TrI F (.cond c x y) i σ ds h Q:=trI_cond hc a
theorem trI_false {c:Operand} {x y:Code} (hc:evalS σ c=.bool false) (a:TrI F y i σ ds h Q):TrI F (.cond c x y) i σ ds h Q:=trI_cond hc a
theorem trI_ifb {c:Operand} {x y:Code} {t:Bool} (hc:evalS σ c=.bool t) (a:t=true→TrI F x i σ ds h Q) (a':t=false→TrI F y i σ ds h Q):TrI F (.cond c x y) i σ ds h Q:=by
 cases t with
 | true=>exact trI_true hc (a rfl)
 | false=>exact trI_false hc (a' rfl)
theorem trI_block {id:Nat} {c:Code} (a:TrI F c i σ ds h (fun i e σ' ds' h'=>match e with | .normal=>Q i .normal σ' ds' h' | .exit id'=>if id'=id then Q i .normal σ' ds' h' else Q i (.exit id') σ' ds' h' | e=>Q i e σ' ds' h')) :
  TrI F (.block id c) i σ ds h Q:=by
 intro b k cs L t hb hr hl hs hc;refine Wk.go (fat b t ds (.code c ::.inBlock id ::k)) (fun w=>by rw [stepG_fat];simp [stepG.exec,fat,G]) ?_;refine a b (.inBlock id ::k) cs L t hb hr hl hs fun i e σ' ds' h' q t' ht'=>?_;cases e with
 | normal=>exact Wk.go (fat b t' ds' k) (fun w=>by rw [stepG_fat];simp [stepG.exec,fat,G]) (hc _ _ _ _ _ q t' ht')
 | exit id'=>
  by_cases hid:id'=id
  ·simp only [hid,if_true] at q
   have:=hc _ _ _ _ _ q t' ht'
   simp only [After,exitTo,hid,beq_self_eq_true,if_true];exact this
  ·simp only [hid,if_false] at q
   have:=hc _ _ _ _ _ q t' ht'
   have hne:(id==id')=false:=by simp;exact fun h=>hid h.symm
   simp only [After,exitTo,hne] at this ⊢;exact this
 | ret=>exact hc _ _ _ _ _ q t' ht'
 | goto l=>exact hc _ _ _ _ _ q t' ht'
 | panic l=>exact hc _ _ _ _ _ q t' ht'
 | outgrown=>exact hc _ _ _ _ _ q t' ht'
theorem trI_loop {c:Code} (I:Nat→Option (Scr M)→(Nat→Value)→List Deferred→GH→Prop) {n:Nat} (i0:I n i σ ds h)
  (round:∀n i σ ds h,I n i σ ds h→TrI F c i σ ds h (fun i e σ' ds' h'=>match e with | .normal=>∃m,m<n∧I m i σ' ds' h' | e=>Q i e σ' ds' h')):TrI F (.loop c) i σ ds h Q:=by
 intro b k cs L t hb hr hl hs hc;refine Wk.go (fat b t ds (.code c ::.inLoop c ::k)) (fun w=>by rw [stepG_fat];simp [stepG.exec,fat,G]) ?_;have key:∀n i σ ds h t,I n i σ ds h→SlotsAre t F.N σ→(F.wk i).K (G (fat b t ds (.code c ::.inLoop c ::k)) cs) h:=by
  intro n
  induction n using Nat.strongRecOn with
  | ind n ih=>
   intro i σ ds h t hi hs;refine round n i σ ds h hi b (.inLoop c ::k) cs L t hb hr hl hs fun i e σ' ds' h' q t' ht'=>?_;cases e with
   | normal=>
    obtain ⟨m,hm,hi'⟩:=q;exact Wk.go (fat b t' ds' (.code c ::.inLoop c ::k)) (fun w=>by rw [stepG_fat];simp [stepG.exec,fat,G]) (ih m hm _ _ _ _ _ hi' ht')
   | exit id=>exact After.push rfl (by simp) (hc _ _ _ _ _ q t' ht')
   | ret=>exact After.push rfl (by simp) (hc _ _ _ _ _ q t' ht')
   | goto l=>exact After.push rfl (by simp) (hc _ _ _ _ _ q t' ht')
   | panic l=>exact After.push rfl (by simp) (hc _ _ _ _ _ q t' ht')
   | outgrown=>exact After.push rfl (by simp) (hc _ _ _ _ _ q t' ht')
 exact key n i σ ds h t i0 hs
theorem trI_region {id:Nat} {l:List Oper} (a:TrLI F l.toArray l i σ ds h Q):TrI F (.region id l.toArray false) i σ ds h Q:=by
 intro b k cs L t hb hr hl hs hc;refine Wk.go (fat b t ds (.inRegion l.toArray (List.range' 0 l.length) ::k)) (fun w=>?_) (a 0 b k cs L t (by simp) hb hr hl hs hc);rw [stepG_fat];simp [stepG.exec,fat,G,List.range_eq_range']
theorem trLI_nil {ops:Array Oper} (q:Q i .normal σ ds h):TrLI F ops [] i σ ds h Q:=by
 intro n b k cs L t hi hb hr hl hs hc;exact Wk.go (fat b t ds k) (fun w=>by rw [stepG_fat];simp [stepG.exec,fat,G]) (hc _ _ _ _ _ q t hs)
theorem trLI_plain {ops:Array Oper} {o:Oper} {l:List Oper} (hg:o.guard=none) (hdf:F.rd=none∨isDefer o.op=false) (hd:dstOK o.dst F.N=true)
  (x:OpK (F.env i) o σ ds h fun σ' ds' h'=>TrLI F ops l i σ' ds' h' Q):TrLI F ops (o ::l) i σ ds h Q:=by
 intro n b k cs L t hi hb hr hl hs hc;have ho:ops[n]? =some o:=by simpa using (hi 0).symm
 refine step_op (E:=F.env i) (rest:=List.range' (n+1) l.length) ho (by simp [Region.wanted,hg]) (hr▸hdf) hd hs x fun σ' ds' h' y t' ht'=>?_;exact y (n+1) b k cs L t' (fun j=>by have:=hi (j+1);simpa [Nat.add_assoc,Nat.add_comm 1 j] using this) hb hr hl ht' hc
theorem stepG_at {main:Bool} {b:Frame} {t:Array Value} {ops:Array Oper} {n:Nat} {rest:List Nat} {k:List Item} {cs:List Frame} {o:Oper} {N:Nat} (hs:SlotsAre t N σ) (ho:ops[n]? =some o) (hw:Region.wanted o (yielded ops t)=true)
  (hdf:b.roundOf=none∨isDefer o.op=false) (w:World):stepG P main (G (fat b t ds (.inRegion ops (n ::rest) ::k)) cs) w=stepG.apply P true (fat b t ds (.inRegion ops (n ::rest) ::k)) cs none (execOp (evalS σ) o) w:=by
 have hev:=eval_fat (b:=b) (ds:=ds) (k:=.inRegion ops (n ::rest) ::k) hs;rw [←hev];have hw':((ops[n]?).map (Region.wanted · (yielded ops t))).getD false=true:=by simp [ho,hw]
 rw [stepG_fat];unfold stepG.exec;simp only [fat,hw',↓reduceIte];unfold stepG.oper;simp only [Frame.oper?,ho];rcases hdf with e | e
 ·simp only [e]
 ·cases hq:o.op <;> first | rfl | (rw [hq] at e;cases e;done) | (cases b.roundOf <;> rfl)
theorem comm_at {main:Bool} {b:Frame} {t:Array Value} {ops:Array Oper} {n:Nat} {rest:List Nat} {k:List Item} {cs:List Frame} {o:Oper} {N:Nat} {w:World} {cc:Array CommCase} {bl:Bool} {sh:CommShape} (hs:SlotsAre t N σ) (ho:ops[n]? =some o) (hw:Region.wanted o (yielded ops t)=true)
  (hdf:b.roundOf=none∨isDefer o.op=false) (hr:(execOp (evalS σ) o).runT P w #[]=(.ok (.comm cc bl sh) w,#[])) :
  stepG P main (G (fat b t ds (.inRegion ops (n ::rest) ::k)) cs) w=.comm (G (fat b t ds (.inRegion ops (n ::rest) ::k)) cs) cc bl sh w #[]:=by
 rw [stepG_at hs ho hw hdf];simp only [stepG.apply,hr,if_true,ite_self,seen_none];rfl
theorem spawn_at {main:Bool} {b:Frame} {t:Array Value} {ops:Array Oper} {n:Nat} {rest:List Nat} {k:List Item} {cs:List Frame} {o:Oper} {N:Nat} {w:World} {f:Fn} {cap args:Array Value} (hs:SlotsAre t N σ) (ho:ops[n]? =some o) (hw:Region.wanted o (yielded ops t)=true)
  (hdf:b.roundOf=none∨isDefer o.op=false) (hr:(execOp (evalS σ) o).runT P w #[]=(.ok (.spawn { target:=.fn f cap,args:=args }) w,#[])) :
  stepG P main (G (fat b t ds (.inRegion ops (n ::rest) ::k)) cs) w=.spawn (G ((fat b t ds (.inRegion ops (n ::rest) ::k)).finish undef) cs) (born P { target:=.fn f cap,args:=args }) w #[]:=by
 rw [stepG_at hs ho hw hdf];simp only [stepG.apply,hr,if_true,ite_self,seen_none];simp [GStep.after,G,born]
variable {ops:Array Oper} {o:Oper} {l:List Oper}
theorem trLI_never (hl:l≠[]):TrLI F ops l (some .never) σ ds h Q:=fun n b k cs L t hi hb hr _ hs hc=>RunTo.stop rfl
theorem trLI_send {c:Nat} {m:M} {nx:Scr M} {v z:Value} {hm h1:GH} (hg:o.guard=none) (hdf:isDefer o.op=false) (hd:dstOK o.dst F.N=true)
  (hr:∀w,(execOp (evalS σ) o).runT P w #[]=(.ok (.comm #[scase c v z] true .send) w,#[])) (hsp:GH.Split h h1 hm) (hrep:F.Rep c m v hm) (hnx:¬nx.isDone)
  (x:TrLI F ops l (some nx) (putS σ o.dst undef) ds h1 Q):TrLI F ops (o ::l) (some (.send c m nx)) σ ds h Q:=by
 intro n b k cs L t hi hb hrd hl hs hc;have ho:ops[n]? =some o:=by simpa using (hi 0).symm
 refine RunTo.stop ⟨_,cs,v,z,hm,h1,rfl,⟨fun w f=>?_,hsp,hrep,?_⟩⟩
 ·rw [List.length_cons,List.range'_succ];exact comm_at hs ho (by simp [Region.wanted,hg]) (.inr hdf) (hr w)
 ·rw [does_run hnx,List.length_cons,List.range'_succ,finish_fat ho];exact x (n+1) b k cs L _ (fun j=>by have:=hi (j+1);simpa [Nat.add_assoc,Nat.add_comm 1 j] using this) hb hrd hl (hs.putS hd undef) hc
theorem trLI_recv {c:Nat} {f:Option M→Scr M} {z:Value} {ok:Bool} (hg:o.guard=none) (hdf:isDefer o.op=false) (hd:dstOK o.dst F.N=true)
  (hr:∀w,(execOp (evalS σ) o).runT P w #[]=(.ok (.comm #[rcase c z] true (.recv ok)) w,#[])) (hnx:∀o,¬(f o).isDone)
  (x:∀m v hm,F.Rep c m v hm→h.Compat hm→TrLI F ops l (some (f (some m))) (putS σ o.dst (recvd ok v true)) ds (h.join hm) Q)
  (y:TrLI F ops l (some (f none)) (putS σ o.dst (recvd ok z false)) ds h Q):TrLI F ops (o ::l) (some (.recv c f)) σ ds h Q:=by
 intro n b k cs L t hi hb hrd hl hs hc;have ho:ops[n]? =some o:=by simpa using (hi 0).symm
 refine RunTo.stop ⟨_,cs,z,ok,rfl,⟨fun w fw=>?_,fun m v hm hrep hcp=>?_,?_⟩⟩
 ·rw [List.length_cons,List.range'_succ];exact comm_at hs ho (by simp [Region.wanted,hg]) (.inr hdf) (hr w)
 ·show Does P F.Rep F.W.K (f (some m)) F.main _ _;rw [does_run (hnx _),List.length_cons,List.range'_succ,finish_fat ho];exact x m v hm hrep hcp (n+1) b k cs L _ (fun j=>by have:=hi (j+1);simpa [Nat.add_assoc,Nat.add_comm 1 j] using this) hb hrd hl (hs.putS hd _) hc
 ·show Does P F.Rep F.W.K (f none) F.main _ _;rw [does_run (hnx _),List.length_cons,List.range'_succ,finish_fat ho];exact y (n+1) b k cs L _ (fun j=>by have:=hi (j+1);simpa [Nat.add_assoc,Nat.add_comm 1 j] using this) hb hrd hl (hs.putS hd _) hc
theorem trLI_go {ch nx:Scr M} {f:Fn} {cap args:Array Value} {hc h1:GH} (hg:o.guard=none) (hdf:isDefer o.op=false) (hd:dstOK o.dst F.N=true)
  (hr:∀w,(execOp (evalS σ) o).runT P w #[]=(.ok (.spawn { target:=.fn f cap,args:=args }) w,#[])) (hsp:GH.Split h h1 hc) (hnx:¬nx.isDone)
  (child:Does P F.Rep F.W.K ch false (born P { target:=.fn f cap,args:=args }) hc) (x:TrLI F ops l (some nx) (putS σ o.dst undef) ds h1 Q):TrLI F ops (o ::l) (some (.spawn ch nx)) σ ds h Q:=by
 intro n b k cs L t hi hb hrd hl hs hq;have ho:ops[n]? =some o:=by simpa using (hi 0).symm
 refine RunTo.stop ⟨_,cs,(fat b t ds (.inRegion ops (List.range' n (o ::l).length) ::k)).finish undef,_,hc,h1,rfl,⟨fun w fw=>?_,hsp,?_,child⟩⟩
 ·rw [List.length_cons,List.range'_succ];exact spawn_at hs ho (by simp [Region.wanted,hg]) (.inr hdf) (hr w)
 ·rw [does_run hnx,List.length_cons,List.range'_succ,finish_fat ho];exact x (n+1) b k cs L _ (fun j=>by have:=hi (j+1);simpa [Nat.add_assoc,Nat.add_comm 1 j] using this) hb hrd hl (hs.putS hd undef) hq
def closeD (tys:Array TypeId) (ty:TypeId) (cs:Array Bool) (c:Nat):Deferred:={ target:=.builtin .close tys ty cs,args:=#[.chan (some c)] }
theorem run_callFunc {f:FuncId} {fn:Func} {args:Array Value} (hf:P.funcs[f]? =some fn) (hc:callable fn=true) (w:World):(callFunc f args).runT P w #[]=(.ok (.enter f args) w,#[]):=by
 unfold callable at hc;simp only [Bool.and_eq_true,Bool.not_eq_true'] at hc;unfold callFunc;show (match P.funcs[f]? with | none=>_ | some fn=>_:Sem Next).runT P w #[]=_;rw [hf];simp only [];rw [if_neg (by rw [hc.1];simp),if_neg (by cases hb:fn.body with | none=>rw [hb] at hc;simp at hc | some c=>simp)];rfl
theorem run_closeD {tys:Array TypeId} {ty:TypeId} {cs:Array Bool} {ch s r:Nat} {w:World} (hw:w.heap[ch]? =some (.chan 0 #[] false s r false)) :
  (invoke (.builtin .close tys ty cs) #[.chan (some ch)]).runT P w #[]=(.ok (.value (.tuple #[])) { w with heap:=w.heap.setIfInBounds ch (.chan 0 #[] true s r false) },#[⟨.obj ch,false,true⟩,⟨.obj ch,true,true⟩]):=by
 show ((do pure (.value (←Builtin.close_ tys ty #[.chan (some ch)])):Sem Next)).runT P w #[]=_;show Sem.runT P (.getObj ch fun o=>_) w #[]=_;unfold Sem.runT;rw [hw];show Sem.runT P (.setObj ch (.chan 0 #[] true s r false) _) w _=_;unfold Sem.runT;rw [hw];rfl
theorem seen_close {fn:FuncId} {ch:Nat}:seen P fn #[⟨.obj ch,false,true⟩,⟨.obj ch,true,true⟩]=#[⟨.obj ch,false,true⟩,⟨.obj ch,true,true⟩]:=by
 rw [seen_def];simp [seenStep]
theorem does_born {fn:Func} {c:Code} {s:Scr M} {ars cap args:Array Value} (hm:F.main=false) (hrd:F.rd=none) (ha:ars++cap=args) (hf:P.funcs[F.fn]? =some fn) (hc:callable fn=true) (hb:fn.body=some c) (hN:F.N=fn.ntmps) (hres:fn.results=#[]) (hsz:args.size≤fn.ntmps) (hs:¬s.isDone)
  (x:TrI F c (some s) (fun i=>args.getD i undef) [] h fun i e σ ds h=>(e=.normal∨e=.ret)∧∃ch tys ty cs,i=some (.close ch .done)∧ds=[closeD tys ty cs ch]):Does P F.Rep F.W.K s false (born P { target:=.fn (.func F.fn) cap,args:=ars }) h:=by
 let bot:Frame:={ (default:Frame) with fn:=P.funcs.size,defers:=[],mode:=.panicking [goexitEntry] };have hwk:∀s,(F.wk (some s)).K=RunTo P false (StopOf P F.Rep F.W.K s false):=fun s=>by show RunTo P F.main (StopOf P F.Rep F.W.K s F.main)=_;rw [hm]
 rw [does_run hs];refine runTo_closed _ _ _ _ rfl fun w f=>⟨G (Frame.enter P F.fn args .deferred) [bot],w,#[],h,?_,StepOK.refl f,?_⟩
 ·subst ha;have hi:(invoke (.fn (.func F.fn) cap) ars).runT P w #[]=(.ok (.enter F.fn (ars++cap)) w,#[]):=run_callFunc hf hc w;show callDeferred P bot [] none { target:=.fn (.func F.fn) cap,args:=ars } w=_;unfold callDeferred;rw [if_neg (by simp)];simp only [hi,seen_none];rfl
 have e0:Frame.enter P F.fn args .deferred=fat (Frame.enter P F.fn args .deferred) (args++Array.replicate (fn.ntmps-args.size) undef) [] [.code c]:=by simp [Frame.enter,fat,hf,hb]
 rw [e0,←hwk s];let L:Option (Scr M)→Lv:=fun i j t ds h'=>(j=none∨j=some .ret)∧∃ch tys ty cs,i=some (.close ch .done)∧ds=[closeD tys ty cs ch];have fin:∀ch tys ty cs h' t k,(F.wk (some (.close ch .done))).K (G (fret (Frame.enter P F.fn args .deferred) t [closeD tys ty cs ch] k) [bot]) h':=by
  intro ch tys ty cs h' t k;rw [hwk];refine RunTo.stop ⟨_,_,fret (Frame.enter P F.fn args .deferred) t [] k,[bot],rfl,⟨fun w s r _ hw=>?_,rfl,?_⟩⟩
  ·have hi:=run_closeD (P:=P) (tys:=tys) (ty:=ty) (cs:=cs) hw;show callDeferred P (fret (Frame.enter P F.fn args .deferred) t [] k) [bot] none (closeD tys ty cs ch) w=_;unfold callDeferred closeD;rw [if_neg (by simp)];simp only [hi,seen_close];rfl
  ·refine ⟨2,.inr ⟨rfl,G bot [],fun w=>?_,.inr ⟨rfl,{ G bot [] with status:=.finished },fun w=>?_,rfl⟩⟩⟩
   ·show unwind P false (fret (Frame.enter P F.fn args .deferred) t [] k) [bot] none w=_;have hfn:(fret (Frame.enter P F.fn args .deferred) t [] k).fn=F.fn:=rfl;have hk:(fret (Frame.enter P F.fn args .deferred) t [] k).kind=.deferred:=rfl;have hmd:(fret (Frame.enter P F.fn args .deferred) t [] k).mode=.returning:=rfl;have hd:(fret (Frame.enter P F.fn args .deferred) t [] k).defers=[]:=rfl;have r1:∀t,(results fn t).runT P w #[]=(.ok (.tuple #[]) w,#[]):=fun t=>by
     unfold results;rw [hres];simp only [Array.mapM_empty];rfl
    unfold unwind;simp only [hd,hmd,hfn,hf,r1,GStep.after,doReturn,hk,seen_none];rfl
   ·show unwind P false bot [] none w=_;have hcat:bot.catches P=false:=by
     unfold Frame.catches
     have:P.funcs[bot.fn]? =none:=Array.getElem?_eq_none (Nat.le_refl _)
     rw [this];rfl
    have hd:bot.defers=[]:=rfl;have hmd:bot.mode=.panicking [goexitEntry]:=rfl;unfold unwind;simp only [hd,hmd,hcat];rfl
 refine x (Frame.enter P F.fn args .deferred) [] [bot] L _ rfl hrd.symm (fun i=>⟨?_,?_,?_⟩) ⟨by rw [hN];simp;omega,fun i=>?_⟩ ?_
 ·rintro t ds h' ⟨_,ch,tys,ty,cs,rfl,rfl⟩;exact Wk.go (fret (Frame.enter P F.fn args .deferred) t _ []) (fun w=>by rw [stepG_fat];simp [stepG.exec,fat,fret,G,Frame.enter]) (fin ch tys ty cs h' t [])
 ·rintro t ds h' k ⟨_,ch,tys,ty,cs,rfl,rfl⟩;exact Wk.go (fret (Frame.enter P F.fn args .deferred) t _ (.code .ret ::k)) (fun w=>by rw [stepG_fat];simp [stepG.exec,fat,fret,G,Frame.enter]) (fin ch tys ty cs h' t _)
 ·rintro id t ds h' k _ ⟨h1 | h1,_⟩ <;> cases h1
 ·by_cases hi:i<args.size
  ·simp [Array.getD_eq_getD_getElem?,Array.getElem?_append_left hi]
  ·simp only [Array.getD_eq_getD_getElem?];rw [Array.getElem?_append_right (by omega),Array.getElem?_eq_none (show args.size≤i by omega),Array.getElem?_replicate];split <;> rfl
 ·rintro i e σ ds h' ⟨he,ch,tys,ty,cs,rfl,rfl⟩ t' ht';rcases he with rfl | rfl
  ·exact Wk.go (fret (Frame.enter P F.fn args .deferred) t' _ []) (fun w=>by rw [stepG_fat];simp [stepG.exec,fat,fret,G,Frame.enter]) (fin ch tys ty cs h' t' [])
  ·exact ⟨.inr rfl,ch,tys,ty,cs,rfl,rfl⟩
end
section
variable {P:Program} {M:Type} {Post:Value→World→Prop}
def GH.Same (h h':GH):Prop:=∀b p o,h b=some (p,o)→∃p',h' b=some (p',o)
theorem Base.flags {g:Goroutine} {h h':GH} {gs:Array Goroutine} {w:World} {q:Nat→Nat} {t:Trace} (B:Base P g h gs w q t) (s:h'.Same h):Base P g h' gs w q t:=
 { B with
  fits:=fun b p o hb=>by obtain ⟨p',x⟩:=s b p o hb;exact B.fits b p' o x
  chn:=fun b p o k a hb=>by obtain ⟨p',x⟩:=s b p o hb;exact B.chn b p' o k a x }
theorem MainOK.flags {g:Goroutine} {h h':GH} (s:h'.Same h) (x:MainOK P Post g h'):MainOK P Post g h:=fun gs w sl q t B=>x gs w sl q t (B.flags s)
def StartN (c:Nat) (s0:Scr M) (N:Net M):Prop:=0<N.n∧N.s 0=s0∧(∀j,0<j→j<N.n→N.s j=.done∧N.kn 0 j)∧N.cl c=false
theorem mainOK_of_net {Rep:Nat→M→Value→GH→Prop} {g:Goroutine} {h:GH} {c:Nat} {s0:Scr M} (hc:h c=some (true,.chan 0 #[] false 0 0 false)) (good:∀N:Net M,StartN c s0 N→GoodN (fun x=>x=c) N)
  (d:Does P Rep (MainOK P Post) s0 true g (h.delS fun x=>x=c)):MainOK P Post g h:=by
 intro gs w sl q t B;have hsub:(h.delS fun x=>x=c).Same h:=fun b p o hb=>by
  by_cases e:b=c
  ·rw [GH.delS_in (X:=fun x=>x=c) e] at hb;cases hb
  ·rw [GH.delS_ne (X:=fun x=>x=c) e] at hb;exact ⟨p,hb⟩
 have B':=B.flags hsub;let N:Net M:={ n:=gs.size,s:=fun j=>if j=0 then s0 else .done,kn:=fun i j=>i=0∧0<j,cl:=fun _=>false,ck:=fun _ _=>False };have hpos:0<gs.size:=B.lt;obtain ⟨r0,hsit⟩:=does_sit (cl:=N.cl) d;have hsits:∀i g',gs[i]? =some g'→Sit P Rep (MainOK P Post) (N.s i) N.cl (i==0) g' (only (h.delS fun x=>x=c) i) (if i=0 then r0 else .leave (q i)):=by
  intro i g' hi;rcases Nat.eq_zero_or_pos i with rfl | hp
  ·have:=B.here;rw [hi] at this;cases this
   simpa [N,only] using hsit
  ·have h0:¬i=0:=by omega
   have hq:=B.old i g' hp hi;simp only [N,h0,if_false];exact .leave (q i) rfl hq
 have hparked:∀i (gi:Goroutine) cs sh,gs[i]? =some (parked gi cs sh)→i=0:=fun i gi cs sh hi=>by
  rcases Nat.eq_zero_or_pos i with e | hp
  ·exact e
  ·rcases (B.old i _ hp hi).status with e | e <;> cases e
 refine net_runs (used:=fun x=>x=c) (N:=N) (good N ⟨hpos,rfl,fun j hj hjn=>⟨if_neg (by omega),rfl,hj⟩,rfl⟩) (fun i=>if i=0 then r0 else .leave (q i)) gs w sl t (only (h.delS fun x=>x=c))
  ⟨rfl,B'.HS,B'.TI,hsits,?_,?_,?_,?_,?_,?_⟩
 ·rintro c' rfl;exact ⟨0,B.fits _ _ _ hc⟩
 ·rintro c' i rfl hi;unfold only;split
  ·exact GH.delS_in rfl
  ·rfl
 ·rintro c' k a rfl hk hl;exact B.chn _ _ _ k a hc rfl hk hl
 ·intro i j gi gj c' v z sh z' sh' h1 h2;obtain rfl:=hparked i _ _ _ h1;obtain rfl:=hparked j _ _ _ h2;rw [h1] at h2;exact parked_rs (Option.some.inj h2).symm
 ·rintro i j hi hj ⟨rfl,hjp⟩;refine ⟨if_neg (by omega),fun k a hk _=>B.known k a hk⟩
 ·rintro c' rfl h1;cases h1
def IsMain (W:Wk P):Prop:=∃Post:Value→World→Prop,W.K=MainOK P Post
variable {F:FEnv P M} {i:Option (Scr M)} {σ:Nat→Value} {ds:List Deferred} {h:GH} {Q:PostI M}
theorem trI_net {c:Code} {s0:Scr M} {ch:Nat} (hm:F.main=true) (hW:IsMain F.W) (hc:h ch=some (true,.chan 0 #[] false 0 0 false)) (hs:¬s0.isDone) (good:∀N:Net M,StartN ch s0 N→GoodN (fun x=>x=ch) N)
  (x:TrI F c (some s0) σ ds (h.delS fun x=>x=ch) Q):TrI F c none σ ds h Q:=by
 intro b k cs L t hb hr hl ht hq
 have:=x b k cs L t hb hr hl ht hq
 obtain ⟨Post,hP⟩:=hW;show F.W.K _ _;rw [hP];refine mainOK_of_net (Rep:=F.Rep) hc good ?_;rw [does_run hs];unfold FEnv.wk at this;simp only [hm,hP] at this;exact this
theorem trI_out {c:Code} {h0:GH} (hW:IsMain F.W) (hs:h0.Same h) (x:TrI F c none σ ds (h0.join h) Q):TrI F c (some .stop) σ ds h Q:=by
 intro b k cs L t hb hr hl ht hq
 have:=x b k cs L t hb hr hl ht hq
 obtain ⟨Post,hP⟩:=hW;refine RunTo.stop ?_;show F.W.K _ _;have h2:F.W.K _ _:=this;rw [hP] at h2 ⊢;refine h2.flags fun b p o hb=>?_;rcases hj:h0 b with _ | ⟨p0,o0⟩
 ·unfold GH.join at hb;rw [hj] at hb;exact ⟨p,hb⟩
 ·unfold GH.join at hb;rw [hj] at hb;cases hb;exact hs b p o hj
def GH.ro (h:GH):GH:=fun b=>(h b).map fun x=>(false,x.2)
theorem GH.ro_some {h:GH} {b:Nat} {p:Bool} {o:Obj} (hb:h b=some (p,o)):h.ro b=some (false,o):=by unfold GH.ro;rw [hb];rfl
theorem GH.ro_inv {h:GH} {b:Nat} {p:Bool} {o:Obj} (hb:h.ro b=some (p,o)):p=false∧∃p',h b=some (p',o):=by
 unfold GH.ro at hb;cases e:h b with
 | none=>rw [e] at hb;cases hb
 | some x=>rw [e] at hb;obtain ⟨p',o'⟩:=x;cases hb;exact ⟨rfl,p',rfl⟩
theorem GH.split_ro (h:GH):GH.Split h h.ro h.ro where
 left:=fun b p o hb=>by obtain ⟨rfl,p',x⟩:=GH.ro_inv hb;exact ⟨p',x,fun e=>by cases e⟩
 right:=fun b p o hb=>by obtain ⟨rfl,p',x⟩:=GH.ro_inv hb;exact ⟨p',x,fun e=>by cases e⟩
 one:=fun r o x hb=>by cases (GH.ro_inv hb).1
 two:=fun r o x hb=>by cases (GH.ro_inv hb).1
theorem GH.same_ro (h:GH):h.Same h.ro:=fun _ _ _ hb=>⟨false,GH.ro_some hb⟩
theorem GH.Same.trans {a b c:GH} (x:a.Same b) (y:b.Same c):a.Same c:=fun r p o hr=>by obtain ⟨p',z⟩:=x r p o hr;exact y r p' o z
theorem GH.Le.same {a b:GH} (x:a.Le b):a.Same b:=fun r p o hr=>⟨p,x.keep hr rfl⟩
theorem GH.le_join (a b:GH):a.Le (a.join b):=fun r p o hr=>⟨o,by unfold GH.join;rw [hr],.inl rfl⟩
theorem GH.Same.join {a b:GH} (s:a.Same b):b.Same (a.join b):=fun r p o hr=>by
 unfold GH.join;cases e:a r with
 | none=>exact ⟨p,hr⟩
 | some x=>obtain ⟨p0,o0⟩:=x;obtain ⟨p',y⟩:=s r p0 o0 e;rw [hr] at y;cases y;exact ⟨p0,rfl⟩
theorem Elem.flags {h h':GH} (s:h.Same h') {b off n:Nat} {vs:Array Value} (x:Elem h b off n vs):Elem h' b off n vs:=by
 obtain ⟨p,c,t,f,y,z⟩:=x;obtain ⟨p',y'⟩:=s _ _ _ y;exact ⟨p',c,t,f,y',z⟩
theorem SlIs.flags {α:Type} {h h':GH} (s:h.Same h') {v:Value} {n:Nat} {enc:α→Array Value} {xs:List α} (x:SlIs h v n enc xs):SlIs h' v n enc xs:=by
 obtain ⟨a,cap,hv,hc,hm,he⟩:=x;refine ⟨a,cap,hv,hc,hm,fun i hi=>?_⟩;obtain ⟨b,off,h1,h2⟩:=he i hi;exact ⟨b,off,h1,h2.flags s⟩
end
section
variable {M:Type} [DecidableEq M]
def sendS (c:Nat):List M→Scr M
 | []=>.close c .done
 | m ::ms=>.send c m (sendS c ms)
def recvEnd:Option M→Scr M
 | none=>.stop
 | some _=>.never
def recvNext (m:M) (nx:Scr M):Option M→Scr M
 | some m'=>if m'=m then nx else .never
 | none=>.never
def recvS (c:Nat):List M→Scr M
 | []=>.recv c recvEnd
 | m ::ms=>.recv c (recvNext m (recvS c ms))
structure TwoN (c k:Nat) (ms:List M) (N:Net M):Prop where
 n:N.n=k+1
 pos:0<k
 main:N.s 0=recvS c ms
 child:N.s k=sendS c ms
 rest:∀j,0<j→j<k→N.s j=.done∧N.kn 0 j
 cl:N.cl c=false
theorem twoN_good {c k:Nat}:∀{ms:List M} {N:Net M},TwoN c k ms N→GoodN (fun x=>x=c) N:=by
 intro ms
 induction ms with
 | nil=>
  intro N T;have hk:=T.pos;refine .step N (by rw [T.n];omega) ⟨_,.shut (i:=k) (c:=c) (nx:=.done) (by rw [T.n];omega) T.child⟩ (fun i hi=>?_) (fun N' st=>?_)
  ·rcases Nat.eq_zero_or_pos i with rfl | hp
   ·rw [T.main];rfl
   ·rcases Nat.lt_or_ge i k with hl | hl
    ·rw [(T.rest i hp hl).1];show i≠0;omega
    ·obtain rfl:i=k:=by have:=T.n;omega
     rw [T.child];exact ⟨rfl,T.cl⟩
  ·have key:∀i,i<N.n→i=0∨i=k∨N.s i=.done:=fun i hi=>by
    rcases Nat.eq_zero_or_pos i with e | hp
    ·exact .inl e
    ·rcases Nat.lt_or_ge i k with hl | hl
     ·exact .inr (.inr (T.rest i hp hl).1)
     ·exact .inr (.inl (by have:=T.n;omega))
   have hm:N.s 0=.recv c recvEnd:=T.main;have hch:N.s k=.close c .done:=T.child;cases st with
   | hire hi hs=>rcases key _ hi with rfl | rfl | e <;> simp_all
   | meet hi hj hij hs hs'=>rcases key _ hi with rfl | rfl | e <;> simp_all
   | hear hj hs hcl=>
    rcases key _ hj with rfl | rfl | e
    ·rw [hm] at hs;cases hs;rw [T.cl] at hcl;cases hcl
    ·rw [hch] at hs;cases hs
    ·rw [e] at hs;cases hs
   | @shut i c' nx hi hs=>
    rcases key _ hi with rfl | rfl | e
    ·rw [hm] at hs;cases hs
    ·rw [hch] at hs;cases hs;refine .step _ (by show 0<N.n;rw [T.n];omega) ⟨_,.hear (j:=0) (c:=c) (f:=_) (by show 0<N.n;rw [T.n];omega) (by show (if 0=i then _ else N.s 0)=_;rw [if_neg (by omega)];exact hm) (by show (if c=c then true else _)=true;rw [if_pos rfl])⟩ (fun j hj=>?_) (fun N'' st=>?_)
     ·have hj:j<N.n:=hj;show Fine1 _ _ j (if j=i then _ else N.s j);by_cases e:j=i
      ·rw [if_pos e];show j≠0;omega
      ·rw [if_neg e];rcases key j hj with rfl | rfl | e'
       ·rw [hm];rfl
       ·exact absurd rfl e
       ·rw [e'];show j≠0;rintro rfl;rw [hm] at e';cases e'
     ·have hs':∀j,j<N.n→j≠0→(N.shut i c .done).s j=.done:=fun j hj hj0=>by
       show (if j=i then _ else N.s j)=_;by_cases e:j=i
       ·rw [if_pos e]
       ·rw [if_neg e];rcases key j hj with rfl | rfl | e'
        ·exact absurd rfl hj0
        ·exact absurd rfl e
        ·exact e'
      have hs0:(N.shut i c .done).s 0=.recv c recvEnd:=by show (if 0=i then _ else N.s 0)=_;rw [if_neg (by omega)];exact hm
      have key2:∀j,j<N.n→j=0∨(N.shut i c .done).s j=.done:=fun j hj=>(Nat.eq_zero_or_pos j).imp id fun hp=>hs' j hj (by omega);cases st with
      | hire hi hs=>rcases key2 _ hi with rfl | e <;> simp_all
      | meet hi hj hij hs hs'=>rcases key2 _ hi with rfl | e <;> simp_all
      | shut hi hs=>rcases key2 _ hi with rfl | e <;> simp_all
      | @hear j c' f hj hs hcl=>
       rcases key2 _ hj with rfl | e
       ·rw [hs0] at hs;cases hs;refine .stop _ (by show 0<N.n;rw [T.n];omega) (show (if 0=0 then recvEnd none else (N.shut i c .done).s 0)=Scr.stop from rfl) fun j hj hjn=>⟨?_,?_⟩
        ·show (if j=0 then _ else (N.shut i c .done).s j)=_;rw [if_neg (by omega)];exact hs' j hjn (by omega)
        ·simp only [Net.hear,Net.shut,if_true];show N.kn 0 j∨N.kn i j∨(j=i∧True);rcases Nat.lt_or_ge j i with hl | hl
         ·exact .inl (T.rest j hj hl).2
         ·have hjn:j<N.n:=hjn;exact .inr (.inr ⟨by have:=T.n;omega,trivial⟩)
       ·rw [e] at hs;cases hs
    ·rw [e] at hs;cases hs
 | cons m ms ih=>
  intro N T;have hk:=T.pos;have hch:N.s k=.send c m (sendS c ms):=T.child;have hm:N.s 0=.recv c (recvNext m (recvS c ms)):=T.main;have key:∀i,i<N.n→i=0∨i=k∨N.s i=.done:=fun i hi=>by
   rcases Nat.eq_zero_or_pos i with e | hp
   ·exact .inl e
   ·rcases Nat.lt_or_ge i k with hl | hl
    ·exact .inr (.inr (T.rest i hp hl).1)
    ·exact .inr (.inl (by have:=T.n;omega))
  refine .step N (by rw [T.n];omega) ⟨_,.meet (i:=k) (j:=0) (by rw [T.n];omega) (by rw [T.n];omega) (by omega) hch hm⟩ (fun i hi=>?_) (fun N' st=>?_)
  ·rcases key i hi with rfl | rfl | e
   ·rw [hm];rfl
   ·rw [hch];exact ⟨rfl,T.cl⟩
   ·rw [e];show i≠0;rintro rfl;rw [hm] at e;cases e
  ·cases st with
   | hire hi hs=>rcases key _ hi with rfl | rfl | e <;> simp_all
   | shut hi hs=>rcases key _ hi with rfl | rfl | e <;> simp_all
   | hear hj hs hcl=>
    rcases key _ hj with rfl | rfl | e
    ·rw [hm] at hs;cases hs;rw [T.cl] at hcl;cases hcl
    ·rw [hch] at hs;cases hs
    ·rw [e] at hs;cases hs
   | @meet i j c' m' nx f hi hj hij hs hs'=>
    have hi':i=k:=by
     rcases key _ hi with rfl | rfl | e
     ·rw [hm] at hs;cases hs
     ·rfl
     ·rw [e] at hs;cases hs
    have hj':j=0:=by
     rcases key _ hj with rfl | rfl | e
     ·rfl
     ·rw [hch] at hs';cases hs'
     ·rw [e] at hs';cases hs'
    subst hi' hj';rw [hch] at hs;cases hs;rw [hm] at hs';cases hs';refine ih ⟨T.n,hk,?_,?_,fun j hj hjk=>⟨?_,?_⟩,T.cl⟩
    ·show (if 0=i then _ else if 0=0 then _ else N.s 0)=_;rw [if_neg (by omega),if_pos rfl];show (if m=m then _ else _)=_;rw [if_pos rfl]
    ·show (if i=i then _ else _)=_;rw [if_pos rfl]
    ·show (if j=i then _ else if j=0 then _ else N.s j)=_;rw [if_neg (by omega),if_neg (by omega)];exact (T.rest j hj hjk).1
    ·simp only [Net.meet,or_true,if_true];exact .inr (.inl (T.rest j hj hjk).2)
theorem spawn_good {c:Nat} {ms:List M} {N:Net M} (S:StartN c (.spawn (sendS c ms) (recvS c ms)) N):GoodN (fun x=>x=c) N:=by
 obtain ⟨hn,h0,hr,hcl⟩:=S;have key:∀i,i<N.n→i=0∨N.s i=.done:=fun i hi=>(Nat.eq_zero_or_pos i).imp id fun hp=>(hr i hp hi).1;refine .step N hn ⟨_,.hire hn h0⟩ (fun i hi=>?_) (fun N' st=>?_)
 ·rcases key i hi with rfl | e
  ·rw [h0];trivial
  ·rw [e];show i≠0;rintro rfl;rw [h0] at e;cases e
 ·cases st with
  | meet hi hj hij hs hs'=>rcases key _ hi with rfl | e <;> simp_all
  | shut hi hs=>rcases key _ hi with rfl | e <;> simp_all
  | hear hj hs hcl=>rcases key _ hj with rfl | e <;> simp_all
  | @hire i ch nx hi hs=>
   rcases key _ hi with rfl | e
   ·rw [h0] at hs;cases hs;refine twoN_good (k:=N.n) (ms:=ms) ⟨rfl,hn,?_,?_,fun j hj hjk=>⟨?_,?_⟩,hcl⟩
    ·show (if 0=N.n then _ else if 0=0 then _ else _)=_;rw [if_neg (by omega),if_pos rfl]
    ·show (if N.n=N.n then _ else _)=_;rw [if_pos rfl]
    ·show (if j=N.n then _ else if j=0 then _ else N.s j)=_;rw [if_neg (by omega),if_neg (by omega)];exact (hr j hj hjk).1
    ·show (if j=N.n then False else if 0=N.n then _ else N.kn 0 j);rw [if_neg (by omega),if_neg (by omega)];exact (hr j hj hjk).2
   ·rw [e] at hs;cases hs
omit [DecidableEq M] in
theorem sendS_not (c:Nat) (ms:List M):¬(sendS c ms).isDone:=by cases ms <;> exact id
theorem recvS_not (c:Nat) (ms:List M):¬(recvS c ms).isDone:=by cases ms <;> exact id
end
end Go.Ns
namespace Go.Ns
open Go.Conc
section
variable (d m:Int) (gs:List Good) (ms:List Move) (cs:List Count)
def clashOne (mask:Nat):Option (List Int):=if someB d gs ms (pickC cs (mask:Int) cs.length) m=true then none else some (pickI (mask:Int) cs.length)
def clashFrom (k f:Nat):List (List Int):=(List.range' k f).filterMap (clashOne d m gs ms cs)
def clashAll:List (List Int):=clashFrom d m gs ms cs 0 (2 ^ cs.length)
def clashBell:Int:=if bookBell d m gs ms cs=0 then (if someB d gs ms cs m=true then 0 else if someB d gs ms (pickC cs 0 cs.length) m=true then 0 else 8) else bookBell d m gs ms cs
def clashL:List Int:=if bookBell d m gs ms cs=0∧someB d gs ms cs m=false∧someB d gs ms (pickC cs 0 cs.length) m=true then bestL ((clashAll d m gs ms cs).getD 0 []) ((clashAll d m gs ms cs).drop 1) else []
end
section
variable {d m:Int} {gs:List Good} {ms:List Move} {cs:List Count}
theorem clashFrom_none {k f:Nat} (h:someB d gs ms (pickC cs (k:Int) cs.length) m=true):clashFrom d m gs ms cs k (f+1)=clashFrom d m gs ms cs (k+1) f:=by
 unfold clashFrom clashOne;rw [List.range'_succ,List.filterMap_cons];simp [h]
theorem clashFrom_some {k f:Nat} (h:someB d gs ms (pickC cs (k:Int) cs.length) m=false):clashFrom d m gs ms cs k (f+1)=pickI (k:Int) cs.length ::clashFrom d m gs ms cs (k+1) f:=by
 unfold clashFrom clashOne;rw [List.range'_succ,List.filterMap_cons];simp [h]
theorem bitOn_full {n i:Nat} (hn:n≤4) (hi:i<n):bitOn ((2 ^ n-1:Nat):Int) i=true:=by
 have h:∀n,n≤4→∀i,i<n→bitOn ((2 ^ n-1:Nat):Int) i=true:=by decide
 exact h n hn i hi
theorem range_getD {α:Type} (l:List α) (z:α):(List.range l.length).map (fun i=>l.getD i z)=l:=by
 apply List.ext_getElem
 ·simp
 ·intro i h1 h2;simp [List.getD_eq_getElem?_getD,List.getElem?_eq_getElem h2]
theorem pickC_full (h:cs.length≤4):pickC cs ((2 ^ cs.length-1:Nat):Int) cs.length=cs:=by
 unfold pickC;rw [List.filter_eq_self.2 fun i hi=>bitOn_full h (List.mem_range.1 hi)];exact range_getD cs Count.z
theorem clashAll_ne (hcl:cs.length≤4) (h:someB d gs ms cs m=false):clashAll d m gs ms cs≠[]:=by
 intro e;unfold clashAll clashFrom at e;rw [List.filterMap_eq_nil_iff] at e;have hp:0<2 ^ cs.length:=Nat.pow_pos (by decide)
 have:=e (2 ^ cs.length-1) (List.mem_range'.2 ⟨2 ^ cs.length-1,by omega,by omega⟩)
 unfold clashOne at this;rw [pickC_full hcl,if_neg (by rw [h];simp)] at this;cases this
theorem clashAll_len (hcl:cs.length≤4):(clashAll d m gs ms cs).length≤16:=by
 unfold clashAll clashFrom;refine Nat.le_trans (List.length_filterMap_le _ _) ?_;rw [List.length_range'];exact Nat.pow_le_pow_right (n:=2) (by decide) hcl
theorem clashBell_bad (h:¬bookBell d m gs ms cs=0):clashBell d m gs ms cs=bookBell d m gs ms cs:=by unfold clashBell;rw [if_neg h]
theorem clashL_bad (h:¬bookBell d m gs ms cs=0):clashL d m gs ms cs=[]:=by unfold clashL;rw [if_neg (fun e=>h e.1)]
theorem clashBell_some (h:bookBell d m gs ms cs=0) (h1:someB d gs ms cs m=true):clashBell d m gs ms cs=0:=by unfold clashBell;rw [if_pos h,if_pos h1]
theorem clashL_some (h1:someB d gs ms cs m=true):clashL d m gs ms cs=[]:=by unfold clashL;rw [if_neg (fun e=>by rw [h1] at e;cases e.2.1)]
theorem clashBell_short (h:bookBell d m gs ms cs=0) (h1:someB d gs ms cs m=false) (h2:someB d gs ms (pickC cs 0 cs.length) m=false):clashBell d m gs ms cs=8:=by
 unfold clashBell;rw [if_pos h,if_neg (by rw [h1];simp),if_neg (by rw [h2];simp)]
theorem clashL_short (h2:someB d gs ms (pickC cs 0 cs.length) m=false):clashL d m gs ms cs=[]:=by unfold clashL;rw [if_neg (fun e=>by rw [h2] at e;cases e.2.2)]
theorem clashBell_ok (h:bookBell d m gs ms cs=0) (h1:someB d gs ms cs m=false) (h2:someB d gs ms (pickC cs 0 cs.length) m=true):clashBell d m gs ms cs=0:=by
 unfold clashBell;rw [if_pos h,if_neg (by rw [h1];simp),if_pos h2]
theorem clashL_ok {fl:List Sl} (h:bookBell d m gs ms cs=0) (h1:someB d gs ms cs m=false) (h2:someB d gs ms (pickC cs 0 cs.length) m=true) (hcl:cs.length≤4) (hfl:lists fl=clashAll d m gs ms cs) :
  0<fl.length∧clashL d m gs ms cs=bestL (fl.getD 0 Sl.z).2 (lists (fl.drop 1)):=by
 have hne:=clashAll_ne (d:=d) (gs:=gs) (ms:=ms) hcl h1;have hpos:0<fl.length:=by
  rw [←lists_length,hfl];exact List.length_pos_iff.2 hne
 refine ⟨hpos,?_⟩;unfold clashL;rw [if_pos ⟨h,h1,h2⟩,←hfl,lists_getD hpos];congr 1;unfold lists;rw [List.map_drop]
end
theorem BookOK.pick {d m:Int} {gs:List Good} {ms:List Move} {cs:List Count} (b:BookOK d m gs ms cs) (mask:Int):BookOK d m gs ms (pickC cs mask cs.length):=
 { b with
  clen:=Nat.le_trans (pickC_len cs mask _) b.clen
  count:=fun k hk=>by
   have hm:=getD_mem (d:=Count.z) hk;generalize hx:(pickC cs mask cs.length).getD k Count.z=x at hm;unfold pickC at hm;obtain ⟨i,hi,e⟩:=List.mem_map.1 hm;have hi2:=List.mem_range.1 (List.mem_filter.1 hi).1
   have:=b.count i hi2
   unfold countAt at this ⊢;rw [hx,←e];exact this }
theorem SlAll.flags {h h':GH} {l:List Sl} (s:h.Same h') (a:SlAll h l):SlAll h' l:=fun k=>(a k).flags s
def RepL:Nat→List Int→Value→GH→Prop:=fun _ l v hm=>SlIs hm v 1 eI l
def GH.part (h:GH) (v:Value):GH:=fun b=>if back v=some b then h b else none
def GH.rest (h:GH) (v:Value):GH:=fun b=>if back v=some b then none else h b
theorem GH.split_part (h:GH) (v:Value):GH.Split h (h.rest v) (h.part v) where
 left:=fun b p o hb=>by
  unfold GH.rest at hb;split at hb
  ·cases hb
  ·exact ⟨p,hb,id⟩
 right:=fun b p o hb=>by
  unfold GH.part at hb;split at hb
  ·exact ⟨p,hb,id⟩
  ·cases hb
 one:=fun r o x h1 h2=>by
  unfold GH.rest at h1;unfold GH.part at h2;split at h1
  ·cases h1
  ·rename_i e;rw [if_neg e] at h2;cases h2
 two:=fun r o x h1 h2=>by
  unfold GH.rest at h2;unfold GH.part at h1;split at h2
  ·cases h2
  ·rename_i e;rw [if_neg e] at h1;cases h1
theorem OwnSl.part {α:Type} {h0 h:GH} {v:Value} {t:TypeId} {n:Nat} {enc:α→Array Value} {xs:List α} (x:OwnSl h0 h v t n enc xs):SlIs (h.part v) v n enc xs:=
 OwnSl.sl (h0:=h0) (x.keep fun b o hb ho=>by unfold GH.part;rw [if_pos hb];exact ho)
theorem OwnSl.le_rest {α:Type} {h0 h hb:GH} {v:Value} {t:TypeId} {n:Nat} {enc:α→Array Value} {xs:List α} (x:OwnSl h0 h v t n enc xs) (l:hb.Le h) (l0:hb.Le h0):hb.Le (h.rest v):=fun b p o hbb=>by
 unfold GH.rest;rw [if_neg]
 ·exact l b p o hbb
 ·intro e;rcases x with ⟨rfl,_⟩ | ⟨b1,cap,c,rfl,f0,_⟩
  ·cases e
  ·have:b1=b:=by simpa [back] using e
   subst this
   have:=l0.keep hbb rfl
   rw [f0] at this;cases this
theorem SlIs.join {α:Type} {h hm:GH} {v:Value} {n:Nat} {enc:α→Array Value} {xs:List α} (x:SlIs hm v n enc xs) (c:h.Compat hm):SlIs (h.join hm) v n enc xs:=x.flags fun b p o hb=>by
 unfold GH.join;cases e:h b with
 | none=>exact ⟨p,hb⟩
 | some y=>obtain ⟨q,o'⟩:=y;obtain ⟨rfl,rfl,rfl⟩:=c b q o' p o e hb;exact ⟨false,rfl⟩
theorem GH.Compat.le {a h hm:GH} (l:a.Le h) (c:h.Compat hm):a.Compat hm:=fun b p o q o' x y=>c b p o q o' (l.keep x rfl) y
theorem GH.Le.joins {a h hm:GH} (l:a.Le h) (c:h.Compat hm):(a.join hm).Le (h.join hm):=fun b p o hb=>by
 unfold GH.join at hb ⊢;cases e:a b with
 | some x=>rw [e] at hb;cases hb;rw [l.keep e rfl];exact ⟨o,rfl,.inl rfl⟩
 | none=>
  rw [e] at hb;cases e2:h b with
  | none=>exact ⟨o,hb,.inl rfl⟩
  | some y=>obtain ⟨q,o'⟩:=y;obtain ⟨rfl,rfl,rfl⟩:=c b q o' p o e2 hb;exact ⟨_,rfl,.inl rfl⟩
theorem OwnSl.joins {α:Type} {h0 h hm:GH} {v:Value} {t:TypeId} {n:Nat} {enc:α→Array Value} {xs:List α} (x:OwnSl h0 h v t n enc xs) (c:h.Compat hm):OwnSl (h0.join hm) (h.join hm) v t n enc xs:=by
 rcases x with x | ⟨b,cap,cc,rfl,f0,f1,f2⟩
 ·exact .inl x
 ·refine .inr ⟨b,cap,cc,rfl,?_,?_,f2⟩
  ·unfold GH.join;rw [f0];cases e:hm b with
   | none=>rfl
   | some y=>obtain ⟨q,o'⟩:=y;have:=(c b _ _ q o' f1 e).1;cases this
  ·unfold GH.join;rw [f1]
section
variable {P:Program} {M:Type} {F:FEnv P M} {i i':Option (Scr M)} {σ:Nat→Value} {ds:List Deferred} {h:GH} {Q:PostI M}
theorem trI_ix {c:Code} (e:i=i') (x:TrI F c i' σ ds h Q):TrI F c i σ ds h Q:=e▸x
theorem trLI_ix {ops:Array Oper} {l:List Oper} (e:i=i') (x:TrLI F ops l i' σ ds h Q):TrLI F ops l i σ ds h Q:=e▸x
theorem tr_of_trI {c:Code} {Q:Post} (x:TrI F c none σ ds h fun i e σ ds h=>i=none∧Q e σ ds h):Tr ⟨F.W,F.fn,F.rd,F.N⟩ c σ ds h Q:=by
 intro b k cs L t hb hr hl hs hc;refine x b k cs (fun i=>match i with | none=>L | some _=>fun _ _ _ _=>False) t hb hr (fun i=>?_) hs fun i e σ' ds' h' q t' ht'=>?_
 ·cases i with
  | none=>exact hl
  | some s=>exact ⟨fun _ _ _ x=>x.elim,fun _ _ _ _ x=>x.elim,fun _ _ _ _ _ _ x=>x.elim⟩
 ·obtain ⟨rfl,q⟩:=q;exact hc e σ' ds' h' q t' ht'
theorem trI_end {c:Code} {Q:Post} (x:Tr (F.env none) c σ ds h Q):TrI F c none σ ds h fun i e σ ds h=>i=none∧Q e σ ds h:=
 trI_lift (tr_mono (fun _ _ _ _ q=>⟨rfl,q⟩) x)
variable {dst:Option Nat} {ty:TypeId} {pos:String} {af:Array Edge} {gd:Option (Nat×Bool)}
theorem run_send {a x:Operand} {c:Nat} {v:Value} (ha:evalS σ a=.chan (some c)) (hx:evalS σ x=v) (w:World):(execOp (evalS σ) ⟨dst,.send a x,ty,pos,af,gd⟩).runT P w #[]=(.ok (.comm #[scase c v (.tuple #[])] true .send) w,#[]):=by
 subst hx;show (Result.ok (Next.comm #[{ chan:=evalS σ a,send:=some (evalS σ x),zero:=.tuple #[] }] true .send) w,#[])=_;rw [ha];rfl
theorem run_recv {a:Operand} {c:Nat} {t e:TypeId} {d:ChanDir} {ok:Bool} {z:Value} {inf:TypeInfo} (ht:P.underlying t=some (.chan d e)) (hi:P.info? e=some inf) (hz:inf.zero=some z) (ha:evalS σ a=.chan (some c)) (w:World) :
  (execOp (evalS σ) ⟨dst,.recv t a ok,ty,pos,af,gd⟩).runT P w #[]=(.ok (.comm #[rcase c z] true (.recv ok)) w,#[]):=by
 have h1:(zeroValue e).run P w=.ok z w:=by
  unfold zeroValue typeInfo;simp only [Sem.run_bind,program,hi];simp [Sem.run,hi,hz]
 have h2:(underlying t).run P w=.ok (.chan d e) w:=run_underlying ht w;rw [Sem.runT_eq];unfold execOp;simp [h1,h2,ha,rcase]
theorem run_recv' {a:Operand} {c:Nat} {t e:TypeId} {d:ChanDir} {ok:Bool} {z:Value} (ht:P.underlying t=some (.chan d e)) (hz:(P.info? e).map (·.zero)=some (some z)) (ha:evalS σ a=.chan (some c)) (w:World) :
  (execOp (evalS σ) ⟨dst,.recv t a ok,ty,pos,af,gd⟩).runT P w #[]=(.ok (.comm #[rcase c z] true (.recv ok)) w,#[]):=by
 obtain ⟨inf,hi,h2⟩:=Option.map_eq_some_iff.1 hz;exact run_recv ht hi h2 ha w
theorem run_go {x:Operand} {f:Fn} {cap:Array Value} {tys:Array TypeId} (hx:evalS σ x=.func f #[] cap) (w:World):(execOp (evalS σ) ⟨dst,.go ⟨.value x,#[],tys⟩,ty,pos,af,gd⟩).runT P w #[]=(.ok (.spawn { target:=.fn f cap,args:=#[] }) w,#[]):=by
 have e:resolve (evalS σ) ⟨.value x,#[],tys⟩ ty=(pure { target:=.fn f cap,args:=#[] }:Sem Deferred):=by
  unfold resolve;simp only [hx,Deferred.ofValue];simp
 unfold execOp;simp only [e];rfl
variable {E:Env P} {T:(Nat→Value)→List Deferred→GH→Prop}
theorem ok_makeChan {t e:TypeId} {d:ChanDir} {n:Operand} (ht:P.underlying t=some (.chan d e)) (hi0:(P.info? e).isSome=true) (hn:evalS σ n=.int .i64 0)
  (k:∀r h',h r=none→h.Le h'→h' r=some (true,.chan 0 #[] false 0 0 false)→(∀b,b≠r→h' b=h b)→T (putS σ dst (.chan (some r))) ds h'):OpK E ⟨dst,.makeChan t n,ty,pos,af,gd⟩ σ ds h T:=by
 unfold OpK execOp;refine gh_v ?_;unfold Instr.makeChan;rw [hn];refine gh_bind _ _ (gh_pure ?_);refine gh_bind _ _ (gh_underlying ht ?_);simp only [];obtain ⟨inf,hi⟩:=Option.isSome_iff_exists.1 hi0;refine gh_bind _ _ (gh_typeInfo hi ?_);rw [if_neg (by simp [IntKind.max];decide)];refine gh_bind _ _ ?_;exact fun r hr=>k r _ hr (GH.Le.new hr _ _) (GH.set_same _ _ _ _) fun b hb=>GH.set_ne _ _ _ hb
theorem trL_def {ops:Array Oper} {l:List Oper} {o:Oper} {Q:Post} (hg:o.guard=none) (hrd:E.rd=none) (hd:dstOK o.dst E.N=true) (x:OpK E o σ ds h fun σ' ds' h'=>TrL E ops l σ' ds' h' Q):TrL E ops (o ::l) σ ds h Q:=
 trL_op hg (.inl hrd) hd x
theorem ok_deferClose {x:Operand} {c:Nat} {tys:Array TypeId} {bs:Array Bool} (hx:evalS σ x=.chan (some c)) (hb:(#[x].map fun | .const _=>true | _=>false)=bs) (k:T (putS σ dst undef) (closeD tys ty bs c ::ds) h) :
  OpK E ⟨dst,.defer ⟨.builtin .close,#[x],tys⟩,ty,pos,af,gd⟩ σ ds h T:=by
 unfold OpK execOp;simp only [];refine gh_bind _ _ ?_;unfold resolve;simp only [];refine gh_pure (gh_pure ?_);have e:(#[x].map (evalS σ):Array Value)=#[.chan (some c)]:=by simp [hx]
 rw [e];subst hb;exact k
end
section
variable {d m:Int} {gs:List Good} {ms:List Move} {cs:List Count} {k c:Nat}
theorem clash_none (hk:k<2 ^ cs.length) (h:someB d gs ms (pickC cs (k:Int) cs.length) m=true) :
  some (sendS c (clashFrom d m gs ms cs k (2 ^ cs.length-k)))=some (sendS c (clashFrom d m gs ms cs (k+1) (2 ^ cs.length-(k+1)))):=by
 rw [show 2 ^ cs.length-k=(2 ^ cs.length-(k+1))+1 by omega,clashFrom_none h]
theorem clash_some (hk:k<2 ^ cs.length) (h:someB d gs ms (pickC cs (k:Int) cs.length) m=false) :
  some (sendS c (clashFrom d m gs ms cs k (2 ^ cs.length-k)))=some (.send c (pickI (k:Int) cs.length) (sendS c (clashFrom d m gs ms cs (k+1) (2 ^ cs.length-(k+1))))):=by
 rw [show 2 ^ cs.length-k=(2 ^ cs.length-(k+1))+1 by omega,clashFrom_some h];rfl
theorem clash_end (hk:2 ^ cs.length≤k):some (sendS c (clashFrom d m gs ms cs k (2 ^ cs.length-k)))=some (.close c .done):=by
 rw [show 2 ^ cs.length-k=0 by omega];rfl
theorem clash_lt (h:(k:Int)<(2:Int) ^ ((cs.length:Int)).toNat):k<2 ^ cs.length:=by
 have:=pow_nat cs.length
 rw [Int.toNat_natCast] at h;omega
theorem clash_ge (h:¬(k:Int)<(2:Int) ^ ((cs.length:Int)).toNat):2 ^ cs.length≤k:=by
 have:=pow_nat cs.length
 rw [Int.toNat_natCast] at h;omega
end
end Go.Ns
namespace Go.Ns
theorem bookBell_of {d m:Int} {gs:List Good} {ms:List Move} {cs:List Count} (b:BookOK d m gs ms cs):bookBell d m gs ms cs=0:=by
 unfold bookBell;refine firstB_miss fun j _ hj=>?_
 have:j=0∨j=1∨j=2∨j=3:=by omega
 rcases this with rfl | rfl | rfl | rfl
 ·show headBell d m=0;unfold headBell;have:=b.days;have:=b.most;rw [if_neg (by omega)]
 ·show goodsBell gs=0;unfold goodsBell;have:=b.glen;rw [if_neg (by omega)];exact firstB_miss fun j _ hj=>b.good j (by omega)
 ·show movesBell d gs ms=0;unfold movesBell;have:=b.mlen;rw [if_neg (by omega)];exact firstB_miss fun j _ hj=>b.move j (by omega)
 ·show countsBell d gs cs=0;unfold countsBell;have:=b.clen;rw [if_neg (by omega)];exact firstB_miss fun j _ hj=>b.count j (by omega)
section
variable {d m:Int} {gs:List Good} {ms:List Move} {cs:List Count}
end
theorem numsBell_of {l:List Int} {n:Int} (h:(l.length:Int)=n) (h2:∀x ∈ l,0≤x∧x≤99):numsBell l n=0:=by
 unfold numsBell;rw [if_neg (by simpa using h),if_neg];rw [List.any_eq_true];rintro ⟨x,hx,e⟩;exact (of_decide_eq_true e) (h2 x hx)
section
variable {d m:Int} {gs:List Good} {ms:List Move} {cs:List Count} {picks:List Int} {bits:Int}
end
end Go.Ns
namespace Go.Ns
open Go.Conc
section
variable {P:Program} {E:Env P} {σ:Nat→Value} {ds:List Deferred} {h:GH} {T:(Nat→Value)→List Deferred→GH→Prop} {dst:Option Nat} {ty:TypeId} {pos:String} {af:Array Edge} {gd:Option (Nat×Bool)}
theorem bytesOf_at {s:ByteArray} {i:Nat} (h:i<s.size):((s[i]'h).toNat:Int)=(bytesOf s).getD i 0:=by
 have h2:i<(bytesOf s).length:=by rw [bytesOf_length];exact h
 rw [getD_at 0 h2];exact (List.getElem_map (l:=s.data.toList) (f:=fun b=>(b.toNat:Int)) (h:=h2)).symm
theorem ok_indexSb {t:TypeId} {x ix:Operand} {s:ByteArray} {kd:IntKind} {i:Int} (ht:strOf P t=true) (hx:evalS σ x=.string s) (hi:evalS σ ix=.int kd i) (h0:0≤i) (h1:i<s.size) (k:T (putS σ dst (.int .u8 ((bytesOf s).getD i.toNat 0))) ds h) :
  OpK E ⟨dst,.index t x ix,ty,pos,af,gd⟩ σ ds h T:=ok_indexS ht hx hi h0 h1 (by rw [bytesOf_at];exact k)
end
theorem nameOK_size {s:ByteArray} (h:¬(1≤(s.size:Int)∧(s.size:Int)≤10)):nameOK s=false:=by unfold nameOK;rw [decide_eq_false h,Bool.and_false]
def countOne (d:Int) (gs:List Good) (c:Count):Int:=if¬(0≤c.good∧c.good≤(gs.length:Int)-1) then 6 else if¬(0≤c.day∧c.day≤d)∨¬((0≤c.low∧c.low≤c.high)∧c.high≤999) then 1 else 0
section
variable {d m:Int} {gs:List Good} {ms:List Move} {cs:List Count}
theorem bookBell_eq:bookBell d m gs ms cs=if headBell d m=0 then (if goodsBell gs=0 then (if movesBell d gs ms=0 then (if countsBell d gs cs=0 then 0 else countsBell d gs cs) else movesBell d gs ms) else goodsBell gs) else headBell d m:=rfl
theorem bb1 (h:¬(1≤d∧d≤99)∨¬(0≤m∧m≤2)):bookBell d m gs ms cs=1:=by
 have e:headBell d m=1:=if_pos h;rw [bookBell_eq,e,if_neg (by decide)]
theorem head0 (h:(1≤d∧d≤99)∧(0≤m∧m≤2)):headBell d m=0:=if_neg (by omega)
theorem bb2 (h0:(1≤d∧d≤99)∧(0≤m∧m≤2)) (h:¬goodsBell gs=0):bookBell d m gs ms cs=goodsBell gs:=by rw [bookBell_eq,if_pos (head0 h0),if_neg h]
theorem bb3 (h0:(1≤d∧d≤99)∧(0≤m∧m≤2)) (h:¬¬goodsBell gs=0) (h2:¬movesBell d gs ms=0):bookBell d m gs ms cs=movesBell d gs ms:=by rw [bookBell_eq,if_pos (head0 h0),if_pos (Decidable.not_not.1 h),if_neg h2]
theorem bb4 (h0:(1≤d∧d≤99)∧(0≤m∧m≤2)) (h:¬¬goodsBell gs=0) (h2:¬¬movesBell d gs ms=0) {c:Int} (h3:countsBell d gs cs=c):bookBell d m gs ms cs=c:=by
 rw [bookBell_eq,if_pos (head0 h0),if_pos (Decidable.not_not.1 h),if_pos (Decidable.not_not.1 h2),h3];by_cases e:c=0
 ·rw [if_pos e,e]
 ·rw [if_neg e]
theorem counts_len (h:(4:Int)<cs.length):countsBell d gs cs=2:=if_pos h
theorem counts_hit {k:Nat} (h:¬(4:Int)<cs.length) (hs:∀j,j<k→countAt d gs cs j=0) (hk:k<cs.length) (e:¬countOne d gs (cs.getD k Count.z)=0):countsBell d gs cs=countOne d gs (cs.getD k Count.z):=by
 unfold countsBell;rw [if_neg h];exact firstB_hit0 hs hk rfl e
theorem counts_end {k:Nat} (h:¬(4:Int)<cs.length) (hs:∀j,j<k→countAt d gs cs j=0) (hk:cs.length≤k):countsBell d gs cs=0:=by
 unfold countsBell;rw [if_neg h];exact firstB_miss0 hs hk
theorem lastDay_at {k:Nat} (h:0<k):lastDay ms k=(ms.getD ((k:Int)-1).toNat Move.z).day:=by
 unfold lastDay;rw [if_neg (by omega),show ((k:Int)-1).toNat=k-1 by omega]
theorem mv1 {k:Nat} (h:(ms.getD k Move.z).kind<0∨4<(ms.getD k Move.z).kind):moveAt d gs ms k=1:=by unfold moveAt;rw [if_pos (by omega)]
theorem mv2 {k:Nat} (h0:¬((ms.getD k Move.z).kind<0∨4<(ms.getD k Move.z).kind)) (h:¬(0≤(ms.getD k Move.z).good∧(ms.getD k Move.z).good≤(gs.length:Int)-1)):moveAt d gs ms k=6:=by unfold moveAt;rw [if_neg (by omega),if_pos h]
theorem mv3 {k:Nat} (h0:¬((ms.getD k Move.z).kind<0∨4<(ms.getD k Move.z).kind)) (h1:¬¬(0≤(ms.getD k Move.z).good∧(ms.getD k Move.z).good≤(gs.length:Int)-1)) (h:¬(1≤(ms.getD k Move.z).day∧(ms.getD k Move.z).day≤d)):moveAt d gs ms k=1:=by
 unfold moveAt;rw [if_neg (by omega),if_neg h1,if_pos h]
theorem mv4 {k:Nat} (h0:¬((ms.getD k Move.z).kind<0∨4<(ms.getD k Move.z).kind)) (h1:¬¬(0≤(ms.getD k Move.z).good∧(ms.getD k Move.z).good≤(gs.length:Int)-1)) (h2:¬¬(1≤(ms.getD k Move.z).day∧(ms.getD k Move.z).day≤d)) (hk:(0:Int)<(k:Int))
  (h:(ms.getD k Move.z).day<(ms.getD ((k:Int)-1).toNat Move.z).day):moveAt d gs ms k=7:=by
 unfold moveAt;rw [if_neg (by omega),if_neg h1,if_neg h2,lastDay_at (by omega),if_pos h]
theorem mv5 {k:Nat} (h0:¬((ms.getD k Move.z).kind<0∨4<(ms.getD k Move.z).kind)) (h1:¬¬(0≤(ms.getD k Move.z).good∧(ms.getD k Move.z).good≤(gs.length:Int)-1)) (h2:¬¬(1≤(ms.getD k Move.z).day∧(ms.getD k Move.z).day≤d)) {c:Int}
  (h3:(0:Int)<(k:Int)→¬(ms.getD k Move.z).day<(ms.getD ((k:Int)-1).toNat Move.z).day) (h4:(if¬isFew (ms.getD k Move.z).low (ms.getD k Move.z).high then (1:Int) else 0)=c):moveAt d gs ms k=c:=by
 have e:¬(ms.getD k Move.z).day<lastDay ms k:=by
  by_cases hk:0<k
  ·rw [lastDay_at hk];exact h3 (by omega)
  ·have:=Decidable.not_not.1 h2
   unfold lastDay;rw [if_pos (by omega)];omega
 unfold moveAt;rw [if_neg (by omega),if_neg h1,if_neg h2,if_neg e,h4]
theorem gd4 {k:Nat} (h:nameOK (gs.getD k Good.z).name=false):goodAt gs k=4:=by unfold goodAt;rw [if_pos h]
theorem gd5 {k j:Nat} (h0:nameOK (gs.getD k Good.z).name=true) (hj:(j:Int)<(k:Int)) (hk:(k:Int)<gs.length) (h:((gs.getD j Good.z).name.toList==(gs.getD k Good.z).name.toList)=true):goodAt gs k=5:=by
 unfold goodAt;rw [if_neg (by rw [h0];decide),if_pos];rw [List.any_eq_true];refine ⟨gs.getD j Good.z,?_,h⟩;rw [getD_at Good.z (show j<gs.length by omega)];exact List.mem_take_iff_getElem.2 ⟨j,by omega,rfl⟩
theorem gd1 {k j:Nat} (h0:nameOK (gs.getD k Good.z).name=true) (hj:j≤k) (hj':¬(j:Int)<(k:Int)) (h:(gs.take j).any (fun x=>x.name.toList==(gs.getD k Good.z).name.toList)=false) {c:Int}
  (hc:(if (¬(0≤(gs.getD k Good.z).cost∧(gs.getD k Good.z).cost≤999)∨¬(1≤(gs.getD k Good.z).pack∧(gs.getD k Good.z).pack≤20))∨¬isFew (gs.getD k Good.z).low (gs.getD k Good.z).high then (1:Int) else 0)=c):goodAt gs k=c:=by
 obtain rfl:j=k:=by omega
 unfold goodAt;rw [if_neg (by rw [h0];decide),if_neg (by rw [h];decide),hc]
def greatB (gs:List Good) (ms:List Move) (cs:List Count):Bool:=decide ((20:Int)<gs.length) || decide ((20:Int)<ms.length) || decide ((20:Int)<cs.length) || gs.any fun x=>decide ((100:Int)<x.name.size)
theorem great_len (h:((20:Int)<gs.length∨(20:Int)<ms.length)∨(20:Int)<cs.length):greatB gs ms cs=true:=by
 unfold greatB;rcases h with (h | h) | h <;> simp [h]
theorem great_hit {k:Nat} (hk:k<gs.length) (h:(100:Int)<(gs.getD k Good.z).name.size):greatB gs ms cs=true:=by
 unfold greatB;rw [Bool.or_eq_true];right;rw [List.any_eq_true];exact ⟨_,getD_mem hk,decide_eq_true h⟩
theorem great_end {k:Nat} (h:¬(20:Int)<gs.length) (h2:¬(20:Int)<ms.length) (h3:¬(20:Int)<cs.length) (hk:gs.length≤k) (hs:∀j,j<k→¬(100:Int)<(gs.getD j Good.z).name.size):greatB gs ms cs=false:=by
 unfold greatB;rw [decide_eq_false h,decide_eq_false h2,decide_eq_false h3];simp only [Bool.false_or];rw [List.any_eq_false];intro x hx;obtain ⟨i,hi,rfl⟩:=List.getElem_of_mem hx
 have:=hs i (by omega)
 rw [getD_at Good.z hi] at this;simpa using this
theorem great_names (h:greatB gs ms cs=false):∀k,(gs.getD k Good.z).name.size≤1000:=by
 unfold greatB at h;rw [Bool.or_eq_false_iff] at h;intro k;by_cases hk:k<gs.length
 ·have:=List.any_eq_false.1 h.2 _ (getD_mem (d:=Good.z) hk)
  have:=of_decide_eq_false (Bool.eq_false_iff.2 this)
  omega
 ·rw [getD_out (by omega)];decide
theorem great_names' (h:(!greatB gs ms cs)=true):∀k,(gs.getD k Good.z).name.size≤1000:=great_names (by simpa using h)
def fitB (d m:Int) (gs:List Good) (ms:List Move) (cs:List Count):Bool:= !greatB gs ms cs && decide (bookBell d m gs ms cs=0)
end
theorem SlAll.cons {h:GH} {l:List Sl} {v:Value} {xs:List Int} (a:SlIs h v 1 eI xs) (b:SlAll h l):SlAll h ((v,xs) ::l):=fun k=>by
 cases k with
 | zero=>exact a
 | succ k=>exact b k
theorem lists_take {a b:List Sl} {k:Nat} (h:(lists a).take k=(lists b).take k) (ha:k<a.length) (hb:k<b.length) (e:(a.getD k Sl.z).2=(b.getD k Sl.z).2):(lists a).take (k+1)=(lists b).take (k+1):=
 take_eq_of [] h (by rw [lists_length];exact ha) (by rw [lists_length];exact hb) (by rw [lists_getD ha,lists_getD hb,e])
theorem lists_end {a b:List Sl} {k:Nat} (h:(lists a).take k=(lists b).take k) (hk:¬(k:Int)<a.length) (hl:(a.length:Int)=b.length):lists a=lists b:=by
 rw [List.take_of_length_le (by rw [lists_length];omega),List.take_of_length_le (by rw [lists_length];omega)] at h;exact h
theorem lists_ne {a b:List Sl} (h:¬(a.length:Int)=b.length):¬lists a=lists b:=fun e=>h (by rw [←lists_length,←lists_length,e])
theorem lists_neAt {a b:List Sl} {k:Nat} (ha:k<a.length) (hb:k<b.length) (e:¬(a.getD k Sl.z).2=(b.getD k Sl.z).2):¬lists a=lists b:=fun q=>e (by rw [←lists_getD ha,←lists_getD hb,q])
end Go.Ns
namespace Go.Ns
open Go.Conc
def exGs:List Good:=[⟨⟨#[116,101,97]⟩,5,4,3,3⟩,⟨⟨#[114,105,99,101]⟩,2,10,5,6⟩]
def exMs:List Move:=[⟨0,0,2,4,4⟩,⟨1,0,3,2,3⟩,⟨2,1,4,0,1⟩,⟨0,1,5,10,10⟩]
def exCs:List Count:=[⟨0,10,4,5⟩,⟨1,10,5,5⟩]
theorem ex_names:∀k,(exGs.getD k Good.z).name.size≤1000
 | 0=>by decide
 | 1=>by decide
 | k+2=>by rw [getD_out (by simp [exGs])];decide
theorem fill_sl7 {v0 v1 v2 v3 v4 v5 v6:Value} (h0:v0.cells=#[v0]) (h1:v1.cells=#[v1]) (h2:v2.cells=#[v2]) (h3:v3.cells=#[v3]) (h4:v4.cells=#[v4]) (h5:v5.cells=#[v5]) (h6:v6.cells=#[v6]):Instr.fill (fun i=>some (i*1,1)) ((Array.range (7*1)).map (#[Value.slice none 0 0][·% #[Value.slice none 0 0].size]!)) [(0,v0),(1,v1),(2,v2),(3,v3),(4,v4),(5,v5),(6,v6)]=some #[v0,v1,v2,v3,v4,v5,v6]:=by
 have e:((Array.range (7*1)).map (#[Value.slice none 0 0][·% #[Value.slice none 0 0].size]!))=#[Value.slice none 0 0,Value.slice none 0 0,Value.slice none 0 0,Value.slice none 0 0,Value.slice none 0 0,Value.slice none 0 0,Value.slice none 0 0]:=by kernel_rfl
 rw [e];simp [Instr.fill,h0,h1,h2,h3,h4,h5,h6]
theorem SlIs.isSl {α:Type} {h:GH} {v:Value} {n:Nat} {enc:α→Array Value} {xs:List α} (x:SlIs h v n enc xs):∀k i,v≠.int k i:=by
 obtain ⟨a,cap,rfl,_⟩:=x;intro k i e;cases e
theorem SlIs.across {h h':GH} {v:Value} {xs:List Int} {r:Nat} {a b c:Value} {T:TypeId} (x:SlIs h v 1 eI xs) (hb:h r=some (true,.cells #[.int .i64 10,.int .i64 1,a,b,c] T (0,0))) (ho:∀y,y≠r→h' y=h y)
  (ha:∀k i,a≠.int k i) (hb':∀k i,b≠.int k i) (hc:∀k i,c≠.int k i) (hx:∀o,o<5→∃i:Fin xs.length,(o+i.val=0→xs[i.val]≠10)∧(o+i.val=1→xs[i.val]≠1)):SlIs h' v 1 eI xs:=by
 obtain ⟨ad,cap,hv,hcap,hm,he⟩:=x;refine ⟨ad,cap,hv,hcap,hm,fun i hi=>?_⟩;obtain ⟨y,off,h1,h2⟩:=he i hi;refine ⟨y,off,h1,h2.same (ho y ?_)⟩;rintro rfl;have key:∀j (hj:j<xs.length),off+j<5∧(#[Value.int .i64 10,.int .i64 1,a,b,c]:Array Value).extract (off+j) (off+j+1)=eI xs[j]:=fun j hj=>by
  obtain ⟨y2,off2,h3,h4⟩:=he j hj;rw [h1] at h3;simp only [Option.some.injEq,Addr.mk.injEq,and_true] at h3;obtain ⟨rfl,rfl⟩:=h3;obtain ⟨p,cc,t,f,q1,q2,q3⟩:=h4;rw [hb] at q1;simp only [Option.some.injEq,Prod.mk.injEq,Obj.cells.injEq] at q1;obtain ⟨_,rfl,_⟩:=q1;rw [Nat.mul_one] at q2 q3;exact ⟨by simp at q2;omega,q3⟩
 obtain ⟨⟨j,hj⟩,e0,e1⟩:=hx off (by have:=(key i hi).1;omega);obtain ⟨k1,k2⟩:=key j hj;simp only at e0 e1;generalize off+j=o at k1 k2 e0 e1;generalize xs[j]=z at k2 e0 e1
 have:o=0∨o=1∨o=2∨o=3∨o=4:=by omega
 rcases this with rfl | rfl | rfl | rfl | rfl
 ·have k3:(#[.int .i64 10]:Array Value)=#[.int .i64 z]:=k2;simp at k3;exact e0 rfl k3.symm
 ·have k3:(#[.int .i64 1]:Array Value)=#[.int .i64 z]:=k2;simp at k3;exact e1 rfl k3.symm
 ·have k3:(#[a]:Array Value)=#[.int .i64 z]:=k2;simp at k3;exact ha _ _ k3
 ·have k3:(#[b]:Array Value)=#[.int .i64 z]:=k2;simp at k3;exact hb' _ _ k3
 ·have k3:(#[c]:Array Value)=#[.int .i64 z]:=k2;simp at k3;exact hc _ _ k3
def histN (d m:Int) (gs:List Good) (ms:List Move) (cs:List Count):Int:=if bookBell d m gs ms cs=0 then ((hists d gs ms cs m).length:Int) else 0
end Go.Ns
namespace Go.Ns
open Go.Conc
section
variable {P:Program} {E:Env P} {σ:Nat→Value} {ds:List Deferred} {h:GH} {T:(Nat→Value)→List Deferred→GH→Prop} {dst:Option Nat} {ty:TypeId} {pos:String} {af:Array Edge} {gd:Option (Nat×Bool)}
end
section
variable {d m:Int} {gs:List Good} {ms:List Move} {cs:List Count} {f y l:List Int}
theorem fit_ok (h:fitB d m gs ms cs=true):BookOK d m gs ms cs∧∀k,(gs.getD k Good.z).name.size≤1000:=by
 unfold fitB at h;rw [Bool.and_eq_true] at h;exact ⟨bookOK (of_decide_eq_true h.2),great_names' h.1⟩
end
end Go.Ns
namespace Go.Ns
open Go.Conc
section
variable {P:Program} {E:Env P} {σ:Nat→Value} {ds:List Deferred} {h:GH} {T:(Nat→Value)→List Deferred→GH→Prop} {dst:Option Nat} {ty:TypeId} {pos:String} {af:Array Edge} {gd:Option (Nat×Bool)}
end
end Go.Ns
namespace Go.Ns
open Go.Conc Go Go.RowKit
section
variable {d m:Int} {gs:List Good} {ms:List Move} {cs:List Count}
end
section
variable {P:Program} {E:Env P} {σ:Nat→Value} {ds:List Deferred} {h:GH} {T:(Nat→Value)→List Deferred→GH→Prop} {dst:Option Nat} {ty:TypeId} {pos:String} {af:Array Edge} {gd:Option (Nat×Bool)}
end
end Go.Ns
namespace Go.Ns
open Go.Conc Go Go.RowKit
theorem lyingTo_congr {p q:Past}:∀{n:Nat},(∀k,k<n→p.lies k=q.lies k)→lyingTo p n=lyingTo q n
 | 0,_=>rfl
 | n+1,h=>by unfold lyingTo;rw [lyingTo_congr fun k hk=>h k (by omega),h n (by omega)]
theorem lyingTo_mono (p:Past):∀{i n:Nat},i≤n→lyingTo p i≤lyingTo p n
 | i,0,h=>by rw [show i=0 by omega];exact Nat.le_refl _
 | i,n+1,h=>by
  by_cases e:i=n+1
  ·rw [e];exact Nat.le_refl _
  ·have:=lyingTo_mono p (i:=i) (n:=n) (by omega)
   have h2:lyingTo p (n+1)=lyingTo p n+if p.lies n then 1 else 0:=rfl
   omega
theorem lyingTo_cut {p:Past}:∀{i n:Nat},(∀k,i≤k→k<n→p.lies k=false)→i≤n→lyingTo p n=lyingTo p i
 | i,0,_,h=>by rw [show i=0 by omega]
 | i,n+1,h0,h=>by
  by_cases e:i=n+1
  ·rw [e]
  ·have h2:lyingTo p (n+1)=lyingTo p n+if p.lies n then 1 else 0:=rfl
   rw [h2,h0 n (by omega) (by omega),lyingTo_cut (fun k hk hk'=>h0 k hk (by omega)) (by omega)];rfl
theorem lyingTo_set {p:Past} {i:Nat} {n:Int} (h:p.lies i=false):∀k,lyingTo (p.setMove i n true) k=lyingTo p k+if i<k then 1 else 0
 | 0=>rfl
 | k+1=>by
  have h1:lyingTo (p.setMove i n true) (k+1)=lyingTo (p.setMove i n true) k+if (p.setMove i n true).lies k then 1 else 0:=rfl
  have h2:lyingTo p (k+1)=lyingTo p k+if p.lies k then 1 else 0:=rfl
  have h3:(p.setMove i n true).lies k=if k=i then true else p.lies k:=rfl
  rw [h1,h2,h3,lyingTo_set h k];by_cases e:k=i
  ·subst e;have e3:¬k<k:=by omega
   have e4:k<k+1:=by omega
   simp [h,e3,e4]
  ·rw [if_neg e];by_cases e2:i<k
   ·have e4:i<k+1:=by omega
    simp only [e2,e4,if_true];omega
   ·have e4:¬i<k+1:=by omega
    simp only [e2,e4,if_false];omega
structure Legal (gs:List Good) (ms:List Move) (mo:Int) (p:Past):Prop where
 first:∀i,i<gs.length→(gs.getD i Good.z).low≤p.first i∧p.first i≤(gs.getD i Good.z).high
 many:∀i,i<ms.length→(ms.getD i Move.z).low≤p.many i∧p.many i≤(ms.getD i Move.z).high
 note:∀i,i<ms.length→p.lies i=true→isNoteB ms i=true
 few:(lyingTo p ms.length:Int)≤mo
theorem movesFrom_out {ag:Past→Bool} {ms:List Move} {mo:Int} (h6:ms.length≤6):∀(f i:Nat) (p q:Past),i+f=ms.length→(∀k,i≤k→p.lies k=false)→(lyingTo p 6:Int)≤mo→q ∈ movesFrom ag ms mo f i p→
  ag q=true∧q.first=p.first∧(∀k,k<i→q.many k=p.many k∧q.lies k=p.lies k)∧(∀k,i≤k→k<ms.length→(ms.getD k Move.z).low≤q.many k∧q.many k≤(ms.getD k Move.z).high∧(q.lies k=true→isNoteB ms k=true))∧(lyingTo q 6:Int)≤mo
 | 0,i,p,q,e,_,hl,h=>by
  unfold movesFrom at h;split at h
  ·rename_i ha
   rw [List.mem_singleton] at h;subst h;exact ⟨ha,rfl,fun _ _=>⟨rfl,rfl⟩,fun k h1 h2=>by omega,hl⟩
  ·cases h
 | f+1,i,p,q,e,hz,hl,h=>by
  rw [movesFrom_succ,List.mem_flatMap] at h;obtain ⟨n,hn,h⟩:=h;rw [mem_spanL] at hn;have hlf:∀k,i+1≤k→(p.setMove i n false).lies k=false:=fun k hk=>by
   show (if k=i then false else p.lies k)=false;split
   ·rfl
   ·exact hz k (by omega)
  have hcf:lyingTo (p.setMove i n false) 6=lyingTo p 6:=lyingTo_congr fun k _=>by
   show (if k=i then false else p.lies k)=p.lies k;split
   ·rename_i e2;rw [e2,hz i (Nat.le_refl _)]
   ·rfl
  unfold moveRound at h;rw [List.mem_append] at h;rcases h with h | h
  ·obtain ⟨a1,a2,a3,a4,a5⟩:=movesFrom_out h6 f (i+1) _ q (by omega) hlf (by rw [hcf];exact hl) h;refine ⟨a1,a2,fun k hk=>?_,fun k h1 h2=>?_,a5⟩
   ·have:=a3 k (by omega)
    rw [this.1,this.2];exact ⟨show (if k=i then n else p.many k)=_ from if_neg (by omega),show (if k=i then false else p.lies k)=_ from if_neg (by omega)⟩
   ·by_cases e2:k=i
    ·subst e2
     have:=a3 k (by omega)
     have g1:(p.setMove k n false).many k=n:=if_pos rfl;have g2:(p.setMove k n false).lies k=false:=if_pos rfl;rw [this.1,this.2,g1,g2];exact ⟨hn.1,hn.2,fun q=>by cases q⟩
    ·exact a4 k (by omega) h2
  ·split at h
   ·rename_i hc
    rw [Bool.and_eq_true] at hc;have hlt:=of_decide_eq_true hc.2;have hct:lyingTo (p.setMove i n true) 6=lyingTo p 6+1:=by rw [lyingTo_set (hz i (Nat.le_refl _)),if_pos (by omega)]
    have hlt2:∀k,i+1≤k→(p.setMove i n true).lies k=false:=fun k hk=>by
     show (if k=i then true else p.lies k)=false;rw [if_neg (by omega)];exact hz k (by omega)
    obtain ⟨a1,a2,a3,a4,a5⟩:=movesFrom_out h6 f (i+1) _ q (by omega) hlt2 (by rw [hct];omega) h;refine ⟨a1,a2,fun k hk=>?_,fun k h1 h2=>?_,a5⟩
    ·have:=a3 k (by omega)
     rw [this.1,this.2];exact ⟨show (if k=i then n else p.many k)=_ from if_neg (by omega),show (if k=i then true else p.lies k)=_ from if_neg (by omega)⟩
    ·by_cases e2:k=i
     ·subst e2
      have:=a3 k (by omega)
      have g1:(p.setMove k n true).many k=n:=if_pos rfl;rw [this.1,g1];exact ⟨hn.1,hn.2,fun _=>hc.1⟩
     ·exact a4 k (by omega) h2
   ·cases h
theorem goodsFrom_out {ag:Past→Bool} {gs:List Good} {ms:List Move} {mo:Int} (h6:ms.length≤6) (h0:0≤mo):∀(f i:Nat) (p q:Past),i+f=gs.length→(∀k,p.lies k=false)→q ∈ goodsFrom ag gs ms mo f i p→
  ag q=true∧(∀k,k<i→q.first k=p.first k)∧(∀k,i≤k→k<gs.length→(gs.getD k Good.z).low≤q.first k∧q.first k≤(gs.getD k Good.z).high)∧(∀k,k<ms.length→(ms.getD k Move.z).low≤q.many k∧q.many k≤(ms.getD k Move.z).high∧(q.lies k=true→isNoteB ms k=true))∧(lyingTo q 6:Int)≤mo
 | 0,i,p,q,e,hz,h=>by
  have hl:(lyingTo p 6:Int)≤mo:=by
   rw [lyingTo_cut (i:=0) (fun k _ _=>hz k) (Nat.zero_le _)];exact h0
  obtain ⟨a1,a2,_,a4,a5⟩:=movesFrom_out h6 ms.length 0 p q (by omega) (fun k _=>hz k) hl h;exact ⟨a1,fun k _=>by rw [a2],fun k h1 h2=>by omega,fun k hk=>a4 k (Nat.zero_le _) hk,a5⟩
 | f+1,i,p,q,e,hz,h=>by
  rw [goodsFrom_succ,List.mem_flatMap] at h;obtain ⟨n,hn,h⟩:=h;rw [mem_spanL] at hn;obtain ⟨a1,a2,a3,a4,a5⟩:=goodsFrom_out h6 h0 f (i+1) (p.setFirst i n) q (by omega) hz h;refine ⟨a1,fun k hk=>?_,fun k h1 h2=>?_,a4,a5⟩
  ·rw [a2 k (by omega)];exact if_neg (by omega)
  ·by_cases e2:k=i
   ·subst e2;rw [a2 k (by omega)];have g1:(p.setFirst k n).first k=n:=if_pos rfl;rw [g1];exact hn
   ·exact a3 k (by omega) h2
theorem hists_out {d:Int} {gs:List Good} {ms:List Move} {cs:List Count} {mo:Int} (h6:ms.length≤6) (h0:0≤mo) {q:Past} (h:q ∈ hists d gs ms cs mo):Legal gs ms mo q∧agreesB d gs.length ms cs q=true:=by
 obtain ⟨a1,_,a3,a4,a5⟩:=goodsFrom_out h6 h0 gs.length 0 Past.zero q (by omega) (fun _=>rfl) h;refine ⟨⟨fun i hi=>a3 i (Nat.zero_le _) hi,fun i hi=>⟨(a4 i hi).1,(a4 i hi).2.1⟩,fun i hi=>(a4 i hi).2.2,?_⟩,a1⟩
 have:=lyingTo_mono q h6
 omega
end Go.Ns
namespace Go.Ns
open Go.Conc
theorem foldl_dstep_in {x:Int}:∀(l acc:List Int),x ∈ acc∨x ∈ l→x ∈ l.foldl dstep acc
 | [],acc,h=>h.elim id fun h=>by cases h
 | y ::l,acc,h=>by
  refine foldl_dstep_in l _ ?_;unfold dstep;rcases h with h | h
  ·left;split
   ·exact h
   ·exact List.mem_append_left _ h
  ·rcases List.mem_cons.1 h with rfl | h
   ·left;split
    ·rename_i e;exact List.mem_of_getLast? e
    ·exact List.mem_append_right _ (List.mem_singleton.2 rfl)
   ·exact .inr h
theorem foldl_dstep_asc:∀(l acc:List Int),l.Pairwise (·≤·)→acc.Pairwise (· < ·)→(∀a ∈ acc,∀x ∈ l,a≤x)→(l.foldl dstep acc).Pairwise (· < ·)
 | [],_,_,h,_=>h
 | y ::l,acc,hl,ha,hx=>by
  rw [List.pairwise_cons] at hl;refine foldl_dstep_asc l _ hl.2 ?_ ?_
  ·unfold dstep;split
   ·exact ha
   ·rename_i hne
    rw [List.pairwise_append];refine ⟨ha,List.pairwise_singleton ..,fun a ha' b hb=>?_⟩;rw [List.mem_singleton] at hb;subst hb;have h1:=hx a ha' b List.mem_cons_self;rcases Int.lt_or_eq_of_le h1 with h2 | h2
    ·exact h2
    ·subst h2;exfalso;obtain ⟨z,hz⟩:∃z,acc.getLast? =some z:=by
      cases hq:acc.getLast? with
      | none=>rw [List.getLast?_eq_none_iff] at hq;subst hq;cases ha'
      | some z=>exact ⟨z,rfl⟩
     have hzm:=List.mem_of_getLast? hz;have h3:=hx z hzm a List.mem_cons_self;have h4:a≤z:=by
      obtain ⟨l0,hl0⟩:∃l0,acc=l0++[z]:=by
       rcases List.eq_nil_or_concat acc with e | ⟨l0,y0,e⟩
       ·subst e;cases hz
       ·subst e;simp at hz;subst hz;exact ⟨l0,by simp⟩
      subst hl0;rcases List.mem_append.1 ha' with q | q
      ·rw [List.pairwise_append] at ha;exact Int.le_of_lt (ha.2.2 a q z (List.mem_singleton.2 rfl))
      ·rw [List.mem_singleton] at q;omega
     exact hne (by rw [hz,show z=a by omega])
  ·intro a ha' x hx';unfold dstep at ha';split at ha'
   ·exact hx a ha' x (List.mem_cons_of_mem _ hx')
   ·rcases List.mem_append.1 ha' with q | q
    ·exact hx a q x (List.mem_cons_of_mem _ hx')
    ·rw [List.mem_singleton] at q;subst q;exact hl.1 x hx'
theorem eachL_iff {n:Nat} {f:Nat→Int} {x:Int}:x ∈ eachL n f↔∃i,i<n∧f i=x:=by
 refine ⟨eachL_mem,fun ⟨i,hi,e⟩=>foldl_dstep_in _ _ (.inr ?_)⟩;rw [sortI_eq];exact List.mem_mergeSort.2 (List.mem_map.2 ⟨i,List.mem_range.2 hi,e⟩)
theorem eachL_asc (n:Nat) (f:Nat→Int):(eachL n f).Pairwise (· < ·):=by
 refine foldl_dstep_asc _ _ ?_ List.Pairwise.nil (fun a ha=>by cases ha);rw [sortI_eq]
 have:=List.pairwise_mergeSort (le:=fun x y:Int=>decide (x≤y)) (fun a b c h1 h2=>by simp at *;omega) (fun a b=>by simp;omega) ((List.range n).map f)
 exact this.imp fun h=>by simpa using h
theorem asc_getD {l:List Int} (h:l.Pairwise (· < ·)) {i j:Nat} (hij:i≤j) (hj:j<l.length):l.getD i 0≤l.getD j 0:=by
 rcases Nat.lt_or_eq_of_le hij with q | rfl
 ·rw [getD_at 0 hj,getD_at 0 (by omega)];exact Int.le_of_lt (List.pairwise_iff_getElem.1 h i j (by omega) hj q)
 ·exact Int.le_refl _
theorem eachL_ends {n:Nat} (f:Nat→Int) (hn:0<n):(∀i,i<n→spanLo (eachL n f)≤f i∧f i≤spanHi (eachL n f))∧(∃i,i<n∧f i=spanLo (eachL n f))∧∃i,i<n∧f i=spanHi (eachL n f):=by
 have hp:=eachL_pos f hn;refine ⟨fun i hi=>?_,eachL_mem (getD_mem (d:=0) hp),eachL_mem (getD_mem (d:=0) (by omega))⟩;obtain ⟨k,hk,e⟩:=List.mem_iff_getElem.1 (eachL_iff.2 ⟨i,hi,rfl⟩);have e':(eachL n f).getD k 0=f i:=by rw [getD_at 0 hk];exact e
 rw [←e'];exact ⟨asc_getD (eachL_asc n f) (Nat.zero_le _) hk,asc_getD (eachL_asc n f) (by omega) (by omega)⟩
section
variable {d m:Int} {gs:List Good} {ms:List Move} {cs:List Count}
theorem own_fine {o:List Int} (h:∀x ∈ o,x=0):firstB (fun k=>o.getD k 0) 0 o.length=0:=firstB_miss0 (k:=o.length) (fun j hj=>h _ (getD_mem hj)) (Nat.le_refl _)
theorem look_fine (b:BookOK d m gs ms cs) {o:List Int} (h:∀x ∈ o,x=0):lookBell d m gs ms cs o=if (hists d gs ms cs m).length=0 then 9 else 0:=by
 unfold lookBell;rw [if_neg (by rw [bookBell_of b];simp),if_neg (by rw [own_fine h];simp)]
end
end Go.Ns
namespace Go.Ns
open Go.Conc
section
variable {P:Program} {E:Env P} {σ:Nat→Value} {ds:List Deferred} {h:GH} {T:(Nat→Value)→List Deferred→GH→Prop}
variable {dst:Option Nat} {ty:TypeId} {pos:String} {af:Array Edge} {gd:Option (Nat×Bool)}
end
theorem stockRun_low {ms:List Move} {p:Past} {g dy:Int} (hd:∀k,k<ms.length→(ms.getD k Move.z).day≤dy):∀(f k:Nat) (n low:Int),k+f=ms.length→(f=0→low≤n)→(stockRun ms p g dy f k n low).2≤(stockRun ms p g dy f k n low).1
 | 0,_,_,_,_,h=>h rfl
 | f+1,k,n,low,e,_=>by
  unfold stockRun;rw [if_neg (by have:=hd k (by omega);omega)];refine stockRun_low hd f (k+1) _ _ (by omega) fun h0=>?_;unfold lowNext;rw [if_pos (by omega)];exact Int.min_le_right ..
section
variable {d m:Int} {gs:List Good} {ms:List Move} {cs:List Count}
theorem stock_left {mo:Int} (b:BookOK d m gs ms cs) (h0:0≤mo) {p:Past} (hp:p ∈ hists d gs ms cs mo) {g:Int} (hg:0≤g∧g<gs.length):0≤(stockOf ms p g d).1:=by
 have h1:=(hists_out b.mlen h0 hp).2;unfold agreesB at h1;rw [Bool.and_eq_true,decide_eq_true_eq] at h1;have h2:=h1.1 g.toNat (by omega);rw [show ((g.toNat:Nat):Int)=g by omega] at h2;have h3:(stockOf ms p g d).2≤(stockOf ms p g d).1:=stockRun_low (fun k hk=>(b.move' hk).2.2.1.2) _ _ _ _ (by omega) fun _=>Int.le_refl _;omega
theorem in_left (b:BookOK d m gs ms cs) {g:Int} (hg:0≤g∧g<gs.length) (h:¬(hists d gs ms cs m).length=0) :
  0≤spanLo (inL d ms (hists d gs ms cs m) g)∧spanLo (inL d ms (hists d gs ms cs m) g)≤spanHi (inL d ms (hists d gs ms cs m) g):=by
 have hm:=b.most;unfold inL;obtain ⟨a1,⟨i1,hi1,a2⟩,_⟩:=eachL_ends (fun (i:Nat)=>(stockOf ms ((hists d gs ms cs m).getD ((i:Int)).toNat Past.zero) g d).1) (show 0<(hists d gs ms cs m).length by omega);have h1:=stock_left b hm.1 (getD_mem (d:=Past.zero) (show ((i1:Int)).toNat<_ by omega)) hg;have h2:=a1 i1 hi1;omega
theorem buy_fine (b:BookOK d m gs ms cs) {ls:List Int} {r:Int} (hl:ls.length=gs.length) (hl2:∀x ∈ ls,0≤x∧x≤99) (hr:0≤r∧r≤99):buyBell d m gs ms cs ls r=if (hists d gs ms cs m).length=0 then 9 else 0:=by
 refine look_fine b fun z hz=>?_;rw [numsBell_of (by omega) hl2,if_pos (by simp;omega)] at hz;simp at hz;exact hz
end
end Go.Ns
namespace Go.Ns
open Go.Conc
def ratesL (p:List Int) (n:Nat):List Int:=(List.range n).map fun (k:Nat)=>p.getD k 0%100
theorem ratesL_len (p:List Int) (n:Nat):(ratesL p n).length=n:=by simp [ratesL]
theorem ratesL_succ (p:List Int) (k:Nat):ratesL p (k+1)=ratesL p k++[p.getD k 0%100]:=range_map_succ _ _
theorem ratesL_out {p:List Int} {k:Nat} (h:¬(k:Int)<p.length):ratesL p (k+1)=ratesL p k++[0]:=by
 rw [ratesL_succ,getD_out (l:=p) (z:=(0:Int)) (by omega)];rfl
theorem ratesL_mem (p:List Int) (n:Nat):∀x ∈ ratesL p n,0≤x∧x≤99:=fun x hx=>by
 unfold ratesL at hx;obtain ⟨k,_,rfl⟩:=List.mem_map.1 hx;have h1:=Int.emod_nonneg (p.getD k 0) (show (100:Int)≠0 by decide);have h2:=Int.emod_lt_of_pos (p.getD k 0) (show (0:Int)<100 by decide);omega
section
variable {d m:Int} {gs:List Good} {ms:List Move} {cs:List Count}
theorem left_fine (b:BookOK d m gs ms cs) {g r:Int} (hg:0≤g∧g<gs.length) (hr:0≤r∧r≤d):leftBell d m gs ms cs g r=if (hists d gs ms cs m).length=0 then 9 else 0:=by
 refine look_fine b fun z hz=>?_;rw [if_pos (by simp;omega),if_pos (by simp;omega)] at hz;simp at hz;exact hz
theorem packOf_enough {ls:List Int} {r:Int} {k:Nat} (hl:0≤ls.getD k 0∧ls.getD k 0≤99) (hr:0≤r∧r≤99) (hp:1≤(gs.getD k Good.z).pack) (hs:0≤spanLo (inL d ms (hists d gs ms cs m) (k:Int))) :
  (0≤packOf d m gs ms cs ls r k∧packOf d m gs ms cs ls r k≤9801)∧ls.getD k 0*r≤spanLo (inL d ms (hists d gs ms cs m) (k:Int))+packOf d m gs ms cs ls r k*(gs.getD k Good.z).pack∧
  (packOf d m gs ms cs ls r k=0∨spanLo (inL d ms (hists d gs ms cs m) (k:Int))+packOf d m gs ms cs ls r k*(gs.getD k Good.z).pack-(gs.getD k Good.z).pack<ls.getD k 0*r):=by
 have h1:=mul_range (a:=ls.getD k 0) (b:=r) (A:=99) (B:=99) hl (by omega);have h2:0≤ls.getD k 0*r:=Int.mul_nonneg hl.1 hr.1;unfold packOf;generalize ls.getD k 0*r=x at *;generalize spanLo (inL d ms (hists d gs ms cs m) (k:Int))=lo at *;generalize (gs.getD k Good.z).pack=pk at *;generalize hn:max 0 (x-lo)=need;have hn0:0≤need:=by omega
 have e1:=Int.mul_ediv_add_emod (need+pk-1) pk;have e2:=Int.emod_nonneg (need+pk-1) (show pk≠0 by omega);have e3:=Int.emod_lt_of_pos (need+pk-1) (show 0<pk by omega);rw [Int.mul_comm] at e1;refine ⟨⟨Int.ediv_nonneg (by omega) (by omega),?_⟩,by omega,?_⟩
 ·have:=Int.ediv_lt_of_lt_mul (a:=need+pk-1) (b:=9802) (c:=pk) (by omega) (by omega)
  omega
 ·by_cases h:need=0
  ·left;exact Int.ediv_eq_zero_of_lt (by omega) (by omega)
  ·right;omega
theorem bought_9 (b:BookOK d m gs ms cs) {g r:Int} {p:List Int} (hg:0≤g∧g<gs.length) (hr:0≤r∧r≤99) (h:(hists d gs ms cs m).length=0) :
  buyBell d m gs ms cs (ratesL p gs.length) r=9∧leftBell d m gs ms cs g d=9∧(buyL d m gs ms cs (ratesL p gs.length) r).length=0:=by
 have hd:=b.days;have e1:=buy_fine (cs:=cs) b (ratesL_len p gs.length) (ratesL_mem p _) hr;rw [if_pos h] at e1;refine ⟨e1,by rw [left_fine b hg (by omega),if_pos h],?_⟩;unfold buyL;rw [if_neg (by rw [e1];decide)];rfl
theorem bought_0 (b:BookOK d m gs ms cs) {g r:Int} {p:List Int} (hg:0≤g∧g<gs.length) (hr:0≤r∧r≤99) (h:¬(hists d gs ms cs m).length=0) :
  buyBell d m gs ms cs (ratesL p gs.length) r=0∧leftBell d m gs ms cs g d=0∧(buyL d m gs ms cs (ratesL p gs.length) r).length=gs.length∧0<(leftL d m gs ms cs g d).length∧
  buyCost d m gs ms cs (ratesL p gs.length) r=costTo d m gs ms cs (ratesL p gs.length) r gs.length∧
  (∀k,k<gs.length→(buyL d m gs ms cs (ratesL p gs.length) r).getD k 0=packOf d m gs ms cs (ratesL p gs.length) r k∧0≤(buyL d m gs ms cs (ratesL p gs.length) r).getD k 0∧(buyL d m gs ms cs (ratesL p gs.length) r).getD k 0≤9801)∧
  (0≤(leftL d m gs ms cs g d).getD 0 0∧(leftL d m gs ms cs g d).getD 0 0≤693)∧(0≤(ratesL p gs.length).getD g.toNat 0∧(ratesL p gs.length).getD g.toNat 0≤99)∧
  (ratesL p gs.length).getD g.toNat 0*r≤(leftL d m gs ms cs g d).getD 0 0+(buyL d m gs ms cs (ratesL p gs.length) r).getD g.toNat 0*(gs.getD g.toNat Good.z).pack∧
  ((buyL d m gs ms cs (ratesL p gs.length) r).getD g.toNat 0=0∨(leftL d m gs ms cs g d).getD 0 0+(buyL d m gs ms cs (ratesL p gs.length) r).getD g.toNat 0*(gs.getD g.toNat Good.z).pack-(gs.getD g.toNat Good.z).pack<(ratesL p gs.length).getD g.toNat 0*r):=by
 have hd:=b.days;have e1:=buy_fine (cs:=cs) b (ratesL_len p gs.length) (ratesL_mem p _) hr;have e2:=left_fine (cs:=cs) b hg (show 0≤d∧d≤d by omega);rw [if_neg h] at e1 e2;have hrt:∀k,k<gs.length→0≤(ratesL p gs.length).getD k 0∧(ratesL p gs.length).getD k 0≤99:=fun k hk=>ratesL_mem p gs.length _ (getD_mem (by rw [ratesL_len];exact hk));have hb:∀k,k<gs.length→(buyL d m gs ms cs (ratesL p gs.length) r).getD k 0=packOf d m gs ms cs (ratesL p gs.length) r k:=fun k hk=>by
  unfold buyL;rw [if_pos e1,List.getD_eq_getElem?_getD,List.getElem?_map,List.getElem?_range hk];rfl
 have hin:∀k:Nat,k<gs.length→0≤spanLo (inL d ms (hists d gs ms cs m) (k:Int)):=fun k hk=>(in_left b (by omega) h).1;have hen:=fun k (hk:k<gs.length)=>packOf_enough (d:=d) (m:=m) (ms:=ms) (cs:=cs) (hrt k hk) hr (b.good' hk).2.1.1 (hin k hk);have hle:leftL d m gs ms cs g d=inL d ms (hists d gs ms cs m) g:=by unfold leftL inL;rw [if_pos e2]
 have hlo:(leftL d m gs ms cs g d).getD 0 0=spanLo (inL d ms (hists d gs ms cs m) g):=by rw [hle];rfl
 have hsp:=(inL_span (d:=d) (ms:=ms) (g:=g) (fun k=>hists_ok b m k) b.mlen (show 0<(hists d gs ms cs m).length by omega)).1;have hgn:g.toNat<gs.length:=by omega
 have hgk:=hen g.toNat hgn;have hgi:=hin g.toNat hgn;rw [show ((g.toNat:Nat):Int)=g by omega] at hgk hgi;refine ⟨e1,e2,?_,?_,?_,fun k hk=>?_,?_,hrt _ hgn,?_,?_⟩
 ·unfold buyL;rw [if_pos e1];simp
 ·rw [hle];exact eachL_pos _ (by omega)
 ·unfold buyCost;rw [if_pos e1]
 ·rw [hb k hk];exact ⟨rfl,(hen k hk).1⟩
 ·rw [hlo];omega
 ·rw [hlo,hb _ hgn];exact hgk.2.1
 ·rw [hlo,hb _ hgn];exact hgk.2.2
end
end Go.Ns
namespace Go.Ns
open Go.Conc
section
variable {P:Program} {Post:Value→World→Prop}
def mainW (P:Program) (Post:Value→World→Prop):Wk P:=⟨true,MainOK P Post,mainOK_closed⟩
theorem isMain_mainW:IsMain (mainW P Post):=⟨Post,rfl⟩
theorem top_of_tr {f:FuncId} {fn:Func} {c:Code} {args:Array Value} {h:GH} {R:Value→GH→Prop} (hf:P.funcs[f]? =some fn) (hb:fn.body=some c) (hsz:args.size≤fn.ntmps) (hin:P.inits.idxOf? f=none) (hpost:∀v h',R v h'→∀w,Fits w h'→Post v w)
  (x:Tr ⟨mainW P Post,f,none,fn.ntmps⟩ c (fun i=>args.getD i undef) [] h (fun e σ ds h'=>(e=.normal∨e=.ret)∧Outs P fn σ R ds h')):MainOK P Post (G (Frame.enter P f args .normal) []) h:=by
 have e0:Frame.enter P f args .normal=fat (Frame.enter P f args .normal) (args++Array.replicate (fn.ntmps-args.size) undef) [] [.code c]:=by
  simp [Frame.enter,fat,hf,hb]
 rw [e0];let L:Lv:=fun j t ds h'=>(j=none∨j=some .ret)∧∃σ,SlotsAre t fn.ntmps σ∧Outs P fn σ R ds h';have fin:∀σ ds h' t k,SlotsAre t fn.ntmps σ→Outs P fn σ R ds h'→(mainW P Post).K (G (fret (Frame.enter P f args .normal) t ds k) []) h':=by
  intro σ ds h' t k hs ho;refine leave_frame (W:=mainW P Post) (R:=R) hf (b:=Frame.enter P f args .normal) rfl (fun t k v h h' hr hrun=>?_) ds h' t k hs ho;refine mainOK_end rfl fun w fw=>?_;obtain ⟨w',es,r1,r2⟩:=hrun w fw;refine ⟨v,w',seen P f es++ #[],h',?_,r2.sub (es':=seen P f es++ #[]) fun e he=>?_,hpost v h' hr w' r2.fits⟩
  ·rw [stepG_fret];unfold unwind;have hfn:(fret (Frame.enter P f args .normal) t [] k).fn=f:=rfl;have hk:(fret (Frame.enter P f args .normal) t [] k).kind=.normal:=rfl;have hm:(fret (Frame.enter P f args .normal) t [] k).mode=.returning:=rfl;have hd:(fret (Frame.enter P f args .normal) t [] k).defers=[]:=rfl;have ht:(fret (Frame.enter P f args .normal) t [] k).tmps=t:=rfl;simp only [hd,hm,hfn,hf,ht,r1,GStep.after,doReturn,hk,hin];rfl
  ·rw [Array.append_empty] at he;exact mem_seen he
 refine x (Frame.enter P f args .normal) [] [] L _ rfl rfl ⟨?_,?_,?_⟩ ⟨by simp;omega,fun i=>?_⟩ ?_
 ·rintro t ds h' ⟨_,σ,hs,ho⟩;exact Wk.go (fret (Frame.enter P f args .normal) t ds []) (fun w=>by rw [stepG_fat];simp [stepG.exec,fat,fret,G,Frame.enter]) (fin σ ds h' t [] hs ho)
 ·rintro t ds h' k ⟨_,σ,hs,ho⟩;exact Wk.go (fret (Frame.enter P f args .normal) t ds (.code .ret ::k)) (fun w=>by rw [stepG_fat];simp [stepG.exec,fat,fret,G,Frame.enter]) (fin σ ds h' t _ hs ho)
 ·rintro id t ds h' k _ ⟨h1 | h1,_⟩ <;> cases h1
 ·by_cases hi:i<args.size
  ·simp [Array.getD_eq_getD_getElem?,Array.getElem?_append_left hi]
  ·simp only [Array.getD_eq_getD_getElem?];rw [Array.getElem?_append_right (by omega),Array.getElem?_eq_none (show args.size≤i by omega),Array.getElem?_replicate];split <;> rfl
 ·rintro e σ ds h' ⟨he,ho⟩ t' ht';rcases he with rfl | rfl
  ·exact Wk.go (fret (Frame.enter P f args .normal) t' ds []) (fun w=>by rw [stepG_fat];simp [stepG.exec,fat,fret,G,Frame.enter]) (fin σ ds h' t' [] ht' ho)
  ·exact ⟨.inr rfl,σ,ht',ho⟩
def GH.of (W:World):GH:=fun b=>(W.heap[b]?).map fun o=>(false,o)
theorem GH.of_some {W:World} {b:Nat} {o:Obj} (h:W.heap[b]? =some o):GH.of W b=some (false,o):=by unfold GH.of;rw [h];rfl
theorem fits_of (W:World):Fits W (GH.of W):=fun b p o h=>by
 unfold GH.of at h;cases e:W.heap[b]? with
 | none=>rw [e] at h;cases h
 | some x=>rw [e] at h;cases h;rfl
theorem kept_of {W w:World} {h:GH} (l:(GH.of W).Le h) (f:Fits w h) {b:Nat} {o:Obj} (hb:W.heap[b]? =some o):w.heap[b]? =some o:=f b _ _ (l.keep (GH.of_some hb) rfl)
theorem start_runs {g:Goroutine} {W:World} (hg:MainOK P Post g (GH.of W)):RunsWell P (PostIO Post W.os W.output) (solo g W) #[]:=by
 have hno:∀k a,touchAt (#[]:Trace) k=some a→False:=fun k a h=>by
  obtain ⟨op,h1,_⟩:=touch_of h;simp at h1
 refine hg #[g] W none (fun _=>0) #[] ⟨rfl,?_,fits_of W,?_,?_,fun k a b hk=>(hno k a hk).elim,?_,fun k a hk=>(hno k a hk).elim,fun b p o k a _ _ hk=>(hno k a hk).elim⟩
 ·intro j x hj hx;rw [Array.getElem?_eq_none (by simp;omega)] at hx;cases hx
 ·intro op hop;simp at hop
 ·rintro said ⟨i,j,hij,⟨a,b,ha,_⟩,_⟩;exact hno i a ha
 ·intro op hop;simp at hop
end
end Go.Ns
namespace Go.Ns
open Go.Conc Go.ChangeShapes Go.WideShapes Go.ChangeAt Go.RowKit
section
variable {P:Program} {W:World}
theorem cells_elem {b off n:Nat} {cs:List Value} (h:W.cells? 0 ⟨b,off,none⟩ n=some cs) (hn:0<n):Elem (GH.of W) b off n cs.toArray:=by
 obtain ⟨_,hl,hc⟩:=World.cells?_some h;have hcell:∀i,i<n→W.cell? ⟨b,off+i,none⟩=cs[i]? :=fun i hi=>by
  have:=hc i hi
  unfold Addr.add at this;split at this
  ·rename_i e;subst e;exact this
  ·exact this
 have h0:=hcell 0 hn;unfold World.cell? at h0;cases hb:W.heap[b]? with
 | none=>simp [hb,List.getElem?_eq_getElem (show 0<cs.length by omega)] at h0
 | some o=>
  cases o with
  | cells c t f=>
   have hall:∀i,i<n→c[off+i]? =cs[i]? :=fun i hi=>by
    have:=hcell i hi
    unfold World.cell? at this;simpa [hb] using this
   have hlast:=hall (n-1) (by omega);rw [List.getElem?_eq_getElem (show n-1<cs.length by omega)] at hlast;have hsz:=(Array.getElem?_eq_some_iff.1 hlast).1;refine ⟨false,c,t,f,GH.of_some hb,by omega,?_⟩;apply Array.ext
   ·simp;omega
   ·intro i h1 h2;have hi:i<n:=by simp at h2;omega
    have:=hall i hi
    rw [Array.getElem?_eq_getElem (by omega),List.getElem?_eq_getElem (by omega)] at this;simpa using this
  | _=>simp [hb,List.getElem?_eq_getElem (show 0<cs.length by omega)] at h0
def Opens (P:Program) (e:TypeId) {α:Type} (enc:α→Array Value) (good:α→Prop):Prop:=
 ∀{H:Type} (en:TypeId×Value→H) (W:World) (base:Nat) (sp:Nat→Bool) (held:Bool) (fuel:Nat) (cs:List Value) (x:DataW H×List MemPlace),DataW.trod en P W base sp held fuel e cs=some x→∃a:α,cs=(enc a).toList∧good a
theorem open_sl {H:Type} {en:TypeId×Value→H} {sp:Nat→Bool} {held:Bool} {fuel:Nat} {t e:TypeId} {n:Nat} {α:Type} {enc:α→Array Value} {good:α→Prop} {v:Value} {d:DataW H} {ps:List MemPlace} (ht:P.underlying t=some (.slice e)) (hc:P.cellsOf e=n) (hn:0<n)
  (ho:Opens P e enc good) (h:DataW.trod en P W 0 sp held fuel t [v]=some (d,ps)) (hw:∀es rs,d=.slice es rs→es.length≤140737488355328):∃xs:List α,SlIs (GH.of W) v n enc xs∧∀x ∈ xs,good x:=by
 rcases DataW.trod_slice ht h with ⟨h1,_⟩ | ⟨a,len,cap,elems,rest,m,rfl,h1,h2,_,hl,_,hlen,hel,_,_⟩
 ·simp at h1;subst h1;exact ⟨[],SlIs.nil _ _ _,fun x hx=>by cases hx⟩
 ·simp only [List.cons.injEq,and_true] at h1;subst h1;simp only [Prod.mk.injEq] at h2;have hlim:len≤140737488355328:=by
   have:=hw _ _ h2.1
   simpa [hlen] using this
  have each:∀i,i<len→∃x:α,∃b off,a=⟨b,off,none⟩∧Elem (GH.of W) b (off+i*n) n (enc x)∧good x:=fun i hi=>by
   have:=hel i hi
   rw [List.getElem?_eq_getElem (by omega),hc] at this;simp only [Option.bind_eq_some_iff] at this;obtain ⟨cs,hcs,hx⟩:=this;obtain ⟨x,e1,e2⟩:=ho _ _ _ _ _ _ _ _ hx;have hc0:=(World.cells?_some hcs).2.2 0 hn;have hlen2:=(World.cells?_some hcs).2.1;rw [List.getElem?_eq_getElem (show 0<cs.length by omega)] at hc0;have hsp:=World.cell?_spot hc0;obtain ⟨b,off,spot⟩:=a;have hspot:spot=none∨i≠0:=by
    by_cases e0:i=0
    ·subst e0;left;simpa [Addr.add] using hsp
    ·exact .inr e0
   have hfirst:spot=none:=by
    rcases hspot with e | e
    ·exact e
    ·have h00:=hel 0 (by omega);rw [List.getElem?_eq_getElem (by omega),hc] at h00;simp only [Option.bind_eq_some_iff] at h00;obtain ⟨c0,hc00,_⟩:=h00;have z:=(World.cells?_some hc00).2.2 0 hn;have zl:=(World.cells?_some hc00).2.1;rw [List.getElem?_eq_getElem (show 0<c0.length by omega)] at z
     have:=World.cell?_spot z
     simpa [Addr.add] using this
   subst hfirst;refine ⟨x,b,off,rfl,?_,e2⟩;have ea:(Addr.add ⟨b,off,none⟩ (i*n))=⟨b,off+i*n,none⟩:=by
    unfold Addr.add;split
    ·rename_i e;rw [e];rfl
    ·rfl
   rw [ea] at hcs
   have:=cells_elem hcs hn
   rw [e1] at this;simpa using this
  by_cases hz:len=0
  ·subst hz;exact ⟨[],⟨some a,cap,rfl,Nat.zero_le _,Nat.zero_le _,fun i hi=>by simp at hi⟩,fun x hx=>by cases hx⟩
  ·have hch:∀i:Fin len,∃x:α,∃b off,a=⟨b,off,none⟩∧Elem (GH.of W) b (off+i.val*n) n (enc x)∧good x:=fun i=>each i.val i.isLt;refine ⟨List.ofFn fun i=>Classical.choose (hch i),⟨some a,cap,by rw [List.length_ofFn],by rw [List.length_ofFn];exact hl,by rw [List.length_ofFn];exact hlim,fun i hi=>?_⟩,fun x hx=>?_⟩
   ·rw [List.length_ofFn] at hi;obtain ⟨b,off,e1,e2,_⟩:=Classical.choose_spec (hch ⟨i,hi⟩);refine ⟨b,off,by rw [e1],?_⟩;rw [List.getElem_ofFn];exact e2
   ·obtain ⟨i,rfl⟩:=List.mem_ofFn.1 hx;obtain ⟨_,_,_,_,e3⟩:=Classical.choose_spec (hch i);exact e3
theorem trod_kept {H:Type} {en:TypeId×Value→H} {t:TypeId} (hl:laidOutB P=true) (hr:P.readableRec t=true) (hrow:t<P.types.size) {W':World} {v:Value} {d:DataW H} {ps:List MemPlace} (h:DataW.Trod en P W 0 (fun _=>true) true t v d ps)
  (hk:∀(b:Nat) (o:Obj),W.heap[b]? =some o→W'.heap[b]? =some o) (hlt:∀x ∈ ps,x.block<W.heap.size):DataW.Trod en P W' 0 (fun b=>decide (b<W.heap.size)) true t v d ps:=by
 let W2:World:={ W' with os:=W.os,tape:=W.tape,output:=W.output };have hsz:W.heap.size≤W'.heap.size:=by
  rcases Nat.lt_or_ge W'.heap.size W.heap.size with x | x
  ·have:=hk W'.heap.size _ (Array.getElem?_eq_getElem x)
   rw [Array.getElem?_eq_none (Nat.le_refl _)] at this;cases this
  ·exact x
 have hb:Below W.heap.size W W2:=⟨rfl,rfl,rfl,hsz,fun k hk'=>by
  show W'.heap[k]? =_;rw [Array.getElem?_eq_getElem hk'];exact hk k _ (Array.getElem?_eq_getElem hk')⟩
 exact DataW.Trod.of_heap (w:=W2) (w':=W') rfl (Below.trod hl hr hrow h hb hlt)
theorem kept_but {W':World} (hk:∀(b:Nat) (o:Obj),W.heap[b]? =some o→W'.heap[b]? =some o) (ho:W'.os=W.os) (hp:W'.output=W.output) (may:MemPlace→Prop):W.keptBut W' may:=by
 refine ⟨ho,hp,fun i hi=>?_⟩;rw [hk i _ (Array.getElem?_eq_getElem hi),Array.getElem?_eq_getElem hi];split <;> simp_all
end
end Go.Ns
namespace Go.Ns
open Go.Conc
universe u
theorem Z {α:Sort u} {a:α}:a=a:=rfl
theorem Lr {h:GH}:GH.Le h h:=GH.Le.refl h
theorem Ln {h h':GH} (l:h.Le h') {r:Nat} (hr:h' r=none):h r=none:=l.nothing hr
theorem Ne' {h:GH} {b r:Nat} {p:Bool} {o:Obj} (hb:h b=some (p,o)) (hr:h r=none):b≠r:=GH.ne_of hb hr
theorem Nb {a b:Nat} (h:Nat.ble a b=true):a≤b:=Nat.le_of_ble_eq_true h
theorem Dn {p:Prop} [Decidable p] (h:¬¬p):p:=Decidable.not_not.1 h
theorem Et {α:Sort u} {a b c:α} (x:a=b) (y:b=c):a=c:=x.trans y
theorem Kl {h0 h:GH} (k:KeepD (fun b=>h0 b=none) h0 h):h0.Le h:=k.leOf
theorem Bx {h:GH} {b:Nat} {p:Bool} {c:Array Value} {t:TypeId} {f:Nat×Nat} (hb:h b=some (p,.cells c t f)) {n:Nat} (hn:c.size=n):Elem h b 0 n c:=Elem.box hb hn
abbrev lE (v:Value):Law2:=fun _ u _=>u=v
abbrev lF (v:Value):Law:=fun u _=>u=v
abbrev zP:Array Value:=#[.int .i64 0,.int .i64 0,.slice none 0 0,.slice none 0 0,.slice none 0 0,.slice none 0 0,.map none]
section
variable {P:Program} {E:Env P} {σ:Nat→Value} {ds:List Deferred} {h:GH} {Q:Post} {T:(Nat→Value)→List Deferred→GH→Prop}
variable {dst:Option Nat} {ty:TypeId} {pos:String} {af:Array Edge} {ops:Array Oper} {o:Oper} {l:List Oper}
theorem Sq {x y:Code} (a:Tr E x σ ds h (fun e σ' ds' h'=>match e with | .normal=>Tr E y σ' ds' h' Q | e=>Q e σ' ds' h')):Tr E (.seq x y) σ ds h Q:=tr_seq a
theorem Rg {id:Nat} {l:List Oper} (a:TrL E l.toArray l σ ds h Q):Tr E (.region id l.toArray false) σ ds h Q:=tr_region a
theorem Nl (q:Q .normal σ ds h):TrL E ops [] σ ds h Q:=trL_nil q
abbrev Rt:=@tr_ret
abbrev Bk:=@tr_block
abbrev Sk:=@tr_skip
abbrev Xt:=@tr_exit
def plainB (N:Nat) (o:Oper):Bool:=o.guard.isNone && !isDefer o.op && dstOK o.dst N
theorem Pl (hp:plainB E.N o=true) (x:OpK E o σ ds h fun σ' ds' h'=>TrL E ops l σ' ds' h' Q):TrL E ops (o ::l) σ ds h Q:=by
 simp only [plainB,Bool.and_eq_true,Option.isNone_iff_eq_none,Bool.not_eq_true'] at hp;exact trL_plain hp.1.1 hp.1.2 hp.2 x
theorem Mv {x:Operand} (v:Value) (hp:dstOK dst E.N=true) (hx:evalS σ x=v) (k:TrL E ops l (putS σ dst v) ds h Q):TrL E ops (⟨dst,.move x,ty,pos,af,none⟩ ::l) σ ds h Q:=trL_plain rfl rfl hp (ok_move hx k)
theorem As {x:Operand} (v:Value) (hp:dstOK dst E.N=true) (hx:evalS σ x=v) (k:TrL E ops l (putS σ dst v) ds h Q):TrL E ops (⟨dst,.assign x,ty,pos,af,none⟩ ::l) σ ds h Q:=trL_plain rfl rfl hp (ok_assign hx k)
theorem Ld {t:TypeId} {x:Operand} {b off:Nat} (v:Value) (hp:dstOK dst E.N=true) (hx:evalS σ x=.pointer (some ⟨b,off,none⟩)) (hr:Rd P h t b off v) (k:TrL E ops l (putS σ dst v) ds h Q):TrL E ops (⟨dst,.load t x,ty,pos,af,none⟩ ::l) σ ds h Q:=
 trL_plain rfl rfl hp (ok_load hx hr k)
theorem Fa {s:TypeId} {x:Operand} {f o b off:Nat} (hf:fldOf P s f=some o) (hp:dstOK dst E.N=true) (hx:evalS σ x=.pointer (some ⟨b,off,none⟩)) (k:TrL E ops l (putS σ dst (.pointer (some ⟨b,off+o,none⟩))) ds h Q) :
  TrL E ops (⟨dst,.fieldAddr s x f,ty,pos,af,none⟩ ::l) σ ds h Q:=trL_plain rfl rfl hp (ok_fieldAddr hf hx k)
theorem Pk {c a b:Operand} (t:Bool) (v:Value) (hp:dstOK dst E.N=true) (hc:evalS σ c=.bool t) (hv:(if t then evalS σ a else evalS σ b)=v) (k:TrL E ops l (putS σ dst v) ds h Q):TrL E ops (⟨dst,.pick c a b,ty,pos,af,none⟩ ::l) σ ds h Q:=
 trL_plain rfl rfl hp (ok_pick hc hv k)
theorem Ad {xt yt:TypeId} {x y:Operand} (a b:Int) (hp:dstOK dst E.N=true) (hx:evalS σ x=.int .i64 a) (hy:evalS σ y=.int .i64 b) (hr: -9223372036854775808≤a+b∧a+b≤9223372036854775807) (k:TrL E ops l (putS σ dst (.int .i64 (a+b))) ds h Q) :
  TrL E ops (⟨dst,.binOp .add xt x y yt,ty,pos,af,none⟩ ::l) σ ds h Q:=trL_plain rfl rfl hp (ok_add hx hy hr k)
def skipB (N:Nat) (ops:Array Oper) (o:Oper) (j d:Nat) (is:Bool):Bool:=(match o.guard with
 | some (i,w)=>i==j && w !=is
 | none=>false) && (match ops[j]? with
 | some oj=>(match oj.dst with
  | some e=>e==d
  | none=>false)
 | none=>false) && Nat.blt d N && dstOK o.dst N
theorem Gs (j d:Nat) {is:Bool} (hv:σ d=.bool is) (hs:skipB E.N ops o j d is=true) (x:TrL E ops l (putS σ o.dst undef) ds h Q):TrL E ops (o ::l) σ ds h Q:=by
 simp only [skipB,Bool.and_eq_true] at hs;obtain ⟨⟨⟨h1,h2⟩,h3⟩,h4⟩:=hs;cases hg:o.guard with
 | none=>rw [hg] at h1;cases h1
 | some q=>
  obtain ⟨i,w⟩:=q;rw [hg] at h1;simp only [Bool.and_eq_true,beq_iff_eq,bne_iff_ne,ne_eq] at h1;obtain ⟨rfl,hne⟩:=h1;cases hj:ops[i]? with
  | none=>rw [hj] at h2;cases h2
  | some oj=>
   cases hd:oj.dst with
   | none=>simp [hj,hd] at h2
   | some e=>
    obtain rfl:e=d:=by simpa [hj,hd] using h2
    exact trL_skip_guard hg hj hd hv h3 hne h4 x
def goB (N:Nat) (ops:Array Oper) (o:Oper) (j d:Nat) (is:Bool):Bool:=(match o.guard with
 | some (i,w)=>i==j && w==is
 | none=>false) && (match ops[j]? with
 | some oj=>(match oj.dst with
  | some e=>e==d
  | none=>false)
 | none=>false) && Nat.blt d N && !isDefer o.op && dstOK o.dst N
theorem Gg (j d:Nat) {is:Bool} (hv:σ d=.bool is) (hs:goB E.N ops o j d is=true) (x:OpK E o σ ds h fun σ' ds' h'=>TrL E ops l σ' ds' h' Q):TrL E ops (o ::l) σ ds h Q:=by
 simp only [goB,Bool.and_eq_true,Bool.not_eq_true'] at hs;obtain ⟨⟨⟨⟨h1,h2⟩,h3⟩,h5⟩,h4⟩:=hs;cases hg:o.guard with
 | none=>rw [hg] at h1;cases h1
 | some q=>
  obtain ⟨i,w⟩:=q;rw [hg] at h1;simp only [Bool.and_eq_true,beq_iff_eq] at h1;obtain ⟨rfl,rfl⟩:=h1;cases hj:ops[i]? with
  | none=>rw [hj] at h2;cases h2
  | some oj=>
   cases hd:oj.dst with
   | none=>simp [hj,hd] at h2
   | some e=>
    obtain rfl:e=d:=by simpa [hj,hd] using h2
    exact trL_opg hg hj hd hv h3 (.inr h5) h4 x
end
section
variable {S:Nat→Prop} {Pre:Nat→GH→Prop} {Φ:List Law2} {cl:List Nat} {k d:Nat} {h h':GH} {σ:Nat→Value} {ds:List Deferred} {v:Value}
theorem fS (p:lawAt2 Φ k (putS σ (some d) v) v h):ds=ds∧St (KeepD S) Pre Φ cl k h h∧∃w,putS σ (some d) v=putS σ (some d) w∧lawAt2 Φ k (putS σ (some d) v) w h∧((some d:Option Nat)=none→w=undef):=
 ⟨rfl,St.same,_,rfl,p,fun e=>by cases e⟩
theorem fT (l:h.Le h') (m:LawsOK2 GH.Le Φ) (p:lawAt2 Φ k (putS σ (some d) v) v h'):ds=ds∧St (KeepD S) (fun _ _=>True) Φ cl k h h'∧∃w,putS σ (some d) v=putS σ (some d) w∧lawAt2 Φ k (putS σ (some d) v) w h'∧((some d:Option Nat)=none→w=undef):=
 ⟨rfl,St.ofLe l m (fun _ _ _ _ _=>trivial),_,rfl,p,fun e=>by cases e⟩
theorem fL {Φ:List Law} (p:lawAt Φ k v h):ds=ds∧GH.Le h h∧∃w,putS σ (some d) v=putS σ (some d) w∧lawAt Φ k w h:=⟨rfl,GH.Le.refl _,_,rfl,p⟩
theorem L1 {R:GH→GH→Prop} {a:Value} (x:LawsOK2 R Φ):LawsOK2 R (lE a ::Φ):=⟨fun _ _ _ _ _ y=>y,x⟩
theorem L2 {R:GH→GH→Prop} {a b:Value} (x:LawsOK2 R Φ):LawsOK2 R (lE a ::lE b ::Φ):=L1 (L1 x)
theorem L4 {R:GH→GH→Prop} {a b c d:Value} (x:LawsOK2 R Φ):LawsOK2 R (lE a ::lE b ::lE c ::lE d ::Φ):=L2 (L2 x)
theorem L8 {R:GH→GH→Prop} {a b c d a' b' c' d':Value} (x:LawsOK2 R Φ):LawsOK2 R (lE a ::lE b ::lE c ::lE d ::lE a' ::lE b' ::lE c' ::lE d' ::Φ):=L4 (L4 x)
theorem K1 {R:GH→GH→Prop} {Φ:List Law} {a:Value} (x:LawsOK R Φ):LawsOK R (lF a ::Φ):=⟨fun _ _ _ _ y=>y,x⟩
theorem K2 {R:GH→GH→Prop} {Φ:List Law} {a b:Value} (x:LawsOK R Φ):LawsOK R (lF a ::lF b ::Φ):=K1 (K1 x)
theorem K4 {R:GH→GH→Prop} {Φ:List Law} {a b c d:Value} (x:LawsOK R Φ):LawsOK R (lF a ::lF b ::lF c ::lF d ::Φ):=K2 (K2 x)
theorem K8 {R:GH→GH→Prop} {Φ:List Law} {a b c d a' b' c' d':Value} (x:LawsOK R Φ):LawsOK R (lF a ::lF b ::lF c ::lF d ::lF a' ::lF b' ::lF c' ::lF d' ::Φ):=K4 (K4 x)
end
theorem Dk {P:Program} {E:Env P} {S:Nat→Prop} {id:Nat} {l:List Oper} {σ:Nat→Value} {ds:List Deferred} {h:GH} {Q:Post} {Φ:List Law2} (_:LawsOK2 GH.Le Φ) (n:Nat) (cls:List (List Nat)) (Pre:Nat→GH→Prop)
  (hm:P.follows .mixedOrders=true) (ok:drawOK2 E.N l n cls=true) (p0:∀k,k<n→Pre k h) (ind:IndepOK l n cls Φ) (x:DrAll2 (KeepD S) Pre E l n Φ σ ds h Q n 0 l cls):Tr E (.region id l.toArray true) σ ds h Q:=
 tr_drawnK n cls Φ Pre hm ok p0 ind x
end Go.Ns
namespace Go.Ns.Fx
open Go.Conc Go.Proofs
theorem app23_23:appOf Tryd.prog 23 23=some (41,5,40):=by kernel_rfl
theorem app24_24:appOf Tryd.prog 24 24=some (71,4,32):=by kernel_rfl
theorem app30_30:appOf Tryd.prog 30 30=some (3,1,8):=by kernel_rfl
theorem app44_44:appOf Tryd.prog 44 44=some (30,1,24):=by kernel_rfl
theorem app94_94:appOf Tryd.prog 94 94=some (87,15,80):=by kernel_rfl
theorem arr130:arrOf Tryd.prog 130=some (4,false,1):=by kernel_rfl
theorem arr85:arrOf Tryd.prog 85=some (6,false,1):=by kernel_rfl
theorem asz121:aszOf Tryd.prog 121=some (5,2):=by kernel_rfl
theorem asz83:aszOf Tryd.prog 83=some (3,1):=by kernel_rfl
theorem asz84:aszOf Tryd.prog 84=some (6,1):=by kernel_rfl
theorem asz85:aszOf Tryd.prog 85=some (6,1):=by kernel_rfl
theorem call10:callable Tryd.f10=true:=by kernel_rfl
theorem call100:callable Tryd.f100=true:=by kernel_rfl
theorem call101:callable Tryd.f101=true:=by kernel_rfl
theorem call102:callable Tryd.f102=true:=by kernel_rfl
theorem call103:callable Tryd.f103=true:=by kernel_rfl
theorem call105:callable Tryd.f105=true:=by kernel_rfl
theorem call106:callable Tryd.f106=true:=by kernel_rfl
theorem call107:callable Tryd.f107=true:=by kernel_rfl
theorem call108:callable Tryd.f108=true:=by kernel_rfl
theorem call109:callable Tryd.f109=true:=by kernel_rfl
theorem call11:callable Tryd.f11=true:=by kernel_rfl
theorem call110:callable Tryd.f110=true:=by kernel_rfl
theorem call111:callable Tryd.f111=true:=by kernel_rfl
theorem call112:callable Tryd.f112=true:=by kernel_rfl
theorem call113:callable Tryd.f113=true:=by kernel_rfl
theorem call13:callable Tryd.f13=true:=by kernel_rfl
theorem call130:callable Tryd.f130=true:=by kernel_rfl
theorem call131:callable Tryd.f131=true:=by kernel_rfl
theorem call132:callable Tryd.f132=true:=by kernel_rfl
theorem call133:callable Tryd.f133=true:=by kernel_rfl
theorem call134:callable Tryd.f134=true:=by kernel_rfl
theorem call135:callable Tryd.f135=true:=by kernel_rfl
theorem call136:callable Tryd.f136=true:=by kernel_rfl
theorem call137:callable Tryd.f137=true:=by kernel_rfl
theorem call138:callable Tryd.f138=true:=by kernel_rfl
theorem call139:callable Tryd.f139=true:=by kernel_rfl
theorem call140:callable Tryd.f140=true:=by kernel_rfl
theorem call141:callable Tryd.f141=true:=by kernel_rfl
theorem call15:callable Tryd.f15=true:=by kernel_rfl
theorem call16:callable Tryd.f16=true:=by kernel_rfl
theorem call17:callable Tryd.f17=true:=by kernel_rfl
theorem call18:callable Tryd.f18=true:=by kernel_rfl
theorem call19:callable Tryd.f19=true:=by kernel_rfl
theorem call20:callable Tryd.f20=true:=by kernel_rfl
theorem call21:callable Tryd.f21=true:=by kernel_rfl
theorem call22:callable Tryd.f22=true:=by kernel_rfl
theorem call23:callable Tryd.f23=true:=by kernel_rfl
theorem call25:callable Tryd.f25=true:=by kernel_rfl
theorem call30:callable Tryd.f30=true:=by kernel_rfl
theorem call31:callable Tryd.f31=true:=by kernel_rfl
theorem call32:callable Tryd.f32=true:=by kernel_rfl
theorem call33:callable Tryd.f33=true:=by kernel_rfl
theorem call34:callable Tryd.f34=true:=by kernel_rfl
theorem call35:callable Tryd.f35=true:=by kernel_rfl
theorem call36:callable Tryd.f36=true:=by kernel_rfl
theorem call39:callable Tryd.f39=true:=by kernel_rfl
theorem call40:callable Tryd.f40=true:=by kernel_rfl
theorem call41:callable Tryd.f41=true:=by kernel_rfl
theorem call42:callable Tryd.f42=true:=by kernel_rfl
theorem call43:callable Tryd.f43=true:=by kernel_rfl
theorem call44:callable Tryd.f44=true:=by kernel_rfl
theorem call45:callable Tryd.f45=true:=by kernel_rfl
theorem call46:callable Tryd.f46=true:=by kernel_rfl
theorem call47:callable Tryd.f47=true:=by kernel_rfl
theorem call48:callable Tryd.f48=true:=by kernel_rfl
theorem call49:callable Tryd.f49=true:=by kernel_rfl
theorem call50:callable Tryd.f50=true:=by kernel_rfl
theorem call51:callable Tryd.f51=true:=by kernel_rfl
theorem call52:callable Tryd.f52=true:=by kernel_rfl
theorem call53:callable Tryd.f53=true:=by kernel_rfl
theorem call54:callable Tryd.f54=true:=by kernel_rfl
theorem call55:callable Tryd.f55=true:=by kernel_rfl
theorem call56:callable Tryd.f56=true:=by kernel_rfl
theorem call57:callable Tryd.f57=true:=by kernel_rfl
theorem call58:callable Tryd.f58=true:=by kernel_rfl
theorem call59:callable Tryd.f59=true:=by kernel_rfl
theorem call60:callable Tryd.f60=true:=by kernel_rfl
theorem call61:callable Tryd.f61=true:=by kernel_rfl
theorem call62:callable Tryd.f62=true:=by kernel_rfl
theorem call63:callable Tryd.f63=true:=by kernel_rfl
theorem call64:callable Tryd.f64=true:=by kernel_rfl
theorem call65:callable Tryd.f65=true:=by kernel_rfl
theorem call67:callable Tryd.f67=true:=by kernel_rfl
theorem call68:callable Tryd.f68=true:=by kernel_rfl
theorem call69:callable Tryd.f69=true:=by kernel_rfl
theorem call70:callable Tryd.f70=true:=by kernel_rfl
theorem call71:callable Tryd.f71=true:=by kernel_rfl
theorem call72:callable Tryd.f72=true:=by kernel_rfl
theorem call73:callable Tryd.f73=true:=by kernel_rfl
theorem call74:callable Tryd.f74=true:=by kernel_rfl
theorem call75:callable Tryd.f75=true:=by kernel_rfl
theorem call76:callable Tryd.f76=true:=by kernel_rfl
theorem call77:callable Tryd.f77=true:=by kernel_rfl
theorem call78:callable Tryd.f78=true:=by kernel_rfl
theorem call79:callable Tryd.f79=true:=by kernel_rfl
theorem call80:callable Tryd.f80=true:=by kernel_rfl
theorem call81:callable Tryd.f81=true:=by kernel_rfl
theorem call82:callable Tryd.f82=true:=by kernel_rfl
theorem call83:callable Tryd.f83=true:=by kernel_rfl
theorem call84:callable Tryd.f84=true:=by kernel_rfl
theorem call85:callable Tryd.f85=true:=by kernel_rfl
theorem call86:callable Tryd.f86=true:=by kernel_rfl
theorem call87:callable Tryd.f87=true:=by kernel_rfl
theorem call88:callable Tryd.f88=true:=by kernel_rfl
theorem call89:callable Tryd.f89=true:=by kernel_rfl
theorem call90:callable Tryd.f90=true:=by kernel_rfl
theorem call91:callable Tryd.f91=true:=by kernel_rfl
theorem call92:callable Tryd.f92=true:=by kernel_rfl
theorem call93:callable Tryd.f93=true:=by kernel_rfl
theorem call94:callable Tryd.f94=true:=by kernel_rfl
theorem call95:callable Tryd.f95=true:=by kernel_rfl
theorem call96:callable Tryd.f96=true:=by kernel_rfl
theorem call97:callable Tryd.f97=true:=by kernel_rfl
theorem call98:callable Tryd.f98=true:=by kernel_rfl
theorem call99:callable Tryd.f99=true:=by kernel_rfl
theorem eqg39:Tryd.prog.eqGuardType Tryd.prog.depth 39=false:=by kernel_rfl
theorem esz122:eszOf Tryd.prog 122=some 1:=by kernel_rfl
theorem esz22:eszOf Tryd.prog 22=some 5:=by kernel_rfl
theorem esz23:eszOf Tryd.prog 23=some 5:=by kernel_rfl
theorem esz24:eszOf Tryd.prog 24=some 4:=by kernel_rfl
theorem esz27:eszOf Tryd.prog 27=some 1:=by kernel_rfl
theorem esz30:eszOf Tryd.prog 30=some 1:=by kernel_rfl
theorem esz44:eszOf Tryd.prog 44=some 1:=by kernel_rfl
theorem esz50:eszOf Tryd.prog 50=some 1:=by kernel_rfl
theorem esz94:eszOf Tryd.prog 94=some 15:=by kernel_rfl
theorem fld120_1:fldOf Tryd.prog 120 1=some 1:=by kernel_rfl
theorem fld26_0:fldOf Tryd.prog 26 0=some 0:=by kernel_rfl
theorem fld26_1:fldOf Tryd.prog 26 1=some 1:=by kernel_rfl
theorem fld26_2:fldOf Tryd.prog 26 2=some 2:=by kernel_rfl
theorem fld26_3:fldOf Tryd.prog 26 3=some 3:=by kernel_rfl
theorem fld26_4:fldOf Tryd.prog 26 4=some 4:=by kernel_rfl
theorem fld39_0:fldOf Tryd.prog 39 0=some 0:=by kernel_rfl
theorem fld39_1:fldOf Tryd.prog 39 1=some 1:=by kernel_rfl
theorem fld41_0:fldOf Tryd.prog 41 0=some 0:=by kernel_rfl
theorem fld41_1:fldOf Tryd.prog 41 1=some 1:=by kernel_rfl
theorem fld41_2:fldOf Tryd.prog 41 2=some 2:=by kernel_rfl
theorem fld41_3:fldOf Tryd.prog 41 3=some 3:=by kernel_rfl
theorem fld57_0:fldOf Tryd.prog 57 0=some 0:=by kernel_rfl
theorem fld57_1:fldOf Tryd.prog 57 1=some 1:=by kernel_rfl
theorem fld57_2:fldOf Tryd.prog 57 2=some 2:=by kernel_rfl
theorem fld57_3:fldOf Tryd.prog 57 3=some 3:=by kernel_rfl
theorem fld71_0:fldOf Tryd.prog 71 0=some 0:=by kernel_rfl
theorem fld71_1:fldOf Tryd.prog 71 1=some 1:=by kernel_rfl
theorem fld71_2:fldOf Tryd.prog 71 2=some 2:=by kernel_rfl
theorem fld87_0:fldOf Tryd.prog 87 0=some 0:=by kernel_rfl
theorem fld87_1:fldOf Tryd.prog 87 1=some 3:=by kernel_rfl
theorem fld87_2:fldOf Tryd.prog 87 2=some 9:=by kernel_rfl
theorem fld92_0:fldOf Tryd.prog 92 0=some 0:=by kernel_rfl
theorem fld97_0:fldOf Tryd.prog 97 0=some 0:=by kernel_rfl
theorem fld97_1:fldOf Tryd.prog 97 1=some 5:=by kernel_rfl
theorem fld97_2:fldOf Tryd.prog 97 2=some 6:=by kernel_rfl
theorem infs30:(Tryd.prog.info? 30).isSome=true:=by kernel_rfl
theorem infz30:(Tryd.prog.info? 30).map (·.zero)=some (some (.slice none 0 0)):=by kernel_rfl
theorem kind140:kindOf Tryd.prog 140=some .u64:=by kernel_rfl
theorem kind158:kindOf Tryd.prog 158=some .u64:=by kernel_rfl
theorem kind3:kindOf Tryd.prog 3=some .i64:=by kernel_rfl
theorem kind5:kindOf Tryd.prog 5=some .u8:=by kernel_rfl
theorem map117:mapOf Tryd.prog 117=some (3,3):=by kernel_rfl
theorem map95:mapOf Tryd.prog 95=some (127,3):=by kernel_rfl
theorem mck95:∀a:Key,ckP Tryd.prog 3 127 (eKey a)=true:=by intros;kernel_rfl
theorem mcn117:∀a:Int,ckP Tryd.prog 3 3 (eNum a)=true:=by intros;kernel_rfl
theorem men117:∀a b:Int,eqP Tryd.prog 3 3 (eNum a) (eNum b)=some (a==b):=by intros;kernel_rfl
theorem meq95:∀a b:Key,eqP Tryd.prog 3 127 (eKey a) (eKey b)=some (a.1==b.1 && (a.2.1==b.2.1 && (a.2.2==b.2.2 && true))):=by intros;kernel_rfl
theorem mixed:Tryd.prog.follows .mixedOrders=true:=by kernel_rfl
theorem mz117:(Tryd.prog.info? 3).bind (·.zero)=some (.int .i64 0):=by kernel_rfl
theorem mz95:(Tryd.prog.info? 3).bind (·.zero)=some (.int .i64 0):=by kernel_rfl
theorem pl127:placesOf Tryd.prog 127=some [(0,1),(1,1),(2,1)]:=by kernel_rfl
theorem pl26:placesOf Tryd.prog 26=some [(0,1),(1,1),(2,1),(3,1),(4,1)]:=by kernel_rfl
theorem pl39:placesOf Tryd.prog 39=some [(0,1),(1,1)]:=by kernel_rfl
theorem pl41:placesOf Tryd.prog 41=some [(0,1),(1,1),(2,1),(3,2)]:=by kernel_rfl
theorem pl57:placesOf Tryd.prog 57=some [(0,1),(1,1),(2,1),(3,2)]:=by kernel_rfl
theorem pl71:placesOf Tryd.prog 71=some [(0,1),(1,1),(2,2)]:=by kernel_rfl
theorem pl87:placesOf Tryd.prog 87=some [(0,3),(3,6),(9,6)]:=by kernel_rfl
theorem pl92:placesOf Tryd.prog 92=some [(0,5)]:=by kernel_rfl
theorem pl97:placesOf Tryd.prog 97=some [(0,5),(5,1),(6,1)]:=by kernel_rfl
theorem s2b9_50:s2bOf Tryd.prog 9 50=some 5:=by kernel_rfl
theorem sel122:selemOf Tryd.prog 122=some (1,#[.int .i64 0],34):=by kernel_rfl
theorem sel22:selemOf Tryd.prog 22=some (5,#[.string ⟨#[]⟩,.int .i64 0,.int .i64 0,.int .i64 0,.int .i64 0],57):=by kernel_rfl
theorem sel23:selemOf Tryd.prog 23=some (5,#[.int .i64 0,.int .i64 0,.int .i64 0,.int .i64 0,.int .i64 0],41):=by kernel_rfl
theorem sel24:selemOf Tryd.prog 24=some (4,#[.int .i64 0,.int .i64 0,.int .i64 0,.int .i64 0],71):=by kernel_rfl
theorem sel30:selemOf Tryd.prog 30=some (1,#[.int .i64 0],3):=by kernel_rfl
theorem sel44:selemOf Tryd.prog 44=some (1,#[.slice none 0 0],30):=by kernel_rfl
theorem sel94:selemOf Tryd.prog 94=some (15,#[.int .i64 0,.int .i64 0,.int .i64 0,.int .i64 0,.int .i64 0,.int .i64 0,.int .i64 0,.int .i64 0,.int .i64 0,.bool false,.bool false,.bool false,.bool false,.bool false,.bool false],87):=by kernel_rfl
theorem sl122:slOf Tryd.prog 122=true:=by kernel_rfl
theorem sl22:slOf Tryd.prog 22=true:=by kernel_rfl
theorem sl23:slOf Tryd.prog 23=true:=by kernel_rfl
theorem sl24:slOf Tryd.prog 24=true:=by kernel_rfl
theorem sl27:slOf Tryd.prog 27=true:=by kernel_rfl
theorem sl30:slOf Tryd.prog 30=true:=by kernel_rfl
theorem sl44:slOf Tryd.prog 44=true:=by kernel_rfl
theorem sl50:slOf Tryd.prog 50=true:=by kernel_rfl
theorem sl94:slOf Tryd.prog 94=true:=by kernel_rfl
theorem str9:strOf Tryd.prog 9=true:=by kernel_rfl
theorem ty104:tyOf Tryd.prog 104=some (false,1):=by kernel_rfl
theorem ty115:tyOf Tryd.prog 115=some (false,1):=by kernel_rfl
theorem ty118:tyOf Tryd.prog 118=some (false,1):=by kernel_rfl
theorem ty127:tyOf Tryd.prog 127=some (true,3):=by kernel_rfl
theorem ty130:tyOf Tryd.prog 130=some (true,4):=by kernel_rfl
theorem ty131:tyOf Tryd.prog 131=some (false,1):=by kernel_rfl
theorem ty132:tyOf Tryd.prog 132=some (false,1):=by kernel_rfl
theorem ty158:tyOf Tryd.prog 158=some (false,1):=by kernel_rfl
theorem ty22:tyOf Tryd.prog 22=some (false,1):=by kernel_rfl
theorem ty23:tyOf Tryd.prog 23=some (false,1):=by kernel_rfl
theorem ty24:tyOf Tryd.prog 24=some (false,1):=by kernel_rfl
theorem ty26:tyOf Tryd.prog 26=some (true,5):=by kernel_rfl
theorem ty3:tyOf Tryd.prog 3=some (false,1):=by kernel_rfl
theorem ty30:tyOf Tryd.prog 30=some (false,1):=by kernel_rfl
theorem ty34:tyOf Tryd.prog 34=some (false,1):=by kernel_rfl
theorem ty37:tyOf Tryd.prog 37=some (false,1):=by kernel_rfl
theorem ty39:tyOf Tryd.prog 39=some (true,2):=by kernel_rfl
theorem ty4:tyOf Tryd.prog 4=some (false,1):=by kernel_rfl
theorem ty41:tyOf Tryd.prog 41=some (true,5):=by kernel_rfl
theorem ty44:tyOf Tryd.prog 44=some (false,1):=by kernel_rfl
theorem ty5:tyOf Tryd.prog 5=some (false,1):=by kernel_rfl
theorem ty57:tyOf Tryd.prog 57=some (true,5):=by kernel_rfl
theorem ty71:tyOf Tryd.prog 71=some (true,4):=by kernel_rfl
theorem ty85:tyOf Tryd.prog 85=some (true,6):=by kernel_rfl
theorem ty87:tyOf Tryd.prog 87=some (true,15):=by kernel_rfl
theorem ty9:tyOf Tryd.prog 9=some (false,1):=by kernel_rfl
theorem ty92:tyOf Tryd.prog 92=some (true,5):=by kernel_rfl
theorem ty94:tyOf Tryd.prog 94=some (false,1):=by kernel_rfl
theorem ty95:tyOf Tryd.prog 95=some (false,1):=by kernel_rfl
theorem ty97:tyOf Tryd.prog 97=some (true,7):=by kernel_rfl
theorem und118:(Tryd.prog.underlying 118).isSome=true:=by kernel_rfl
theorem und140:(Tryd.prog.underlying 140).isSome=true:=by kernel_rfl
theorem und156:(Tryd.prog.underlying 156).isSome=true:=by kernel_rfl
theorem und3:(Tryd.prog.underlying 3).isSome=true:=by kernel_rfl
theorem und5:(Tryd.prog.underlying 5).isSome=true:=by kernel_rfl
theorem und_chan115:Tryd.prog.underlying 115=some (.chan .both 30):=by kernel_rfl
theorem zero115:zeroOf Tryd.prog 115=some #[.chan none]:=by kernel_rfl
theorem zero127:zeroOf Tryd.prog 127=some #[.int .i64 0,.int .i64 0,.int .i64 0]:=by kernel_rfl
theorem zero132:zeroOf Tryd.prog 132=some #[.nilFunc]:=by kernel_rfl
theorem zero158:zeroOf Tryd.prog 158=some #[.int .u64 0]:=by kernel_rfl
theorem zero26:zeroOf Tryd.prog 26=some #[.int .i64 0,.int .i64 0,.slice none 0 0,.slice none 0 0,.slice none 0 0]:=by kernel_rfl
theorem zero3:zeroOf Tryd.prog 3=some #[.int .i64 0]:=by kernel_rfl
theorem zero30:zeroOf Tryd.prog 30=some #[.slice none 0 0]:=by kernel_rfl
theorem zero34:zeroOf Tryd.prog 34=some #[.int .i64 0]:=by kernel_rfl
theorem zero39:zeroOf Tryd.prog 39=some #[.int .i64 0,.int .i64 0]:=by kernel_rfl
theorem zero4:zeroOf Tryd.prog 4=some #[.bool false]:=by kernel_rfl
theorem zero41:zeroOf Tryd.prog 41=some #[.int .i64 0,.int .i64 0,.int .i64 0,.int .i64 0,.int .i64 0]:=by kernel_rfl
theorem zero44:zeroOf Tryd.prog 44=some #[.slice none 0 0]:=by kernel_rfl
theorem zero57:zeroOf Tryd.prog 57=some #[.string ⟨#[]⟩,.int .i64 0,.int .i64 0,.int .i64 0,.int .i64 0]:=by kernel_rfl
theorem zero71:zeroOf Tryd.prog 71=some #[.int .i64 0,.int .i64 0,.int .i64 0,.int .i64 0]:=by kernel_rfl
theorem zero87:zeroOf Tryd.prog 87=some #[.int .i64 0,.int .i64 0,.int .i64 0,.int .i64 0,.int .i64 0,.int .i64 0,.int .i64 0,.int .i64 0,.int .i64 0,.bool false,.bool false,.bool false,.bool false,.bool false,.bool false]:=by kernel_rfl
theorem zero92:zeroOf Tryd.prog 92=some #[.int .i64 0,.int .i64 0,.slice none 0 0,.slice none 0 0,.slice none 0 0]:=by kernel_rfl
theorem zero94:zeroOf Tryd.prog 94=some #[.slice none 0 0]:=by kernel_rfl
theorem zero97:zeroOf Tryd.prog 97=some #[.int .i64 0,.int .i64 0,.slice none 0 0,.slice none 0 0,.slice none 0 0,.slice none 0 0,.map none]:=by kernel_rfl
end Go.Ns.Fx
namespace Go.Ns
open Go.Conc Go.Proofs
attribute [local irreducible] OpK TrL Tr CallK ValK RoundK
theorem inside_spec {W:Wk Tryd.prog} {h:GH} (n:Int) (lo:Int) (hi:Int):CallK W 46 #[.int .i64 n,.int .i64 lo,.int .i64 hi] h (fun v h'=>v=(.bool (decide (lo≤n∧n≤hi)):Value)∧h=h'):=by
 refine call_of_tr Tryd.func46 Z (Nb Z) ?_;refine Sq (Rg ?_);refine As (.bool false) Z Z ?_;refine Nl ?_;refine tr_seq_mid (fun σ' ds' h'=>ds'=[]∧h=h'∧σ' 6=.bool (decide ((lo≤n)∧(n≤hi)))) ?_ ?_
 ·refine Rg ?_;refine Mv (.int .i64 lo) Z Z ?_;refine Mv (.int .i64 n) Z Z ?_;refine Pl Z (ok_leq (a:=lo) (b:=n) Z Z ?_);refine Mv (.bool (decide (lo≤n))) Z Z ?_;refine trL_case (p:=lo≤n) ?_ ?_
  ·intro aa;refine Gg 3 10 (bool_t Z aa) Z (ok_move (v:=.int .i64 n) Z ?_);refine Gg 3 10 (bool_t Z aa) Z (ok_move (v:=.int .i64 hi) Z ?_);refine Gg 3 10 (bool_t Z aa) Z (ok_leq (a:=n) (b:=hi) Z Z ?_);refine Pk true (.bool (decide (n≤hi))) Z (bool_t Z aa) Z ?_;refine As (.bool (decide (n≤hi))) Z Z ?_;refine Nl ?_;exact ⟨Z,Z,Et (b:=(.bool (decide (n≤hi)):Value)) Z (congrArg Value.bool (by (simp [aa];done):decide (n≤hi)=(decide ((lo≤n)∧(n≤hi)))))⟩
  ·intro aa;refine Gs 3 10 (bool_f Z aa) Z ?_;refine Gs 3 10 (bool_f Z aa) Z ?_;refine Gs 3 10 (bool_f Z aa) Z ?_;refine Pk false (.bool false) Z (bool_f Z aa) Z ?_;refine As (.bool false) Z Z ?_;refine Nl ?_;exact ⟨Z,Z,Et (b:=(.bool false:Value)) Z (congrArg Value.bool (by (simp [aa];done):false=(decide ((lo≤n)∧(n≤hi)))))⟩
 ·rintro _ _ _ ⟨ac,ab,ad⟩;subst ac;subst ab;refine Rt ?_;refine ⟨.inr Z,outs1 Z (v:=.bool (decide ((lo≤n)∧(n≤hi)))) ad ?_⟩;exact ⟨(by rfl),Z⟩
theorem spans_spec {W:Wk Tryd.prog} {h:GH} (xl:Int) (xh:Int) (lo:Int) (hi:Int):CallK W 140 #[.agg #[.int .i64 xl,.int .i64 xh],.int .i64 lo,.int .i64 hi] h (fun v h'=>v=(.bool (decide ((lo≤xl∧xl≤xh)∧xh≤hi)):Value)∧h.Le h'):=by
 refine call_of_tr Tryd.func140 Z (Nb Z) ?_;refine Sq (Rg ?_);refine Pl Z (ok_box' (v:=.agg #[.int .i64 xl,.int .i64 xh]) (c:=#[.int .i64 xl,.int .i64 xh]) Z Z fun _ h2 _ ae ad _=>?_);refine As (.bool false) Z Z ?_;refine Nl ?_;refine tr_seq_mid (fun σ' ds' h'=>ds'=[]∧h2=h'∧σ' 6=.bool (decide (((lo≤xl)∧(xl≤xh))∧(xh≤hi)))) ?_ ?_
 ·refine Rg ?_;refine Mv (.int .i64 lo) Z Z ?_;refine Fa Fx.fld39_0 Z Z ?_;refine Ld (.int .i64 xl) Z Z (Rd.one Fx.ty3 ad Z) ?_;refine Pl Z (ok_leq (a:=lo) (b:=xl) Z Z ?_);refine Mv (.bool (decide (lo≤xl))) Z Z ?_;refine trL_case (p:=lo≤xl) ?_ ?_
  ·intro aa;refine Gg 4 11 (bool_t Z aa) Z (ok_fieldAddr Fx.fld39_0 Z ?_);refine Gg 4 11 (bool_t Z aa) Z (ok_load (v:=.int .i64 xl) Z (Rd.one Fx.ty3 ad Z) ?_);refine Gg 4 11 (bool_t Z aa) Z (ok_fieldAddr Fx.fld39_1 Z ?_);refine Gg 4 11 (bool_t Z aa) Z (ok_load (v:=.int .i64 xh) Z (Rd.one Fx.ty3 ad Z) ?_);refine Gg 4 11 (bool_t Z aa) Z (ok_leq (a:=xl) (b:=xh) Z Z ?_);refine Pk true (.bool (decide (xl≤xh))) Z (bool_t Z aa) Z ?_;refine Mv (.bool (decide (xl≤xh))) Z Z ?_;refine trL_case (p:=xl≤xh) ?_ ?_
   ·intro ab;refine Gg 11 18 (bool_t Z ab) Z (ok_fieldAddr Fx.fld39_1 Z ?_);refine Gg 11 18 (bool_t Z ab) Z (ok_load (v:=.int .i64 xh) Z (Rd.one Fx.ty3 ad Z) ?_);refine Gg 11 18 (bool_t Z ab) Z (ok_move (v:=.int .i64 hi) Z ?_);refine Gg 11 18 (bool_t Z ab) Z (ok_leq (a:=xh) (b:=hi) Z Z ?_);refine Pk true (.bool (decide (xh≤hi))) Z (bool_t Z ab) Z ?_;refine As (.bool (decide (xh≤hi))) Z Z ?_;refine Nl ?_;exact ⟨Z,Z,Et (b:=(.bool (decide (xh≤hi)):Value)) Z (congrArg Value.bool (by (simp [aa,ab];done):decide (xh≤hi)=(decide (((lo≤xl)∧(xl≤xh))∧(xh≤hi)))))⟩
   ·intro ab;refine Gs 11 18 (bool_f Z ab) Z ?_;refine Gs 11 18 (bool_f Z ab) Z ?_;refine Gs 11 18 (bool_f Z ab) Z ?_;refine Gs 11 18 (bool_f Z ab) Z ?_;refine Pk false (.bool false) Z (bool_f Z ab) Z ?_;refine As (.bool false) Z Z ?_;refine Nl ?_;exact ⟨Z,Z,Et (b:=(.bool false:Value)) Z (congrArg Value.bool (by (simp [aa,ab];done):false=(decide (((lo≤xl)∧(xl≤xh))∧(xh≤hi)))))⟩
  ·intro aa;refine Gs 4 11 (bool_f Z aa) Z ?_;refine Gs 4 11 (bool_f Z aa) Z ?_;refine Gs 4 11 (bool_f Z aa) Z ?_;refine Gs 4 11 (bool_f Z aa) Z ?_;refine Gs 4 11 (bool_f Z aa) Z ?_;refine Pk false (.bool false) Z (bool_f Z aa) Z ?_;refine Mv (.bool false) Z Z ?_;refine Gs 11 18 Z Z ?_;refine Gs 11 18 Z Z ?_;refine Gs 11 18 Z Z ?_;refine Gs 11 18 Z Z ?_;refine Pk false (.bool false) Z Z Z ?_;refine As (.bool false) Z Z ?_;refine Nl ?_;exact ⟨Z,Z,Et (b:=(.bool false:Value)) Z (congrArg Value.bool (by (simp [aa];done):false=(decide (((lo≤xl)∧(xl≤xh))∧(xh≤hi)))))⟩
 ·rintro _ _ _ ⟨af,ac,ag⟩;subst af;subst ac;refine Rt ?_;refine ⟨.inr Z,outs1 Z (v:=.bool (decide (((lo≤xl)∧(xl≤xh))∧(xh≤hi)))) ag ?_⟩;exact ⟨(by rfl),ae⟩
theorem few_spec {W:Wk Tryd.prog} {h:GH} (xl:Int) (xh:Int):CallK W 139 #[.agg #[.int .i64 xl,.int .i64 xh]] h (fun v h'=>v=(.bool (decide (isFew xl xh)):Value)∧h.Le h'):=by
 refine call_of_tr Tryd.func139 Z (Nb Z) ?_;refine Sq (Rg ?_);refine Pl Z (ok_box' (v:=.agg #[.int .i64 xl,.int .i64 xh]) (c:=#[.int .i64 xl,.int .i64 xh]) Z Z fun _ h2 _ ae ah _=>?_);refine As (.bool false) Z Z ?_;refine Nl ?_;refine tr_seq_mid (fun σ' ds' h'=>ds'=[]∧GH.Le h2 h'∧σ' 2=.bool (decide (((0≤xl∧xl≤xh)∧xh≤99)∧((xh-xl)<3)))) ?_ ?_
 ·refine Rg ?_;refine Ld (.agg #[.int .i64 xl,.int .i64 xh]) Z Z (rd_agg0 Fx.ty39 (Bx ah Z)) ?_;refine Pl Z (ok_call3 Tryd.func140 Fx.call140 Z Z Z ((spans_spec xl xh 0 99 ).mono fun _ _ ai=>?_));obtain ⟨rfl,ab⟩:=ai;refine Mv (.bool (decide ((0≤xl∧xl≤xh)∧xh≤99))) Z Z ?_;refine trL_case (p:=(0≤xl∧xl≤xh)∧xh≤99) ?_ ?_
  ·intro aa;refine Gg 2 5 (bool_t Z aa) Z (ok_fieldAddr Fx.fld39_1 Z ?_);have ac:=ab.keep ah Z;refine Gg 2 5 (bool_t Z aa) Z (ok_load (v:=.int .i64 xh) Z (Rd.one Fx.ty3 ac Z) ?_);refine Gg 2 5 (bool_t Z aa) Z (ok_fieldAddr Fx.fld39_0 Z ?_);refine Gg 2 5 (bool_t Z aa) Z (ok_load (v:=.int .i64 xl) Z (Rd.one Fx.ty3 ac Z) ?_);refine Gg 2 5 (bool_t Z aa) Z (ok_sub (a:=xh) (b:=xl) Z Z (by omega) ?_);refine Gg 2 5 (bool_t Z aa) Z (ok_lss (a:=xh-xl) (b:=3) Z Z ?_);refine Pk true (.bool (decide ((xh-xl)<3))) Z (bool_t Z aa) Z ?_;refine As (.bool (decide ((xh-xl)<3))) Z Z ?_;refine Nl ?_;exact ⟨Z,ab,Et (b:=(.bool (decide ((xh-xl)<3)):Value)) Z (congrArg Value.bool (by (simp [aa];done):decide ((xh-xl)<3)=(decide (((0≤xl∧xl≤xh)∧xh≤99)∧((xh-xl)<3)))))⟩
  ·intro aa;refine Gs 2 5 (bool_f Z aa) Z ?_;refine Gs 2 5 (bool_f Z aa) Z ?_;refine Gs 2 5 (bool_f Z aa) Z ?_;refine Gs 2 5 (bool_f Z aa) Z ?_;refine Gs 2 5 (bool_f Z aa) Z ?_;refine Gs 2 5 (bool_f Z aa) Z ?_;refine Pk false (.bool false) Z (bool_f Z aa) Z ?_;refine As (.bool false) Z Z ?_;refine Nl ?_;exact ⟨Z,ab,Et (b:=(.bool false:Value)) Z (congrArg Value.bool (by (simp [aa];done):false=(decide (((0≤xl∧xl≤xh)∧xh≤99)∧((xh-xl)<3)))))⟩
 ·rintro _ _ _ ⟨af,ad,ag⟩;subst af;refine Rt ?_;refine ⟨.inr Z,outs1 Z (v:=.bool (decide (((0≤xl∧xl≤xh)∧xh≤99)∧((xh-xl)<3)))) ag ?_⟩;exact ⟨(by rfl),(ae.trans ad)⟩
theorem missing_spec {W:Wk Tryd.prog} {h:GH} (b:Bool):CallK W 43 #[.bool b] h (fun v h'=>v=(.int .i64 (if b then (0:Int) else 6):Value)∧h=h'):=by
 refine call_of_tr Tryd.func43 Z (Nb Z) ?_;refine Sq (Rg ?_);refine As (.int .i64 0) Z Z ?_;refine Nl (Sq (Sq (Rg ?_)));refine Mv (.bool b) Z Z ?_;refine Pl Z (ok_not (b:=b) Z ?_);refine Nl ?_;refine tr_ifb (t:= !b) Z (fun aa=>?_) (fun aa=>?_)
 ·have hc1_:b=false:=by simpa using aa
  refine Sq (Rg ?_);refine As (.int .i64 6) Z Z ?_;refine Nl (Rt ?_);refine ⟨.inr Z,outs1 Z (v:=.int .i64 6) Z ?_⟩;exact ⟨(by simp_all),Z⟩
 ·have hc1_:b=true:=by simpa using aa
  refine Sk (Sq (Rg ?_));refine As (.int .i64 0) Z Z ?_;refine Nl (Rt ?_);refine ⟨.inr Z,outs1 Z (v:=.int .i64 0) Z ?_⟩;exact ⟨(by simp_all),Z⟩
theorem bound_spec {W:Wk Tryd.prog} {h:GH} (b:Bool):CallK W 45 #[.bool b] h (fun v h'=>v=(.int .i64 (if b then (0:Int) else 1):Value)∧h=h'):=by
 refine call_of_tr Tryd.func45 Z (Nb Z) ?_;refine Sq (Rg ?_);refine As (.int .i64 0) Z Z ?_;refine Nl (Sq (Sq (Rg ?_)));refine Mv (.bool b) Z Z ?_;refine Pl Z (ok_not (b:=b) Z ?_);refine Nl ?_;refine tr_ifb (t:= !b) Z (fun aa=>?_) (fun aa=>?_)
 ·have hc1_:b=false:=by simpa using aa
  refine Sq (Rg ?_);refine As (.int .i64 1) Z Z ?_;refine Nl (Rt ?_);refine ⟨.inr Z,outs1 Z (v:=.int .i64 1) Z ?_⟩;exact ⟨(by simp_all),Z⟩
 ·have hc1_:b=true:=by simpa using aa
  refine Sk (Sq (Rg ?_));refine As (.int .i64 0) Z Z ?_;refine Nl (Rt ?_);refine ⟨.inr Z,outs1 Z (v:=.int .i64 0) Z ?_⟩;exact ⟨(by simp_all),Z⟩
theorem isGood_spec {W:Wk Tryd.prog} {h:GH} (d:Int) (m:Int) (gs:List Good) (gsv:Value) (ms:List Move) (msv:Value) (cs:List Count) (csv:Value) (n:Int) (hgs:SlIs h gsv 5 eGood gs) (hms:SlIs h msv 5 eMove ms) (hcs:SlIs h csv 4 eCount cs):CallK W 44 #[.agg #[.int .i64 d,.int .i64 m,gsv,msv,csv],.int .i64 n] h (fun v h'=>v=(.bool (decide (0≤n∧n≤(gs.length:Int)-1)):Value)∧h.Le h'):=by
 have ab:=hgs.len;have ac:=hms.len;have ad:=hcs.len;refine call_of_tr Tryd.func44 Z (Nb Z) ?_;refine Sq (Rg ?_);refine Pl Z (ok_box' (v:=.agg #[.int .i64 d,.int .i64 m,gsv,msv,csv]) (c:=#[.int .i64 d,.int .i64 m,gsv,msv,csv]) Z Z fun _ _ _ aa af _=>?_);refine As (.bool false) Z Z ?_;refine Nl (Sq (Rg ?_));refine Mv (.int .i64 n) Z Z ?_;refine Fa Fx.fld92_0 Z Z ?_;refine Fa Fx.fld26_2 Z Z ?_;refine Ld gsv Z Z (Rd.one Fx.ty22 af Z) ?_;refine Pl Z (ok_lenSl Fx.sl22 (hgs.le aa) Z ?_);refine Pl Z (ok_sub (a:=(gs.length:Int)) (b:=1) Z Z (by omega) ?_);refine Pl Z (ok_call3 Tryd.func46 Fx.call46 Z Z Z ((inside_spec n 0 ((gs.length:Int)-1) ).mono fun _ _ ae=>?_));obtain ⟨rfl,rfl⟩:=ae;refine As (.bool (decide (0≤n∧n≤((gs.length:Int)-1)))) Z Z ?_;refine Nl (Rt ?_);refine ⟨.inr Z,outs1 Z (v:=.bool (decide (0≤n∧n≤((gs.length:Int)-1)))) Z ?_⟩;exact ⟨(by rfl),aa⟩
theorem isMove_spec {W:Wk Tryd.prog} {h:GH} (d:Int) (m:Int) (gs:List Good) (gsv:Value) (ms:List Move) (msv:Value) (cs:List Count) (csv:Value) (n:Int) (hgs:SlIs h gsv 5 eGood gs) (hms:SlIs h msv 5 eMove ms) (hcs:SlIs h csv 4 eCount cs):CallK W 71 #[.agg #[.int .i64 d,.int .i64 m,gsv,msv,csv],.int .i64 n] h (fun v h'=>v=(.bool (decide (0≤n∧n≤(ms.length:Int)-1)):Value)∧h.Le h'):=by
 have ab:=hgs.len;have ac:=hms.len;have ad:=hcs.len;refine call_of_tr Tryd.func71 Z (Nb Z) ?_;refine Sq (Rg ?_);refine Pl Z (ok_box' (v:=.agg #[.int .i64 d,.int .i64 m,gsv,msv,csv]) (c:=#[.int .i64 d,.int .i64 m,gsv,msv,csv]) Z Z fun _ _ _ aa af _=>?_);refine As (.bool false) Z Z ?_;refine Nl (Sq (Rg ?_));refine Mv (.int .i64 n) Z Z ?_;refine Fa Fx.fld92_0 Z Z ?_;refine Fa Fx.fld26_3 Z Z ?_;refine Ld msv Z Z (Rd.one Fx.ty23 af Z) ?_;refine Pl Z (ok_lenSl Fx.sl23 (hms.le aa) Z ?_);refine Pl Z (ok_sub (a:=(ms.length:Int)) (b:=1) Z Z (by omega) ?_);refine Pl Z (ok_call3 Tryd.func46 Fx.call46 Z Z Z ((inside_spec n 0 ((ms.length:Int)-1) ).mono fun _ _ ae=>?_));obtain ⟨rfl,rfl⟩:=ae;refine As (.bool (decide (0≤n∧n≤((ms.length:Int)-1)))) Z Z ?_;refine Nl (Rt ?_);refine ⟨.inr Z,outs1 Z (v:=.bool (decide (0≤n∧n≤((ms.length:Int)-1)))) Z ?_⟩;exact ⟨(by rfl),aa⟩
theorem real_spec {W:Wk Tryd.prog} {h:GH} (p:Past) (i:Int) (hi0:0≤i) (hi1:i<6):CallK W 50 #[.agg (ePast p),.int .i64 i] h (fun v h'=>v=(.int .i64 (realOf p ((i).toNat)):Value)∧h.Le h'):=by
 refine call_of_tr Tryd.func50 Z (Nb Z) ?_;refine Sq (Rg ?_);refine Pl Z (ok_box' (v:=.agg (ePast p)) (c:=ePast p) Z Z fun _ _ _ aa ad _=>?_);refine As (.int .i64 0) Z Z ?_;refine Nl (Sq (Sq (Rg ?_)));refine Mv (.int .i64 i) Z Z ?_;refine Fa Fx.fld87_2 Z Z ?_;have ae:(0:Int)≤i:=by omega
 have af:i<((6:Nat):Int):=by omega
 refine Pl Z (ok_indexArr Fx.asz85 Z Z ae af ?_);refine Ld (.bool (p.lies (i.toNat))) Z Z (Rd.one Fx.ty4 ad (ePast_lies (i:=i.toNat) (by omega))) ?_;refine Nl ?_;refine tr_ifb (t:=p.lies (i.toNat)) Z (fun ag=>?_) (fun ag=>?_)
 ·refine Sq (Rg ?_);refine As (.int .i64 0) Z Z ?_;refine Nl (Rt ?_);refine ⟨.inr Z,outs1 Z (v:=.int .i64 0) Z ?_⟩;exact ⟨(by simp_all [realOf]),aa⟩
 ·refine Sk (Sq (Rg ?_));refine Mv (.int .i64 i) Z Z ?_;refine Fa Fx.fld87_1 Z Z ?_;have ab:(0:Int)≤i:=by omega
  have ac:i<((6:Nat):Int):=by omega
  refine Pl Z (ok_indexArr Fx.asz84 Z Z ab ac ?_);refine Ld (.int .i64 (p.many (i.toNat))) Z Z (Rd.one Fx.ty3 ad (ePast_many (i:=i.toNat) (by omega))) ?_;refine As (.int .i64 (p.many (i.toNat))) Z Z ?_;refine Nl (Rt ?_);refine ⟨.inr Z,outs1 Z (v:=.int .i64 (p.many (i.toNat))) Z ?_⟩;exact ⟨(by simp_all [realOf]),aa⟩
theorem lying_spec {W:Wk Tryd.prog} {h:GH} (p:Past):CallK W 82 #[.agg (ePast p)] h (fun v h'=>v=(.int .i64 (lyingTo p 6:Int):Value)∧h.Le h'):=by
 refine call_of_tr Tryd.func82 Z (Nb Z) ?_;refine Sq (Rg ?_);refine Pl Z (ok_box' (v:=.agg (ePast p)) (c:=ePast p) Z Z fun _ h2 _ ab al _=>?_);refine As (.int .i64 0) Z Z ?_;refine Nl (Sq (Rg ?_));refine As (.int .i64 0) Z Z ?_;refine Nl (Sq (Sq (Rg ?_)));refine Fa Fx.fld87_2 Z Z ?_;refine Ld (.agg #[.bool (p.lies 0),.bool (p.lies 1),.bool (p.lies 2),.bool (p.lies 3),.bool (p.lies 4),.bool (p.lies 5)]) Z Z (rd_agg (o:=9) (ws:=#[.bool (p.lies 0),.bool (p.lies 1),.bool (p.lies 2),.bool (p.lies 3),.bool (p.lies 4),.bool (p.lies 5)]) Fx.ty85 (Bx al Z) (Nb Z) Z) ?_;refine Mv (.int .i64 0) Z Z ?_;refine Nl (Bk ?_);refine tr_loop (fun nn σ' ds' h'=>∃(k:Nat),nn=6-k∧(k≤6)∧ds'=[]∧GH.Le h2 h'∧σ' 2=.int .i64 0∧σ' 7=.agg #[.bool (p.lies 0),.bool (p.lies 1),.bool (p.lies 2),.bool (p.lies 3),.bool (p.lies 4),.bool (p.lies 5)]∧σ' 3=.int .i64 (lyingTo p k:Int)∧σ' 8=.int .i64 (k:Int)) ⟨0,Z,(by omega),Z,Lr,Z,Z,Z,Z⟩ (fun nn _ _ _ ac=>?_);obtain ⟨k,rfl,hk,am,ad,ak,ae,af,aa⟩:=ac;subst am;have hly:=lyingTo_le p k;refine Sq (Rg ?_);refine Pl Z (ok_lss (a:=(k:Int)) (b:=6) aa Z ?_);refine Nl (Sq ?_);refine tr_if (p:=(k:Int)<6) Z (fun ag=>?_) (fun ag=>?_)
 ·refine Sk (Sq (Bk (Sq (Rg ?_))));have ah:(0:Int)≤(k:Int):=by omega
  have ai:(k:Int)<((6:Nat):Int):=by omega
  refine Pl Z (ok_indexA Fx.arr85 ae aa ah ai (ePast_lies6 (by omega)) ?_);refine As (.bool (p.lies k)) Z Z ?_;refine Nl (Sq (Rg ?_));refine Mv (.bool (p.lies k)) Z Z ?_;refine Nl ?_;refine tr_ifb (t:=p.lies k) Z (fun aj=>?_) (fun aj=>?_)
  ·refine Rg ?_;refine Mv (.int .i64 (lyingTo p k:Int)) Z af ?_;refine Ad (lyingTo p k:Int) 1 Z Z Z (by omega) ?_;refine As (.int .i64 ((lyingTo p k:Int)+1)) Z Z ?_;refine Nl (Rg ?_);refine Ad (k:Int) 1 Z aa Z (by omega) ?_;refine Mv (.int .i64 ((k:Int)+1)) Z Z ?_;refine Nl ?_;exact ⟨_,by omega,k+1,Z,(by omega),Z,ad,ak,ae,(Et (b:=(.int .i64 ((lyingTo p k:Int)+1):Value)) Z (by congr 1;simp_all [lyingTo])),Z⟩
  ·refine Sk (Rg ?_);refine Ad (k:Int) 1 Z aa Z (by omega) ?_;refine Mv (.int .i64 ((k:Int)+1)) Z Z ?_;refine Nl ?_;exact ⟨_,by omega,k+1,Z,(by omega),Z,ad,ak,ae,(Et (b:=(.int .i64 (lyingTo p k:Int):Value)) af (by congr 1;simp_all [lyingTo])),Z⟩
 ·refine Xt (Sq (Rg ?_));refine Mv (.int .i64 (lyingTo p k:Int)) Z af ?_;refine As (.int .i64 (lyingTo p k:Int)) Z Z ?_;refine Nl (Rt ?_);refine ⟨.inr Z,outs1 Z (v:=.int .i64 (lyingTo p k:Int)) Z ?_⟩;exact ⟨(by obtain rfl:k=6:=(by omega);rfl),(ab.trans ad)⟩
theorem sameList_spec {W:Wk Tryd.prog} {h:GH} (a:List Int) (av:Value) (b:List Int) (bv:Value) (ha:SlIs h av 1 eI a) (hb:SlIs h bv 1 eI b):CallK W 41 #[av,bv] h (fun v h'=>v=(.bool (decide (a=b)):Value)∧h.Le h'):=by
 have ad:=ha.len;have ae:=hb.len;refine call_of_tr Tryd.func41 Z (Nb Z) ?_;refine Sq (Rg ?_);refine As (.bool false) Z Z ?_;refine Nl (Sq (Sq (Rg ?_)));refine Mv av Z Z ?_;refine Pl Z (ok_lenSl Fx.sl30 ha Z ?_);refine Mv bv Z Z ?_;refine Pl Z (ok_lenSl Fx.sl30 hb Z ?_);refine Pl Z (ok_neq (a:=(a.length:Int)) (b:=(b.length:Int)) Z Z ?_);refine Nl ?_;refine tr_if (p:=¬(a.length:Int)=(b.length:Int)) Z (fun ar=>?_) (fun ar=>?_)
 ·refine Sq (Rg ?_);refine As (.bool false) Z Z ?_;refine Nl (Rt ?_);refine ⟨.inr Z,outs1 Z (v:=.bool false) Z ?_⟩;exact ⟨(by (rw [decide_eq_false (ne_len (by omega))];done)),Lr⟩
 ·refine Sk (Sq (Sq (Rg ?_)));refine As (.int .i64 0) Z Z ?_;refine Nl (Bk ?_);refine tr_loop (fun nn σ' ds' h'=>∃(k:Nat),nn=a.length-k∧(k≤a.length)∧(a.take k=b.take k)∧ds'=[]∧GH.Le h h'∧σ' 0=av∧σ' 1=bv∧σ' 5=.int .i64 (k:Int)) ⟨0,Z,(by omega),(by rfl),Z,Lr,Z,Z,Z⟩ (fun nn _ _ _ au=>?_);obtain ⟨k,rfl,hk,hs,x8,x9,af,aq,ac⟩:=au;subst x8;refine Sq (Sq (Rg ?_));refine Mv (.int .i64 (k:Int)) Z ac ?_;refine Mv av Z af ?_;refine Pl Z (ok_lenSl Fx.sl30 (ha.le x9) Z ?_);refine Pl Z (ok_lss (a:=(k:Int)) (b:=(a.length:Int)) Z Z ?_);refine Nl ?_;refine tr_if (p:=(k:Int)<(a.length:Int)) Z (fun ag=>?_) (fun ag=>?_)
  ·refine Sk (Sq (Bk (Sq ?_)));refine tr_tdG 8 false [1,6,10,16,21,26,30,36] Fx.mixed (by kernel_rfl) ?_;refine tR Z Z (ok_move (v:=av) af vz) ?_;refine tR Z Z (ok_move (v:=.int .i64 (k:Int)) ac vz) ?_;have ah:(0:Int)≤(k:Int):=by omega
   have ai:(k:Int)<((a.length:Nat):Int):=by omega
   refine tI Z Z Fx.esz30 ha Z Z ah ai fun aw aa aj=>?_;have ak:Elem _ aw aa 1 (eI (a.getD k 0)):=Elem.getD 0 aj;refine tR Z Z (ok_load (v:=.int .i64 (a.getD k 0)) Z (rd_one0 Fx.ty3 (ak.le x9) Z) vz) ?_;refine tR Z Z (ok_move (v:=bv) aq vz) ?_;refine tR Z Z (ok_move (v:=.int .i64 (k:Int)) ac vz) ?_;have al:(0:Int)≤(k:Int):=by omega
   have am:(k:Int)<((b.length:Nat):Int):=by omega
   refine tI Z Z Fx.esz30 hb Z Z al am fun ax ab an=>?_;have ao:Elem _ ax ab 1 (eI (b.getD k 0)):=Elem.getD 0 an;refine tR Z Z (ok_load (v:=.int .i64 (b.getD k 0)) Z (rd_one0 Fx.ty3 (ao.le x9) Z) vz) ?_;refine tN ?_;refine Pl Z (ok_neq (a:=a.getD k 0) (b:=b.getD k 0) Z Z ?_);refine Nl ?_;refine tr_if (p:=¬(a.getD k 0)=(b.getD k 0)) Z (fun ap=>?_) (fun ap=>?_)
   ·refine Sq (Rg ?_);refine As (.bool false) Z Z ?_;refine Nl (Rt ?_);refine ⟨.inr Z,outs1 Z (v:=.bool false) Z ?_⟩;exact ⟨(by (rw [decide_eq_false (ne_getD (k:=k) (d:=0) ‹_›)])),x9⟩
   ·refine Sk (Rg ?_);refine Mv (.int .i64 (k:Int)) Z ac ?_;refine Ad (k:Int) 1 Z Z Z (by omega) ?_;refine As (.int .i64 ((k:Int)+1)) Z Z ?_;refine Nl ?_;exact ⟨_,by omega,k+1,Z,(by omega),(by exact take_eq_of 0 hs (by omega) (by omega) (by simp_all)),Z,x9,af,aq,Z⟩
  ·refine Xt (Sq (Rg ?_));refine As (.bool true) Z Z ?_;refine Nl (Rt ?_);refine ⟨.inr Z,outs1 Z (v:=.bool true) Z ?_⟩;exact ⟨(by (rw [decide_eq_true (sameList_end hs hk ‹_› (by omega))];done)),x9⟩
theorem in_spec {W:Wk Tryd.prog} {h:GH} (n:Int) (lo:Int) (hi:Int):CallK W 20 #[.int .i64 n,.int .i64 lo,.int .i64 hi] h (fun v h'=>v=(.bool (decide (lo≤n∧n≤hi)):Value)∧h=h'):=by
 refine call_of_tr Tryd.func20 Z (Nb Z) ?_;refine Sq (Rg ?_);refine As (.bool false) Z Z ?_;refine Nl ?_;refine tr_seq_mid (fun σ' ds' h'=>ds'=[]∧h=h'∧σ' 6=.bool (decide ((lo≤n)∧(n≤hi)))) ?_ ?_
 ·refine Rg ?_;refine Mv (.int .i64 n) Z Z ?_;refine Mv (.int .i64 lo) Z Z ?_;refine Pl Z (ok_geq (a:=n) (b:=lo) Z Z ?_);refine Mv (.bool (decide (lo≤n))) Z Z ?_;refine trL_case (p:=lo≤n) ?_ ?_
  ·intro aa;refine Gg 3 10 (bool_t Z aa) Z (ok_move (v:=.int .i64 n) Z ?_);refine Gg 3 10 (bool_t Z aa) Z (ok_move (v:=.int .i64 hi) Z ?_);refine Gg 3 10 (bool_t Z aa) Z (ok_leq (a:=n) (b:=hi) Z Z ?_);refine Pk true (.bool (decide (n≤hi))) Z (bool_t Z aa) Z ?_;refine As (.bool (decide (n≤hi))) Z Z ?_;refine Nl ?_;exact ⟨Z,Z,Et (b:=(.bool (decide (n≤hi)):Value)) Z (congrArg Value.bool (by (simp [aa];done):decide (n≤hi)=(decide ((lo≤n)∧(n≤hi)))))⟩
  ·intro aa;refine Gs 3 10 (bool_f Z aa) Z ?_;refine Gs 3 10 (bool_f Z aa) Z ?_;refine Gs 3 10 (bool_f Z aa) Z ?_;refine Pk false (.bool false) Z (bool_f Z aa) Z ?_;refine As (.bool false) Z Z ?_;refine Nl ?_;exact ⟨Z,Z,Et (b:=(.bool false:Value)) Z (congrArg Value.bool (by (simp [aa];done):false=(decide ((lo≤n)∧(n≤hi)))))⟩
 ·rintro _ _ _ ⟨ac,ab,ad⟩;subst ac;subst ab;refine Rt ?_;refine ⟨.inr Z,outs1 Z (v:=.bool (decide ((lo≤n)∧(n≤hi)))) ad ?_⟩;exact ⟨(by rfl),Z⟩
theorem within_spec {W:Wk Tryd.prog} {h:GH} (xl:Int) (xh:Int) (lo:Int) (hi:Int):CallK W 86 #[.agg #[.int .i64 xl,.int .i64 xh],.int .i64 lo,.int .i64 hi] h (fun v h'=>v=(.bool (decide ((lo≤xl∧xl≤xh)∧xh≤hi)):Value)∧h.Le h'):=by
 refine call_of_tr Tryd.func86 Z (Nb Z) ?_;refine Sq (Rg ?_);refine Pl Z (ok_box' (v:=.agg #[.int .i64 xl,.int .i64 xh]) (c:=#[.int .i64 xl,.int .i64 xh]) Z Z fun _ h2 _ ae ad _=>?_);refine As (.bool false) Z Z ?_;refine Nl ?_;refine tr_seq_mid (fun σ' ds' h'=>ds'=[]∧h2=h'∧σ' 6=.bool (decide (((lo≤xl)∧(xl≤xh))∧(xh≤hi)))) ?_ ?_
 ·refine Rg ?_;refine Fa Fx.fld39_0 Z Z ?_;refine Ld (.int .i64 xl) Z Z (Rd.one Fx.ty3 ad Z) ?_;refine Mv (.int .i64 lo) Z Z ?_;refine Pl Z (ok_geq (a:=xl) (b:=lo) Z Z ?_);refine Mv (.bool (decide (lo≤xl))) Z Z ?_;refine trL_case (p:=lo≤xl) ?_ ?_
  ·intro aa;refine Gg 4 11 (bool_t Z aa) Z (ok_fieldAddr Fx.fld39_1 Z ?_);refine Gg 4 11 (bool_t Z aa) Z (ok_load (v:=.int .i64 xh) Z (Rd.one Fx.ty3 ad Z) ?_);refine Gg 4 11 (bool_t Z aa) Z (ok_fieldAddr Fx.fld39_0 Z ?_);refine Gg 4 11 (bool_t Z aa) Z (ok_load (v:=.int .i64 xl) Z (Rd.one Fx.ty3 ad Z) ?_);refine Gg 4 11 (bool_t Z aa) Z (ok_geq (a:=xh) (b:=xl) Z Z ?_);refine Pk true (.bool (decide (xl≤xh))) Z (bool_t Z aa) Z ?_;refine Mv (.bool (decide (xl≤xh))) Z Z ?_;refine trL_case (p:=xl≤xh) ?_ ?_
   ·intro ab;refine Gg 11 18 (bool_t Z ab) Z (ok_fieldAddr Fx.fld39_1 Z ?_);refine Gg 11 18 (bool_t Z ab) Z (ok_load (v:=.int .i64 xh) Z (Rd.one Fx.ty3 ad Z) ?_);refine Gg 11 18 (bool_t Z ab) Z (ok_move (v:=.int .i64 hi) Z ?_);refine Gg 11 18 (bool_t Z ab) Z (ok_leq (a:=xh) (b:=hi) Z Z ?_);refine Pk true (.bool (decide (xh≤hi))) Z (bool_t Z ab) Z ?_;refine As (.bool (decide (xh≤hi))) Z Z ?_;refine Nl ?_;exact ⟨Z,Z,Et (b:=(.bool (decide (xh≤hi)):Value)) Z (congrArg Value.bool (by (simp [aa,ab];done):decide (xh≤hi)=(decide (((lo≤xl)∧(xl≤xh))∧(xh≤hi)))))⟩
   ·intro ab;refine Gs 11 18 (bool_f Z ab) Z ?_;refine Gs 11 18 (bool_f Z ab) Z ?_;refine Gs 11 18 (bool_f Z ab) Z ?_;refine Gs 11 18 (bool_f Z ab) Z ?_;refine Pk false (.bool false) Z (bool_f Z ab) Z ?_;refine As (.bool false) Z Z ?_;refine Nl ?_;exact ⟨Z,Z,Et (b:=(.bool false:Value)) Z (congrArg Value.bool (by (simp [aa,ab];done):false=(decide (((lo≤xl)∧(xl≤xh))∧(xh≤hi)))))⟩
  ·intro aa;refine Gs 4 11 (bool_f Z aa) Z ?_;refine Gs 4 11 (bool_f Z aa) Z ?_;refine Gs 4 11 (bool_f Z aa) Z ?_;refine Gs 4 11 (bool_f Z aa) Z ?_;refine Gs 4 11 (bool_f Z aa) Z ?_;refine Pk false (.bool false) Z (bool_f Z aa) Z ?_;refine Mv (.bool false) Z Z ?_;refine Gs 11 18 Z Z ?_;refine Gs 11 18 Z Z ?_;refine Gs 11 18 Z Z ?_;refine Gs 11 18 Z Z ?_;refine Pk false (.bool false) Z Z Z ?_;refine As (.bool false) Z Z ?_;refine Nl ?_;exact ⟨Z,Z,Et (b:=(.bool false:Value)) Z (congrArg Value.bool (by (simp [aa];done):false=(decide (((lo≤xl)∧(xl≤xh))∧(xh≤hi)))))⟩
 ·rintro _ _ _ ⟨af,ac,ag⟩;subst af;subst ac;refine Rt ?_;refine ⟨.inr Z,outs1 Z (v:=.bool (decide (((lo≤xl)∧(xl≤xh))∧(xh≤hi)))) ag ?_⟩;exact ⟨(by rfl),ae⟩
theorem isFew_spec {W:Wk Tryd.prog} {h:GH} (xl:Int) (xh:Int):CallK W 85 #[.agg #[.int .i64 xl,.int .i64 xh]] h (fun v h'=>v=(.bool (decide (isFew xl xh)):Value)∧h.Le h'):=by
 refine call_of_tr Tryd.func85 Z (Nb Z) ?_;refine Sq (Rg ?_);refine Pl Z (ok_box' (v:=.agg #[.int .i64 xl,.int .i64 xh]) (c:=#[.int .i64 xl,.int .i64 xh]) Z Z fun _ h2 _ ae ah _=>?_);refine As (.bool false) Z Z ?_;refine Nl ?_;refine tr_seq_mid (fun σ' ds' h'=>ds'=[]∧GH.Le h2 h'∧σ' 2=.bool (decide (((0≤xl∧xl≤xh)∧xh≤99)∧((xh-xl)<3)))) ?_ ?_
 ·refine Rg ?_;refine Ld (.agg #[.int .i64 xl,.int .i64 xh]) Z Z (rd_agg0 Fx.ty39 (Bx ah Z)) ?_;refine Pl Z (ok_call3 Tryd.func86 Fx.call86 Z Z Z ((within_spec xl xh 0 99 ).mono fun _ _ ai=>?_));obtain ⟨rfl,ab⟩:=ai;refine Mv (.bool (decide ((0≤xl∧xl≤xh)∧xh≤99))) Z Z ?_;refine trL_case (p:=(0≤xl∧xl≤xh)∧xh≤99) ?_ ?_
  ·intro aa;refine Gg 2 5 (bool_t Z aa) Z (ok_fieldAddr Fx.fld39_1 Z ?_);have ac:=ab.keep ah Z;refine Gg 2 5 (bool_t Z aa) Z (ok_load (v:=.int .i64 xh) Z (Rd.one Fx.ty3 ac Z) ?_);refine Gg 2 5 (bool_t Z aa) Z (ok_fieldAddr Fx.fld39_0 Z ?_);refine Gg 2 5 (bool_t Z aa) Z (ok_load (v:=.int .i64 xl) Z (Rd.one Fx.ty3 ac Z) ?_);refine Gg 2 5 (bool_t Z aa) Z (ok_sub (a:=xh) (b:=xl) Z Z (by omega) ?_);refine Gg 2 5 (bool_t Z aa) Z (ok_lss (a:=xh-xl) (b:=3) Z Z ?_);refine Pk true (.bool (decide ((xh-xl)<3))) Z (bool_t Z aa) Z ?_;refine As (.bool (decide ((xh-xl)<3))) Z Z ?_;refine Nl ?_;exact ⟨Z,ab,Et (b:=(.bool (decide ((xh-xl)<3)):Value)) Z (congrArg Value.bool (by (simp [aa];done):decide ((xh-xl)<3)=(decide (((0≤xl∧xl≤xh)∧xh≤99)∧((xh-xl)<3)))))⟩
  ·intro aa;refine Gs 2 5 (bool_f Z aa) Z ?_;refine Gs 2 5 (bool_f Z aa) Z ?_;refine Gs 2 5 (bool_f Z aa) Z ?_;refine Gs 2 5 (bool_f Z aa) Z ?_;refine Gs 2 5 (bool_f Z aa) Z ?_;refine Gs 2 5 (bool_f Z aa) Z ?_;refine Pk false (.bool false) Z (bool_f Z aa) Z ?_;refine As (.bool false) Z Z ?_;refine Nl ?_;exact ⟨Z,ab,Et (b:=(.bool false:Value)) Z (congrArg Value.bool (by (simp [aa];done):false=(decide (((0≤xl∧xl≤xh)∧xh≤99)∧((xh-xl)<3)))))⟩
 ·rintro _ _ _ ⟨af,ad,ag⟩;subst af;refine Rt ?_;refine ⟨.inr Z,outs1 Z (v:=.bool (decide (((0≤xl∧xl≤xh)∧xh≤99)∧((xh-xl)<3)))) ag ?_⟩;exact ⟨(by rfl),(ae.trans ad)⟩
theorem letter_spec {W:Wk Tryd.prog} {h:GH} (c:Int):CallK W 93 #[.int .u8 c] h (fun v h'=>v=(.bool (decide (isLetter c)):Value)∧h=h'):=by
 refine call_of_tr Tryd.func93 Z (Nb Z) ?_;refine Sq (Rg ?_);refine As (.bool false) Z Z ?_;refine Nl ?_;refine tr_seq_mid (fun σ' ds' h'=>ds'=[]∧h=h'∧σ' 2=.bool (decide ((97≤c)∧(c≤122)))) ?_ ?_
 ·refine Rg ?_;refine Mv (.int .u8 c) Z Z ?_;refine Pl Z (ok_geq (a:=c) (b:=97) Z Z ?_);refine Mv (.bool (decide (97≤c))) Z Z ?_;refine trL_case (p:=97≤c) ?_ ?_
  ·intro aa;refine Gg 2 5 (bool_t Z aa) Z (ok_move (v:=.int .u8 c) Z ?_);refine Gg 2 5 (bool_t Z aa) Z (ok_leq (a:=c) (b:=122) Z Z ?_);refine Pk true (.bool (decide (c≤122))) Z (bool_t Z aa) Z ?_;refine As (.bool (decide (c≤122))) Z Z ?_;refine Nl ?_;exact ⟨Z,Z,Et (b:=(.bool (decide (c≤122)):Value)) Z (congrArg Value.bool (by (simp [aa];done):decide (c≤122)=(decide ((97≤c)∧(c≤122)))))⟩
  ·intro aa;refine Gs 2 5 (bool_f Z aa) Z ?_;refine Gs 2 5 (bool_f Z aa) Z ?_;refine Pk false (.bool false) Z (bool_f Z aa) Z ?_;refine As (.bool false) Z Z ?_;refine Nl ?_;exact ⟨Z,Z,Et (b:=(.bool false:Value)) Z (congrArg Value.bool (by (simp [aa];done):false=(decide ((97≤c)∧(c≤122)))))⟩
 ·rintro _ _ _ ⟨ac,ab,ad⟩;subst ac;subst ab;refine Rt ?_;refine ⟨.inr Z,outs1 Z (v:=.bool (decide ((97≤c)∧(c≤122)))) ad ?_⟩;exact ⟨(by rfl),Z⟩
theorem digit_spec {W:Wk Tryd.prog} {h:GH} (c:Int):CallK W 94 #[.int .u8 c] h (fun v h'=>v=(.bool (decide (isDigit c)):Value)∧h=h'):=by
 refine call_of_tr Tryd.func94 Z (Nb Z) ?_;refine Sq (Rg ?_);refine As (.bool false) Z Z ?_;refine Nl ?_;refine tr_seq_mid (fun σ' ds' h'=>ds'=[]∧h=h'∧σ' 2=.bool (decide ((48≤c)∧(c≤57)))) ?_ ?_
 ·refine Rg ?_;refine Mv (.int .u8 c) Z Z ?_;refine Pl Z (ok_geq (a:=c) (b:=48) Z Z ?_);refine Mv (.bool (decide (48≤c))) Z Z ?_;refine trL_case (p:=48≤c) ?_ ?_
  ·intro aa;refine Gg 2 5 (bool_t Z aa) Z (ok_move (v:=.int .u8 c) Z ?_);refine Gg 2 5 (bool_t Z aa) Z (ok_leq (a:=c) (b:=57) Z Z ?_);refine Pk true (.bool (decide (c≤57))) Z (bool_t Z aa) Z ?_;refine As (.bool (decide (c≤57))) Z Z ?_;refine Nl ?_;exact ⟨Z,Z,Et (b:=(.bool (decide (c≤57)):Value)) Z (congrArg Value.bool (by (simp [aa];done):decide (c≤57)=(decide ((48≤c)∧(c≤57)))))⟩
  ·intro aa;refine Gs 2 5 (bool_f Z aa) Z ?_;refine Gs 2 5 (bool_f Z aa) Z ?_;refine Pk false (.bool false) Z (bool_f Z aa) Z ?_;refine As (.bool false) Z Z ?_;refine Nl ?_;exact ⟨Z,Z,Et (b:=(.bool false:Value)) Z (congrArg Value.bool (by (simp [aa];done):false=(decide ((48≤c)∧(c≤57)))))⟩
 ·rintro _ _ _ ⟨ac,ab,ad⟩;subst ac;subst ab;refine Rt ?_;refine ⟨.inr Z,outs1 Z (v:=.bool (decide ((48≤c)∧(c≤57)))) ad ?_⟩;exact ⟨(by rfl),Z⟩
theorem to_spec {W:Wk Tryd.prog} {h:GH} (a:Int) (b:Int):CallK W 17 #[.int .i64 a,.int .i64 b] h (fun v h'=>v=(.agg #[.int .i64 a,.int .i64 b]:Value)∧h.Le h'):=by
 refine call_of_tr Tryd.func17 Z (Nb Z) ?_;refine Sq (Rg ?_);refine Pl Z (ok_alloc' Fx.zero39 fun _ _ ab aa ac _=>?_);refine Nl (Sq (Rg ?_));refine Mv (.int .i64 a) Z Z ?_;refine Mv (.int .i64 b) Z Z ?_;refine Pl Z (ok_build (cells:=#[.int .i64 a,.int .i64 b]) Fx.pl39 Fx.zero39 (by kernel_rfl) ?_);refine Pl Z (ok_store' (v:=.agg #[.int .i64 a,.int .i64 b]) (c':=#[.int .i64 a,.int .i64 b]) Fx.ty39 Z Z ac Z Z (by simp) Z fun _ ad ae=>?_);refine Nl (Rt ?_);refine ⟨.inr Z,outsC1 Z (v:=.agg #[.int .i64 a,.int .i64 b]) Z (rd_agg0 Fx.ty39 (Bx ad Z)) ?_⟩;exact ⟨Z,(aa.upd (Ln Lr ab) ae)⟩
theorem isNote_spec {W:Wk Tryd.prog} {h:GH} (d:Int) (m:Int) (gs:List Good) (gsv:Value) (ms:List Move) (msv:Value) (cs:List Count) (csv:Value) (n:Int) (hgs:SlIs h gsv 5 eGood gs) (hms:SlIs h msv 5 eMove ms) (hcs:SlIs h csv 4 eCount cs):CallK W 57 #[.agg #[.int .i64 d,.int .i64 m,gsv,msv,csv],.int .i64 n] h (fun v h'=>v=(.bool (decide ((0≤n∧n≤(ms.length:Int)-1)∧(ms.getD (n).toNat Move.z).kind=0)):Value)∧h.Le h'):=by
 have af:=hgs.len;have ag:=hms.len;have ah:=hcs.len;refine call_of_tr Tryd.func57 Z (Nb Z) ?_;refine Sq (Rg ?_);refine Pl Z (ok_box' (v:=.agg #[.int .i64 d,.int .i64 m,gsv,msv,csv]) (c:=#[.int .i64 d,.int .i64 m,gsv,msv,csv]) Z Z fun _ h5 _ ac ap _=>?_);refine As (.bool false) Z Z ?_;refine Nl ?_;refine tr_seq_mid (fun σ' ds' h'=>ds'=[]∧GH.Le h5 h'∧σ' 4=.bool (decide ((0≤n∧n≤(ms.length:Int)-1)∧(((ms.getD (n.toNat) Move.z).kind)=0)))) ?_ ?_
 ·refine Rg ?_;refine Ld (.agg #[.int .i64 d,.int .i64 m,gsv,msv,csv]) Z Z (rd_agg0 Fx.ty92 (Bx ap Z)) ?_;refine Mv (.int .i64 n) Z Z ?_;refine Pl Z (ok_call2 Tryd.func71 Fx.call71 Z Z ((isMove_spec d m gs gsv ms msv cs csv n (hgs.le ac) (hms.le ac) (hcs.le ac) ).mono fun _ _ ai=>?_));obtain ⟨rfl,ab⟩:=ai;refine Mv (.bool (decide (0≤n∧n≤(ms.length:Int)-1))) Z Z ?_;refine trL_case (p:=0≤n∧n≤(ms.length:Int)-1) ?_ ?_
  ·intro aa;refine Gg 3 8 (bool_t Z aa) Z (ok_fieldAddr Fx.fld92_0 Z ?_);refine Gg 3 8 (bool_t Z aa) Z (ok_fieldAddr Fx.fld26_3 Z ?_);refine Gg 3 8 (bool_t Z aa) Z (ok_load (v:=msv) Z (Rd.one Fx.ty23 (ab.keep ap Z) Z) ?_);refine Gg 3 8 (bool_t Z aa) Z (ok_move (v:=.int .i64 n) Z ?_);have aj:(0:Int)≤n:=by omega
   have ak:n<((ms.length:Nat):Int):=by omega
   refine Gg 3 8 (bool_t Z aa) Z (ok_indexS0 Fx.esz23 hms Z Z aj ak fun aq ad al=>?_);have am:Elem _ aq ad 5 (eMove (ms.getD (n.toNat) Move.z)):=Elem.getD Move.z al;refine Gg 3 8 (bool_t Z aa) Z (ok_fieldAddr Fx.fld41_0 Z ?_);refine Gg 3 8 (bool_t Z aa) Z (ok_load (v:=.int .i64 ((ms.getD (n.toNat) Move.z).kind)) Z (rd_one0 Fx.ty37 (am.le (ac.trans ab)) Z) ?_);refine Gg 3 8 (bool_t Z aa) Z (ok_eql (a:=(ms.getD (n.toNat) Move.z).kind) (b:=0) Z Z ?_);refine Pk true (.bool (decide (((ms.getD (n.toNat) Move.z).kind)=0))) Z (bool_t Z aa) Z ?_;refine As (.bool (decide (((ms.getD (n.toNat) Move.z).kind)=0))) Z Z ?_;refine Nl ?_;exact ⟨Z,ab,Et (b:=(.bool (decide (((ms.getD (n.toNat) Move.z).kind)=0)):Value)) Z (congrArg Value.bool (by (simp [aa];done):decide (((ms.getD (n.toNat) Move.z).kind)=0)=(decide ((0≤n∧n≤(ms.length:Int)-1)∧(((ms.getD (n.toNat) Move.z).kind)=0)))))⟩
  ·intro aa;refine Gs 3 8 (bool_f Z aa) Z ?_;refine Gs 3 8 (bool_f Z aa) Z ?_;refine Gs 3 8 (bool_f Z aa) Z ?_;refine Gs 3 8 (bool_f Z aa) Z ?_;refine Gs 3 8 (bool_f Z aa) Z ?_;refine Gs 3 8 (bool_f Z aa) Z ?_;refine Gs 3 8 (bool_f Z aa) Z ?_;refine Gs 3 8 (bool_f Z aa) Z ?_;refine Pk false (.bool false) Z (bool_f Z aa) Z ?_;refine As (.bool false) Z Z ?_;refine Nl ?_;exact ⟨Z,ab,Et (b:=(.bool false:Value)) Z (congrArg Value.bool (by (simp [aa];done):false=(decide ((0≤n∧n≤(ms.length:Int)-1)∧(((ms.getD (n.toNat) Move.z).kind)=0)))))⟩
 ·rintro _ _ _ ⟨an,ae,ao⟩;subst an;refine Rt ?_;refine ⟨.inr Z,outs1 Z (v:=.bool (decide ((0≤n∧n≤(ms.length:Int)-1)∧(((ms.getD (n.toNat) Move.z).kind)=0)))) ao ?_⟩;exact ⟨(by rfl),(ac.trans ae)⟩
theorem head_spec {W:Wk Tryd.prog} {h:GH} (d:Int) (m:Int) (gs:List Good) (gsv:Value) (ms:List Move) (msv:Value) (cs:List Count) (csv:Value) (hgs:SlIs h gsv 5 eGood gs) (hms:SlIs h msv 5 eMove ms) (hcs:SlIs h csv 4 eCount cs):CallK W 132 #[.agg #[.int .i64 d,.int .i64 m,gsv,msv,csv]] h (fun v h'=>v=(.int .i64 (headBell d m):Value)∧h.Le h'):=by
 have ad:=hgs.len;have ae:=hms.len;have af:=hcs.len;refine call_of_tr Tryd.func132 Z (Nb Z) ?_;refine Sq (Rg ?_);refine Pl Z (ok_box' (v:=.agg #[.int .i64 d,.int .i64 m,gsv,msv,csv]) (c:=#[.int .i64 d,.int .i64 m,gsv,msv,csv]) Z Z fun _ h5 _ ab al _=>?_);refine As (.int .i64 0) Z Z ?_;refine Nl (Sq ?_);refine tr_seq_mid (fun σ' ds' h'=>ds'=[]∧h5=h'∧σ' 2=.int .i64 0∧σ' 14=.bool (decide ((¬(1≤d∧d≤99))∨(¬(0≤m∧m≤2))))) ?_ ?_
 ·refine Rg ?_;refine Fa Fx.fld92_0 Z Z ?_;refine Fa Fx.fld26_0 Z Z ?_;refine Ld (.int .i64 d) Z Z (Rd.one Fx.ty3 al Z) ?_;refine Pl Z (ok_call3 Tryd.func46 Fx.call46 Z Z Z ((inside_spec d 1 99 ).mono fun _ _ ag=>?_));obtain ⟨rfl,rfl⟩:=ag;refine Pl Z (ok_notp (p:=1≤d∧d≤99) Z ?_);refine Mv (.bool (decide (¬(1≤d∧d≤99)))) Z Z ?_;refine trL_case (p:=¬(1≤d∧d≤99)) ?_ ?_
  ·intro aa;refine Gs 5 8 (bool_t Z aa) Z ?_;refine Gs 5 8 (bool_t Z aa) Z ?_;refine Gs 5 8 (bool_t Z aa) Z ?_;refine Gs 5 8 (bool_t Z aa) Z ?_;refine Gs 5 8 (bool_t Z aa) Z ?_;refine Pk true (.bool true) Z (bool_t Z aa) Z ?_;refine Nl ?_;exact ⟨Z,Z,Z,Et (b:=(.bool true:Value)) Z (congrArg Value.bool (by (simp [aa];done):true=(decide ((¬(1≤d∧d≤99))∨(¬(0≤m∧m≤2))))))⟩
  ·intro aa;refine Gg 5 8 (bool_f Z aa) Z (ok_fieldAddr Fx.fld92_0 Z ?_);refine Gg 5 8 (bool_f Z aa) Z (ok_fieldAddr Fx.fld26_1 Z ?_);refine Gg 5 8 (bool_f Z aa) Z (ok_load (v:=.int .i64 m) Z (Rd.one Fx.ty3 al Z) ?_);refine Gg 5 8 (bool_f Z aa) Z (ok_call3 Tryd.func46 Fx.call46 Z Z Z ((inside_spec m 0 2 ).mono fun _ _ ah=>?_));obtain ⟨rfl,rfl⟩:=ah;refine Gg 5 8 (bool_f Z aa) Z (ok_notp (p:=0≤m∧m≤2) Z ?_);refine Pk false (.bool (decide (¬(0≤m∧m≤2)))) Z (bool_f Z aa) Z ?_;refine Nl ?_;exact ⟨Z,Z,Z,Et (b:=(.bool (decide (¬(0≤m∧m≤2))):Value)) Z (congrArg Value.bool (by (simp [aa];done):decide (¬(0≤m∧m≤2))=(decide ((¬(1≤d∧d≤99))∨(¬(0≤m∧m≤2))))))⟩
 ·rintro _ _ _ ⟨ai,ac,am,aj⟩;subst ai;subst ac;refine tr_if (p:=(¬(1≤d∧d≤99))∨(¬(0≤m∧m≤2))) aj (fun ak=>?_) (fun ak=>?_)
  ·refine Sq (Rg ?_);refine As (.int .i64 1) Z Z ?_;refine Nl (Rt ?_);refine ⟨.inr Z,outs1 Z (v:=.int .i64 1) Z ?_⟩;exact ⟨(by simp_all [headBell]),ab⟩
  ·refine Sk (Sq (Rg ?_));refine As (.int .i64 0) Z Z ?_;refine Nl (Rt ?_);refine ⟨.inr Z,outs1 Z (v:=.int .i64 0) Z ?_⟩;exact ⟨(by simp_all [headBell]),ab⟩
theorem indexInt_spec {W:Wk Tryd.prog} {h:GH} (xs:List Int) (xsv:Value) (fv:Value) (p:Int→Bool) (hxs:SlIs h xsv 1 eI xs) (hf:∀x ∈ xs,∀h1,h.Le h1→ValK W fv #[.int .i64 x] h1 fun v h2=>v=.bool (p x)∧h1.Le h2):CallK W 76 #[xsv,fv] h (fun v h'=>v=(.int .i64 (idxOf p xs):Value)∧h.Le h'):=by
 have ac:=hxs.len;refine call_of_tr Tryd.func76 Z (Nb Z) ?_;refine Sq (Rg ?_);refine As (.int .i64 0) Z Z ?_;refine Nl (Sq (Sq (Rg ?_)));refine Mv xsv Z Z ?_;refine Pl Z (ok_lenSl Fx.sl30 hxs Z ?_);refine Mv (.int .i64 0) Z Z ?_;refine Nl (Bk ?_);refine tr_loop (fun nn σ' ds' h'=>∃(k:Nat),nn=xs.length-k∧(k≤xs.length)∧((xs.take k).any p=false)∧ds'=[]∧GH.Le h h'∧σ' 0=xsv∧σ' 1=fv∧σ' 7=.int .i64 (xs.length:Int)∧σ' 8=.int .i64 (k:Int)) ⟨0,Z,(by omega),(by simp),Z,Lr,Z,Z,Z,Z⟩ (fun nn _ _ _ am=>?_);obtain ⟨k,rfl,hk,hs,x6,x7,x8,x9,al,ad⟩:=am;subst x6;refine Sq (Rg ?_);refine Pl Z (ok_lss (a:=(k:Int)) (b:=(xs.length:Int)) ad al ?_);refine Nl (Sq ?_);refine tr_if (p:=(k:Int)<(xs.length:Int)) Z (fun ae=>?_) (fun ae=>?_)
 ·refine Sk (Sq (Bk (Sq (Rg ?_))));refine Mv (.int .i64 (k:Int)) Z ad ?_;refine As (.int .i64 (k:Int)) Z Z ?_;refine Nl (Sq (Rg ?_));refine Mv fv Z x9 ?_;refine Mv xsv Z x8 ?_;refine Mv (.int .i64 (k:Int)) Z Z ?_;have af:(0:Int)≤(k:Int):=by omega
  have ag:(k:Int)<((xs.length:Nat):Int):=by omega
  refine Pl Z (ok_indexS0 Fx.esz30 hxs Z Z af ag fun an ab ah=>?_);have ai:Elem _ an ab 1 (eI (xs.getD k 0)):=Elem.getD 0 ah;refine Ld (.int .i64 (xs.getD k 0)) Z Z (rd_one0 Fx.ty3 (ai.le x7) Z) ?_;refine Pl Z (ok_callVal Z (vs:=#[.int .i64 (xs.getD k 0)]) (by simp only [List.map_toArray,List.map_cons,List.map_nil,evalS] <;> rfl) ((hf (xs.getD k 0) (getD_mem (by omega)) _ x7).mono fun _ _ aj=>?_));obtain ⟨rfl,aa⟩:=aj;refine Nl ?_;refine tr_ifb (t:=p (xs.getD k 0)) Z (fun ak=>?_) (fun ak=>?_)
  ·refine Sq (Rg ?_);refine Mv (.int .i64 (k:Int)) Z Z ?_;refine As (.int .i64 (k:Int)) Z Z ?_;refine Nl (Rt ?_);refine ⟨.inr Z,outs1 Z (v:=.int .i64 (k:Int)) Z ?_⟩;exact ⟨(by (rw [idxOf_hit (k:=k) (by omega) hs ‹_›];done)),(x7.trans aa)⟩
  ·refine Sk (Rg ?_);refine Ad (k:Int) 1 Z ad Z (by omega) ?_;refine Mv (.int .i64 ((k:Int)+1)) Z Z ?_;refine Nl ?_;exact ⟨_,by omega,k+1,Z,(by omega),(by exact any_next (d:=0) (by omega) hs ‹_›),Z,(x7.trans aa),x8,x9,al,Z⟩
 ·refine Xt (Sq (Rg ?_));refine As (.int .i64 (-1)) Z Z ?_;refine Nl (Rt ?_);refine ⟨.inr Z,outs1 Z (v:=.int .i64 (-1)) Z ?_⟩;exact ⟨(by (rw [idxOf_miss (k:=k) (by omega) hs])),x7⟩
theorem containsInt_spec {W:Wk Tryd.prog} {h:GH} (xs:List Int) (xsv:Value) (fv:Value) (p:Int→Bool) (hxs:SlIs h xsv 1 eI xs) (hf:∀x ∈ xs,∀h1,h.Le h1→ValK W fv #[.int .i64 x] h1 fun v h2=>v=.bool (p x)∧h1.Le h2):CallK W 51 #[xsv,fv] h (fun v h'=>v=(.bool (xs.any p):Value)∧h.Le h'):=by
 have aa:=hxs.len;refine call_of_tr Tryd.func51 Z (Nb Z) ?_;refine Sq (Rg ?_);refine As (.bool false) Z Z ?_;refine Nl (Sq (Rg ?_));refine Mv xsv Z Z ?_;refine Mv fv Z Z ?_;refine Pl Z (ok_call2 Tryd.func76 Fx.call76 Z Z ((indexInt_spec xs xsv fv p hxs (fun x hx h1 l1=>hf x hx h1 (GH.Le.trans Lr l1))).mono fun _ _ ac=>?_));obtain ⟨rfl,ab⟩:=ac;refine Pl Z (ok_geq (a:=idxOf p xs) (b:=0) Z Z ?_);refine As (.bool (decide (0≤(idxOf p xs)))) Z Z ?_;refine Nl (Rt ?_);refine ⟨.inr Z,outs1 Z (v:=.bool (decide (0≤(idxOf p xs)))) Z ?_⟩;exact ⟨(by rw [show decide (0≤idxOf p xs)=xs.any p from by rw [Bool.eq_iff_iff];simp [idxOf_any]]),ab⟩
theorem indexCount_spec {W:Wk Tryd.prog} {h:GH} (xs:List Count) (xsv:Value) (fv:Value) (p:Count→Bool) (hxs:SlIs h xsv 4 eCount xs) (hf:∀x ∈ xs,∀h1,h.Le h1→ValK W fv #[.agg #[.int .i64 x.good,.int .i64 x.day,.int .i64 x.low,.int .i64 x.high]] h1 fun v h2=>v=.bool (p x)∧h1.Le h2):CallK W 106 #[xsv,fv] h (fun v h'=>v=(.int .i64 (idxOf p xs):Value)∧h.Le h'):=by
 have ac:=hxs.len;refine call_of_tr Tryd.func106 Z (Nb Z) ?_;refine Sq (Rg ?_);refine As (.int .i64 0) Z Z ?_;refine Nl (Sq (Sq (Rg ?_)));refine Mv xsv Z Z ?_;refine Pl Z (ok_lenSl Fx.sl24 hxs Z ?_);refine Mv (.int .i64 0) Z Z ?_;refine Nl (Bk ?_);refine tr_loop (fun nn σ' ds' h'=>∃(k:Nat),nn=xs.length-k∧(k≤xs.length)∧((xs.take k).any p=false)∧ds'=[]∧GH.Le h h'∧σ' 0=xsv∧σ' 1=fv∧σ' 7=.int .i64 (xs.length:Int)∧σ' 8=.int .i64 (k:Int)) ⟨0,Z,(by omega),(by simp),Z,Lr,Z,Z,Z,Z⟩ (fun nn _ _ _ am=>?_);obtain ⟨k,rfl,hk,hs,x6,x7,x8,x9,al,ad⟩:=am;subst x6;refine Sq (Rg ?_);refine Pl Z (ok_lss (a:=(k:Int)) (b:=(xs.length:Int)) ad al ?_);refine Nl (Sq ?_);refine tr_if (p:=(k:Int)<(xs.length:Int)) Z (fun ae=>?_) (fun ae=>?_)
 ·refine Sk (Sq (Bk (Sq (Rg ?_))));refine Mv (.int .i64 (k:Int)) Z ad ?_;refine As (.int .i64 (k:Int)) Z Z ?_;refine Nl (Sq (Rg ?_));refine Mv fv Z x9 ?_;refine Mv xsv Z x8 ?_;refine Mv (.int .i64 (k:Int)) Z Z ?_;have af:(0:Int)≤(k:Int):=by omega
  have ag:(k:Int)<((xs.length:Nat):Int):=by omega
  refine Pl Z (ok_indexS0 Fx.esz24 hxs Z Z af ag fun an ab ah=>?_);have ai:Elem _ an ab 4 (eCount (xs.getD k Count.z)):=Elem.getD Count.z ah;refine Ld (.agg #[.int .i64 ((xs.getD k Count.z).good),.int .i64 ((xs.getD k Count.z).day),.int .i64 ((xs.getD k Count.z).low),.int .i64 ((xs.getD k Count.z).high)]) Z Z (rd_agg0 Fx.ty71 (ai.le x7)) ?_;refine Pl Z (ok_callVal Z (vs:=#[.agg #[.int .i64 ((xs.getD k Count.z).good),.int .i64 ((xs.getD k Count.z).day),.int .i64 ((xs.getD k Count.z).low),.int .i64 ((xs.getD k Count.z).high)]]) (by simp only [List.map_toArray,List.map_cons,List.map_nil,evalS] <;> rfl) ((hf (xs.getD k Count.z) (getD_mem (by omega)) _ x7).mono fun _ _ aj=>?_));obtain ⟨rfl,aa⟩:=aj;refine Nl ?_;refine tr_ifb (t:=p (xs.getD k Count.z)) Z (fun ak=>?_) (fun ak=>?_)
  ·refine Sq (Rg ?_);refine Mv (.int .i64 (k:Int)) Z Z ?_;refine As (.int .i64 (k:Int)) Z Z ?_;refine Nl (Rt ?_);refine ⟨.inr Z,outs1 Z (v:=.int .i64 (k:Int)) Z ?_⟩;exact ⟨(by (rw [idxOf_hit (k:=k) (by omega) hs ‹_›];done)),(x7.trans aa)⟩
  ·refine Sk (Rg ?_);refine Ad (k:Int) 1 Z ad Z (by omega) ?_;refine Mv (.int .i64 ((k:Int)+1)) Z Z ?_;refine Nl ?_;exact ⟨_,by omega,k+1,Z,(by omega),(by exact any_next (d:=Count.z) (by omega) hs ‹_›),Z,(x7.trans aa),x8,x9,al,Z⟩
 ·refine Xt (Sq (Rg ?_));refine As (.int .i64 (-1)) Z Z ?_;refine Nl (Rt ?_);refine ⟨.inr Z,outs1 Z (v:=.int .i64 (-1)) Z ?_⟩;exact ⟨(by (rw [idxOf_miss (k:=k) (by omega) hs])),x7⟩
theorem containsCount_spec {W:Wk Tryd.prog} {h:GH} (xs:List Count) (xsv:Value) (fv:Value) (p:Count→Bool) (hxs:SlIs h xsv 4 eCount xs) (hf:∀x ∈ xs,∀h1,h.Le h1→ValK W fv #[.agg #[.int .i64 x.good,.int .i64 x.day,.int .i64 x.low,.int .i64 x.high]] h1 fun v h2=>v=.bool (p x)∧h1.Le h2):CallK W 90 #[xsv,fv] h (fun v h'=>v=(.bool (xs.any p):Value)∧h.Le h'):=by
 have aa:=hxs.len;refine call_of_tr Tryd.func90 Z (Nb Z) ?_;refine Sq (Rg ?_);refine As (.bool false) Z Z ?_;refine Nl (Sq (Rg ?_));refine Mv xsv Z Z ?_;refine Mv fv Z Z ?_;refine Pl Z (ok_call2 Tryd.func106 Fx.call106 Z Z ((indexCount_spec xs xsv fv p hxs (fun x hx h1 l1=>hf x hx h1 (GH.Le.trans Lr l1))).mono fun _ _ ac=>?_));obtain ⟨rfl,ab⟩:=ac;refine Pl Z (ok_geq (a:=idxOf p xs) (b:=0) Z Z ?_);refine As (.bool (decide (0≤(idxOf p xs)))) Z Z ?_;refine Nl (Rt ?_);refine ⟨.inr Z,outs1 Z (v:=.bool (decide (0≤(idxOf p xs)))) Z ?_⟩;exact ⟨(by rw [show decide (0≤idxOf p xs)=xs.any p from by rw [Bool.eq_iff_iff];simp [idxOf_any]]),ab⟩
theorem indexGood_spec {W:Wk Tryd.prog} {h:GH} (xs:List Good) (xsv:Value) (fv:Value) (p:Good→Bool) (hxs:SlIs h xsv 5 eGood xs) (hf:∀x ∈ xs,∀h1,h.Le h1→ValK W fv #[.agg #[.string x.name,.int .i64 x.cost,.int .i64 x.pack,.int .i64 x.low,.int .i64 x.high]] h1 fun v h2=>v=.bool (p x)∧h1.Le h2):CallK W 141 #[xsv,fv] h (fun v h'=>v=(.int .i64 (idxOf p xs):Value)∧h.Le h'):=by
 have ac:=hxs.len;refine call_of_tr Tryd.func141 Z (Nb Z) ?_;refine Sq (Rg ?_);refine As (.int .i64 0) Z Z ?_;refine Nl (Sq (Sq (Rg ?_)));refine Mv xsv Z Z ?_;refine Pl Z (ok_lenSl Fx.sl22 hxs Z ?_);refine Mv (.int .i64 0) Z Z ?_;refine Nl (Bk ?_);refine tr_loop (fun nn σ' ds' h'=>∃(k:Nat),nn=xs.length-k∧(k≤xs.length)∧((xs.take k).any p=false)∧ds'=[]∧GH.Le h h'∧σ' 0=xsv∧σ' 1=fv∧σ' 7=.int .i64 (xs.length:Int)∧σ' 8=.int .i64 (k:Int)) ⟨0,Z,(by omega),(by simp),Z,Lr,Z,Z,Z,Z⟩ (fun nn _ _ _ am=>?_);obtain ⟨k,rfl,hk,hs,x6,x7,x8,x9,al,ad⟩:=am;subst x6;refine Sq (Rg ?_);refine Pl Z (ok_lss (a:=(k:Int)) (b:=(xs.length:Int)) ad al ?_);refine Nl (Sq ?_);refine tr_if (p:=(k:Int)<(xs.length:Int)) Z (fun ae=>?_) (fun ae=>?_)
 ·refine Sk (Sq (Bk (Sq (Rg ?_))));refine Mv (.int .i64 (k:Int)) Z ad ?_;refine As (.int .i64 (k:Int)) Z Z ?_;refine Nl (Sq (Rg ?_));refine Mv fv Z x9 ?_;refine Mv xsv Z x8 ?_;refine Mv (.int .i64 (k:Int)) Z Z ?_;have af:(0:Int)≤(k:Int):=by omega
  have ag:(k:Int)<((xs.length:Nat):Int):=by omega
  refine Pl Z (ok_indexS0 Fx.esz22 hxs Z Z af ag fun an ab ah=>?_);have ai:Elem _ an ab 5 (eGood (xs.getD k Good.z)):=Elem.getD Good.z ah;refine Ld (.agg #[.string ((xs.getD k Good.z).name),.int .i64 ((xs.getD k Good.z).cost),.int .i64 ((xs.getD k Good.z).pack),.int .i64 ((xs.getD k Good.z).low),.int .i64 ((xs.getD k Good.z).high)]) Z Z (rd_agg0 Fx.ty57 (ai.le x7)) ?_;refine Pl Z (ok_callVal Z (vs:=#[.agg #[.string ((xs.getD k Good.z).name),.int .i64 ((xs.getD k Good.z).cost),.int .i64 ((xs.getD k Good.z).pack),.int .i64 ((xs.getD k Good.z).low),.int .i64 ((xs.getD k Good.z).high)]]) (by simp only [List.map_toArray,List.map_cons,List.map_nil,evalS] <;> rfl) ((hf (xs.getD k Good.z) (getD_mem (by omega)) _ x7).mono fun _ _ aj=>?_));obtain ⟨rfl,aa⟩:=aj;refine Nl ?_;refine tr_ifb (t:=p (xs.getD k Good.z)) Z (fun ak=>?_) (fun ak=>?_)
  ·refine Sq (Rg ?_);refine Mv (.int .i64 (k:Int)) Z Z ?_;refine As (.int .i64 (k:Int)) Z Z ?_;refine Nl (Rt ?_);refine ⟨.inr Z,outs1 Z (v:=.int .i64 (k:Int)) Z ?_⟩;exact ⟨(by (rw [idxOf_hit (k:=k) (by omega) hs ‹_›];done)),(x7.trans aa)⟩
  ·refine Sk (Rg ?_);refine Ad (k:Int) 1 Z ad Z (by omega) ?_;refine Mv (.int .i64 ((k:Int)+1)) Z Z ?_;refine Nl ?_;exact ⟨_,by omega,k+1,Z,(by omega),(by exact any_next (d:=Good.z) (by omega) hs ‹_›),Z,(x7.trans aa),x8,x9,al,Z⟩
 ·refine Xt (Sq (Rg ?_));refine As (.int .i64 (-1)) Z Z ?_;refine Nl (Rt ?_);refine ⟨.inr Z,outs1 Z (v:=.int .i64 (-1)) Z ?_⟩;exact ⟨(by (rw [idxOf_miss (k:=k) (by omega) hs])),x7⟩
theorem containsGood_spec {W:Wk Tryd.prog} {h:GH} (xs:List Good) (xsv:Value) (fv:Value) (p:Good→Bool) (hxs:SlIs h xsv 5 eGood xs) (hf:∀x ∈ xs,∀h1,h.Le h1→ValK W fv #[.agg #[.string x.name,.int .i64 x.cost,.int .i64 x.pack,.int .i64 x.low,.int .i64 x.high]] h1 fun v h2=>v=.bool (p x)∧h1.Le h2):CallK W 137 #[xsv,fv] h (fun v h'=>v=(.bool (xs.any p):Value)∧h.Le h'):=by
 have aa:=hxs.len;refine call_of_tr Tryd.func137 Z (Nb Z) ?_;refine Sq (Rg ?_);refine As (.bool false) Z Z ?_;refine Nl (Sq (Rg ?_));refine Mv xsv Z Z ?_;refine Mv fv Z Z ?_;refine Pl Z (ok_call2 Tryd.func141 Fx.call141 Z Z ((indexGood_spec xs xsv fv p hxs (fun x hx h1 l1=>hf x hx h1 (GH.Le.trans Lr l1))).mono fun _ _ ac=>?_));obtain ⟨rfl,ab⟩:=ac;refine Pl Z (ok_geq (a:=idxOf p xs) (b:=0) Z Z ?_);refine As (.bool (decide (0≤(idxOf p xs)))) Z Z ?_;refine Nl (Rt ?_);refine ⟨.inr Z,outs1 Z (v:=.bool (decide (0≤(idxOf p xs)))) Z ?_⟩;exact ⟨(by rw [show decide (0≤idxOf p xs)=xs.any p from by rw [Bool.eq_iff_iff];simp [idxOf_any]]),ab⟩
theorem numbers1_spec {W:Wk Tryd.prog} {h:GH} (n:Int):CallK W 87 #[.int .i64 n] h (fun v h'=>v=(.bool (decide (¬(0≤n∧n≤99))):Value)∧h=h'):=by
 refine call_of_tr Tryd.func87 Z (Nb Z) ?_;refine Sq (Rg ?_);refine As (.bool false) Z Z ?_;refine Nl (Sq (Rg ?_));refine Mv (.int .i64 n) Z Z ?_;refine Pl Z (ok_call3 Tryd.func46 Fx.call46 Z Z Z ((inside_spec n 0 99 ).mono fun _ _ aa=>?_));obtain ⟨rfl,rfl⟩:=aa;refine Pl Z (ok_notp (p:=0≤n∧n≤99) Z ?_);refine As (.bool (decide (¬(0≤n∧n≤99)))) Z Z ?_;refine Nl (Rt ?_);refine ⟨.inr Z,outs1 Z (v:=.bool (decide (¬(0≤n∧n≤99)))) Z ?_⟩;exact ⟨Z,Z⟩
theorem numbers_spec {W:Wk Tryd.prog} {h:GH} (l:List Int) (lv:Value) (m:Int) (hl:SlIs h lv 1 eI l):CallK W 73 #[lv,.int .i64 m] h (fun v h'=>v=(.int .i64 (numsBell l m):Value)∧h.Le h'):=by
 have ab:=hl.len;refine call_of_tr Tryd.func73 Z (Nb Z) ?_;refine Sq (Rg ?_);refine As (.int .i64 0) Z Z ?_;refine Nl (Sq (Bk (Sq (Rg ?_))));refine Mv lv Z Z ?_;refine Pl Z (ok_lenSl Fx.sl30 hl Z ?_);refine Mv (.int .i64 m) Z Z ?_;refine Pl Z (ok_neq (a:=(l.length:Int)) (b:=m) Z Z ?_);refine As (.bool (decide (¬(l.length:Int)=m))) Z Z ?_;refine Nl ?_;refine tr_if (p:=¬(l.length:Int)=m) Z (fun ac=>?_) (fun ac=>?_)
 ·refine Sq (Rg ?_);refine As (.int .i64 2) Z Z ?_;refine Nl (Rt ?_);refine ⟨.inr Z,outs1 Z (v:=.int .i64 2) Z ?_⟩;exact ⟨(by simp_all [numsBell]),Lr⟩
 ·refine Sq (Rg ?_);refine Mv lv Z Z ?_;have ad:∀x ∈ l,∀h1,GH.Le h h1→ValK W (.func (.func 87) #[] #[]) #[.int .i64 x] h1 fun v h2=>v=.bool ((fun x=>decide (¬(0≤x∧x≤99))) x)∧h1.Le h2:=by
   intro x hx h1 _;exact valK_func Tryd.func87 Fx.call87 Z ((numbers1_spec x ).mono fun v h2 hp=>⟨hp.1,by rw [←hp.2];exact GH.Le.refl _⟩)
  refine Pl Z (ok_call2 Tryd.func51 Fx.call51 Z Z ((containsInt_spec l lv (.func (.func 87) #[] #[]) (fun x=>decide (¬(0≤x∧x≤99))) hl ad).mono fun _ _ ae=>?_));obtain ⟨rfl,aa⟩:=ae;refine As (.bool (l.any (fun x=>decide (¬(0≤x∧x≤99))))) Z Z ?_;refine Nl ?_;refine tr_ifb (t:=l.any (fun x=>decide (¬(0≤x∧x≤99)))) Z (fun af=>?_) (fun af=>?_)
  ·refine Sq (Rg ?_);refine As (.int .i64 1) Z Z ?_;refine Nl (Rt ?_);refine ⟨.inr Z,outs1 Z (v:=.int .i64 1) Z ?_⟩;exact ⟨(by simp_all [numsBell]),aa⟩
  ·refine Sk (Sq (Rg ?_));refine As (.int .i64 0) Z Z ?_;refine Nl (Rt ?_);refine ⟨.inr Z,outs1 Z (v:=.int .i64 0) Z ?_⟩;exact ⟨(by simp_all [numsBell]),aa⟩
end Go.Ns
namespace Go.Ns
open Go.Conc Go.Proofs
attribute [local irreducible] OpK TrL Tr CallK ValK RoundK
theorem moves_spec {W:Wk Tryd.prog} {h:GH} (d:Int) (m:Int) (gs:List Good) (gsv:Value) (ms:List Move) (msv:Value) (cs:List Count) (csv:Value) (hgs:SlIs h gsv 5 eGood gs) (hms:SlIs h msv 5 eMove ms) (hcs:SlIs h csv 4 eCount cs):CallK W 134 #[.agg #[.int .i64 d,.int .i64 m,gsv,msv,csv]] h (fun v h'=>v=(.int .i64 (movesBell d gs ms):Value)∧h.Le h'):=by
 have av:=hgs.len;have aw:=hms.len;have ax:=hcs.len;refine call_of_tr Tryd.func134 Z (Nb Z) ?_;refine Sq (Rg ?_);refine Pl Z (ok_box' (v:=.agg #[.int .i64 d,.int .i64 m,gsv,msv,csv]) (c:=#[.int .i64 d,.int .i64 m,gsv,msv,csv]) Z Z fun r4 h5 _ af ay _=>?_);refine As (.int .i64 0) Z Z ?_;refine Nl (Sq (Sq (Rg ?_)));refine Fa Fx.fld92_0 Z Z ?_;refine Fa Fx.fld26_3 Z Z ?_;refine Ld msv Z Z (Rd.one Fx.ty23 ay Z) ?_;have ak:=hms.le af;refine Pl Z (ok_lenSl Fx.sl23 ak Z ?_);refine Pl Z (ok_gtr (a:=(ms.length:Int)) (b:=6) Z Z ?_);refine Nl ?_;refine tr_if (p:=6<(ms.length:Int)) Z (fun az=>?_) (fun az=>?_)
 ·refine Sq (Rg ?_);refine As (.int .i64 2) Z Z ?_;refine Nl (Rt ?_);refine ⟨.inr Z,outs1 Z (v:=.int .i64 2) Z ?_⟩;exact ⟨(by (symm;congr 1;rw [movesBell,if_pos ‹_›];done)),af⟩
 ·refine Sk (Sq (Rg ?_));refine As (.int .i64 0) Z Z ?_;refine Nl (Sq (Sq (Rg ?_)));refine Fa Fx.fld92_0 Z Z ?_;refine Fa Fx.fld26_3 Z Z ?_;refine Ld msv Z Z (Rd.one Fx.ty23 ay Z) ?_;refine Pl Z (ok_lenSl Fx.sl23 ak Z ?_);refine Mv (.int .i64 0) Z Z ?_;refine Nl (Bk ?_);refine tr_loop (fun nn σ' ds' h'=>∃(k:Nat),nn=ms.length-k∧(k≤ms.length)∧(∀j,j<k→moveAt d gs ms j=0)∧ds'=[]∧GH.Le h5 h'∧σ' 1=.pointer (some ⟨r4,0,none⟩)∧σ' 13=msv∧σ' 14=.int .i64 (ms.length:Int)∧σ' 3=.int .i64 (lastDay ms k)∧σ' 15=.int .i64 (k:Int)) ⟨0,Z,(by omega),(by (intro j hj;omega)),Z,Lr,Z,Z,Z,Z,Z⟩ (fun nn _ _ _ a0=>?_);obtain ⟨k,rfl,hk,hs,bi,al,a1,bg,bh,bj,a2⟩:=a0;subst bi;refine Sq (Rg ?_);refine Pl Z (ok_lss (a:=(k:Int)) (b:=(ms.length:Int)) a2 bh ?_);refine Nl (Sq ?_);refine tr_if (p:=(k:Int)<(ms.length:Int)) Z (fun a3=>?_) (fun a3=>?_)
  ·refine Sk (Sq (Bk (Sq (Rg ?_))));have a4:(0:Int)≤(k:Int):=by omega
   have a5:(k:Int)<((ms.length:Nat):Int):=by omega
   refine Pl Z (ok_indexS0 Fx.esz23 hms bg a2 a4 a5 fun bk am a6=>?_);have a7:Elem _ bk am 5 (eMove (ms.getD k Move.z)):=Elem.getD Move.z a6;have ad:=af.trans al;refine Ld (.agg #[.int .i64 ((ms.getD k Move.z).kind),.int .i64 ((ms.getD k Move.z).good),.int .i64 ((ms.getD k Move.z).day),.int .i64 ((ms.getD k Move.z).low),.int .i64 ((ms.getD k Move.z).high)]) Z Z (rd_agg0 Fx.ty41 (a7.le ad)) ?_;have an:=al.keep ay Z;refine Pl Z (ok_alloc' Fx.zero41 fun bl _ ag ac a8 _=>?_);have a9:r4≠bl:=Ne' an ag;refine Pl Z (ok_store' (v:=.agg #[.int .i64 ((ms.getD k Move.z).kind),.int .i64 ((ms.getD k Move.z).good),.int .i64 ((ms.getD k Move.z).day),.int .i64 ((ms.getD k Move.z).low),.int .i64 ((ms.getD k Move.z).high)]) (c':=#[.int .i64 ((ms.getD k Move.z).kind),.int .i64 ((ms.getD k Move.z).good),.int .i64 ((ms.getD k Move.z).day),.int .i64 ((ms.getD k Move.z).low),.int .i64 ((ms.getD k Move.z).high)]) Fx.ty41 Z Z a8 Z Z (by simp) Z fun _ aj ah=>?_);refine Nl (Sq (Bk (Sq (Rg ?_))));refine Fa Fx.fld41_0 Z Z ?_;refine Ld (.int .i64 ((ms.getD k Move.z).kind)) Z Z (Rd.one Fx.ty37 aj Z) ?_;refine Pl Z (ok_call3 Tryd.func46 Fx.call46 Z Z Z ((inside_spec ((ms.getD k Move.z).kind) 0 4 ).mono fun _ _ ba=>?_));obtain ⟨rfl,rfl⟩:=ba;refine Pl Z (ok_notp (p:=0≤((ms.getD k Move.z).kind)∧((ms.getD k Move.z).kind)≤4) Z ?_);refine As (.bool (decide (¬(0≤((ms.getD k Move.z).kind)∧((ms.getD k Move.z).kind)≤4)))) Z Z ?_;refine Nl ?_;refine tr_if (p:=¬(0≤((ms.getD k Move.z).kind)∧((ms.getD k Move.z).kind)≤4)) Z (fun ao=>?_) (fun ao=>?_)
   ·refine Sq (Rg ?_);refine As (.int .i64 1) Z Z ?_;refine Nl (Rt ?_);refine ⟨.inr Z,outs1 Z (v:=.int .i64 1) Z ?_⟩;exact ⟨(by (symm;congr 1;rw [movesBell,if_neg ‹_›];exact firstB_hit0 (k:=k) hs (by omega) (by unfold moveAt;(simp only [*,not_true_eq_false,not_false_eq_true,if_true,if_false,true_or,or_true,reduceCtorEq,Bool.false_eq_true];done)) (by decide))),((ad.trans ac).upd (Ln ad ag) ah)⟩
   ·have hc48_:=Dn ao;refine Sq (Rg ?_);have ap:=(ah _ a9).trans (ac.keep an Z);refine Ld (.agg #[.int .i64 d,.int .i64 m,gsv,msv,csv]) Z a1 (rd_agg0 Fx.ty92 (Bx ap Z)) ?_;refine Fa Fx.fld41_1 Z Z ?_;refine Ld (.int .i64 ((ms.getD k Move.z).good)) Z Z (Rd.one Fx.ty3 aj Z) ?_;have ab:=(ad.trans ac).upd (Ln ad ag) ah;refine Pl Z (ok_call2 Tryd.func44 Fx.call44 Z Z ((isGood_spec d m gs gsv ms msv cs csv ((ms.getD k Move.z).good) (hgs.le ab) (hms.le ab) (hcs.le ab) ).mono fun _ _ bb=>?_));obtain ⟨rfl,aa⟩:=bb;refine Pl Z (ok_notp (p:=0≤((ms.getD k Move.z).good)∧((ms.getD k Move.z).good)≤(gs.length:Int)-1) Z ?_);refine As (.bool (decide (¬(0≤((ms.getD k Move.z).good)∧((ms.getD k Move.z).good)≤(gs.length:Int)-1)))) Z Z ?_;refine Nl ?_;refine tr_if (p:=¬(0≤((ms.getD k Move.z).good)∧((ms.getD k Move.z).good)≤(gs.length:Int)-1)) Z (fun aq=>?_) (fun aq=>?_)
    ·refine Sq (Rg ?_);refine As (.int .i64 6) Z Z ?_;refine Nl (Rt ?_);refine ⟨.inr Z,outs1 Z (v:=.int .i64 6) Z ?_⟩;exact ⟨(by (symm;congr 1;rw [movesBell,if_neg ‹_›];exact firstB_hit0 (k:=k) hs (by omega) (by unfold moveAt;(clear hs;simp_all;done)) (by decide))),(ab.trans aa)⟩
    ·have hc59_:=Dn aq;refine Sq (Rg ?_);refine Fa Fx.fld41_2 Z Z ?_;have ai:=aa.keep aj Z;refine Ld (.int .i64 ((ms.getD k Move.z).day)) Z Z (Rd.one Fx.ty3 ai Z) ?_;refine Fa Fx.fld92_0 Z a1 ?_;refine Fa Fx.fld26_0 Z Z ?_;refine Ld (.int .i64 d) Z Z (Rd.one Fx.ty3 (aa.keep ap Z) Z) ?_;refine Pl Z (ok_call3 Tryd.func46 Fx.call46 Z Z Z ((inside_spec ((ms.getD k Move.z).day) 1 d ).mono fun _ _ bc=>?_));obtain ⟨rfl,rfl⟩:=bc;refine Pl Z (ok_notp (p:=1≤((ms.getD k Move.z).day)∧((ms.getD k Move.z).day)≤d) Z ?_);refine As (.bool (decide (¬(1≤((ms.getD k Move.z).day)∧((ms.getD k Move.z).day)≤d)))) Z Z ?_;refine Nl ?_;refine tr_if (p:=¬(1≤((ms.getD k Move.z).day)∧((ms.getD k Move.z).day)≤d)) Z (fun ar=>?_) (fun ar=>?_)
     ·refine Sq (Rg ?_);refine As (.int .i64 1) Z Z ?_;refine Nl (Rt ?_);refine ⟨.inr Z,outs1 Z (v:=.int .i64 1) Z ?_⟩;exact ⟨(by (symm;congr 1;rw [movesBell,if_neg ‹_›];exact firstB_hit0 (k:=k) hs (by omega) (by unfold moveAt;(clear hs;simp_all;done)) (by decide))),(ab.trans aa)⟩
     ·have hc67_:=Dn ar;refine Sq (Rg ?_);refine Fa Fx.fld41_2 Z Z ?_;refine Ld (.int .i64 ((ms.getD k Move.z).day)) Z Z (Rd.one Fx.ty3 ai Z) ?_;refine Mv (.int .i64 (lastDay ms k)) Z bj ?_;refine Pl Z (ok_lss (a:=(ms.getD k Move.z).day) (b:=lastDay ms k) Z Z ?_);refine As (.bool (decide (((ms.getD k Move.z).day)<(lastDay ms k)))) Z Z ?_;refine Nl ?_;refine tr_if (p:=((ms.getD k Move.z).day)<(lastDay ms k)) Z (fun bd=>?_) (fun bd=>?_)
      ·refine Sq (Rg ?_);refine As (.int .i64 7) Z Z ?_;refine Nl (Rt ?_);refine ⟨.inr Z,outs1 Z (v:=.int .i64 7) Z ?_⟩;exact ⟨(by (symm;congr 1;rw [movesBell,if_neg ‹_›];exact firstB_hit0 (k:=k) hs (by omega) (by unfold moveAt;(clear hs;simp_all;done)) (by decide))),(ab.trans aa)⟩
      ·refine Sq (Rg ?_);refine Fa Fx.fld41_3 Z Z ?_;refine Ld (.agg #[.int .i64 ((ms.getD k Move.z).low),.int .i64 ((ms.getD k Move.z).high)]) Z Z (rd_agg (o:=3) (ws:=#[.int .i64 ((ms.getD k Move.z).low),.int .i64 ((ms.getD k Move.z).high)]) Fx.ty39 (Bx ai Z) (Nb Z) Z) ?_;refine Pl Z (ok_call1 Tryd.func139 Fx.call139 Z ((few_spec ((ms.getD k Move.z).low) ((ms.getD k Move.z).high) ).mono fun _ _ be=>?_));obtain ⟨rfl,ae⟩:=be;refine Pl Z (ok_notp (p:=isFew ((ms.getD k Move.z).low) ((ms.getD k Move.z).high)) Z ?_);refine As (.bool (decide (¬(isFew ((ms.getD k Move.z).low) ((ms.getD k Move.z).high))))) Z Z ?_;refine Nl ?_;refine tr_if (p:=¬(isFew ((ms.getD k Move.z).low) ((ms.getD k Move.z).high))) Z (fun au=>?_) (fun au=>?_)
       ·refine Sq (Rg ?_);refine As (.int .i64 1) Z Z ?_;refine Nl (Rt ?_);refine ⟨.inr Z,outs1 Z (v:=.int .i64 1) Z ?_⟩;exact ⟨(by (symm;congr 1;rw [movesBell,if_neg ‹_›];exact firstB_hit0 (k:=k) hs (by omega) (by unfold moveAt;(clear hs;simp_all;done)) (by decide))),((ab.trans aa).trans ae)⟩
       ·have hc75_:=Dn au;refine Sk (Rg ?_);refine Fa Fx.fld41_2 Z Z ?_;refine Ld (.int .i64 ((ms.getD k Move.z).day)) Z Z (Rd.one Fx.ty3 (ae.keep ai Z) Z) ?_;refine As (.int .i64 ((ms.getD k Move.z).day)) Z Z ?_;refine Nl (Rg ?_);refine Ad (k:Int) 1 Z a2 Z (by omega) ?_;refine Mv (.int .i64 ((k:Int)+1)) Z Z ?_;refine Nl ?_;have bf:=(((al.trans ac).upd (Ln al ag) ah).trans aa).trans ae;exact ⟨_,by omega,k+1,Z,(by omega),(by exact allB_next hs (by unfold moveAt;(clear hs;simp_all;done))),Z,bf,a1,bg,bh,(Et (b:=(.int .i64 ((ms.getD k Move.z).day):Value)) Z (by simp [lastDay])),Z⟩
  ·refine Xt (Sq (Rg ?_));refine As (.int .i64 0) Z Z ?_;refine Nl (Rt ?_);refine ⟨.inr Z,outs1 Z (v:=.int .i64 0) Z ?_⟩;exact ⟨(by (symm;congr 1;rw [movesBell,if_neg ‹_›];exact firstB_miss0 (k:=k) hs (by omega))),(af.trans al)⟩
theorem counts_spec {W:Wk Tryd.prog} {h:GH} (d:Int) (m:Int) (gs:List Good) (gsv:Value) (ms:List Move) (msv:Value) (cs:List Count) (csv:Value) (hgs:SlIs h gsv 5 eGood gs) (hms:SlIs h msv 5 eMove ms) (hcs:SlIs h csv 4 eCount cs):CallK W 135 #[.agg #[.int .i64 d,.int .i64 m,gsv,msv,csv]] h (fun v h'=>v=(.int .i64 (countsBell d gs cs):Value)∧h.Le h'):=by
 have aw:=hgs.len;have ax:=hms.len;have ay:=hcs.len;refine call_of_tr Tryd.func135 Z (Nb Z) ?_;refine Sq (Rg ?_);refine Pl Z (ok_box' (v:=.agg #[.int .i64 d,.int .i64 m,gsv,msv,csv]) (c:=#[.int .i64 d,.int .i64 m,gsv,msv,csv]) Z Z fun r4 h5 _ ae az _=>?_);refine As (.int .i64 0) Z Z ?_;refine Nl (Sq (Sq (Rg ?_)));refine Fa Fx.fld92_0 Z Z ?_;refine Fa Fx.fld26_4 Z Z ?_;refine Ld csv Z Z (Rd.one Fx.ty24 az Z) ?_;have aj:=hcs.le ae;refine Pl Z (ok_lenSl Fx.sl24 aj Z ?_);refine Pl Z (ok_gtr (a:=(cs.length:Int)) (b:=4) Z Z ?_);refine Nl ?_;refine tr_if (p:=4<(cs.length:Int)) Z (fun a0=>?_) (fun a0=>?_)
 ·refine Sq (Rg ?_);refine As (.int .i64 2) Z Z ?_;refine Nl (Rt ?_);refine ⟨.inr Z,outs1 Z (v:=.int .i64 2) Z ?_⟩;exact ⟨(by (symm;congr 1;rw [countsBell,if_pos ‹_›];done)),ae⟩
 ·refine Sk (Sq (Sq (Rg ?_)));refine Fa Fx.fld92_0 Z Z ?_;refine Fa Fx.fld26_4 Z Z ?_;refine Ld csv Z Z (Rd.one Fx.ty24 az Z) ?_;refine Pl Z (ok_lenSl Fx.sl24 aj Z ?_);refine Mv (.int .i64 0) Z Z ?_;refine Nl (Bk ?_);refine tr_loop (fun nn σ' ds' h'=>∃(k:Nat),nn=cs.length-k∧(k≤cs.length)∧(∀j,j<k→countAt d gs cs j=0)∧ds'=[]∧GH.Le h5 h'∧σ' 1=.pointer (some ⟨r4,0,none⟩)∧σ' 12=csv∧σ' 13=.int .i64 (cs.length:Int)∧σ' 14=.int .i64 (k:Int)) ⟨0,Z,(by omega),(by (intro j hj;omega)),Z,Lr,Z,Z,Z,Z⟩ (fun nn _ _ _ a1=>?_);obtain ⟨k,rfl,hk,hs,bm,ak,au,a2,a3,av⟩:=a1;subst bm;refine Sq (Rg ?_);refine Pl Z (ok_lss (a:=(k:Int)) (b:=(cs.length:Int)) av a3 ?_);refine Nl (Sq ?_);refine tr_if (p:=(k:Int)<(cs.length:Int)) Z (fun a4=>?_) (fun a4=>?_)
  ·refine Sk (Sq (Bk (Sq (Rg ?_))));have a5:(0:Int)≤(k:Int):=by omega
   have a6:(k:Int)<((cs.length:Nat):Int):=by omega
   refine Pl Z (ok_indexS0 Fx.esz24 hcs a2 av a5 a6 fun bn al a7=>?_);have a8:Elem _ bn al 4 (eCount (cs.getD k Count.z)):=Elem.getD Count.z a7;have ag:=ae.trans ak;refine Ld (.agg #[.int .i64 ((cs.getD k Count.z).good),.int .i64 ((cs.getD k Count.z).day),.int .i64 ((cs.getD k Count.z).low),.int .i64 ((cs.getD k Count.z).high)]) Z Z (rd_agg0 Fx.ty71 (a8.le ag)) ?_;have am:=ak.keep az Z;refine Pl Z (ok_alloc' Fx.zero71 fun bo _ ah ac a9 _=>?_);have ba:r4≠bo:=Ne' am ah;refine Pl Z (ok_store' (v:=.agg #[.int .i64 ((cs.getD k Count.z).good),.int .i64 ((cs.getD k Count.z).day),.int .i64 ((cs.getD k Count.z).low),.int .i64 ((cs.getD k Count.z).high)]) (c':=#[.int .i64 ((cs.getD k Count.z).good),.int .i64 ((cs.getD k Count.z).day),.int .i64 ((cs.getD k Count.z).low),.int .i64 ((cs.getD k Count.z).high)]) Fx.ty71 Z Z a9 Z Z (by simp) Z fun _ an ai=>?_);refine Nl (Bk (Sq (Rg ?_)));have ao:=(ai _ ba).trans (ac.keep am Z);refine Ld (.agg #[.int .i64 d,.int .i64 m,gsv,msv,csv]) Z au (rd_agg0 Fx.ty92 (Bx ao Z)) ?_;refine Fa Fx.fld71_0 Z Z ?_;refine Ld (.int .i64 ((cs.getD k Count.z).good)) Z Z (Rd.one Fx.ty3 an Z) ?_;have ad:=(ag.trans ac).upd (Ln ag ah) ai;refine Pl Z (ok_call2 Tryd.func44 Fx.call44 Z Z ((isGood_spec d m gs gsv ms msv cs csv ((cs.getD k Count.z).good) (hgs.le ad) (hms.le ad) (hcs.le ad) ).mono fun _ bp bb=>?_));obtain ⟨rfl,ab⟩:=bb;refine Pl Z (ok_notp (p:=0≤((cs.getD k Count.z).good)∧((cs.getD k Count.z).good)≤(gs.length:Int)-1) Z ?_);refine As (.bool (decide (¬(0≤((cs.getD k Count.z).good)∧((cs.getD k Count.z).good)≤(gs.length:Int)-1)))) Z Z ?_;refine Nl ?_;refine tr_if (p:=¬(0≤((cs.getD k Count.z).good)∧((cs.getD k Count.z).good)≤(gs.length:Int)-1)) Z (fun ap=>?_) (fun ap=>?_)
   ·refine Sq (Rg ?_);refine As (.int .i64 6) Z Z ?_;refine Nl (Rt ?_);refine ⟨.inr Z,outs1 Z (v:=.int .i64 6) Z ?_⟩;exact ⟨(by (symm;congr 1;rw [countsBell,if_neg ‹_›];exact firstB_hit0 (k:=k) hs (by omega) (by unfold countAt;(simp only [*,not_true_eq_false,not_false_eq_true,if_true,if_false,true_or,or_true,reduceCtorEq,Bool.false_eq_true];done)) (by decide))),(ad.trans ab)⟩
   ·have hc52_:=Dn ap;refine tr_seq_mid (fun σ' ds' h'=>ds'=[]∧GH.Le bp h'∧σ' 1=.pointer (some ⟨r4,0,none⟩)∧σ' 12=csv∧σ' 13=.int .i64 (cs.length:Int)∧σ' 14=.int .i64 (k:Int)∧σ' 24=.bool (decide ((¬(0≤((cs.getD k Count.z).day)∧((cs.getD k Count.z).day)≤d))∨(¬((0≤((cs.getD k Count.z).low)∧((cs.getD k Count.z).low)≤((cs.getD k Count.z).high))∧((cs.getD k Count.z).high)≤999))))) ?_ ?_
    ·refine Rg ?_;refine Fa Fx.fld71_1 Z Z ?_;have aq:=ab.keep an Z;refine Ld (.int .i64 ((cs.getD k Count.z).day)) Z Z (Rd.one Fx.ty3 aq Z) ?_;refine Fa Fx.fld92_0 Z au ?_;refine Fa Fx.fld26_0 Z Z ?_;refine Ld (.int .i64 d) Z Z (Rd.one Fx.ty3 (ab.keep ao Z) Z) ?_;refine Pl Z (ok_call3 Tryd.func46 Fx.call46 Z Z Z ((inside_spec ((cs.getD k Count.z).day) 0 d ).mono fun _ _ bc=>?_));obtain ⟨rfl,rfl⟩:=bc;refine Pl Z (ok_notp (p:=0≤((cs.getD k Count.z).day)∧((cs.getD k Count.z).day)≤d) Z ?_);refine Mv (.bool (decide (¬(0≤((cs.getD k Count.z).day)∧((cs.getD k Count.z).day)≤d)))) Z Z ?_;refine trL_case (p:=¬(0≤((cs.getD k Count.z).day)∧((cs.getD k Count.z).day)≤d)) ?_ ?_
     ·intro aa;refine Gs 7 32 (bool_t Z aa) Z ?_;refine Gs 7 32 (bool_t Z aa) Z ?_;refine Gs 7 32 (bool_t Z aa) Z ?_;refine Gs 7 32 (bool_t Z aa) Z ?_;refine Pk true (.bool true) Z (bool_t Z aa) Z ?_;refine As (.bool true) Z Z ?_;refine Nl ?_;exact ⟨Z,Lr,au,a2,a3,av,Et (b:=(.bool true:Value)) Z (congrArg Value.bool (by grind:true=(decide ((¬(0≤((cs.getD k Count.z).day)∧((cs.getD k Count.z).day)≤d))∨(¬((0≤((cs.getD k Count.z).low)∧((cs.getD k Count.z).low)≤((cs.getD k Count.z).high))∧((cs.getD k Count.z).high)≤999))))))⟩
     ·intro aa;refine Gg 7 32 (bool_f Z aa) Z (ok_fieldAddr Fx.fld71_2 Z ?_);refine Gg 7 32 (bool_f Z aa) Z (ok_load (v:=.agg #[.int .i64 ((cs.getD k Count.z).low),.int .i64 ((cs.getD k Count.z).high)]) Z (rd_agg (o:=2) (ws:=#[.int .i64 ((cs.getD k Count.z).low),.int .i64 ((cs.getD k Count.z).high)]) Fx.ty39 (Bx aq Z) (Nb Z) Z) ?_);refine Gg 7 32 (bool_f Z aa) Z (ok_call3 Tryd.func140 Fx.call140 Z Z Z ((spans_spec ((cs.getD k Count.z).low) ((cs.getD k Count.z).high) 0 999 ).mono fun _ _ bd=>?_));obtain ⟨rfl,ar⟩:=bd;refine Gg 7 32 (bool_f Z aa) Z (ok_notp (p:=(0≤((cs.getD k Count.z).low)∧((cs.getD k Count.z).low)≤((cs.getD k Count.z).high))∧((cs.getD k Count.z).high)≤999) Z ?_);refine Pk false (.bool (decide (¬((0≤((cs.getD k Count.z).low)∧((cs.getD k Count.z).low)≤((cs.getD k Count.z).high))∧((cs.getD k Count.z).high)≤999)))) Z (bool_f Z aa) Z ?_;refine As (.bool (decide (¬((0≤((cs.getD k Count.z).low)∧((cs.getD k Count.z).low)≤((cs.getD k Count.z).high))∧((cs.getD k Count.z).high)≤999)))) Z Z ?_;refine Nl ?_;exact ⟨Z,ar,au,a2,a3,av,Et (b:=(.bool (decide (¬((0≤((cs.getD k Count.z).low)∧((cs.getD k Count.z).low)≤((cs.getD k Count.z).high))∧((cs.getD k Count.z).high)≤999))):Value)) Z (congrArg Value.bool (by grind:decide (¬((0≤((cs.getD k Count.z).low)∧((cs.getD k Count.z).low)≤((cs.getD k Count.z).high))∧((cs.getD k Count.z).high)≤999))=(decide ((¬(0≤((cs.getD k Count.z).day)∧((cs.getD k Count.z).day)≤d))∨(¬((0≤((cs.getD k Count.z).low)∧((cs.getD k Count.z).low)≤((cs.getD k Count.z).high))∧((cs.getD k Count.z).high)≤999))))))⟩
    ·rintro _ _ _ ⟨be,af,bf,bg,bh,bi,bj⟩;subst be;refine tr_if (p:=(¬(0≤((cs.getD k Count.z).day)∧((cs.getD k Count.z).day)≤d))∨(¬((0≤((cs.getD k Count.z).low)∧((cs.getD k Count.z).low)≤((cs.getD k Count.z).high))∧((cs.getD k Count.z).high)≤999))) bj (fun bk=>?_) (fun bk=>?_)
     ·refine Sq (Rg ?_);refine As (.int .i64 1) Z Z ?_;refine Nl (Rt ?_);refine ⟨.inr Z,outs1 Z (v:=.int .i64 1) Z ?_⟩;exact ⟨(by (symm;congr 1;rw [countsBell,if_neg ‹_›];exact firstB_hit0 (k:=k) hs (by omega) (by unfold countAt;(clear hs;simp_all;done)) (by decide))),((ad.trans ab).trans af)⟩
     ·refine Sk (Rg ?_);refine Ad (k:Int) 1 Z bi Z (by omega) ?_;refine Mv (.int .i64 ((k:Int)+1)) Z Z ?_;refine Nl ?_;have bl:=(((ak.trans ac).upd (Ln ak ah) ai).trans ab).trans af;exact ⟨_,by omega,k+1,Z,(by omega),(by exact allB_next hs (by unfold countAt;(clear hs;simp_all;done))),Z,bl,bf,bg,bh,Z⟩
  ·refine Xt (Sq (Rg ?_));refine As (.int .i64 0) Z Z ?_;refine Nl (Rt ?_);refine ⟨.inr Z,outs1 Z (v:=.int .i64 0) Z ?_⟩;exact ⟨(by (symm;congr 1;rw [countsBell,if_neg ‹_›];exact firstB_miss0 (k:=k) hs (by omega))),(ae.trans ak)⟩
theorem isName_spec {W:Wk Tryd.prog} {h:GH} (s:ByteArray) (hsz:s.size≤1000):CallK W 136 #[.string s] h (fun v h'=>v=(.bool (nameOK s):Value)∧h.Le h'):=by
 have hbl:=bytesOf_length s;refine call_of_tr Tryd.func136 Z (Nb Z) ?_;refine Sq (Rg ?_);refine As (.bool false) Z Z ?_;refine Nl (Sq (Sq (Rg ?_)));refine Mv (.string s) Z Z ?_;refine Pl Z (ok_convS Fx.s2b9_50 Z (by omega) fun a1 h2 ad a2=>?_);refine Pl Z (ok_lenSl Fx.sl50 a2 Z ?_);refine Mv (.int .i64 0) Z Z ?_;refine Nl (Bk ?_);refine tr_loop (fun nn σ' ds' h'=>∃(k:Nat),nn=(bytesOf s).length-k∧(k≤(bytesOf s).length)∧(∀j,j<k→nameAt s j=0)∧ds'=[]∧GH.Le h2 h'∧σ' 0=.string s∧σ' 6=a1∧σ' 7=.int .i64 ((bytesOf s).length:Int)∧σ' 8=.int .i64 (k:Int)) ⟨0,Z,(by omega),(by (intro j hj;omega)),Z,Lr,Z,Z,Z,Z⟩ (fun nn _ _ h7 a3=>?_);obtain ⟨k,rfl,hk,hs,x9,ag,ah,ai,aj,ac⟩:=a3;subst x9;have hby:=bytesOf_range s k;refine Sq (Rg ?_);refine Pl Z (ok_lss (a:=(k:Int)) (b:=((bytesOf s).length:Int)) ac aj ?_);refine Nl (Sq ?_);refine tr_if (p:=(k:Int)<((bytesOf s).length:Int)) Z (fun ak=>?_) (fun ak=>?_)
 ·refine Sk (Sq (Bk (Sq (Rg ?_))));refine Mv (.int .i64 (k:Int)) Z ac ?_;have al:(0:Int)≤(k:Int):=by omega
  have am:(k:Int)<(((bytesOf s).length:Nat):Int):=by omega
  refine Pl Z (ok_indexS0 Fx.esz50 a2 ai ac al am fun a4 ae an=>?_);have ao:Elem _ a4 ae 1 (eB ((bytesOf s).getD k 0)):=Elem.getD 0 an;refine Ld (.int .u8 ((bytesOf s).getD k 0)) Z Z (rd_one0 Fx.ty5 (ao.le ag) Z) ?_;refine As (.int .i64 (k:Int)) Z Z ?_;refine As (.int .u8 ((bytesOf s).getD k 0)) Z Z ?_;refine Nl ?_;refine tr_seq_mid (fun σ' ds' h'=>ds'=[]∧h7=h'∧σ' 0=.string s∧σ' 6=a1∧σ' 7=.int .i64 ((bytesOf s).length:Int)∧σ' 8=.int .i64 (k:Int)∧σ' 26=.bool (decide ((¬(97≤((bytesOf s).getD k 0)∧((bytesOf s).getD k 0)≤122))∧(((k:Int)=0)∨(¬(48≤((bytesOf s).getD k 0)∧((bytesOf s).getD k 0)≤57)))))) ?_ ?_
  ·refine Rg ?_;refine Mv (.int .u8 ((bytesOf s).getD k 0)) Z Z ?_;refine Pl Z (ok_convInt (r:=(bytesOf s).getD k 0) Fx.und5 Fx.kind3 Z (by rw [IntWalk.i64_in _ (by omega)]) ?_);refine Pl Z (ok_call3 Tryd.func46 Fx.call46 Z Z Z ((inside_spec ((bytesOf s).getD k 0) 97 122 ).mono fun _ _ ap=>?_));obtain ⟨rfl,rfl⟩:=ap;refine Pl Z (ok_notp (p:=97≤((bytesOf s).getD k 0)∧((bytesOf s).getD k 0)≤122) Z ?_);refine Mv (.bool (decide (¬(97≤((bytesOf s).getD k 0)∧((bytesOf s).getD k 0)≤122)))) Z Z ?_;refine trL_case (p:=¬(97≤((bytesOf s).getD k 0)∧((bytesOf s).getD k 0)≤122)) ?_ ?_
   ·intro aa;refine Gg 4 17 (bool_t Z aa) Z (ok_move (v:=.int .i64 (k:Int)) Z ?_);refine Gg 4 17 (bool_t Z aa) Z (ok_eql (a:=(k:Int)) (b:=0) Z Z ?_);refine Gg 4 17 (bool_t Z aa) Z (ok_move (v:=.bool (decide ((k:Int)=0))) Z ?_);refine trL_case (p:=(k:Int)=0) ?_ ?_
    ·intro ab;refine Gs 7 20 (bool_t Z ab) Z ?_;refine Gs 7 20 (bool_t Z ab) Z ?_;refine Gs 7 20 (bool_t Z ab) Z ?_;refine Gs 7 20 (bool_t Z ab) Z ?_;refine Gg 4 17 (bool_t Z aa) Z (ok_pick (t:=true) (v:=.bool true) (bool_t Z ab) Z ?_);refine Pk true (.bool true) Z (bool_t Z aa) Z ?_;refine Nl ?_;exact ⟨Z,Z,ah,ai,aj,ac,Et (b:=(.bool true:Value)) Z (congrArg Value.bool (by grind:true=(decide ((¬(97≤((bytesOf s).getD k 0)∧((bytesOf s).getD k 0)≤122))∧(((k:Int)=0)∨(¬(48≤((bytesOf s).getD k 0)∧((bytesOf s).getD k 0)≤57)))))))⟩
    ·intro ab;refine Gg 7 20 (bool_f Z ab) Z (ok_move (v:=.int .u8 ((bytesOf s).getD k 0)) Z ?_);refine Gg 7 20 (bool_f Z ab) Z (ok_convInt (r:=(bytesOf s).getD k 0) Fx.und5 Fx.kind3 Z (by rw [IntWalk.i64_in _ (by omega)]) ?_);refine Gg 7 20 (bool_f Z ab) Z (ok_call3 Tryd.func46 Fx.call46 Z Z Z ((inside_spec ((bytesOf s).getD k 0) 48 57 ).mono fun _ _ aq=>?_));obtain ⟨rfl,rfl⟩:=aq;refine Gg 7 20 (bool_f Z ab) Z (ok_notp (p:=48≤((bytesOf s).getD k 0)∧((bytesOf s).getD k 0)≤57) Z ?_);refine Gg 4 17 (bool_t Z aa) Z (ok_pick (t:=false) (v:=.bool (decide (¬(48≤((bytesOf s).getD k 0)∧((bytesOf s).getD k 0)≤57)))) (bool_f Z ab) Z ?_);refine Pk true (.bool (decide (¬(48≤((bytesOf s).getD k 0)∧((bytesOf s).getD k 0)≤57)))) Z (bool_t Z aa) Z ?_;refine Nl ?_;exact ⟨Z,Z,ah,ai,aj,ac,Et (b:=(.bool (decide (¬(48≤((bytesOf s).getD k 0)∧((bytesOf s).getD k 0)≤57))):Value)) Z (congrArg Value.bool (by grind:decide (¬(48≤((bytesOf s).getD k 0)∧((bytesOf s).getD k 0)≤57))=(decide ((¬(97≤((bytesOf s).getD k 0)∧((bytesOf s).getD k 0)≤122))∧(((k:Int)=0)∨(¬(48≤((bytesOf s).getD k 0)∧((bytesOf s).getD k 0)≤57)))))))⟩
   ·intro aa;refine Gs 4 17 (bool_f Z aa) Z ?_;refine Gs 4 17 (bool_f Z aa) Z ?_;refine Gs 4 17 (bool_f Z aa) Z ?_;refine trL_skip_undef (j:=7) (d:=20) Z Z Z Z Z Z ?_;refine trL_skip_undef (j:=7) (d:=20) Z Z Z Z Z Z ?_;refine trL_skip_undef (j:=7) (d:=20) Z Z Z Z Z Z ?_;refine trL_skip_undef (j:=7) (d:=20) Z Z Z Z Z Z ?_;refine Gs 4 17 (bool_f Z aa) Z ?_;refine Pk false (.bool false) Z (bool_f Z aa) Z ?_;refine Nl ?_;exact ⟨Z,Z,ah,ai,aj,ac,Et (b:=(.bool false:Value)) Z (congrArg Value.bool (by grind:false=(decide ((¬(97≤((bytesOf s).getD k 0)∧((bytesOf s).getD k 0)≤122))∧(((k:Int)=0)∨(¬(48≤((bytesOf s).getD k 0)∧((bytesOf s).getD k 0)≤57)))))))⟩
  ·rintro _ _ _ ⟨ar,af,au,av,aw,ax,ay⟩;subst ar;subst af;refine tr_if (p:=(¬(97≤((bytesOf s).getD k 0)∧((bytesOf s).getD k 0)≤122))∧(((k:Int)=0)∨(¬(48≤((bytesOf s).getD k 0)∧((bytesOf s).getD k 0)≤57)))) ay (fun az=>?_) (fun az=>?_)
   ·refine Sq (Rg ?_);refine As (.bool false) Z Z ?_;refine Nl (Rt ?_);refine ⟨.inr Z,outs1 Z (v:=.bool false) Z ?_⟩;exact ⟨(by (symm;congr 1;exact nameOK_bad hs (by omega) (by unfold nameAt;simp only [isLetter,isDigit, *,not_true_eq_false,not_false_eq_true,if_true,if_false,or_self,or_true,true_or,and_self,and_true,true_and];simp_all;done))),(ad.trans ag)⟩
   ·refine Sk (Rg ?_);refine Ad (k:Int) 1 Z ax Z (by omega) ?_;refine Mv (.int .i64 ((k:Int)+1)) Z Z ?_;refine Nl ?_;exact ⟨_,by omega,k+1,Z,(by omega),(by exact allB_next hs (by unfold nameAt;simp only [isLetter,isDigit];simp_all;done)),Z,ag,au,av,aw,Z⟩
 ·refine Xt (Sq (Rg ?_));refine Mv (.string s) Z ah ?_;refine Pl Z (ok_lenS Fx.str9 Z ?_);refine Pl Z (ok_call3 Tryd.func46 Fx.call46 Z Z Z ((inside_spec (s.size:Int) 1 10 ).mono fun _ _ a0=>?_));obtain ⟨rfl,rfl⟩:=a0;refine As (.bool (decide (1≤(s.size:Int)∧(s.size:Int)≤10))) Z Z ?_;refine Nl (Rt ?_);refine ⟨.inr Z,outs1 Z (v:=.bool (decide (1≤(s.size:Int)∧(s.size:Int)≤10))) Z ?_⟩;exact ⟨(by (symm;congr 1;exact nameOK_end hs (by omega))),(ad.trans ag)⟩
theorem goods1_spec {W:Wk Tryd.prog} {h:GH} (o:Good) (x:Good) (rx:Nat) (hrx:Elem h rx 0 5 #[.string x.name,.int .i64 x.cost,.int .i64 x.pack,.int .i64 x.low,.int .i64 x.high]):CallK W 138 #[.agg #[.string o.name,.int .i64 o.cost,.int .i64 o.pack,.int .i64 o.low,.int .i64 o.high],.pointer (some ⟨rx,0,none⟩)] h (fun v h'=>v=(.bool ((o.name).toList==(x.name).toList):Value)∧h.Le h'):=by
 refine call_of_tr Tryd.func138 Z (Nb Z) ?_;refine Sq (Rg ?_);refine Pl Z (ok_box' (v:=.agg #[.string o.name,.int .i64 o.cost,.int .i64 o.pack,.int .i64 o.low,.int .i64 o.high]) (c:=#[.string o.name,.int .i64 o.cost,.int .i64 o.pack,.int .i64 o.low,.int .i64 o.high]) Z Z fun _ _ _ aa ab _=>?_);refine As (.bool false) Z Z ?_;refine Nl (Sq (Rg ?_));refine Fa Fx.fld57_0 Z Z ?_;refine Ld (.string o.name) Z Z (Rd.one Fx.ty9 ab Z) ?_;refine Fa Fx.fld57_0 Z Z ?_;refine Ld (.string x.name) Z Z (rd_one (o:=0) Fx.ty9 (hrx.le aa) Z) ?_;refine Pl Z (ok_eqlS (a:=o.name) (b:=x.name) Z Z ?_);refine As (.bool ((o.name).toList==(x.name).toList)) Z Z ?_;refine Nl (Rt ?_);refine ⟨.inr Z,outs1 Z (v:=.bool ((o.name).toList==(x.name).toList)) Z ?_⟩;exact ⟨Z,aa⟩
theorem goods_spec {W:Wk Tryd.prog} {h:GH} (d:Int) (m:Int) (gs:List Good) (gsv:Value) (ms:List Move) (msv:Value) (cs:List Count) (csv:Value) (hgs:SlIs h gsv 5 eGood gs) (hms:SlIs h msv 5 eMove ms) (hcs:SlIs h csv 4 eCount cs) (hnm:∀k,(gs.getD k Good.z).name.size≤1000):CallK W 133 #[.agg #[.int .i64 d,.int .i64 m,gsv,msv,csv]] h (fun v h'=>v=(.int .i64 (goodsBell gs):Value)∧h.Le h'):=by
 have a2:=hgs.len;have a3:=hms.len;have a4:=hcs.len;refine call_of_tr Tryd.func133 Z (Nb Z) ?_;refine Sq (Rg ?_);refine Pl Z (ok_box' (v:=.agg #[.int .i64 d,.int .i64 m,gsv,msv,csv]) (c:=#[.int .i64 d,.int .i64 m,gsv,msv,csv]) Z Z fun r4 h5 _ ag a5 _=>?_);refine As (.int .i64 0) Z Z ?_;refine Nl (Sq (Sq (Rg ?_)));refine Fa Fx.fld92_0 Z Z ?_;refine Fa Fx.fld26_2 Z Z ?_;refine Ld gsv Z Z (Rd.one Fx.ty22 a5 Z) ?_;have ap:=hgs.le ag;refine Pl Z (ok_lenSl Fx.sl22 ap Z ?_);refine Pl Z (ok_call3 Tryd.func46 Fx.call46 Z Z Z ((inside_spec (gs.length:Int) 1 3 ).mono fun _ _ a6=>?_));obtain ⟨rfl,rfl⟩:=a6;refine Pl Z (ok_notp (p:=1≤(gs.length:Int)∧(gs.length:Int)≤3) Z ?_);refine Nl ?_;refine tr_if (p:=¬(1≤(gs.length:Int)∧(gs.length:Int)≤3)) Z (fun aq=>?_) (fun aq=>?_)
 ·refine Sq (Rg ?_);refine As (.int .i64 2) Z Z ?_;refine Nl (Rt ?_);refine ⟨.inr Z,outs1 Z (v:=.int .i64 2) Z ?_⟩;exact ⟨(by (symm;congr 1;rw [goodsBell,if_pos ‹_›];done)),ag⟩
 ·have hc16_:=Dn aq;refine Sk (Sq (Sq (Rg ?_)));refine Fa Fx.fld92_0 Z Z ?_;refine Fa Fx.fld26_2 Z Z ?_;refine Ld gsv Z Z (Rd.one Fx.ty22 a5 Z) ?_;refine Pl Z (ok_lenSl Fx.sl22 ap Z ?_);refine Mv (.int .i64 0) Z Z ?_;refine Nl (Bk ?_);refine tr_loop (fun nn σ' ds' h'=>∃(k:Nat),nn=gs.length-k∧(k≤gs.length)∧(∀j,j<k→goodAt gs j=0)∧ds'=[]∧GH.Le h5 h'∧σ' 1=.pointer (some ⟨r4,0,none⟩)∧σ' 13=gsv∧σ' 14=.int .i64 (gs.length:Int)∧σ' 15=.int .i64 (k:Int)) ⟨0,Z,(by omega),(by (intro j hj;omega)),Z,Lr,Z,Z,Z,Z⟩ (fun nn _ _ _ a7=>?_);obtain ⟨k,rfl,hk,hs,bx,ar,ay,az,a0,ao⟩:=a7;subst bx;have hnk:=hnm k;refine Sq (Rg ?_);refine Pl Z (ok_lss (a:=(k:Int)) (b:=(gs.length:Int)) ao a0 ?_);refine Nl (Sq ?_);refine tr_if (p:=(k:Int)<(gs.length:Int)) Z (fun a8=>?_) (fun a8=>?_)
  ·refine Sk (Sq (Bk (Sq (Rg ?_))));refine Mv (.int .i64 (k:Int)) Z ao ?_;have a9:(0:Int)≤(k:Int):=by omega
   have ba:(k:Int)<((gs.length:Nat):Int):=by omega
   refine Pl Z (ok_indexS0 Fx.esz22 hgs az ao a9 ba fun bz au bb=>?_);have bc:Elem _ bz au 5 (eGood (gs.getD k Good.z)):=Elem.getD Good.z bb;have af:=ag.trans ar;refine Ld (.agg #[.string ((gs.getD k Good.z).name),.int .i64 ((gs.getD k Good.z).cost),.int .i64 ((gs.getD k Good.z).pack),.int .i64 ((gs.getD k Good.z).low),.int .i64 ((gs.getD k Good.z).high)]) Z Z (rd_agg0 Fx.ty57 (bc.le af)) ?_;have av:=ar.keep a5 Z;refine Pl Z (ok_alloc' Fx.zero57 fun a1 _ ah ad bd _=>?_);have be:r4≠a1:=Ne' av ah;refine As (.int .i64 (k:Int)) Z Z ?_;refine Pl Z (ok_store' (v:=.agg #[.string ((gs.getD k Good.z).name),.int .i64 ((gs.getD k Good.z).cost),.int .i64 ((gs.getD k Good.z).pack),.int .i64 ((gs.getD k Good.z).low),.int .i64 ((gs.getD k Good.z).high)]) (c':=#[.string ((gs.getD k Good.z).name),.int .i64 ((gs.getD k Good.z).cost),.int .i64 ((gs.getD k Good.z).pack),.int .i64 ((gs.getD k Good.z).low),.int .i64 ((gs.getD k Good.z).high)]) Fx.ty57 Z Z bd Z Z (by simp) Z fun _ ak ai=>?_);refine Nl (Bk (Sq (Rg ?_)));refine Fa Fx.fld57_0 Z Z ?_;refine Ld (.string ((gs.getD k Good.z).name)) Z Z (Rd.one Fx.ty9 ak Z) ?_;refine Pl Z (ok_call1 Tryd.func136 Fx.call136 Z ((isName_spec ((gs.getD k Good.z).name) (by omega)).mono fun _ bw bf=>?_));obtain ⟨rfl,ac⟩:=bf;refine Pl Z (ok_not (b:=nameOK ((gs.getD k Good.z).name)) Z ?_);refine As (.bool (!(nameOK ((gs.getD k Good.z).name)))) Z Z ?_;refine Nl ?_;refine tr_ifb (t:= !(nameOK ((gs.getD k Good.z).name))) Z (fun al=>?_) (fun al=>?_)
   ·have hc51_:(nameOK ((gs.getD k Good.z).name))=false:=by simpa using al
    refine Sq (Rg ?_);refine As (.int .i64 4) Z Z ?_;refine Nl (Rt ?_);refine ⟨.inr Z,outs1 Z (v:=.int .i64 4) Z ?_⟩;exact ⟨(by (symm;congr 1;rw [goodsBell,if_neg ‹_›];exact firstB_hit0 (k:=k) hs (by omega) (by unfold goodAt;(simp only [*,not_true_eq_false,not_false_eq_true,if_true,if_false,true_or,or_true,reduceCtorEq,Bool.false_eq_true];done)) (by decide))),(((af.trans ad).upd (Ln af ah) ai).trans ac)⟩
   ·have hc51_:(nameOK ((gs.getD k Good.z).name))=true:=by simpa using al
    refine Sq (Rg ?_);refine Fa Fx.fld92_0 Z ay ?_;refine Fa Fx.fld26_2 Z Z ?_;refine Ld gsv Z Z (Rd.one Fx.ty22 (ac.keep ((ai _ be).trans (ad.keep av Z)) Z) Z) ?_;refine Mv (.int .i64 (k:Int)) Z Z ?_;have am:=((af.trans ad).upd (Ln af ah) ai).trans ac;refine Pl Z (ok_slice (0) k Fx.esz22 (hgs.le am) Z Z (⟨_,Z⟩) (by omega) (by omega) fun aw bg=>?_);have bh:SlIs bw aw 5 eGood (gs.take k):=by simpa using bg
    refine Pl Z (ok_makeFunc1 Z ?_);have bi:∀x ∈ (gs.take k),∀h1,GH.Le bw h1→ValK W (.func (.func 138) #[] #[.pointer (some ⟨a1,0,none⟩)]) #[.agg #[.string x.name,.int .i64 x.cost,.int .i64 x.pack,.int .i64 x.low,.int .i64 x.high]] h1 fun v h2=>v=.bool ((fun x=>(x.name).toList==((gs.getD k Good.z).name).toList) x)∧h1.Le h2:=by
     intro x hx h1 l1;exact valK_func Tryd.func138 Fx.call138 Z ((goods1_spec x (gs.getD k Good.z) a1 (Bx (l1.keep (ac.keep ak Z) Z) Z) ).mono fun v h2 hp=>⟨hp.1,hp.2⟩)
    refine Pl Z (ok_call2 Tryd.func137 Fx.call137 Z Z ((containsGood_spec (gs.take k) aw (.func (.func 138) #[] #[.pointer (some ⟨a1,0,none⟩)]) (fun x=>(x.name).toList==((gs.getD k Good.z).name).toList) bh bi).mono fun _ b0 bj=>?_));obtain ⟨rfl,ae⟩:=bj;refine As (.bool ((gs.take k).any (fun x=>(x.name).toList==((gs.getD k Good.z).name).toList))) Z Z ?_;refine Nl ?_;refine tr_ifb (t:=(gs.take k).any (fun x=>(x.name).toList==((gs.getD k Good.z).name).toList)) Z (fun bk=>?_) (fun bk=>?_)
    ·refine Sq (Rg ?_);refine As (.int .i64 5) Z Z ?_;refine Nl (Rt ?_);refine ⟨.inr Z,outs1 Z (v:=.int .i64 5) Z ?_⟩;exact ⟨(by (symm;congr 1;rw [goodsBell,if_neg ‹_›];exact firstB_hit0 (k:=k) hs (by omega) (by unfold goodAt;(simp only [*,not_true_eq_false,not_false_eq_true,if_true,if_false,true_or,or_true,reduceCtorEq,Bool.false_eq_true];done)) (by decide))),(am.trans ae)⟩
    ·refine tr_seq_mid (fun σ' ds' h'=>ds'=[]∧GH.Le b0 h'∧σ' 1=.pointer (some ⟨r4,0,none⟩)∧σ' 13=gsv∧σ' 14=.int .i64 (gs.length:Int)∧σ' 15=.int .i64 (k:Int)∧σ' 33=.bool (decide (((¬(0≤((gs.getD k Good.z).cost)∧((gs.getD k Good.z).cost)≤999))∨(¬(1≤((gs.getD k Good.z).pack)∧((gs.getD k Good.z).pack)≤20)))∨(¬(isFew ((gs.getD k Good.z).low) ((gs.getD k Good.z).high)))))) ?_ ?_
     ·refine Rg ?_;refine Fa Fx.fld57_1 Z Z ?_;have an:=ae.keep (ac.keep ak Z) Z;refine Ld (.int .i64 ((gs.getD k Good.z).cost)) Z Z (Rd.one Fx.ty3 an Z) ?_;refine Pl Z (ok_call3 Tryd.func46 Fx.call46 Z Z Z ((inside_spec ((gs.getD k Good.z).cost) 0 999 ).mono fun _ _ bl=>?_));obtain ⟨rfl,rfl⟩:=bl;refine Pl Z (ok_notp (p:=0≤((gs.getD k Good.z).cost)∧((gs.getD k Good.z).cost)≤999) Z ?_);refine Mv (.bool (decide (¬(0≤((gs.getD k Good.z).cost)∧((gs.getD k Good.z).cost)≤999)))) Z Z ?_;refine trL_case (p:=¬(0≤((gs.getD k Good.z).cost)∧((gs.getD k Good.z).cost)≤999)) ?_ ?_
      ·intro aa;refine Gs 4 38 (bool_t Z aa) Z ?_;refine Gs 4 38 (bool_t Z aa) Z ?_;refine Gs 4 38 (bool_t Z aa) Z ?_;refine Gs 4 38 (bool_t Z aa) Z ?_;refine Pk true (.bool true) Z (bool_t Z aa) Z ?_;refine Mv (.bool true) Z Z ?_;refine Gs 10 44 Z Z ?_;refine Gs 10 44 Z Z ?_;refine Gs 10 44 Z Z ?_;refine Gs 10 44 Z Z ?_;refine Pk true (.bool true) Z Z Z ?_;refine As (.bool true) Z Z ?_;refine Nl ?_;exact ⟨Z,Lr,ay,az,a0,ao,Et (b:=(.bool true:Value)) Z (congrArg Value.bool (by grind:true=(decide (((¬(0≤((gs.getD k Good.z).cost)∧((gs.getD k Good.z).cost)≤999))∨(¬(1≤((gs.getD k Good.z).pack)∧((gs.getD k Good.z).pack)≤20)))∨(¬(isFew ((gs.getD k Good.z).low) ((gs.getD k Good.z).high)))))))⟩
      ·intro aa;refine Gg 4 38 (bool_f Z aa) Z (ok_fieldAddr Fx.fld57_2 Z ?_);refine Gg 4 38 (bool_f Z aa) Z (ok_load (v:=.int .i64 ((gs.getD k Good.z).pack)) Z (Rd.one Fx.ty3 an Z) ?_);refine Gg 4 38 (bool_f Z aa) Z (ok_call3 Tryd.func46 Fx.call46 Z Z Z ((inside_spec ((gs.getD k Good.z).pack) 1 20 ).mono fun _ _ bm=>?_));obtain ⟨rfl,rfl⟩:=bm;refine Gg 4 38 (bool_f Z aa) Z (ok_notp (p:=1≤((gs.getD k Good.z).pack)∧((gs.getD k Good.z).pack)≤20) Z ?_);refine Pk false (.bool (decide (¬(1≤((gs.getD k Good.z).pack)∧((gs.getD k Good.z).pack)≤20)))) Z (bool_f Z aa) Z ?_;refine Mv (.bool (decide (¬(1≤((gs.getD k Good.z).pack)∧((gs.getD k Good.z).pack)≤20)))) Z Z ?_;refine trL_case (p:=¬(1≤((gs.getD k Good.z).pack)∧((gs.getD k Good.z).pack)≤20)) ?_ ?_
       ·intro ab;refine Gs 10 44 (bool_t Z ab) Z ?_;refine Gs 10 44 (bool_t Z ab) Z ?_;refine Gs 10 44 (bool_t Z ab) Z ?_;refine Gs 10 44 (bool_t Z ab) Z ?_;refine Pk true (.bool true) Z (bool_t Z ab) Z ?_;refine As (.bool true) Z Z ?_;refine Nl ?_;exact ⟨Z,Lr,ay,az,a0,ao,Et (b:=(.bool true:Value)) Z (congrArg Value.bool (by grind:true=(decide (((¬(0≤((gs.getD k Good.z).cost)∧((gs.getD k Good.z).cost)≤999))∨(¬(1≤((gs.getD k Good.z).pack)∧((gs.getD k Good.z).pack)≤20)))∨(¬(isFew ((gs.getD k Good.z).low) ((gs.getD k Good.z).high)))))))⟩
       ·intro ab;refine Gg 10 44 (bool_f Z ab) Z (ok_fieldAddr Fx.fld57_3 Z ?_);refine Gg 10 44 (bool_f Z ab) Z (ok_load (v:=.agg #[.int .i64 ((gs.getD k Good.z).low),.int .i64 ((gs.getD k Good.z).high)]) Z (rd_agg (o:=3) (ws:=#[.int .i64 ((gs.getD k Good.z).low),.int .i64 ((gs.getD k Good.z).high)]) Fx.ty39 (Bx an Z) (Nb Z) Z) ?_);refine Gg 10 44 (bool_f Z ab) Z (ok_call1 Tryd.func139 Fx.call139 Z ((few_spec ((gs.getD k Good.z).low) ((gs.getD k Good.z).high) ).mono fun _ _ bn=>?_));obtain ⟨rfl,ax⟩:=bn;refine Gg 10 44 (bool_f Z ab) Z (ok_notp (p:=isFew ((gs.getD k Good.z).low) ((gs.getD k Good.z).high)) Z ?_);refine Pk false (.bool (decide (¬(isFew ((gs.getD k Good.z).low) ((gs.getD k Good.z).high))))) Z (bool_f Z ab) Z ?_;refine As (.bool (decide (¬(isFew ((gs.getD k Good.z).low) ((gs.getD k Good.z).high))))) Z Z ?_;refine Nl ?_;exact ⟨Z,ax,ay,az,a0,ao,Et (b:=(.bool (decide (¬(isFew ((gs.getD k Good.z).low) ((gs.getD k Good.z).high)))):Value)) Z (congrArg Value.bool (by grind:decide (¬(isFew ((gs.getD k Good.z).low) ((gs.getD k Good.z).high)))=(decide (((¬(0≤((gs.getD k Good.z).cost)∧((gs.getD k Good.z).cost)≤999))∨(¬(1≤((gs.getD k Good.z).pack)∧((gs.getD k Good.z).pack)≤20)))∨(¬(isFew ((gs.getD k Good.z).low) ((gs.getD k Good.z).high)))))))⟩
     ·rintro _ _ _ ⟨bo,aj,bp,bq,br,bs,bt⟩;subst bo;refine tr_if (p:=((¬(0≤((gs.getD k Good.z).cost)∧((gs.getD k Good.z).cost)≤999))∨(¬(1≤((gs.getD k Good.z).pack)∧((gs.getD k Good.z).pack)≤20)))∨(¬(isFew ((gs.getD k Good.z).low) ((gs.getD k Good.z).high)))) bt (fun bu=>?_) (fun bu=>?_)
      ·refine Sq (Rg ?_);refine As (.int .i64 1) Z Z ?_;refine Nl (Rt ?_);refine ⟨.inr Z,outs1 Z (v:=.int .i64 1) Z ?_⟩;exact ⟨(by (symm;congr 1;rw [goodsBell,if_neg ‹_›];exact firstB_hit0 (k:=k) hs (by omega) (by unfold goodAt;(simp only [*,not_true_eq_false,not_false_eq_true,if_true,if_false,true_or,or_true,reduceCtorEq,Bool.false_eq_true];done)) (by decide))),((am.trans ae).trans aj)⟩
      ·refine Sk (Rg ?_);refine Ad (k:Int) 1 Z bs Z (by omega) ?_;refine Mv (.int .i64 ((k:Int)+1)) Z Z ?_;refine Nl ?_;have bv:=((((ar.trans ad).upd (Ln ar ah) ai).trans ac).trans ae).trans aj;exact ⟨_,by omega,k+1,Z,(by omega),(by exact allB_next hs (by unfold goodAt;(simp only [*,not_true_eq_false,not_false_eq_true,if_true,if_false,or_self,reduceCtorEq,Bool.false_eq_true];done))),Z,bv,bp,bq,br,Z⟩
  ·refine Xt (Sq (Rg ?_));refine As (.int .i64 0) Z Z ?_;refine Nl (Rt ?_);refine ⟨.inr Z,outs1 Z (v:=.int .i64 0) Z ?_⟩;exact ⟨(by (symm;congr 1;rw [goodsBell,if_neg ‹_›];exact firstB_miss0 (k:=k) hs (by omega))),(ag.trans ar)⟩
end Go.Ns
namespace Go.Ns
open Go.Conc Go.Proofs
attribute [local irreducible] OpK TrL Tr CallK ValK RoundK
def gChecks:Array Value:=#[.func (.func 132) #[] #[],.func (.func 133) #[] #[],.func (.func 134) #[] #[],.func (.func 135) #[] #[]]
def gKinds:Array Value:=#[.string ⟨#[99,97,109,101]⟩,.func (.func 130) #[] #[],.string ⟨#[115,111,108,100]⟩,.func (.func 131) #[] #[],.string ⟨#[108,111,115,116]⟩,.func (.func 131) #[] #[],.string ⟨#[103,105,118,101,110]⟩,.func (.func 131) #[] #[],.string ⟨#[98,97,99,107]⟩,.func (.func 130) #[] #[]]
def Glob (h:GH):Prop:=Elem h 1 0 4 gChecks∧Elem h 0 0 10 gKinds
theorem Glob.le {h h':GH} (g:Glob h) (l:h.Le h'):Glob h':=⟨g.1.le l,g.2.le l⟩
def checkFn (k:Nat):Value:=gChecks.getD k undef
def kindFn (k:Nat):Value:=gKinds.getD (k*2+1) undef
theorem checkFn_at {k:Nat} (h:k<4):(if false=true then some (Value.agg ((#[.func (.func 132) #[] #[],.func (.func 133) #[] #[],.func (.func 134) #[] #[],.func (.func 135) #[] #[]]:Array Value).extract (k*1) (k*1+1))) else (#[.func (.func 132) #[] #[],.func (.func 133) #[] #[],.func (.func 134) #[] #[],.func (.func 135) #[] #[]]:Array Value)[k*1]?)=some (checkFn k):=by
 match k,h with
 | 0,_=>rfl
 | 1,_=>rfl
 | 2,_=>rfl
 | 3,_=>rfl
theorem kindFn_at {k:Nat} (h:k<5):gKinds[0+k*2+1]? =some (kindFn k):=by
 match k,h with
 | 0,_=>rfl
 | 1,_=>rfl
 | 2,_=>rfl
 | 3,_=>rfl
 | 4,_=>rfl
theorem checkFn_spec {W:Wk Tryd.prog} {h:GH} (d m:Int) (gs:List Good) (gsv:Value) (ms:List Move) (msv:Value) (cs:List Count) (csv:Value) (hgs:SlIs h gsv 5 eGood gs) (hms:SlIs h msv 5 eMove ms) (hcs:SlIs h csv 4 eCount cs) (hnm:∀k,(gs.getD k Good.z).name.size≤1000) {k:Nat} (hk:k<4) :
  ValK W (checkFn k) #[.agg #[.int .i64 d,.int .i64 m,gsv,msv,csv]] h fun v h'=>v=.int .i64 (checkBell d m gs ms cs k)∧h.Le h':=by
 match k,hk with
 | 0,_=>exact valK_func (first:=#[]) (cap:=#[]) Tryd.func132 Fx.call132 rfl (head_spec (W:=W) (h:=h) d m gs gsv ms msv cs csv hgs hms hcs)
 | 1,_=>exact valK_func (first:=#[]) (cap:=#[]) Tryd.func133 Fx.call133 rfl (goods_spec (W:=W) (h:=h) d m gs gsv ms msv cs csv hgs hms hcs hnm)
 | 2,_=>exact valK_func (first:=#[]) (cap:=#[]) Tryd.func134 Fx.call134 rfl (moves_spec (W:=W) (h:=h) d m gs gsv ms msv cs csv hgs hms hcs)
 | 3,_=>exact valK_func (first:=#[]) (cap:=#[]) Tryd.func135 Fx.call135 rfl (counts_spec (W:=W) (h:=h) d m gs gsv ms msv cs csv hgs hms hcs)
theorem more_spec {W:Wk Tryd.prog} {h:GH} (n:Int):CallK W 130 #[.int .i64 n] h (fun v h'=>v=(.int .i64 n:Value)∧h=h'):=by
 refine call_of_tr Tryd.func130 Z (Nb Z) ?_;refine Sq (Rg ?_);refine As (.int .i64 0) Z Z ?_;refine Nl (Sq (Rg ?_));refine Mv (.int .i64 n) Z Z ?_;refine As (.int .i64 n) Z Z ?_;refine Nl (Rt ?_);refine ⟨.inr Z,outs1 Z (v:=.int .i64 n) Z ?_⟩;exact ⟨Z,Z⟩
theorem less_spec {W:Wk Tryd.prog} {h:GH} (n:Int) (hn:0≤n∧n≤99):CallK W 131 #[.int .i64 n] h (fun v h'=>v=(.int .i64 (-n):Value)∧h=h'):=by
 refine call_of_tr Tryd.func131 Z (Nb Z) ?_;refine Sq (Rg ?_);refine As (.int .i64 0) Z Z ?_;refine Nl (Sq (Rg ?_));refine Mv (.int .i64 n) Z Z ?_;refine Pl Z (ok_neg (a:=n) Z (by omega) ?_);refine As (.int .i64 (-n)) Z Z ?_;refine Nl (Rt ?_);refine ⟨.inr Z,outs1 Z (v:=.int .i64 (-n)) Z ?_⟩;exact ⟨Z,Z⟩
theorem checkBook_spec {W:Wk Tryd.prog} {h:GH} (d:Int) (m:Int) (gs:List Good) (gsv:Value) (ms:List Move) (msv:Value) (cs:List Count) (csv:Value) (hgs:SlIs h gsv 5 eGood gs) (hms:SlIs h msv 5 eMove ms) (hcs:SlIs h csv 4 eCount cs) (hG:Glob h) (hnm:∀k,(gs.getD k Good.z).name.size≤1000):CallK W 56 #[.agg #[.int .i64 d,.int .i64 m,gsv,msv,csv]] h (fun v h'=>v=(.int .i64 (bookBell d m gs ms cs):Value)∧h.Le h'):=by
 have ae:=hgs.len;have af:=hms.len;have ag:=hcs.len;refine call_of_tr Tryd.func56 Z (Nb Z) ?_;refine Sq (Rg ?_);refine Pl Z (ok_box' (v:=.agg #[.int .i64 d,.int .i64 m,gsv,msv,csv]) (c:=#[.int .i64 d,.int .i64 m,gsv,msv,csv]) Z Z fun r4 h5 _ ac aq _=>?_);refine As (.int .i64 0) Z Z ?_;refine Nl (Sq (Sq (Rg ?_)));refine Ld (.agg #[.func (.func 132) #[] #[],.func (.func 133) #[] #[],.func (.func 134) #[] #[],.func (.func 135) #[] #[]]) Z Z (rd_agg0 Fx.ty130 (hG.le ac).1) ?_;refine Mv (.int .i64 0) Z Z ?_;refine Nl (Bk ?_);refine tr_loop (fun nn σ' ds' h'=>∃(k:Nat),nn=4-k∧(k≤4)∧(∀j,j<k→checkBell d m gs ms cs j=0)∧ds'=[]∧GH.Le h5 h'∧σ' 1=.pointer (some ⟨r4,0,none⟩)∧σ' 6=.agg #[.func (.func 132) #[] #[],.func (.func 133) #[] #[],.func (.func 134) #[] #[],.func (.func 135) #[] #[]]∧σ' 7=.int .i64 (k:Int)) ⟨0,Z,(by omega),(by (intro j hj;omega)),Z,Lr,Z,Z,Z⟩ (fun nn _ _ _ ah=>?_);obtain ⟨k,rfl,hk,hs,ar,ad,ao,ap,ai⟩:=ah;subst ar;refine Sq (Rg ?_);refine Pl Z (ok_lss (a:=(k:Int)) (b:=4) ai Z ?_);refine Nl (Sq ?_);refine tr_if (p:=(k:Int)<4) Z (fun aj=>?_) (fun aj=>?_)
 ·refine Sk (Sq (Bk (Sq (Rg ?_))));have ak:(0:Int)≤(k:Int):=by omega
  have al:(k:Int)<((4:Nat):Int):=by omega
  refine Pl Z (ok_indexA Fx.arr130 ap ai ak al (checkFn_at (by omega)) ?_);refine As (checkFn k) Z Z ?_;refine Nl (Sq (Rg ?_));refine Mv (checkFn k) Z Z ?_;refine Ld (.agg #[.int .i64 d,.int .i64 m,gsv,msv,csv]) Z ao (rd_agg0 Fx.ty26 (Bx (ad.keep aq Z) Z)) ?_;refine Pl Z (ok_build (cells:=#[.int .i64 d,.int .i64 m,gsv,msv,csv]) Fx.pl92 Fx.zero92 (by kernel_rfl) ?_);have aa:=ac.trans ad;refine Pl Z (ok_callVal1 Z Z ((checkFn_spec d m gs gsv ms msv cs csv (hgs.le aa) (hms.le aa) (hcs.le aa) hnm (k:=k) (by omega)).mono fun _ _ am=>?_));obtain ⟨rfl,ab⟩:=am;refine As (.int .i64 (checkBell d m gs ms cs k)) Z Z ?_;refine Nl (Sq (Rg ?_));refine Mv (.int .i64 (checkBell d m gs ms cs k)) Z Z ?_;refine Pl Z (ok_neq (a:=checkBell d m gs ms cs k) (b:=0) Z Z ?_);refine Nl ?_;refine tr_if (p:=¬(checkBell d m gs ms cs k)=0) Z (fun an=>?_) (fun an=>?_)
  ·refine Sq (Rg ?_);refine Mv (.int .i64 (checkBell d m gs ms cs k)) Z Z ?_;refine As (.int .i64 (checkBell d m gs ms cs k)) Z Z ?_;refine Nl (Rt ?_);refine ⟨.inr Z,outs1 Z (v:=.int .i64 (checkBell d m gs ms cs k)) Z ?_⟩;exact ⟨(by (symm;congr 1;exact firstB_hit0 (k:=k) hs (by omega) Z ‹_›)),(aa.trans ab)⟩
  ·refine Sk (Rg ?_);refine Ad (k:Int) 1 Z ai Z (by omega) ?_;refine Mv (.int .i64 ((k:Int)+1)) Z Z ?_;refine Nl ?_;exact ⟨_,by omega,k+1,Z,(by omega),(by exact allB_next hs (Dn ‹_›)),Z,(ad.trans ab),ao,ap,Z⟩
 ·refine Xt (Sq (Rg ?_));refine As (.int .i64 0) Z Z ?_;refine Nl (Rt ?_);refine ⟨.inr Z,outs1 Z (v:=.int .i64 0) Z ?_⟩;exact ⟨(by (symm;congr 1;exact firstB_miss0 (k:=k) hs (by omega))),(ac.trans ad)⟩
end Go.Ns
namespace Go.Ns
open Go.Conc Go.Proofs
attribute [local irreducible] OpK TrL Tr CallK ValK RoundK
theorem kindFn_spec {W:Wk Tryd.prog} {h:GH} (n:Int) (hn:0≤n∧n≤99) {k:Nat} (hk:k<5):ValK W (kindFn k) #[.int .i64 n] h fun v h'=>v=.int .i64 (signed k n)∧h.Le h':=by
 match k,hk with
 | 0,_=>exact valK_func (first:=#[]) (cap:=#[]) Tryd.func130 Fx.call130 rfl ((more_spec (W:=W) (h:=h) n).mono fun v h' hp=>⟨hp.1,by rw [←hp.2];exact GH.Le.refl _⟩)
 | 1,_=>exact valK_func (first:=#[]) (cap:=#[]) Tryd.func131 Fx.call131 rfl ((less_spec (W:=W) (h:=h) n hn).mono fun v h' hp=>⟨hp.1,by rw [←hp.2];exact GH.Le.refl _⟩)
 | 2,_=>exact valK_func (first:=#[]) (cap:=#[]) Tryd.func131 Fx.call131 rfl ((less_spec (W:=W) (h:=h) n hn).mono fun v h' hp=>⟨hp.1,by rw [←hp.2];exact GH.Le.refl _⟩)
 | 3,_=>exact valK_func (first:=#[]) (cap:=#[]) Tryd.func131 Fx.call131 rfl ((less_spec (W:=W) (h:=h) n hn).mono fun v h' hp=>⟨hp.1,by rw [←hp.2];exact GH.Le.refl _⟩)
 | 4,_=>exact valK_func (first:=#[]) (cap:=#[]) Tryd.func130 Fx.call130 rfl ((more_spec (W:=W) (h:=h) n).mono fun v h' hp=>⟨hp.1,by rw [←hp.2];exact GH.Le.refl _⟩)
theorem stock_spec {W:Wk Tryd.prog} {h:GH} (d:Int) (m:Int) (gs:List Good) (gsv:Value) (ms:List Move) (msv:Value) (cs:List Count) (csv:Value) (p:Past) (g:Int) (dy:Int) (hgs:SlIs h gsv 5 eGood gs) (hms:SlIs h msv 5 eMove ms) (hcs:SlIs h csv 4 eCount cs) (hG:Glob h) (hg0:0≤g) (hg1:g<3) (hp:PastOK p) (hml:ms.length≤6) (hkind:∀k,0≤(ms.getD k Move.z).kind∧(ms.getD k Move.z).kind≤4):CallK W 40 #[.agg #[.int .i64 d,.int .i64 m,gsv,msv,csv],.agg (ePast p),.int .i64 g,.int .i64 dy] h (fun v h'=>v=(.tuple #[.int .i64 ((stockOf ms p g dy).1),.int .i64 ((stockOf ms p g dy).2)]:Value)∧h.Le h'):=by
 have hpf:=hp.1 g.toNat;have ez:=hgs.len;have e0:=hms.len;have e1:=hcs.len;refine call_of_tr Tryd.func40 Z (Nb Z) ?_;refine Sq (Rg ?_);refine Pl Z (ok_box' (v:=.agg #[.int .i64 d,.int .i64 m,gsv,msv,csv]) (c:=#[.int .i64 d,.int .i64 m,gsv,msv,csv]) Z Z fun r4 _ _ e2 hu _=>?_);refine Pl Z (ok_box' (v:=.agg (ePast p)) (c:=ePast p) Z Z fun hl hv _ a2 bs _=>?_);refine As (.int .i64 0) Z Z ?_;refine As (.int .i64 0) Z Z ?_;refine Nl (Sq (Rg ?_));refine Mv (.int .i64 g) Z Z ?_;refine Fa Fx.fld87_0 Z Z ?_;have e3:(0:Int)≤g:=by omega
 have e4:g<((3:Nat):Int):=by omega
 refine Pl Z (ok_indexArr Fx.asz83 Z Z e3 e4 ?_);refine Ld (.int .i64 (p.first (g.toNat))) Z Z (Rd.one Fx.ty3 bs (ePast_first0 (i:=g.toNat) (by omega))) ?_;refine As (.int .i64 (p.first (g.toNat))) Z Z ?_;refine Nl (Sq (Rg ?_));refine Mv (.int .i64 (p.first (g.toNat))) Z Z ?_;refine As (.int .i64 (p.first (g.toNat))) Z Z ?_;refine Nl (Sq (Sq (Rg ?_)));refine Fa Fx.fld92_0 Z Z ?_;refine Fa Fx.fld26_3 Z Z ?_;have bt:=a2.keep hu Z;refine Ld msv Z Z (Rd.one Fx.ty23 bt Z) ?_;have a7:=e2.trans a2;refine Pl Z (ok_lenSl Fx.sl23 (hms.le a7) Z ?_);refine Mv (.int .i64 0) Z Z ?_;refine Nl (Bk ?_);refine tr_loop (fun nn σ' ds' h'=>∃(k:Nat) (n:Int) (low:Int),nn=ms.length-k∧(k≤ms.length)∧(-99*((k:Int)+1)≤n∧n≤99*((k:Int)+1))∧(stockRun ms p g dy (ms.length-k) k n low=stockRun ms p g dy ms.length 0 (p.first g.toNat) (p.first g.toNat))∧ds'=[]∧GH.Le hv h'∧σ' 2=.int .i64 g∧σ' 3=.int .i64 dy∧σ' 4=.pointer (some ⟨r4,0,none⟩)∧σ' 5=.pointer (some ⟨hl,0,none⟩)∧σ' 19=msv∧σ' 20=.int .i64 (ms.length:Int)∧σ' 8=.int .i64 n∧σ' 9=.int .i64 low∧σ' 21=.int .i64 (k:Int)) ⟨0,p.first g.toNat,p.first g.toNat,Z,(by omega),(by omega),(by rfl),Z,Lr,Z,Z,Z,Z,Z,Z,Z,Z,Z⟩ (fun nn _ _ _ e5=>?_);obtain ⟨k,n,low,rfl,hk,hn,hrun,hw,an,a8,a9,ay,ba,bb,bc,a3,a4,az⟩:=e5;subst hw;have hkd:=hkind k;have hre:=realOf_range hp k;have hsg:=signed_range (k:=(ms.getD k Move.z).kind.toNat) hre;refine Sq (Rg ?_);refine Pl Z (ok_lss (a:=(k:Int)) (b:=(ms.length:Int)) az bc ?_);refine Nl (Sq ?_);refine tr_if (p:=(k:Int)<(ms.length:Int)) Z (fun e6=>?_) (fun e6=>?_)
 ·refine Sk (Sq (Bk (Sq (Rg ?_))));refine Mv (.int .i64 (k:Int)) Z az ?_;have e7:(0:Int)≤(k:Int):=by omega
  have e8:(k:Int)<((ms.length:Nat):Int):=by omega
  refine Pl Z (ok_indexS0 Fx.esz23 hms bb az e7 e8 fun hx bu e9=>?_);have fa:Elem _ hx bu 5 (eMove (ms.getD k Move.z)):=Elem.getD Move.z e9;have al:=a7.trans an;refine Ld (.agg #[.int .i64 ((ms.getD k Move.z).kind),.int .i64 ((ms.getD k Move.z).good),.int .i64 ((ms.getD k Move.z).day),.int .i64 ((ms.getD k Move.z).low),.int .i64 ((ms.getD k Move.z).high)]) Z Z (rd_agg0 Fx.ty41 (fa.le al)) ?_;have au:=an.keep bt Z;have bv:=an.keep bs Z;refine Pl Z (ok_alloc' Fx.zero41 fun ey _ ai ac fb _=>?_);have a0:r4≠ey:=Ne' au ai;have fc:hl≠ey:=Ne' bv ai;refine As (.int .i64 (k:Int)) Z Z ?_;refine Pl Z (ok_store' (v:=.agg #[.int .i64 ((ms.getD k Move.z).kind),.int .i64 ((ms.getD k Move.z).good),.int .i64 ((ms.getD k Move.z).day),.int .i64 ((ms.getD k Move.z).low),.int .i64 ((ms.getD k Move.z).high)]) (c':=#[.int .i64 ((ms.getD k Move.z).kind),.int .i64 ((ms.getD k Move.z).good),.int .i64 ((ms.getD k Move.z).day),.int .i64 ((ms.getD k Move.z).low),.int .i64 ((ms.getD k Move.z).high)]) Fx.ty41 Z Z fb Z Z (by simp) Z fun _ av ae=>?_);refine Nl (Sq (Sq (Rg ?_)));refine Fa Fx.fld41_2 Z Z ?_;refine Ld (.int .i64 ((ms.getD k Move.z).day)) Z Z (Rd.one Fx.ty3 av Z) ?_;refine Mv (.int .i64 dy) Z a9 ?_;refine Pl Z (ok_gtr (a:=(ms.getD k Move.z).day) (b:=dy) Z Z ?_);refine Nl ?_;refine tr_if (p:=dy<((ms.getD k Move.z).day)) Z (fun fd=>?_) (fun fd=>?_)
  ·refine Xt (Sq (Rg ?_));refine Mv (.int .i64 n) Z a3 ?_;refine Mv (.int .i64 low) Z a4 ?_;refine As (.int .i64 n) Z Z ?_;refine As (.int .i64 low) Z Z ?_;refine Nl (Rt ?_);have fe:=(al.trans ac).upd (Ln al ai) ae;refine ⟨.inr Z,outs2 Z (v:=.int .i64 n) (v':=.int .i64 low) Z Z ?_⟩;exact ⟨(by (rw [stockOf,←hrun,stockRun_stop (ms:=ms) (k:=k) (dy:=dy) (by omega) ‹_›])),fe⟩
  ·refine Sk (Sq (Sq (Rg ?_)));refine Fa Fx.fld41_1 Z Z ?_;refine Ld (.int .i64 ((ms.getD k Move.z).good)) Z Z (Rd.one Fx.ty3 av Z) ?_;refine Mv (.int .i64 g) Z a8 ?_;refine Pl Z (ok_eql (a:=(ms.getD k Move.z).good) (b:=g) Z Z ?_);refine Nl ?_;refine tr_if (p:=((ms.getD k Move.z).good)=g) Z (fun ff=>?_) (fun ff=>?_)
   ·refine tr_tdG 10 false [0,5,11,15,20,26,31,36,42,47] Fx.mixed (by kernel_rfl) ?_;refine tP Z Z (fun _=>ok_move (v:=.int .i64 n) a3 vz) ?_;refine tP Z Z (fun _=>ok_fieldAddr Fx.fld41_0 Z vz) ?_;refine tR Z Z (ok_load (v:=.int .i64 ((ms.getD k Move.z).kind)) Z (Rd.one Fx.ty37 av Z) vz) ?_;have fg:(0:Int)≤(ms.getD k Move.z).kind:=by omega
    have fh:(ms.getD k Move.z).kind<((5:Nat):Int):=by omega
    refine tP Z Z (fun _=>ok_indexArr Fx.asz121 Z Z fg fh vz) ?_;refine tP Z Z (fun _=>ok_fieldAddr Fx.fld120_1 Z vz) ?_;have bd:=(al.trans ac).upd (Ln al ai) ae;refine tR Z Z (ok_load (v:=kindFn (((ms.getD k Move.z).kind).toNat)) Z (rd_at0 Fx.ty104 (hG.le bd).2 (kindFn_at (by omega))) vz) ?_;refine tR Z Z (ok_load (v:=.agg (ePast p)) ba (rd_agg0 Fx.ty87 (Bx ((ae _ fc).trans (ac.keep bv Z)) Z)) vz) ?_;refine tR Z Z (ok_move (v:=.int .i64 (k:Int)) Z vz) ?_;refine tE Z Z (ok_call2 Tryd.func50 Fx.call50 Z Z ((real_spec p (k:Int) (by omega) (by omega)).mono fun _ _ fi=>?_));obtain ⟨rfl,af⟩:=fi;refine eT af ?_;refine tE Z Z (ok_callVal1 Z Z ((kindFn_spec (realOf p k) (by omega) (k:=(((ms.getD k Move.z).kind).toNat)) (by omega)).mono fun _ _ fj=>?_));obtain ⟨rfl,ag⟩:=fj;refine eT ag ?_;refine tN ?_;refine Ad n (signed (((ms.getD k Move.z).kind).toNat) (realOf p k)) Z Z Z (by omega) ?_;refine As (.int .i64 (n+(signed (((ms.getD k Move.z).kind).toNat) (realOf p k)))) Z Z ?_;refine Nl (Sq ?_);refine tr_drawnLe 18 [[],[0],[],[2],[2,3],[2,3,4],[0,1,2,3,4,5],[0,1,2,3,4,5,6],[0,1,2,3,4,5,6,7],[0,1,2,3,4,5,6,7,8],[0,1,2,3,4,5,6,7,8,9],[0,1,2,3,4,5,6,7],[0,1,2,3,4,5,6,7,11],[0,1,2,3,4,5,6,7,8,9,10,11,12],[0,1,2,3,4,5,6,7,8,9,10,11,12,13],[0,1,2,3,4,5,6,7,8,9,10,11,12,13,14],[0,1,2,3,4,5,6,7],[0,1,2,3,4,5,6,7,16]] [(lF (.int .i64 (k:Int))),(lF (.int .i64 ((k:Int)+1))),(lF (.pointer (some ⟨r4,0,none⟩))),(lF (.pointer (some ⟨r4,3,none⟩))),(lF msv),(lF (.int .i64 (ms.length:Int))),(lF (.bool (decide (((k:Int)+1)=(ms.length:Int))))),(lF (.bool (decide (((k:Int)+1)=(ms.length:Int))))),(lF (.pointer (some ⟨r4,0,none⟩))),(lF (.pointer (some ⟨r4,3,none⟩))),(lF msv),(lF (.int .i64 (k:Int))),(lF (.int .i64 ((k:Int)+1))),(fun v h=>∃(a1:Nat) (ah:Nat),v=(.pointer (some ⟨a1,ah,none⟩):Value)∧Elem h a1 ah 5 #[.int .i64 ((ms.getD (k+1) Move.z).kind),.int .i64 ((ms.getD (k+1) Move.z).good),.int .i64 ((ms.getD (k+1) Move.z).day),.int .i64 ((ms.getD (k+1) Move.z).low),.int .i64 ((ms.getD (k+1) Move.z).high)]),(fun v h=>∃(a1:Nat) (ah:Nat),v=(.pointer (some ⟨a1,ah+2,none⟩):Value)∧Elem h a1 ah 5 #[.int .i64 ((ms.getD (k+1) Move.z).kind),.int .i64 ((ms.getD (k+1) Move.z).good),.int .i64 ((ms.getD (k+1) Move.z).day),.int .i64 ((ms.getD (k+1) Move.z).low),.int .i64 ((ms.getD (k+1) Move.z).high)]),(lF (.int .i64 ((ms.getD (k+1) Move.z).day))),(lF (.pointer (some ⟨ey,2,none⟩))),(lF (.int .i64 ((ms.getD k Move.z).day)))] Fx.mixed (by kernel_rfl) (K8 (K4 (K1 ⟨(fun _ _ _ l ⟨a1,ah,e,f0⟩=>⟨a1,ah,e,f0.le l⟩),(fun _ _ _ l ⟨a1,ah,e,f0⟩=>⟨a1,ah,e,f0.le l⟩),K2 (K1 trivial)⟩))) ⟨?_,?_,?_,?_,?_,?_,?_,?_,?_,?_,?_,?_,?_,?_,?_,?_,?_,?_,?_⟩
    ·intro _ _ _ fk _ _;refine (ok_move (v:=.int .i64 (k:Int)) (Et (fk 10 Z) Z) ?_);exact fL Z
    ·intro _ _ _ _ fl _;obtain ⟨hy,_⟩:=fl;refine (ok_add (a:=(k:Int)) (b:=1) (hy trivial) Z (by omega) ?_);exact fL Z
    ·intro _ _ _ fm _ _;refine (ok_fieldAddr Fx.fld92_0 (Et (fm 4 Z) ay) ?_);exact fL Z
    ·intro _ _ _ _ bw _;obtain ⟨fn,_⟩:=bw;refine (ok_fieldAddr Fx.fld26_3 (fn trivial) ?_);exact fL Z
    ·intro _ _ be _ bx _;obtain ⟨_,fo,_⟩:=bx;have bz:=(be.keep (ag.keep (af.keep ((ae _ a0).trans (ac.keep au Z)) Z) Z) Z);refine (ok_load (v:=msv) (fo trivial) (Rd.one Fx.ty23 bz Z) ?_);exact fL Z
    ·intro _ _ bf _ b0 _;obtain ⟨_,_,fp,_⟩:=b0;refine (ok_lenSl Fx.sl23 (hms.le (((bd.trans af).trans ag).trans bf)) (fp trivial) ?_);exact fL Z
    ·intro _ _ _ _ b1 _;obtain ⟨_,fq,_,_,_,fr,_⟩:=b1;refine (ok_eql (a:=(k:Int)+1) (b:=(ms.length:Int)) (fq trivial) (fr trivial) ?_);exact fL Z
    ·intro _ _ _ _ b2 _;obtain ⟨_,_,_,_,_,_,fs,_⟩:=b2;refine (ok_move (v:=.bool (decide (((k:Int)+1)=(ms.length:Int)))) (fs trivial) ?_);exact fL Z
    ·intro _ _ _ b3 b4 b5;obtain ⟨_,_,_,_,_,_,_,ft,_⟩:=b4;have hm:=bool_np (ft trivial) b5;refine (ok_fieldAddr Fx.fld92_0 (Et (b3 4 Z) ay) ?_);exact fL Z
    ·intro _ _ _ _ b6 b7;obtain ⟨_,_,_,_,_,_,_,fu,fv,_⟩:=b6;have b8:=fu trivial;have b9:=bool_np b8 b7;refine (ok_fieldAddr Fx.fld26_3 (fv (bool_f b8 b9)) ?_);exact fL Z
    ·intro _ _ bg _ ca cb;obtain ⟨_,_,_,_,_,_,_,fw,_,fx,_⟩:=ca;have cc:=fw trivial;have cd:=bool_np cc cb;have ce:=(bg.keep (ag.keep (af.keep ((ae _ a0).trans (ac.keep au Z)) Z) Z) Z);refine (ok_load (v:=msv) (fx (bool_f cc cd)) (Rd.one Fx.ty23 ce Z) ?_);exact fL Z
    ·intro _ _ _ cf cg ch;obtain ⟨_,_,_,_,_,_,_,fy,_⟩:=cg;have ho:=bool_np (fy trivial) ch;refine (ok_move (v:=.int .i64 (k:Int)) (Et (cf 10 Z) Z) ?_);exact fL Z
    ·intro _ _ _ _ ci cj;obtain ⟨_,_,_,_,_,_,_,fz,f1,_⟩:=ci;have ck:=fz trivial;have cl:=bool_np ck cj;refine (ok_add (a:=(k:Int)) (b:=1) (f1 (bool_f ck cl)) Z (by omega) ?_);exact fL Z
    ·intro _ _ bh _ cm cn;obtain ⟨_,_,_,_,_,_,_,f2,_,_,f3,_,f4,_⟩:=cm;have bi:=f2 trivial;have a5:=bool_np bi cn;have co:(0:Int)≤(k:Int)+1:=by omega
     have cp:(k:Int)+1<((ms.length:Nat):Int):=by omega
     refine (ok_indexS0 Fx.esz23 hms (f3 (bool_f bi a5)) (f4 (bool_f bi a5)) co cp fun cq aw cr=>?_);have ct:Elem _ cq aw 5 (eMove (ms.getD (k+1) Move.z)):=Elem.getD Move.z cr;exact fL ⟨cq,aw,Z,(ct.le (((bd.trans af).trans ag).trans bh))⟩
    ·intro _ _ _ _ cu cv;obtain ⟨_,_,_,_,_,_,_,f5,_,_,_,_,_,f6,_⟩:=cu;have cw:=f5 trivial;have cx:=bool_np cw cv;obtain ⟨f7,bj,f8,f9⟩:=f6 (bool_f cw cx);refine (ok_fieldAddr Fx.fld41_2 f8 ?_);exact fL ⟨f7,bj,Z,f9⟩
    ·intro _ _ _ _ cy cz;obtain ⟨_,_,_,_,_,_,_,ga,_,_,_,_,_,_,gb,_⟩:=cy;have c0:=ga trivial;have c1:=bool_np c0 cz;obtain ⟨_,_,gc,gd⟩:=gb (bool_f c0 c1);refine (ok_load (v:=.int .i64 ((ms.getD (k+1) Move.z).day)) gc (rd_one (o:=2) Fx.ty3 gd Z) ?_);exact fL Z
    ·intro _ _ _ c2 c3 c4;obtain ⟨_,_,_,_,_,_,_,ge,_⟩:=c3;have hq:=bool_np (ge trivial) c4;refine (ok_fieldAddr Fx.fld41_2 (Et (c2 11 Z) Z) ?_);exact fL Z
    ·intro _ _ bk _ c5 c6;obtain ⟨_,_,_,_,_,_,_,gf,gg,_⟩:=c5;have c7:=gf trivial;have c8:=bool_np c7 c6;refine (ok_load (v:=.int .i64 ((ms.getD k Move.z).day)) (gg (bool_f c7 c8)) (Rd.one Fx.ty3 (bk.keep (ag.keep (af.keep av Z) Z) Z) Z) ?_);exact fL Z
    ·intro _ _ ao aa c9;obtain ⟨_,_,_,_,_,_,_,gi,_,_,_,_,_,_,_,gj,_,gk,_⟩:=c9;have aq:=gi trivial;refine trL_case (p:=((k:Int)+1)=(ms.length:Int)) ?_ ?_
     ·intro aj;refine Gs 7 52 (bool_t aq aj) Z ?_;refine Pk true (.bool true) Z (bool_t aq aj) Z ?_;refine Nl ?_;refine tr_true Z ?_;refine Rg ?_;refine Mv (.int .i64 low) Z (Et (aa 9 Z) a4) ?_;refine Mv (.int .i64 (n+(signed (((ms.getD k Move.z).kind).toNat) (realOf p k)))) Z (Et (aa 8 Z) Z) ?_;refine Pl Z (ok_min (a:=low) (b:=n+(signed (((ms.getD k Move.z).kind).toNat) (realOf p k))) Z Z ?_);refine As (.int .i64 (min low (n+(signed (((ms.getD k Move.z).kind).toNat) (realOf p k))))) Z Z ?_;refine Nl (Rg ?_);refine Ad (k:Int) 1 Z (Et (aa 21 Z) az) Z (by omega) ?_;refine Mv (.int .i64 ((k:Int)+1)) Z Z ?_;refine Nl ?_;have da:=((((an.trans ac).upd (Ln an ai) ae).trans af).trans ag).trans ao;exact ⟨_,by omega,k+1,n+(signed (((ms.getD k Move.z).kind).toNat) (realOf p k)),min low (n+(signed (((ms.getD k Move.z).kind).toNat) (realOf p k))),Z,(by omega),(by omega),(by rw [←hrun,stockRun_next (ms:=ms) (k:=k) (dy:=dy) (by omega) ‹_›];unfold nNext lowNext;repeat (first | rw [if_pos ‹_›] | rw [if_pos (.inl ‹_›)])),Z,da,(Et (aa 2 Z) a8),(Et (aa 3 Z) a9),(Et (aa 4 Z) ay),(Et (aa 5 Z) ba),(Et (aa 19 Z) bb),(Et (aa 20 Z) bc),(Et (aa 8 Z) Z),Z,Z⟩
     ·intro aj;refine Gg 7 52 (bool_f aq aj) Z (ok_gtr (a:=(ms.getD (k+1) Move.z).day) (b:=(ms.getD k Move.z).day) (gj (bool_f aq aj)) (gk (bool_f aq aj)) ?_);refine Pk false (.bool (decide (((ms.getD k Move.z).day)<((ms.getD (k+1) Move.z).day)))) Z (bool_f aq aj) Z ?_;refine Nl ?_;refine tr_if (p:=((ms.getD k Move.z).day)<((ms.getD (k+1) Move.z).day)) Z (fun db=>?_) (fun db=>?_)
      ·refine Rg ?_;refine Mv (.int .i64 low) Z (Et (aa 9 Z) a4) ?_;refine Mv (.int .i64 (n+(signed (((ms.getD k Move.z).kind).toNat) (realOf p k)))) Z (Et (aa 8 Z) Z) ?_;refine Pl Z (ok_min (a:=low) (b:=n+(signed (((ms.getD k Move.z).kind).toNat) (realOf p k))) Z Z ?_);refine As (.int .i64 (min low (n+(signed (((ms.getD k Move.z).kind).toNat) (realOf p k))))) Z Z ?_;refine Nl (Rg ?_);refine Ad (k:Int) 1 Z (Et (aa 21 Z) az) Z (by omega) ?_;refine Mv (.int .i64 ((k:Int)+1)) Z Z ?_;refine Nl ?_;have dc:=((((an.trans ac).upd (Ln an ai) ae).trans af).trans ag).trans ao;exact ⟨_,by omega,k+1,n+(signed (((ms.getD k Move.z).kind).toNat) (realOf p k)),min low (n+(signed (((ms.getD k Move.z).kind).toNat) (realOf p k))),Z,(by omega),(by omega),(by rw [←hrun,stockRun_next (ms:=ms) (k:=k) (dy:=dy) (by omega) ‹_›];unfold nNext lowNext;repeat (first | rw [if_pos ‹_›] | rw [if_pos (.inr ‹_›)])),Z,dc,(Et (aa 2 Z) a8),(Et (aa 3 Z) a9),(Et (aa 4 Z) ay),(Et (aa 5 Z) ba),(Et (aa 19 Z) bb),(Et (aa 20 Z) bc),(Et (aa 8 Z) Z),Z,Z⟩
      ·refine Sk (Rg ?_);refine Ad (k:Int) 1 Z (Et (aa 21 Z) az) Z (by omega) ?_;refine Mv (.int .i64 ((k:Int)+1)) Z Z ?_;refine Nl ?_;have dd:=((((an.trans ac).upd (Ln an ai) ae).trans af).trans ag).trans ao;exact ⟨_,by omega,k+1,n+(signed (((ms.getD k Move.z).kind).toNat) (realOf p k)),low,rfl,(by omega),(by omega),(by rw [←hrun,stockRun_next (ms:=ms) (k:=k) (dy:=dy) (by omega) ‹_›];unfold nNext lowNext;repeat (first | rw [if_pos ‹_›] | rw [if_neg (by rintro (q | q) <;> contradiction)])),rfl,dd,(Et (aa 2 rfl) a8),(Et (aa 3 rfl) a9),(Et (aa 4 rfl) ay),(Et (aa 5 rfl) ba),(Et (aa 19 rfl) bb),(Et (aa 20 rfl) bc),(Et (aa 8 rfl) rfl),(Et (aa 9 rfl) a4),(Et (b:=(.int .i64 ((k:Int)+1):Value)) rfl (by rfl))⟩
   ·refine Sk (Sq ?_);refine tr_drawnLe 18 [[],[0],[],[2],[2,3],[2,3,4],[0,1,2,3,4,5],[0,1,2,3,4,5,6],[0,1,2,3,4,5,6,7],[0,1,2,3,4,5,6,7,8],[0,1,2,3,4,5,6,7,8,9],[0,1,2,3,4,5,6,7],[0,1,2,3,4,5,6,7,11],[0,1,2,3,4,5,6,7,8,9,10,11,12],[0,1,2,3,4,5,6,7,8,9,10,11,12,13],[0,1,2,3,4,5,6,7,8,9,10,11,12,13,14],[0,1,2,3,4,5,6,7],[0,1,2,3,4,5,6,7,16]] [(lF (.int .i64 (k:Int))),(lF (.int .i64 ((k:Int)+1))),(lF (.pointer (some ⟨r4,0,none⟩))),(lF (.pointer (some ⟨r4,3,none⟩))),(lF msv),(lF (.int .i64 (ms.length:Int))),(lF (.bool (decide (((k:Int)+1)=(ms.length:Int))))),(lF (.bool (decide (((k:Int)+1)=(ms.length:Int))))),(lF (.pointer (some ⟨r4,0,none⟩))),(lF (.pointer (some ⟨r4,3,none⟩))),(lF msv),(lF (.int .i64 (k:Int))),(lF (.int .i64 ((k:Int)+1))),(fun v h=>∃(am:Nat) (ad:Nat),v=(.pointer (some ⟨am,ad,none⟩):Value)∧Elem h am ad 5 #[.int .i64 ((ms.getD (k+1) Move.z).kind),.int .i64 ((ms.getD (k+1) Move.z).good),.int .i64 ((ms.getD (k+1) Move.z).day),.int .i64 ((ms.getD (k+1) Move.z).low),.int .i64 ((ms.getD (k+1) Move.z).high)]),(fun v h=>∃(am:Nat) (ad:Nat),v=(.pointer (some ⟨am,ad+2,none⟩):Value)∧Elem h am ad 5 #[.int .i64 ((ms.getD (k+1) Move.z).kind),.int .i64 ((ms.getD (k+1) Move.z).good),.int .i64 ((ms.getD (k+1) Move.z).day),.int .i64 ((ms.getD (k+1) Move.z).low),.int .i64 ((ms.getD (k+1) Move.z).high)]),(lF (.int .i64 ((ms.getD (k+1) Move.z).day))),(lF (.pointer (some ⟨ey,2,none⟩))),(lF (.int .i64 ((ms.getD k Move.z).day)))] Fx.mixed (by kernel_rfl) (K8 (K4 (K1 ⟨(fun _ _ _ l ⟨am,ad,e,f0⟩=>⟨am,ad,e,f0.le l⟩),(fun _ _ _ l ⟨am,ad,e,f0⟩=>⟨am,ad,e,f0.le l⟩),K2 (K1 trivial)⟩))) ⟨?_,?_,?_,?_,?_,?_,?_,?_,?_,?_,?_,?_,?_,?_,?_,?_,?_,?_,?_⟩
    ·intro _ _ _ de _ _;refine (ok_move (v:=.int .i64 (k:Int)) (Et (de 10 Z) Z) ?_);exact fL Z
    ·intro _ _ _ _ df _;obtain ⟨gl,_⟩:=df;refine (ok_add (a:=(k:Int)) (b:=1) (gl trivial) Z (by omega) ?_);exact fL Z
    ·intro _ _ _ dg _ _;refine (ok_fieldAddr Fx.fld92_0 (Et (dg 4 Z) ay) ?_);exact fL Z
    ·intro _ _ _ _ dh _;obtain ⟨gm,_⟩:=dh;refine (ok_fieldAddr Fx.fld26_3 (gm trivial) ?_);exact fL Z
    ·intro _ _ bl _ di _;obtain ⟨_,gn,_⟩:=di;refine (ok_load (v:=msv) (gn trivial) (Rd.one Fx.ty23 (bl.keep ((ae _ a0).trans (ac.keep au Z)) Z) Z) ?_);exact fL Z
    ·intro _ _ bm _ dj _;obtain ⟨_,_,gp,_⟩:=dj;have dk:=hms.le (((al.trans ac).upd (Ln al ai) ae).trans bm);refine (ok_lenSl Fx.sl23 dk (gp trivial) ?_);exact fL Z
    ·intro _ _ _ _ dl _;obtain ⟨_,gq,_,_,_,gr,_⟩:=dl;refine (ok_eql (a:=(k:Int)+1) (b:=(ms.length:Int)) (gq trivial) (gr trivial) ?_);exact fL Z
    ·intro _ _ _ _ dm _;obtain ⟨_,_,_,_,_,_,gt,_⟩:=dm;refine (ok_move (v:=.bool (decide (((k:Int)+1)=(ms.length:Int)))) (gt trivial) ?_);exact fL Z
    ·intro _ _ _ dn dp dq;obtain ⟨_,_,_,_,_,_,_,gu,_⟩:=dp;have hr:=bool_np (gu trivial) dq;refine (ok_fieldAddr Fx.fld92_0 (Et (dn 4 Z) ay) ?_);exact fL Z
    ·intro _ _ _ _ dr ds;obtain ⟨_,_,_,_,_,_,_,gv,gw,_⟩:=dr;have dt:=gv trivial;have du:=bool_np dt ds;refine (ok_fieldAddr Fx.fld26_3 (gw (bool_f dt du)) ?_);exact fL Z
    ·intro _ _ bn _ dv dw;obtain ⟨_,_,_,_,_,_,_,gx,_,gy,_⟩:=dv;have dx:=gx trivial;have dz:=bool_np dx dw;refine (ok_load (v:=msv) (gy (bool_f dx dz)) (Rd.one Fx.ty23 (bn.keep ((ae _ a0).trans (ac.keep au Z)) Z) Z) ?_);exact fL Z
    ·intro _ _ _ d0 d1 d2;obtain ⟨_,_,_,_,_,_,_,gz,_⟩:=d1;have hs:=bool_np (gz trivial) d2;refine (ok_move (v:=.int .i64 (k:Int)) (Et (d0 10 Z) Z) ?_);exact fL Z
    ·intro _ _ _ _ d3 d4;obtain ⟨_,_,_,_,_,_,_,g0,g1,_⟩:=d3;have d5:=g0 trivial;have d6:=bool_np d5 d4;refine (ok_add (a:=(k:Int)) (b:=1) (g1 (bool_f d5 d6)) Z (by omega) ?_);exact fL Z
    ·intro _ _ bo _ d7 d8;obtain ⟨_,_,_,_,_,_,_,g2,_,_,g3,_,g4,_⟩:=d7;have bp:=g2 trivial;have a6:=bool_np bp d8;have d9:(0:Int)≤(k:Int)+1:=by omega
     have ea:(k:Int)+1<((ms.length:Nat):Int):=by omega
     refine (ok_indexS0 Fx.esz23 hms (g3 (bool_f bp a6)) (g4 (bool_f bp a6)) d9 ea fun eb ax ec=>?_);have ed:Elem _ eb ax 5 (eMove (ms.getD (k+1) Move.z)):=Elem.getD Move.z ec;have ee:=ed.le (((al.trans ac).upd (Ln al ai) ae).trans bo);exact fL ⟨eb,ax,Z,ee⟩
    ·intro _ _ _ _ ef eg;obtain ⟨_,_,_,_,_,_,_,g5,_,_,_,_,_,g6,_⟩:=ef;have eh:=g5 trivial;have ei:=bool_np eh eg;obtain ⟨g7,bq,g8,g9⟩:=g6 (bool_f eh ei);refine (ok_fieldAddr Fx.fld41_2 g8 ?_);exact fL ⟨g7,bq,Z,g9⟩
    ·intro _ _ _ _ ej ek;obtain ⟨_,_,_,_,_,_,_,ha,_,_,_,_,_,_,hb,_⟩:=ej;have el:=ha trivial;have em:=bool_np el ek;obtain ⟨_,_,hc,hd⟩:=hb (bool_f el em);refine (ok_load (v:=.int .i64 ((ms.getD (k+1) Move.z).day)) hc (rd_one (o:=2) Fx.ty3 hd Z) ?_);exact fL Z
    ·intro _ _ _ en eo ep;obtain ⟨_,_,_,_,_,_,_,he,_⟩:=eo;have ht:=bool_np (he trivial) ep;refine (ok_fieldAddr Fx.fld41_2 (Et (en 11 Z) Z) ?_);exact fL Z
    ·intro _ _ br _ eq er;obtain ⟨_,_,_,_,_,_,_,hf,hg,_⟩:=eq;have es:=hf trivial;have et:=bool_np es er;refine (ok_load (v:=.int .i64 ((ms.getD k Move.z).day)) (hg (bool_f es et)) (Rd.one Fx.ty3 (br.keep av Z) Z) ?_);exact fL Z
    ·intro _ _ ap ab eu;obtain ⟨_,_,_,_,_,_,_,hh,_,_,_,_,_,_,_,hi,_,hj,_⟩:=eu;have ar:=hh trivial;refine trL_case (p:=((k:Int)+1)=(ms.length:Int)) ?_ ?_
     ·intro ak;refine Gs 7 52 (bool_t ar ak) Z ?_;refine Pk true (.bool true) Z (bool_t ar ak) Z ?_;refine Nl ?_;refine tr_true Z ?_;refine Rg ?_;refine Mv (.int .i64 low) Z (Et (ab 9 Z) a4) ?_;refine Mv (.int .i64 n) Z (Et (ab 8 Z) a3) ?_;refine Pl Z (ok_min (a:=low) (b:=n) Z Z ?_);refine As (.int .i64 (min low n)) Z Z ?_;refine Nl (Rg ?_);refine Ad (k:Int) 1 Z (Et (ab 21 Z) az) Z (by omega) ?_;refine Mv (.int .i64 ((k:Int)+1)) Z Z ?_;refine Nl ?_;have ev:=((an.trans ac).upd (Ln an ai) ae).trans ap;exact ⟨_,by omega,k+1,n,min low n,Z,(by omega),(by omega),(by rw [←hrun,stockRun_next (ms:=ms) (k:=k) (dy:=dy) (by omega) ‹_›];unfold nNext lowNext;repeat (first | rw [if_neg ‹_›] | rw [if_pos (.inl ‹_›)])),Z,ev,(Et (ab 2 Z) a8),(Et (ab 3 Z) a9),(Et (ab 4 Z) ay),(Et (ab 5 Z) ba),(Et (ab 19 Z) bb),(Et (ab 20 Z) bc),(Et (ab 8 Z) a3),Z,Z⟩
     ·intro ak;refine Gg 7 52 (bool_f ar ak) Z (ok_gtr (a:=(ms.getD (k+1) Move.z).day) (b:=(ms.getD k Move.z).day) (hi (bool_f ar ak)) (hj (bool_f ar ak)) ?_);refine Pk false (.bool (decide (((ms.getD k Move.z).day)<((ms.getD (k+1) Move.z).day)))) Z (bool_f ar ak) Z ?_;refine Nl ?_;refine tr_if (p:=((ms.getD k Move.z).day)<((ms.getD (k+1) Move.z).day)) Z (fun ew=>?_) (fun ew=>?_)
      ·refine Rg ?_;refine Mv (.int .i64 low) Z (Et (ab 9 Z) a4) ?_;refine Mv (.int .i64 n) Z (Et (ab 8 Z) a3) ?_;refine Pl Z (ok_min (a:=low) (b:=n) Z Z ?_);refine As (.int .i64 (min low n)) Z Z ?_;refine Nl (Rg ?_);refine Ad (k:Int) 1 Z (Et (ab 21 Z) az) Z (by omega) ?_;refine Mv (.int .i64 ((k:Int)+1)) Z Z ?_;refine Nl ?_;have ex:=((an.trans ac).upd (Ln an ai) ae).trans ap;exact ⟨_,by omega,k+1,n,min low n,Z,(by omega),(by omega),(by rw [←hrun,stockRun_next (ms:=ms) (k:=k) (dy:=dy) (by omega) ‹_›];unfold nNext lowNext;repeat (first | rw [if_neg ‹_›] | rw [if_pos (.inr ‹_›)])),Z,ex,(Et (ab 2 Z) a8),(Et (ab 3 Z) a9),(Et (ab 4 Z) ay),(Et (ab 5 Z) ba),(Et (ab 19 Z) bb),(Et (ab 20 Z) bc),(Et (ab 8 Z) a3),Z,Z⟩
      ·refine Sk (Rg ?_);refine Ad (k:Int) 1 Z (Et (ab 21 Z) az) Z (by omega) ?_;refine Mv (.int .i64 ((k:Int)+1)) Z Z ?_;refine Nl ?_;exact ⟨_,by omega,k+1,n,low,rfl,(by omega),(by omega),(by rw [←hrun,stockRun_next (ms:=ms) (k:=k) (dy:=dy) (by omega) ‹_›];unfold nNext lowNext;repeat (first | rw [if_neg ‹_›] | rw [if_neg (by rintro (q | q) <;> contradiction)])),rfl,(((an.trans ac).upd (Ln an ai) ae).trans ap),(Et (ab 2 rfl) a8),(Et (ab 3 rfl) a9),(Et (ab 4 rfl) ay),(Et (ab 5 rfl) ba),(Et (ab 19 rfl) bb),(Et (ab 20 rfl) bc),(Et (ab 8 rfl) a3),(Et (ab 9 rfl) a4),(Et (b:=(.int .i64 ((k:Int)+1):Value)) rfl (by rfl))⟩
 ·refine Xt (Sq (Rg ?_));refine Mv (.int .i64 n) Z a3 ?_;refine Mv (.int .i64 low) Z a4 ?_;refine As (.int .i64 n) Z Z ?_;refine As (.int .i64 low) Z Z ?_;refine Nl (Rt ?_);refine ⟨.inr Z,outs2 Z (v:=.int .i64 n) (v':=.int .i64 low) Z Z ?_⟩;exact ⟨(by (rw [stockOf,←hrun,stockRun_end (ms:=ms) (k:=k) ‹_›];done)),(a7.trans an)⟩
end Go.Ns
namespace Go.Ns
open Go.Conc Go.Proofs
attribute [local irreducible] OpK TrL Tr CallK ValK RoundK
theorem agrees1_spec {W:Wk Tryd.prog} {h:GH} (c:Count) (d:Int) (m:Int) (gs:List Good) (gsv:Value) (ms:List Move) (msv:Value) (cs:List Count) (csv:Value) (r:Nat) (p:Past) (rp:Nat) (hgs:SlIs h gsv 5 eGood gs) (hms:SlIs h msv 5 eMove ms) (hcs:SlIs h csv 4 eCount cs) (hr:Elem h r 0 5 #[.int .i64 d,.int .i64 m,gsv,msv,csv]) (hrp:Elem h rp 0 15 (ePast p)) (hG:Glob h) (hc0:0≤c.good) (hc1:c.good<3) (hp:PastOK p) (hml:ms.length≤6) (hkind:∀k,0≤(ms.getD k Move.z).kind∧(ms.getD k Move.z).kind≤4):CallK W 91 #[.agg #[.int .i64 c.good,.int .i64 c.day,.int .i64 c.low,.int .i64 c.high],.pointer (some ⟨r,0,none⟩),.pointer (some ⟨rp,0,none⟩)] h (fun v h'=>v=(.bool (decide (¬(c.low≤(stockOf ms p c.good c.day).1∧(stockOf ms p c.good c.day).1≤c.high))):Value)∧h.Le h'):=by
 have ad:=hgs.len;have ae:=hms.len;have af:=hcs.len;refine call_of_tr Tryd.func91 Z (Nb Z) ?_;refine Sq (Rg ?_);refine Pl Z (ok_box' (v:=.agg #[.int .i64 c.good,.int .i64 c.day,.int .i64 c.low,.int .i64 c.high]) (c:=#[.int .i64 c.good,.int .i64 c.day,.int .i64 c.low,.int .i64 c.high]) Z Z fun _ _ _ aa ag _=>?_);refine As (.bool false) Z Z ?_;refine Nl (Sq (Rg ?_));refine Ld (.agg #[.int .i64 d,.int .i64 m,gsv,msv,csv]) Z Z (rd_agg0 Fx.ty92 (hr.le aa)) ?_;refine Ld (.agg (ePast p)) Z Z (rd_agg0 Fx.ty87 (hrp.le aa)) ?_;refine Fa Fx.fld71_0 Z Z ?_;refine Ld (.int .i64 c.good) Z Z (Rd.one Fx.ty3 ag Z) ?_;refine Fa Fx.fld71_1 Z Z ?_;refine Ld (.int .i64 c.day) Z Z (Rd.one Fx.ty3 ag Z) ?_;refine Pl Z (ok_call4 Tryd.func40 Fx.call40 Z Z Z Z ((stock_spec d m gs gsv ms msv cs csv p c.good c.day (hgs.le aa) (hms.le aa) (hcs.le aa) (hG.le aa) (by omega) (by omega) (by omega) (by omega) (by omega)).mono fun _ _ ah=>?_));obtain ⟨rfl,ab⟩:=ah;refine Mv (.tuple #[.int .i64 ((stockOf ms p c.good c.day).1),.int .i64 ((stockOf ms p c.good c.day).2)]) Z Z ?_;refine Pl Z (ok_extract (vs:=#[.int .i64 ((stockOf ms p c.good c.day).1),.int .i64 ((stockOf ms p c.good c.day).2)]) (v:=.int .i64 ((stockOf ms p c.good c.day).1)) Z Z ?_);refine Pl Z (ok_extract (vs:=#[.int .i64 ((stockOf ms p c.good c.day).1),.int .i64 ((stockOf ms p c.good c.day).2)]) (v:=.int .i64 ((stockOf ms p c.good c.day).2)) Z Z ?_);refine As (.int .i64 ((stockOf ms p c.good c.day).1)) Z Z ?_;refine As (.int .i64 ((stockOf ms p c.good c.day).2)) Z Z ?_;refine Nl (Sq (Rg ?_));refine Mv (.int .i64 ((stockOf ms p c.good c.day).1)) Z Z ?_;refine Fa Fx.fld71_2 Z Z ?_;refine Fa Fx.fld39_0 Z Z ?_;have ac:=ab.keep ag Z;refine Ld (.int .i64 c.low) Z Z (Rd.one Fx.ty3 ac Z) ?_;refine Fa Fx.fld71_2 Z Z ?_;refine Fa Fx.fld39_1 Z Z ?_;refine Ld (.int .i64 c.high) Z Z (Rd.one Fx.ty3 ac Z) ?_;refine Pl Z (ok_call3 Tryd.func46 Fx.call46 Z Z Z ((inside_spec ((stockOf ms p c.good c.day).1) c.low c.high ).mono fun _ _ ai=>?_));obtain ⟨rfl,rfl⟩:=ai;refine Pl Z (ok_notp (p:=c.low≤((stockOf ms p c.good c.day).1)∧((stockOf ms p c.good c.day).1)≤c.high) Z ?_);refine As (.bool (decide (¬(c.low≤((stockOf ms p c.good c.day).1)∧((stockOf ms p c.good c.day).1)≤c.high)))) Z Z ?_;refine Nl (Rt ?_);refine ⟨.inr Z,outs1 Z (v:=.bool (decide (¬(c.low≤((stockOf ms p c.good c.day).1)∧((stockOf ms p c.good c.day).1)≤c.high)))) Z ?_⟩;exact ⟨(by rfl),(aa.trans ab)⟩
theorem agrees_spec {W:Wk Tryd.prog} {h:GH} (d:Int) (m:Int) (gs:List Good) (gsv:Value) (ms:List Move) (msv:Value) (cs:List Count) (csv:Value) (p:Past) (hgs:SlIs h gsv 5 eGood gs) (hms:SlIs h msv 5 eMove ms) (hcs:SlIs h csv 4 eCount cs) (hG:Glob h) (hp:PastOK p) (hml:ms.length≤6) (hkind:∀k,0≤(ms.getD k Move.z).kind∧(ms.getD k Move.z).kind≤4) (hgl:gs.length≤3) (hcg:∀x ∈ cs,0≤x.good∧x.good<3):CallK W 81 #[.agg #[.int .i64 d,.int .i64 m,gsv,msv,csv],.agg (ePast p)] h (fun v h'=>v=(.bool (agreesB d gs.length ms cs p):Value)∧h.Le h'):=by
 have ao:=hgs.len;have ap:=hms.len;have aq:=hcs.len;refine call_of_tr Tryd.func81 Z (Nb Z) ?_;refine Sq (Rg ?_);refine Pl Z (ok_box' (v:=.agg #[.int .i64 d,.int .i64 m,gsv,msv,csv]) (c:=#[.int .i64 d,.int .i64 m,gsv,msv,csv]) Z Z fun r4 _ _ ar a3 _=>?_);refine Pl Z (ok_box' (v:=.agg (ePast p)) (c:=ePast p) Z Z fun an a4 _ ac ai _=>?_);refine As (.bool false) Z Z ?_;refine Nl (Sq (Sq (Rg ?_)));refine Fa Fx.fld92_0 Z Z ?_;refine Fa Fx.fld26_2 Z Z ?_;have ae:=ac.keep a3 Z;refine Ld gsv Z Z (Rd.one Fx.ty22 ae Z) ?_;have af:=ar.trans ac;refine Pl Z (ok_lenSl Fx.sl22 (hgs.le af) Z ?_);refine Mv (.int .i64 0) Z Z ?_;refine Nl (Bk ?_);refine tr_loop (fun nn σ' ds' h'=>∃(k:Nat),nn=gs.length-k∧(k≤gs.length)∧(∀j,j<k→¬(stockOf ms p (j:Int) d).2<0)∧ds'=[]∧GH.Le a4 h'∧σ' 2=.pointer (some ⟨r4,0,none⟩)∧σ' 3=.pointer (some ⟨an,0,none⟩)∧σ' 11=.int .i64 (gs.length:Int)∧σ' 12=.int .i64 (k:Int)) ⟨0,Z,(by omega),(by (intro j hj;omega)),Z,Lr,Z,Z,Z,Z⟩ (fun nn _ _ a5 au=>?_);obtain ⟨k,rfl,hk,hs,a6,ag,aj,av,a2,aw⟩:=au;subst a6;refine Sq (Rg ?_);refine Pl Z (ok_lss (a:=(k:Int)) (b:=(gs.length:Int)) aw a2 ?_);refine Nl (Sq ?_);refine tr_if (p:=(k:Int)<(gs.length:Int)) Z (fun ax=>?_) (fun ax=>?_)
 ·refine Sk (Sq (Bk (Sq (Rg ?_))));refine Mv (.int .i64 (k:Int)) Z aw ?_;refine As (.int .i64 (k:Int)) Z Z ?_;refine Nl (Sq (Rg ?_));have ak:=ag.keep ae Z;refine Ld (.agg #[.int .i64 d,.int .i64 m,gsv,msv,csv]) Z aj (rd_agg0 Fx.ty92 (Bx ak Z)) ?_;refine Ld (.agg (ePast p)) Z av (rd_agg0 Fx.ty87 (Bx (ag.keep ai Z) Z)) ?_;refine Mv (.int .i64 (k:Int)) Z Z ?_;refine Fa Fx.fld92_0 Z aj ?_;refine Fa Fx.fld26_0 Z Z ?_;refine Ld (.int .i64 d) Z Z (Rd.one Fx.ty3 ak Z) ?_;have aa:=af.trans ag;refine Pl Z (ok_call4 Tryd.func40 Fx.call40 Z Z Z Z ((stock_spec d m gs gsv ms msv cs csv p (k:Int) d (hgs.le aa) (hms.le aa) (hcs.le aa) (hG.le aa) (by omega) (by omega) (by omega) (by omega) (by omega)).mono fun _ _ ay=>?_));obtain ⟨rfl,ad⟩:=ay;refine Mv (.tuple #[.int .i64 ((stockOf ms p (k:Int) d).1),.int .i64 ((stockOf ms p (k:Int) d).2)]) Z Z ?_;refine Pl Z (ok_extract (vs:=#[.int .i64 ((stockOf ms p (k:Int) d).1),.int .i64 ((stockOf ms p (k:Int) d).2)]) (v:=.int .i64 ((stockOf ms p (k:Int) d).1)) Z Z ?_);refine Pl Z (ok_extract (vs:=#[.int .i64 ((stockOf ms p (k:Int) d).1),.int .i64 ((stockOf ms p (k:Int) d).2)]) (v:=.int .i64 ((stockOf ms p (k:Int) d).2)) Z Z ?_);refine As (.int .i64 ((stockOf ms p (k:Int) d).1)) Z Z ?_;refine As (.int .i64 ((stockOf ms p (k:Int) d).2)) Z Z ?_;refine Nl (Sq (Rg ?_));refine Mv (.int .i64 ((stockOf ms p (k:Int) d).2)) Z Z ?_;refine Pl Z (ok_lss (a:=(stockOf ms p (k:Int) d).2) (b:=0) Z Z ?_);refine Nl ?_;refine tr_if (p:=((stockOf ms p (k:Int) d).2)<0) Z (fun az=>?_) (fun az=>?_)
  ·refine Sq (Rg ?_);refine As (.bool false) Z Z ?_;refine Nl (Rt ?_);refine ⟨.inr Z,outs1 Z (v:=.bool false) Z ?_⟩;exact ⟨(by (symm;congr 1;exact agreesB_no (k:=k) (by omega) ‹_›)),(aa.trans ad)⟩
  ·refine Sk (Rg ?_);refine Ad (k:Int) 1 Z aw Z (by omega) ?_;refine Mv (.int .i64 ((k:Int)+1)) Z Z ?_;refine Nl ?_;exact ⟨_,by omega,k+1,Z,(by omega),(by exact allP_next hs ‹_›),Z,(ag.trans ad),aj,av,a2,Z⟩
 ·refine Xt (Sq (Rg ?_));refine Fa Fx.fld92_0 Z aj ?_;refine Fa Fx.fld26_4 Z Z ?_;have al:=ag.keep ae Z;refine Ld csv Z Z (Rd.one Fx.ty24 al Z) ?_;refine Pl Z (ok_makeFunc2 aj av ?_);have ah:=af.trans ag;have a0:∀x ∈ cs,∀h1,GH.Le a5 h1→ValK W (.func (.func 91) #[] #[.pointer (some ⟨r4,0,none⟩),.pointer (some ⟨an,0,none⟩)]) #[.agg #[.int .i64 x.good,.int .i64 x.day,.int .i64 x.low,.int .i64 x.high]] h1 fun v h2=>v=.bool ((fun x=>decide (¬(x.low≤(stockOf ms p x.good x.day).1∧(stockOf ms p x.good x.day).1≤x.high))) x)∧h1.Le h2:=by
   intro x hx h1 l1;have hcx:=hcg x hx;have ab:=ah.trans l1;exact valK_func Tryd.func91 Fx.call91 Z ((agrees1_spec x d m gs gsv ms msv cs csv r4 p an (hgs.le ab) (hms.le ab) (hcs.le ab) (Bx (l1.keep al Z) Z) (Bx (l1.keep (ag.keep ai Z) Z) Z) (hG.le ab) (by omega) (by omega) (by omega) (by omega) (by omega)).mono fun v h2 hp=>⟨hp.1,hp.2⟩)
  refine Pl Z (ok_call2 Tryd.func90 Fx.call90 Z Z ((containsCount_spec cs csv (.func (.func 91) #[] #[.pointer (some ⟨r4,0,none⟩),.pointer (some ⟨an,0,none⟩)]) (fun x=>decide (¬(x.low≤(stockOf ms p x.good x.day).1∧(stockOf ms p x.good x.day).1≤x.high))) (hcs.le ah) a0).mono fun _ _ a1=>?_));obtain ⟨rfl,am⟩:=a1;refine Pl Z (ok_not (b:=cs.any (fun x=>decide (¬(x.low≤(stockOf ms p x.good x.day).1∧(stockOf ms p x.good x.day).1≤x.high)))) Z ?_);refine As (.bool (!(cs.any (fun x=>decide (¬(x.low≤(stockOf ms p x.good x.day).1∧(stockOf ms p x.good x.day).1≤x.high)))))) Z Z ?_;refine Nl (Rt ?_);refine ⟨.inr Z,outs1 Z (v:=.bool (!(cs.any (fun x=>decide (¬(x.low≤(stockOf ms p x.good x.day).1∧(stockOf ms p x.good x.day).1≤x.high)))))) Z ?_⟩;exact ⟨(by (symm;congr 1;exact agreesB_end (k:=k) (by omega) hs)),(ah.trans am)⟩
end Go.Ns
namespace Go.Ns
open Go.Conc Go.Proofs
attribute [local irreducible] OpK TrL Tr CallK ValK RoundK
theorem handed_spec {W:Wk Tryd.prog} {h:GH} (d:Int) (m:Int) (gs:List Good) (gsv:Value) (ms:List Move) (msv:Value) (cs:List Count) (csv:Value) (f:List Int) (fv:Value) (y:List Int) (yv:Value) (l:List Int) (lv:Value) (hgs:SlIs h gsv 5 eGood gs) (hms:SlIs h msv 5 eMove ms) (hcs:SlIs h csv 4 eCount cs) (hf:SlIs h fv 1 eI f) (hy:SlIs h yv 1 eI y) (hl:SlIs h lv 1 eI l) (hG:Glob h) (hnm:∀k,(gs.getD k Good.z).name.size≤1000):CallK W 39 #[.agg #[.int .i64 d,.int .i64 m,gsv,msv,csv],fv,yv,lv] h (fun v h'=>v=(.tuple #[.agg (ePast (handedP d m gs ms cs f y l)),.int .i64 (handedBell d m gs ms cs f y l)]:Value)∧h.Le h'):=by
 have br:=hgs.len;have bs:=hms.len;have bt:=hcs.len;have bu:=hf.len;have bv:=hy.len;have bw:=hl.len;refine call_of_tr Tryd.func39 Z (Nb Z) ?_;refine Sq (Rg ?_);refine Pl Z (ok_box' (v:=.agg #[.int .i64 d,.int .i64 m,gsv,msv,csv]) (c:=#[.int .i64 d,.int .i64 m,gsv,msv,csv]) Z Z fun r7 _ _ aa bx _=>?_);refine Pl Z (ok_alloc' Fx.zero87 fun ck cm ah ag bz _=>?_);have al:cm ck=some (true,.cells (ePast Past.zero) 87 (0,0)):=bz;refine As (.int .i64 0) Z Z ?_;refine Nl (Sq (Sq (Rg ?_)));have aw:=ag.keep bx Z;refine Ld (.agg #[.int .i64 d,.int .i64 m,gsv,msv,csv]) Z Z (rd_agg0 Fx.ty26 (Bx aw Z)) ?_;have ai:=aa.trans ag;refine Pl Z (ok_call1 Tryd.func56 Fx.call56 Z ((checkBook_spec d m gs gsv ms msv cs csv (hgs.le ai) (hms.le ai) (hcs.le ai) (hG.le ai) (by omega)).mono fun _ _ b0=>?_));obtain ⟨rfl,ab⟩:=b0;refine As (.int .i64 (bookBell d m gs ms cs)) Z Z ?_;refine Nl (Sq (Rg ?_));refine Mv (.int .i64 (bookBell d m gs ms cs)) Z Z ?_;refine Pl Z (ok_neq (a:=bookBell d m gs ms cs) (b:=0) Z Z ?_);refine Nl ?_;refine tr_if (p:=¬(bookBell d m gs ms cs)=0) Z (fun ax=>?_) (fun ax=>?_)
 ·refine Sq (Rg ?_);refine Pl Z (ok_build (cells:=#[.int .i64 0,.int .i64 0,.int .i64 0,.int .i64 0,.int .i64 0,.int .i64 0,.int .i64 0,.int .i64 0,.int .i64 0,.bool false,.bool false,.bool false,.bool false,.bool false,.bool false]) Fx.pl87 Fx.zero87 (by kernel_rfl) ?_);refine Mv (.int .i64 (bookBell d m gs ms cs)) Z Z ?_;refine Pl Z (ok_store' (v:=.agg #[.int .i64 0,.int .i64 0,.int .i64 0,.int .i64 0,.int .i64 0,.int .i64 0,.int .i64 0,.int .i64 0,.int .i64 0,.bool false,.bool false,.bool false,.bool false,.bool false,.bool false]) (c':=ePast Past.zero) Fx.ty87 Z Z (ab.keep al Z) Z Z (Nb Z) Z fun _ b1 b2=>?_);refine As (.int .i64 (bookBell d m gs ms cs)) Z Z ?_;refine Nl (Rt ?_);refine ⟨.inr Z,outsC2 Z (v:=.agg (ePast Past.zero)) (v':=.int .i64 (bookBell d m gs ms cs)) Z (rd_agg0 Fx.ty87 (Bx b1 Z)) Z ?_⟩;exact ⟨(by exact handed_bad (handedBell_1 ‹_›) ‹_›),((ai.trans ab).upd (Ln aa ah) b2)⟩
 ·have hbk:=bookOK (Dn ax);have hgl:=hbk.glen;have hml:=hbk.mlen;have hcl:=hbk.clen;have hdy:=hbk.days;have hmo:=hbk.most;have hkind:=hbk.kind;refine Sk (Sq (Sq (Rg ?_)));refine Mv fv Z Z ?_;refine Fa Fx.fld26_2 Z Z ?_;have ay:=ab.keep aw Z;refine Ld gsv Z Z (Rd.one Fx.ty22 ay Z) ?_;have am:=ai.trans ab;refine Pl Z (ok_lenSl Fx.sl22 (hgs.le am) Z ?_);refine Pl Z (ok_call2 Tryd.func73 Fx.call73 Z Z ((numbers_spec f fv (gs.length:Int) (hf.le am) ).mono fun _ _ b3=>?_));obtain ⟨rfl,ae⟩:=b3;refine As (.int .i64 (numsBell f (gs.length:Int))) Z Z ?_;refine Nl (Sq (Rg ?_));refine Mv (.int .i64 (numsBell f (gs.length:Int))) Z Z ?_;refine Pl Z (ok_neq (a:=numsBell f (gs.length:Int)) (b:=0) Z Z ?_);refine Nl ?_;refine tr_if (p:=¬(numsBell f (gs.length:Int))=0) Z (fun az=>?_) (fun az=>?_)
  ·refine Sq (Rg ?_);refine Pl Z (ok_build (cells:=#[.int .i64 0,.int .i64 0,.int .i64 0,.int .i64 0,.int .i64 0,.int .i64 0,.int .i64 0,.int .i64 0,.int .i64 0,.bool false,.bool false,.bool false,.bool false,.bool false,.bool false]) Fx.pl87 Fx.zero87 (by kernel_rfl) ?_);refine Mv (.int .i64 (numsBell f (gs.length:Int))) Z Z ?_;refine Pl Z (ok_store' (v:=.agg #[.int .i64 0,.int .i64 0,.int .i64 0,.int .i64 0,.int .i64 0,.int .i64 0,.int .i64 0,.int .i64 0,.int .i64 0,.bool false,.bool false,.bool false,.bool false,.bool false,.bool false]) (c':=ePast Past.zero) Fx.ty87 Z Z (ae.keep (ab.keep al Z) Z) Z Z (Nb Z) Z fun _ b4 b5=>?_);refine As (.int .i64 (numsBell f (gs.length:Int))) Z Z ?_;refine Nl (Rt ?_);refine ⟨.inr Z,outsC2 Z (v:=.agg (ePast Past.zero)) (v':=.int .i64 (numsBell f (gs.length:Int))) Z (rd_agg0 Fx.ty87 (Bx b4 Z)) Z ?_⟩;exact ⟨(by exact handed_bad (handedBell_2 ‹_› ‹_›) ‹_›),((am.trans ae).upd (Ln aa ah) b5)⟩
  ·obtain ⟨_,hnb51_⟩:=numsBell_ok (Dn az);refine Sk (Sq (Sq (Rg ?_)));refine Mv yv Z Z ?_;refine Fa Fx.fld26_3 Z Z ?_;have a0:=ae.keep ay Z;refine Ld msv Z Z (Rd.one Fx.ty23 a0 Z) ?_;have aj:=am.trans ae;refine Pl Z (ok_lenSl Fx.sl23 (hms.le aj) Z ?_);refine Pl Z (ok_call2 Tryd.func73 Fx.call73 Z Z ((numbers_spec y yv (ms.length:Int) (hy.le aj) ).mono fun _ cn b6=>?_));obtain ⟨rfl,ac⟩:=b6;refine As (.int .i64 (numsBell y (ms.length:Int))) Z Z ?_;refine Nl (Sq (Rg ?_));refine Mv (.int .i64 (numsBell y (ms.length:Int))) Z Z ?_;refine Pl Z (ok_neq (a:=numsBell y (ms.length:Int)) (b:=0) Z Z ?_);refine Nl ?_;refine tr_if (p:=¬(numsBell y (ms.length:Int))=0) Z (fun a1=>?_) (fun a1=>?_)
   ·refine Sq (Rg ?_);refine Pl Z (ok_build (cells:=#[.int .i64 0,.int .i64 0,.int .i64 0,.int .i64 0,.int .i64 0,.int .i64 0,.int .i64 0,.int .i64 0,.int .i64 0,.bool false,.bool false,.bool false,.bool false,.bool false,.bool false]) Fx.pl87 Fx.zero87 (by kernel_rfl) ?_);refine Mv (.int .i64 (numsBell y (ms.length:Int))) Z Z ?_;refine Pl Z (ok_store' (v:=.agg #[.int .i64 0,.int .i64 0,.int .i64 0,.int .i64 0,.int .i64 0,.int .i64 0,.int .i64 0,.int .i64 0,.int .i64 0,.bool false,.bool false,.bool false,.bool false,.bool false,.bool false]) (c':=ePast Past.zero) Fx.ty87 Z Z (ac.keep (ae.keep (ab.keep al Z) Z) Z) Z Z (Nb Z) Z fun _ b7 b8=>?_);refine As (.int .i64 (numsBell y (ms.length:Int))) Z Z ?_;refine Nl (Rt ?_);refine ⟨.inr Z,outsC2 Z (v:=.agg (ePast Past.zero)) (v':=.int .i64 (numsBell y (ms.length:Int))) Z (rd_agg0 Fx.ty87 (Bx b7 Z)) Z ?_⟩;exact ⟨(by exact handed_bad (handedBell_3 ‹_› ‹_› ‹_›) ‹_›),((aj.trans ac).upd (Ln aa ah) b8)⟩
   ·obtain ⟨_,hnb66_⟩:=numsBell_ok (Dn a1);refine Sk (Sq (Rg ?_));have ap:=(ac.keep (ae.keep (ab.keep al Z) Z) Z);refine Pl Z (ok_alloc' Fx.zero87 fun b9 co ak an ca _=>?_);have cb:co b9=some (true,.cells (ePast Past.zero) 87 (0,0)):=ca;refine Nl (Sq (Rg ?_));refine Fa Fx.fld87_0 Z Z ?_;refine Pl Z (ok_sliceArr Fx.asz83 Z ?_);refine Mv fv Z Z ?_;have a2:=(aj.trans ac).trans an;refine Pl Z (ok_copy' (enc:=eI) (ys:=f) (c':=ePast (Past.zero.setFirsts f)) Fx.esz30 Z Z cb (Nb Z) (hf.le a2) (by omega) (by intro y hy;rfl) (by intro y hy;rfl) (ePast_setFirsts (by omega)) fun _ cc a3=>?_);refine Nl (Sq (Rg ?_));refine Fa Fx.fld87_1 Z Z ?_;refine Pl Z (ok_sliceArr Fx.asz84 Z ?_);refine Mv yv Z Z ?_;have a4:=a2.upd (Ln ((((aa.trans ag).trans ab).trans ae).trans ac) ak) a3;refine Pl Z (ok_copy' (enc:=eI) (ys:=y) (c':=ePast ((Past.zero.setFirsts f).setManys y)) Fx.esz30 Z Z cc (Nb Z) (hy.le a4) (by omega) (by intro y hy;rfl) (by intro y hy;rfl) (ePast_setManys (by omega)) fun _ cd a5=>?_);refine Nl (Sq (Rg ?_));refine As (.int .i64 (-1)) Z Z ?_;refine Nl (Sq (Sq (Rg ?_)));refine Mv lv Z Z ?_;have ce:=a4.upd (Ln ((((aa.trans ag).trans ab).trans ae).trans ac) ak) a5;refine Pl Z (ok_lenSl Fx.sl30 (hl.le ce) Z ?_);refine Mv (.int .i64 0) Z Z ?_;refine Nl (Bk ?_);have cf:=(an.upd (Ln Lr ak) a3).upd (Ln Lr ak) a5;refine tr_loop (fun nn σ' ds' h'=>∃(k:Nat),nn=l.length-k∧(k≤l.length)∧(∀j,j<k→lieAt ms l j=0)∧ds'=[]∧GH.Le cn h'∧σ' 4=.pointer (some ⟨r7,0,none⟩)∧σ' 8=.pointer (some ⟨ck,0,none⟩)∧σ' 13=.pointer (some ⟨b9,0,none⟩)∧σ' 49=lv∧σ' 50=.int .i64 (l.length:Int)∧σ' 14=.int .i64 (lastLie l k)∧σ' 51=.int .i64 (k:Int)∧h' b9=some (true,.cells (ePast (liesTo ((Past.zero.setFirsts f).setManys y) l k)) 87 (0,0))) ⟨0,Z,(by omega),(by (intro j hj;omega)),Z,cf,Z,Z,Z,Z,Z,Z,Z,(by have e:(ePast (liesTo ((Past.zero.setFirsts f).setManys y) l 0):Array Value)=ePast ((Past.zero.setFirsts f).setManys y):=(by rfl);rw [e];exact cd)⟩ (fun nn _ _ _ cg=>?_);obtain ⟨k,rfl,hk,hs,cp,aq,cl,ar,ch,a6,a7,ci,au,a8⟩:=cg;subst cp;refine Sq (Rg ?_);refine Pl Z (ok_lss (a:=(k:Int)) (b:=(l.length:Int)) au a7 ?_);refine Nl (Sq ?_);refine tr_if (p:=(k:Int)<(l.length:Int)) Z (fun a9=>?_) (fun a9=>?_)
    ·refine Sk (Sq (Bk (Sq (Rg ?_))));have ba:(0:Int)≤(k:Int):=by omega
     have bb:(k:Int)<((l.length:Nat):Int):=by omega
     refine Pl Z (ok_indexS0 Fx.esz30 hl a6 au ba bb fun cj av bc=>?_);have bd:Elem _ cj av 1 (eI (l.getD k 0)):=Elem.getD 0 bc;have af:=(aj.trans ac).trans aq;refine Ld (.int .i64 (l.getD k 0)) Z Z (rd_one0 Fx.ty3 (bd.le af) Z) ?_;refine As (.int .i64 (l.getD k 0)) Z Z ?_;refine Nl (Sq (Bk (Sq (Rg ?_))));refine Ld (.agg #[.int .i64 d,.int .i64 m,gsv,msv,csv]) Z cl (rd_agg0 Fx.ty26 (Bx (aq.keep (ac.keep a0 Z) Z) Z)) ?_;refine Pl Z (ok_build (cells:=#[.int .i64 d,.int .i64 m,gsv,msv,csv]) Fx.pl92 Fx.zero92 (by kernel_rfl) ?_);refine Mv (.int .i64 (l.getD k 0)) Z Z ?_;refine Pl Z (ok_call2 Tryd.func57 Fx.call57 Z Z ((isNote_spec d m gs gsv ms msv cs csv (l.getD k 0) (hgs.le af) (hms.le af) (hcs.le af) ).mono fun _ _ be=>?_));obtain ⟨rfl,ad⟩:=be;refine Pl Z (ok_notp (p:=(0≤(l.getD k 0)∧(l.getD k 0)≤(ms.length:Int)-1)∧(ms.getD ((l.getD k 0)).toNat Move.z).kind=0) Z ?_);refine As (.bool (decide (¬((0≤(l.getD k 0)∧(l.getD k 0)≤(ms.length:Int)-1)∧(ms.getD ((l.getD k 0)).toNat Move.z).kind=0)))) Z Z ?_;refine Nl ?_;refine tr_if (p:=¬((0≤(l.getD k 0)∧(l.getD k 0)≤(ms.length:Int)-1)∧(ms.getD ((l.getD k 0)).toNat Move.z).kind=0)) Z (fun ao=>?_) (fun ao=>?_)
     ·refine Sq (Rg ?_);refine Pl Z (ok_build (cells:=#[.int .i64 0,.int .i64 0,.int .i64 0,.int .i64 0,.int .i64 0,.int .i64 0,.int .i64 0,.int .i64 0,.int .i64 0,.bool false,.bool false,.bool false,.bool false,.bool false,.bool false]) Fx.pl87 Fx.zero87 (by kernel_rfl) ?_);refine Pl Z (ok_store' (v:=.agg #[.int .i64 0,.int .i64 0,.int .i64 0,.int .i64 0,.int .i64 0,.int .i64 0,.int .i64 0,.int .i64 0,.int .i64 0,.bool false,.bool false,.bool false,.bool false,.bool false,.bool false]) (c':=ePast Past.zero) Fx.ty87 ar Z (ad.keep (aq.keep ap Z) Z) Z Z (Nb Z) Z fun _ bf bg=>?_);refine As (.int .i64 6) Z Z ?_;refine Nl (Rt ?_);refine ⟨.inr Z,outsC2 Z (v:=.agg (ePast Past.zero)) (v':=.int .i64 6) ar (rd_agg0 Fx.ty87 (Bx bf Z)) Z ?_⟩;exact ⟨(by exact handed_bad (handedBell_4 ‹_› ‹_› ‹_› (firstB_hit0 (k:=k) hs (by omega) (lieAt_6 ‹_›) (by decide))) (by decide)),((af.trans ad).upd (Ln aa ah) bg)⟩
     ·have hc122_:=Dn ao;refine Sq (Rg ?_);refine Mv (.int .i64 (l.getD k 0)) Z Z ?_;refine Mv (.int .i64 (lastLie l k)) Z ci ?_;refine Pl Z (ok_leq (a:=l.getD k 0) (b:=lastLie l k) Z Z ?_);refine As (.bool (decide ((l.getD k 0)≤(lastLie l k)))) Z Z ?_;refine Nl ?_;refine tr_if (p:=(l.getD k 0)≤(lastLie l k)) Z (fun bh=>?_) (fun bh=>?_)
      ·refine Sq (Rg ?_);refine Pl Z (ok_build (cells:=#[.int .i64 0,.int .i64 0,.int .i64 0,.int .i64 0,.int .i64 0,.int .i64 0,.int .i64 0,.int .i64 0,.int .i64 0,.bool false,.bool false,.bool false,.bool false,.bool false,.bool false]) Fx.pl87 Fx.zero87 (by kernel_rfl) ?_);refine Pl Z (ok_store' (v:=.agg #[.int .i64 0,.int .i64 0,.int .i64 0,.int .i64 0,.int .i64 0,.int .i64 0,.int .i64 0,.int .i64 0,.int .i64 0,.bool false,.bool false,.bool false,.bool false,.bool false,.bool false]) (c':=ePast Past.zero) Fx.ty87 ar Z (ad.keep (aq.keep ap Z) Z) Z Z (Nb Z) Z fun _ bi bj=>?_);refine As (.int .i64 7) Z Z ?_;refine Nl (Rt ?_);refine ⟨.inr Z,outsC2 Z (v:=.agg (ePast Past.zero)) (v':=.int .i64 7) ar (rd_agg0 Fx.ty87 (Bx bi Z)) Z ?_⟩;exact ⟨(by exact handed_bad (handedBell_4 ‹_› ‹_› ‹_› (firstB_hit0 (k:=k) hs (by omega) (lieAt_7 ‹_› ‹_›) (by decide))) (by decide)),((af.trans ad).upd (Ln aa ah) bj)⟩
      ·refine Sk (Rg ?_);refine Mv (.int .i64 (l.getD k 0)) Z Z ?_;refine Mv (.int .i64 (l.getD k 0)) Z Z ?_;refine Fa Fx.fld87_2 Z ch ?_;have bk:(0:Int)≤l.getD k 0:=by omega
       have bl:l.getD k 0<((6:Nat):Int):=by omega
       refine Pl Z (ok_indexArr Fx.asz85 Z Z bk bl ?_);refine Pl Z (ok_store' (v:=.bool true) (c':=ePast ((liesTo ((Past.zero.setFirsts f).setManys y) l k).setLie ((l.getD k 0).toNat) true)) Fx.ty4 Z Z (ad.keep a8 Z) Z Z (by show _≤15;omega) (ePast_setLie (i:=(l.getD k 0).toNat) (by omega)) fun _ bm bn=>?_);refine As (.int .i64 (l.getD k 0)) Z Z ?_;refine Nl (Rg ?_);refine Ad (k:Int) 1 Z au Z (by omega) ?_;refine Mv (.int .i64 ((k:Int)+1)) Z Z ?_;refine Nl ?_;exact ⟨_,by omega,k+1,Z,(by omega),(by exact allB_next hs (lieAt_0 ‹_› ‹_›)),Z,((aq.trans ad).upd (Ln Lr ak) bn),cl,ar,ch,a6,a7,Z,Z,(by have e:(ePast (liesTo ((Past.zero.setFirsts f).setManys y) l (k+1)):Array Value)=ePast ((liesTo ((Past.zero.setFirsts f).setManys y) l k).setLie ((l.getD k 0).toNat) true):=(by rw [liesTo_succ (by omega)]);rw [e];exact bm)⟩
    ·refine Xt (Sq (Rg ?_));refine Ld (.agg (ePast (liesTo ((Past.zero.setFirsts f).setManys y) l k))) Z ch (rd_agg0 Fx.ty87 (Bx a8 Z)) ?_;refine Pl Z (ok_store' (v:=.agg (ePast (liesTo ((Past.zero.setFirsts f).setManys y) l k))) (c':=ePast (liesTo ((Past.zero.setFirsts f).setManys y) l k)) Fx.ty87 ar Z (aq.keep ap Z) (ePast_size _) (ePast_fine _) (ePast_all _) (ePast_put _ _) fun _ bo bp=>?_);refine As (.int .i64 0) Z Z ?_;refine Nl (Rt ?_);have bq:=((aj.trans ac).trans aq).upd (Ln aa ah) bp;refine ⟨.inr Z,outsC2 Z (v:=.agg (ePast (liesTo ((Past.zero.setFirsts f).setManys y) l k))) (v':=.int .i64 0) ar (rd_agg0 Fx.ty87 (Bx bo Z)) Z ?_⟩;exact ⟨(by exact handed_good (handedBell_4 ‹_› ‹_› ‹_› (firstB_miss0 (k:=k) hs (by omega))) ‹_› hk),bq⟩
theorem play_spec {W:Wk Tryd.prog} {h:GH} (d:Int) (m:Int) (gs:List Good) (gsv:Value) (ms:List Move) (msv:Value) (cs:List Count) (csv:Value) (f:List Int) (fv:Value) (y:List Int) (yv:Value) (l:List Int) (lv:Value) (hgs:SlIs h gsv 5 eGood gs) (hms:SlIs h msv 5 eMove ms) (hcs:SlIs h csv 4 eCount cs) (hf:SlIs h fv 1 eI f) (hy:SlIs h yv 1 eI y) (hl:SlIs h lv 1 eI l) (hG:Glob h) (hnm:∀k,(gs.getD k Good.z).name.size≤1000):CallK W 13 #[.agg #[.int .i64 d,.int .i64 m,gsv,msv,csv],fv,yv,lv] h (fun v h'=>∃(w1:Value) (w2:Value),v=(.tuple #[w1,w2,.int .i64 (handedBell d m gs ms cs f y l)]:Value)∧SlIs h' w1 1 eI (playLeft d m gs ms cs f y l)∧SlIs h' w2 1 eI (playLow d m gs ms cs f y l)∧h.Le h'):=by
 have ba:=hgs.len;have bb:=hms.len;have bc:=hcs.len;have bd:=hf.len;have be:=hy.len;have bf:=hl.len;refine call_of_tr Tryd.func13 Z (Nb Z) ?_;refine Sq (Rg ?_);refine Pl Z (ok_box' (v:=.agg #[.int .i64 d,.int .i64 m,gsv,msv,csv]) (c:=#[.int .i64 d,.int .i64 m,gsv,msv,csv]) Z Z fun r7 _ _ aa ar _=>?_);refine As (.slice none 0 0) Z Z ?_;refine As (.slice none 0 0) Z Z ?_;refine As (.int .i64 0) Z Z ?_;refine Nl (Sq (Rg ?_));refine Ld (.agg #[.int .i64 d,.int .i64 m,gsv,msv,csv]) Z Z (rd_agg0 Fx.ty26 (Bx ar Z)) ?_;refine Mv fv Z Z ?_;refine Mv yv Z Z ?_;refine Mv lv Z Z ?_;refine Pl Z (ok_call4 Tryd.func39 Fx.call39 Z Z Z Z ((handed_spec d m gs gsv ms msv cs csv f fv y yv l lv (hgs.le aa) (hms.le aa) (hcs.le aa) (hf.le aa) (hy.le aa) (hl.le aa) (hG.le aa) (by omega)).mono fun _ _ bg=>?_));obtain ⟨rfl,ab⟩:=bg;refine Mv (.tuple #[.agg (ePast (handedP d m gs ms cs f y l)),.int .i64 (handedBell d m gs ms cs f y l)]) Z Z ?_;refine Pl Z (ok_extract (vs:=#[.agg (ePast (handedP d m gs ms cs f y l)),.int .i64 (handedBell d m gs ms cs f y l)]) (v:=.agg (ePast (handedP d m gs ms cs f y l))) Z Z ?_);refine Pl Z (ok_extract (vs:=#[.agg (ePast (handedP d m gs ms cs f y l)),.int .i64 (handedBell d m gs ms cs f y l)]) (v:=.int .i64 (handedBell d m gs ms cs f y l)) Z Z ?_);have au:=ab.keep ar Z;refine Pl Z (ok_alloc' Fx.zero87 fun bh b4 am ad bi _=>?_);have bj:b4 bh=some (true,.cells (ePast Past.zero) 87 (0,0)):=bi;have bk:r7≠bh:=Ne' au am;refine Pl Z (ok_store' (v:=.agg (ePast (handedP d m gs ms cs f y l))) (c':=ePast (handedP d m gs ms cs f y l)) Fx.ty87 Z Z bj (ePast_size _) (ePast_fine _) (ePast_all _) (ePast_put _ _) fun av bl an=>?_);refine As (.int .i64 (handedBell d m gs ms cs f y l)) Z Z ?_;refine Nl (Sq (Sq (Rg ?_)));refine Mv (.int .i64 (handedBell d m gs ms cs f y l)) Z Z ?_;refine Pl Z (ok_neq (a:=handedBell d m gs ms cs f y l) (b:=0) Z Z ?_);refine Nl ?_;refine tr_if (p:=¬(handedBell d m gs ms cs f y l)=0) Z (fun aw=>?_) (fun aw=>?_)
 ·refine Sq (Rg ?_);refine Mv (.int .i64 (handedBell d m gs ms cs f y l)) Z Z ?_;refine As (.slice none 0 0) Z Z ?_;refine As (.slice none 0 0) Z Z ?_;refine As (.int .i64 (handedBell d m gs ms cs f y l)) Z Z ?_;refine Nl (Rt ?_);have bm:=((aa.trans ab).trans ad).upd (Ln (aa.trans ab) am) an;refine ⟨.inr Z,outs3 Z (v:=.slice none 0 0) (v':=.slice none 0 0) (v2:=.int .i64 (handedBell d m gs ms cs f y l)) Z Z Z ?_⟩;exact ⟨.slice none 0 0,.slice none 0 0,(by rfl),(by have e:playLeft d m gs ms cs f y l=[]:=(by exact playLeft_bad ‹_›);rw [e];exact SlIs.nil _ _ _),(by have e:playLow d m gs ms cs f y l=[]:=(by exact playLow_bad ‹_›);rw [e];exact SlIs.nil _ _ _),bm⟩
 ·obtain ⟨hbk,hpo⟩:=handed_ok (Dn aw);have hgl:=hbk.glen;have hml:=hbk.mlen;have hdy:=hbk.days;have hkind:=hbk.kind;refine Sk (Sq (Sq (Rg ?_)));refine Fa Fx.fld26_2 Z Z ?_;have ax:=(an _ bk).trans (ad.keep au Z);refine Ld gsv Z Z (Rd.one Fx.ty22 ax Z) ?_;have ao:=((aa.trans ab).trans ad).upd (Ln (aa.trans ab) am) an;refine Pl Z (ok_lenSl Fx.sl22 (hgs.le ao) Z ?_);refine Mv (.int .i64 0) Z Z ?_;refine Nl (Bk ?_);refine tr_loop (fun nn σ' ds' h'=>∃(k:Nat) (w8:Value) (w9:Value),nn=gs.length-k∧(k≤gs.length)∧ds'=[]∧GH.Le av h'∧σ' 4=.pointer (some ⟨r7,0,none⟩)∧σ' 10=.int .i64 0∧σ' 11=.pointer (some ⟨bh,0,none⟩)∧σ' 29=.int .i64 (gs.length:Int)∧σ' 30=.int .i64 (k:Int)∧σ' 8=w8∧σ' 9=w9∧OwnSl av h' w8 3 1 eI ((List.range k).map (fun (i:Nat)=>(stockOf ms (handedP d m gs ms cs f y l) (i:Int) d).1))∧OwnSl av h' w9 3 1 eI ((List.range k).map (fun (i:Nat)=>(stockOf ms (handedP d m gs ms cs f y l) (i:Int) d).2))∧Apart w9 w8) ⟨0,.slice none 0 0,.slice none 0 0,Z,(by omega),Z,Lr,Z,Z,Z,Z,Z,Z,Z,(by have e:(List.range 0).map (fun (i:Nat)=>(stockOf ms (handedP d m gs ms cs f y l) (i:Int) d).1)=[]:=(by rfl);rw [e];exact OwnSl.nil _ _ _ _ _),(by have e:(List.range 0).map (fun (i:Nat)=>(stockOf ms (handedP d m gs ms cs f y l) (i:Int) d).2)=[]:=(by rfl);rw [e];exact OwnSl.nil _ _ _ _ _),Apart.nil⟩ (fun nn _ _ _ bn=>?_);obtain ⟨k,w8,w9,rfl,hk,b5,ay,bo,b6,bw,bx,bp,bz,b0,b1,b2,b3⟩:=bn;subst b5;refine Sq (Rg ?_);refine Pl Z (ok_lss (a:=(k:Int)) (b:=(gs.length:Int)) bp bx ?_);refine Nl (Sq ?_);refine tr_if (p:=(k:Int)<(gs.length:Int)) Z (fun bq=>?_) (fun bq=>?_)
  ·refine Sk (Sq (Bk (Sq (Rg ?_))));refine Mv (.int .i64 (k:Int)) Z bp ?_;refine As (.int .i64 (k:Int)) Z Z ?_;refine Nl (Sq (Rg ?_));have az:=ay.keep ax Z;refine Ld (.agg #[.int .i64 d,.int .i64 m,gsv,msv,csv]) Z bo (rd_agg0 Fx.ty26 (Bx az Z)) ?_;refine Pl Z (ok_build (cells:=#[.int .i64 d,.int .i64 m,gsv,msv,csv]) Fx.pl92 Fx.zero92 (by kernel_rfl) ?_);refine Ld (.agg (ePast (handedP d m gs ms cs f y l))) Z bw (rd_agg0 Fx.ty87 (Bx (ay.keep bl Z) Z)) ?_;refine Mv (.int .i64 (k:Int)) Z Z ?_;refine Fa Fx.fld26_0 Z bo ?_;refine Ld (.int .i64 d) Z Z (Rd.one Fx.ty3 az Z) ?_;have ah:=ao.trans ay;refine Pl Z (ok_call4 Tryd.func40 Fx.call40 Z Z Z Z ((stock_spec d m gs gsv ms msv cs csv (handedP d m gs ms cs f y l) (k:Int) d (hgs.le ah) (hms.le ah) (hcs.le ah) (hG.le ah) (by omega) (by omega) (by omega) (by omega) (by omega)).mono fun _ _ br=>?_));obtain ⟨rfl,ae⟩:=br;refine Mv (.tuple #[.int .i64 ((stockOf ms (handedP d m gs ms cs f y l) (k:Int) d).1),.int .i64 ((stockOf ms (handedP d m gs ms cs f y l) (k:Int) d).2)]) Z Z ?_;refine Pl Z (ok_extract (vs:=#[.int .i64 ((stockOf ms (handedP d m gs ms cs f y l) (k:Int) d).1),.int .i64 ((stockOf ms (handedP d m gs ms cs f y l) (k:Int) d).2)]) (v:=.int .i64 ((stockOf ms (handedP d m gs ms cs f y l) (k:Int) d).1)) Z Z ?_);refine Pl Z (ok_extract (vs:=#[.int .i64 ((stockOf ms (handedP d m gs ms cs f y l) (k:Int) d).1),.int .i64 ((stockOf ms (handedP d m gs ms cs f y l) (k:Int) d).2)]) (v:=.int .i64 ((stockOf ms (handedP d m gs ms cs f y l) (k:Int) d).2)) Z Z ?_);refine As (.int .i64 ((stockOf ms (handedP d m gs ms cs f y l) (k:Int) d).1)) Z Z ?_;refine As (.int .i64 ((stockOf ms (handedP d m gs ms cs f y l) (k:Int) d).2)) Z Z ?_;refine Nl (Rg ?_);refine Mv w8 Z bz ?_;refine Mv (.int .i64 ((stockOf ms (handedP d m gs ms cs f y l) (k:Int) d).1)) Z Z ?_;refine Pl Z (ok_buildSlice' (cells:=#[.int .i64 ((stockOf ms (handedP d m gs ms cs f y l) (k:Int) d).1)]) Fx.sel30 (by decide) (by decide) (by kernel_rfl) fun _ _ bs af bt _=>?_);have bu:=OwnSl.built (enc:=eI) (xs:=[(stockOf ms (handedP d m gs ms cs f y l) (k:Int) d).1]) (n:=1) bs bt Z Z (by intro x hx;rfl) Z;have a0:=(b1.le ae).le af;have a1:=(ay.trans ae).trans af;have a2:=(b2.le ae).le af;refine Pl Z (ok_appendG (h0:=av) Fx.app30_30 Z Z a0 (bu.sl) (fun _ q=>Ln a1 q) (by simp <;> omega) (by intro y hy;rfl) fun a9 _ bv ap=>?_);have ai:Apart a9 w9:=Apart.grown ap a2 (Apart.symm b3);refine Mv w9 Z b0 ?_;refine Mv (.int .i64 ((stockOf ms (handedP d m gs ms cs f y l) (k:Int) d).2)) Z Z ?_;refine Pl Z (ok_buildSlice' (cells:=#[.int .i64 ((stockOf ms (handedP d m gs ms cs f y l) (k:Int) d).2)]) Fx.sel30 (by decide) (by decide) (by kernel_rfl) fun _ _ a3 ac a4 _=>?_);have a5:=OwnSl.built (enc:=eI) (xs:=[(stockOf ms (handedP d m gs ms cs f y l) (k:Int) d).2]) (n:=1) a3 a4 Z Z (by intro x hx;rfl) Z;have aj:=((OwnSl.grown ap a2 (Apart.symm b3)).le ac);have ak:=(GH.Le.grown ap a1 fun b e=>Ln Lr (a0.fresh b e)).trans ac;have al:=bv.le ac;refine Pl Z (ok_appendG (h0:=av) Fx.app30_30 Z Z aj (a5.sl) (fun _ q=>Ln ak q) (by simp <;> omega) (by intro y hy;rfl) fun aq _ a6 ag=>?_);have a7:Apart aq a9:=Apart.grown ag al (Apart.symm ai);refine As a9 Z Z ?_;refine As aq Z Z ?_;refine Nl (Rg ?_);refine Ad (k:Int) 1 Z bp Z (by omega) ?_;refine Mv (.int .i64 ((k:Int)+1)) Z Z ?_;refine Nl ?_;have a8:=GH.Le.grown ag ak fun b e=>Ln Lr (aj.fresh b e);exact ⟨_,by omega,k+1,a9,aq,Z,(by omega),Z,a8,bo,b6,bw,bx,Z,Z,Z,(by have e:(List.range (k+1)).map (fun (i:Nat)=>(stockOf ms (handedP d m gs ms cs f y l) (i:Int) d).1)=((List.range k).map (fun (i:Nat)=>(stockOf ms (handedP d m gs ms cs f y l) (i:Int) d).1))++[(stockOf ms (handedP d m gs ms cs f y l) (k:Int) d).1]:=(by exact range_map_succ _ _);rw [e];exact (OwnSl.grown ag al (Apart.symm ai))),(by have e:(List.range (k+1)).map (fun (i:Nat)=>(stockOf ms (handedP d m gs ms cs f y l) (i:Int) d).2)=((List.range k).map (fun (i:Nat)=>(stockOf ms (handedP d m gs ms cs f y l) (i:Int) d).2))++[(stockOf ms (handedP d m gs ms cs f y l) (k:Int) d).2]:=(by exact range_map_succ _ _);rw [e];exact a6),a7⟩
  ·refine Xt (Sq (Rg ?_));refine Mv w8 Z bz ?_;refine Mv w9 Z b0 ?_;refine As w8 Z Z ?_;refine As w9 Z Z ?_;refine As (.int .i64 0) Z Z ?_;refine Nl (Rt ?_);refine ⟨.inr Z,outs3 Z (v:=w8) (v':=w9) (v2:=.int .i64 0) Z Z Z ?_⟩;exact ⟨w8,w9,(by (rw [Dn (by assumption:¬¬handedBell d m gs ms cs f y l=0)])),(by have e:playLeft d m gs ms cs f y l=(List.range k).map (fun (i:Nat)=>(stockOf ms (handedP d m gs ms cs f y l) (i:Int) d).1):=(by exact playLeft_good ‹_› hk ‹_›);rw [e];exact b1.sl),(by have e:playLow d m gs ms cs f y l=(List.range k).map (fun (i:Nat)=>(stockOf ms (handedP d m gs ms cs f y l) (i:Int) d).2):=(by exact playLow_good ‹_› hk ‹_›);rw [e];exact b2.sl),(ao.trans ay)⟩
end Go.Ns
