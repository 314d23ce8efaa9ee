/- Rules and walks, part 3 of 6. No conditions. -/
import Derived.Carry
import Derived.Conc.LeavingOf
import Derived.LaidMore
import Derived.OpenShut
import Derived.ProofKit
import Derived.Test.YthccgklboafliaaGreatDoorProg
import Derived.Test.YthccgklboafliaaGreatDoorRzA
import Derived.Test.YthccgklboafliaaGreatDoorRzB
set_option linter.unusedVariables false
set_option linter.unusedSimpArgs false
set_option linter.unnecessarySimpa false
set_option linter.unusedSectionVars false
namespace Go.Ns
open Go.Conc
section
variable {P:Program} {M:Type}
structure P2 (P:Program) (M:Type) where
 W:Wk P
 Rep:Nat→M→Value→GH→Prop
 main:Bool
 fn:FuncId
 rd:Option Nat
 N:Nat
def P2.wk (F:P2 P M):Option (Fi M)→Wk P
 | none=>F.W
 | some s=>⟨F.main,E5 P F.main (Im P F.Rep F.W.K s F.main),LP _ _⟩
abbrev P2.env (F:P2 P M) (i:Option (Fi M)):Gm P:=⟨F.wk i,F.fn,F.rd,F.N⟩
abbrev Te (M:Type):=Option (Fi M)→Exit→(Nat→Value)→List Deferred→GH→Prop
def LM (F:P2 P M) (c:Code) (i:Option (Fi M)) (σ:Nat→Value) (ds:List Deferred) (h:GH) (Q:Te M):Prop:=
 ∀(b:Frame) (k:List Item) (cs:List Frame) (L:Option (Fi M)→Lv) (t:Array Value),b.fn=F.fn→b.roundOf=F.rd→(∀i,LN (F.wk i) b cs (L i))→Bo t F.N σ→
  (∀i e σ' ds' h',Q i e σ' ds' h'→∀t',Bo t' F.N σ'→DA (F.wk i) (L i) b k cs e t' ds' h')→(F.wk i).K (G (Cj b t ds (.code c ::k)) cs) h
def Lp (F:P2 P M) (ops:Array Oper) (l:List Oper) (i:Option (Fi M)) (σ:Nat→Value) (ds:List Deferred) (h:GH) (Q:Te M):Prop:=
 ∀(n:Nat) (b:Frame) (k:List Item) (cs:List Frame) (L:Option (Fi M)→Lv) (t:Array Value),(∀j,l[j]? =ops[n+j]?)→b.fn=F.fn→b.roundOf=F.rd→(∀i,LN (F.wk i) b cs (L i))→Bo t F.N σ→
  (∀i e σ' ds' h',Q i e σ' ds' h'→∀t',Bo t' F.N σ'→DA (F.wk i) (L i) b k cs e t' ds' h')→(F.wk i).K (G (Cj b t ds (.inRegion ops (List.range' n l.length) ::k)) cs) h
variable {F:P2 P M} {i:Option (Fi M)} {σ:Nat→Value} {ds:List Deferred} {h:GH} {Q:Te M}
theorem IQ {c:Code} (x:Tr (F.env i) c σ ds h (Q i)):LM F c i σ ds h Q:=fun b k cs L t hb hr hl hs hc=>x b k cs (L i) t hb hr (hl i) hs (hc i)
theorem Lq {x y:Code} (a:LM F x i σ ds h (fun i e σ' ds' h'=>match e with | .normal=>LM F y i σ' ds' h' Q | e=>Q i e σ' ds' h')):LM F (.seq x y) i σ ds h Q:=by
 intro b k cs L t hb hr hl hs hc;refine Wk.go (Cj b t ds (.code x ::.code y ::k)) (fun w=>by rw [A9];simp [stepG.exec,Cj,G]) ?_;refine a b (.code y ::k) cs L t hb hr hl hs fun i e σ' ds' h' q t' ht'=>?_;cases e with
 | normal=>exact q b k cs L t' hb hr hl ht' hc
 | exit id=>exact DA.push rfl (by simp) (hc _ _ _ _ _ q t' ht')
 | ret=>exact DA.push rfl (by simp) (hc _ _ _ _ _ q t' ht')
 | goto l=>exact DA.push rfl (by simp) (hc _ _ _ _ _ q t' ht')
 | panic l=>exact DA.push rfl (by simp) (hc _ _ _ _ _ q t' ht')
 | outgrown=>exact DA.push rfl (by simp) (hc _ _ _ _ _ q t' ht')
theorem Cf {x y:Code} (a:Tr (F.env i) x σ ds h (fun e σ' ds' h'=>match e with | .normal=>LM F y i σ' ds' h' Q | e=>Q i e σ' ds' h')):LM F (.seq x y) i σ ds h Q:=
 Lq (IQ (Q:=fun i e σ' ds' h'=>match e with | .normal=>LM F y i σ' ds' h' Q | e=>Q i e σ' ds' h') a)
theorem Tf {c:Operand} {x y:Code} {t:Bool} (hc:AU σ c=.bool t) (a:LM F (if t then x else y) i σ ds h Q):LM F (.cond c x y) i σ ds h Q:=by
 intro b k cs L tm hb hr hl hs hq;refine Wk.go (Cj b tm ds (.code (if t then x else y) ::k)) (fun w=>?_) (a b k cs L tm hb hr hl hs hq);have he:(Cj b tm ds (.code (.cond c x y) ::k)).eval c=.bool t:=by rw [Jb hs];exact hc
 simp only [Cj] at he;rw [A9];simp [stepG.exec,Cj,G,he]
theorem trI_true {c:Operand} {x y:Code} (hc:AU σ c=.bool true) (a:LM F x i σ ds h Q):LM F (.cond c x y) i σ ds h Q:=Tf hc a
theorem YF {c:Operand} {x y:Code} (hc:AU σ c=.bool false) (a:LM F y i σ ds h Q):LM F (.cond c x y) i σ ds h Q:=Tf hc a
theorem trI_ifb {c:Operand} {x y:Code} {t:Bool} (hc:AU σ c=.bool t) (a:t=true→LM F x i σ ds h Q) (a':t=false→LM F y i σ ds h Q):LM F (.cond c x y) i σ ds h Q:=by
 cases t with
 | true=>exact trI_true hc (a rfl)
 | false=>exact YF hc (a' rfl)
theorem J6 {id:Nat} {c:Code} (a:LM F c i σ ds h (fun i e σ' ds' h'=>match e with | .normal=>Q i .normal σ' ds' h' | .exit id'=>if id'=id then Q i .normal σ' ds' h' else Q i (.exit id') σ' ds' h' | e=>Q i e σ' ds' h')) :
  LM F (.block id c) i σ ds h Q:=by
 intro b k cs L t hb hr hl hs hc;refine Wk.go (Cj b t ds (.code c ::.inBlock id ::k)) (fun w=>by rw [A9];simp [stepG.exec,Cj,G]) ?_;refine a b (.inBlock id ::k) cs L t hb hr hl hs fun i e σ' ds' h' q t' ht'=>?_;cases e with
 | normal=>exact Wk.go (Cj b t' ds' k) (fun w=>by rw [A9];simp [stepG.exec,Cj,G]) (hc _ _ _ _ _ q t' ht')
 | exit id'=>
  by_cases hid:id'=id
  ·simp only [hid,if_true] at q
   have:=hc _ _ _ _ _ q t' ht'
   simp only [DA,exitTo,hid,beq_self_eq_true,if_true];exact this
  ·simp only [hid,if_false] at q
   have:=hc _ _ _ _ _ q t' ht'
   have hne:(id==id')=false:=by simp;exact fun h=>hid h.symm
   simp only [DA,exitTo,hne] at this ⊢;exact this
 | ret=>exact hc _ _ _ _ _ q t' ht'
 | goto l=>exact hc _ _ _ _ _ q t' ht'
 | panic l=>exact hc _ _ _ _ _ q t' ht'
 | outgrown=>exact hc _ _ _ _ _ q t' ht'
theorem Tg {c:Code} (I:Nat→Option (Fi M)→(Nat→Value)→List Deferred→GH→Prop) {n:Nat} (i0:I n i σ ds h)
  (round:∀n i σ ds h,I n i σ ds h→LM F c i σ ds h (fun i e σ' ds' h'=>match e with | .normal=>∃m,m<n∧I m i σ' ds' h' | e=>Q i e σ' ds' h')):LM F (.loop c) i σ ds h Q:=by
 intro b k cs L t hb hr hl hs hc;refine Wk.go (Cj b t ds (.code c ::.inLoop c ::k)) (fun w=>by rw [A9];simp [stepG.exec,Cj,G]) ?_;have key:∀n i σ ds h t,I n i σ ds h→Bo t F.N σ→(F.wk i).K (G (Cj b t ds (.code c ::.inLoop c ::k)) cs) h:=by
  intro n
  induction n using Nat.strongRecOn with
  | ind n ih=>
   intro i σ ds h t hi hs;refine round n i σ ds h hi b (.inLoop c ::k) cs L t hb hr hl hs fun i e σ' ds' h' q t' ht'=>?_;cases e with
   | normal=>
    obtain ⟨m,hm,hi'⟩:=q;exact Wk.go (Cj b t' ds' (.code c ::.inLoop c ::k)) (fun w=>by rw [A9];simp [stepG.exec,Cj,G]) (ih m hm _ _ _ _ _ hi' ht')
   | exit id=>exact DA.push rfl (by simp) (hc _ _ _ _ _ q t' ht')
   | ret=>exact DA.push rfl (by simp) (hc _ _ _ _ _ q t' ht')
   | goto l=>exact DA.push rfl (by simp) (hc _ _ _ _ _ q t' ht')
   | panic l=>exact DA.push rfl (by simp) (hc _ _ _ _ _ q t' ht')
   | outgrown=>exact DA.push rfl (by simp) (hc _ _ _ _ _ q t' ht')
 exact key n i σ ds h t i0 hs
theorem Ks {id:Nat} {l:List Oper} (a:Lp F l.toArray l i σ ds h Q):LM F (.region id l.toArray false) i σ ds h Q:=by
 intro b k cs L t hb hr hl hs hc;refine Wk.go (Cj b t ds (.inRegion l.toArray (List.range' 0 l.length) ::k)) (fun w=>?_) (a 0 b k cs L t (by simp) hb hr hl hs hc);rw [A9];simp [stepG.exec,Cj,G,List.range_eq_range']
theorem Ls {ops:Array Oper} (q:Q i .normal σ ds h):Lp F ops [] i σ ds h Q:=by
 intro n b k cs L t hi hb hr hl hs hc;exact Wk.go (Cj b t ds k) (fun w=>by rw [A9];simp [stepG.exec,Cj,G]) (hc _ _ _ _ _ q t hs)
theorem HW {ops:Array Oper} {o:Oper} {l:List Oper} (hg:o.guard=none) (hdf:F.rd=none∨EM o.op=false) (hd:Ej o.dst F.N=true)
  (x:Bi (F.env i) o σ ds h fun σ' ds' h'=>Lp F ops l i σ' ds' h' Q):Lp F ops (o ::l) i σ ds h Q:=by
 intro n b k cs L t hi hb hr hl hs hc;have ho:ops[n]? =some o:=by simpa using (hi 0).symm
 refine NZ (E:=F.env i) (rest:=List.range' (n+1) l.length) ho (by simp [Region.wanted,hg]) (hr▸hdf) hd hs x fun σ' ds' h' y t' ht'=>?_;exact y (n+1) b k cs L t' (fun j=>by have:=hi (j+1);simpa [Nat.add_assoc,Nat.add_comm 1 j] using this) hb hr hl ht' hc
theorem Th {main:Bool} {b:Frame} {t:Array Value} {ops:Array Oper} {n:Nat} {rest:List Nat} {k:List Item} {cs:List Frame} {o:Oper} {N:Nat} (hs:Bo t N σ) (ho:ops[n]? =some o) (hw:Region.wanted o (yielded ops t)=true)
  (hdf:b.roundOf=none∨EM o.op=false) (w:World):stepG P main (G (Cj b t ds (.inRegion ops (n ::rest) ::k)) cs) w=stepG.apply P true (Cj b t ds (.inRegion ops (n ::rest) ::k)) cs none (execOp (AU σ) o) w:=by
 have hev:=Jb (b:=b) (ds:=ds) (k:=.inRegion ops (n ::rest) ::k) hs;rw [←hev];have hw':((ops[n]?).map (Region.wanted · (yielded ops t))).getD false=true:=by simp [ho,hw]
 rw [A9];unfold stepG.exec;simp only [Cj,hw',↓reduceIte];unfold stepG.oper;simp only [Frame.oper?,ho];rcases hdf with e | e
 ·simp only [e]
 ·cases hq:o.op <;> first | rfl | (rw [hq] at e;cases e;done) | (cases b.roundOf <;> rfl)
theorem XT {main:Bool} {b:Frame} {t:Array Value} {ops:Array Oper} {n:Nat} {rest:List Nat} {k:List Item} {cs:List Frame} {o:Oper} {N:Nat} {w:World} {cc:Array CommCase} {bl:Bool} {sh:CommShape} (hs:Bo t N σ) (ho:ops[n]? =some o) (hw:Region.wanted o (yielded ops t)=true)
  (hdf:b.roundOf=none∨EM o.op=false) (hr:(execOp (AU σ) o).runT P w #[]=(.ok (.comm cc bl sh) w,#[])) :
  stepG P main (G (Cj b t ds (.inRegion ops (n ::rest) ::k)) cs) w=.comm (G (Cj b t ds (.inRegion ops (n ::rest) ::k)) cs) cc bl sh w #[]:=by
 rw [Th hs ho hw hdf];simp only [stepG.apply,hr,if_true,ite_self,seen_none];rfl
theorem spawn_at {main:Bool} {b:Frame} {t:Array Value} {ops:Array Oper} {n:Nat} {rest:List Nat} {k:List Item} {cs:List Frame} {o:Oper} {N:Nat} {w:World} {f:Fn} {cap args:Array Value} (hs:Bo t N σ) (ho:ops[n]? =some o) (hw:Region.wanted o (yielded ops t)=true)
  (hdf:b.roundOf=none∨EM o.op=false) (hr:(execOp (AU σ) o).runT P w #[]=(.ok (.spawn { target:=.fn f cap,args:=args }) w,#[])) :
  stepG P main (G (Cj b t ds (.inRegion ops (n ::rest) ::k)) cs) w=.spawn (G ((Cj b t ds (.inRegion ops (n ::rest) ::k)).finish undef) cs) (born P { target:=.fn f cap,args:=args }) w #[]:=by
 rw [Th hs ho hw hdf];simp only [stepG.apply,hr,if_true,ite_self,seen_none];simp [GStep.after,G,born]
variable {ops:Array Oper} {o:Oper} {l:List Oper}
theorem Kt (hl:l≠[]):Lp F ops l (some .never) σ ds h Q:=fun n b k cs L t hi hb hr _ hs hc=>E5.stop rfl
theorem YG {c:Nat} {m:M} {nx:Fi M} {v z:Value} {hm h1:GH} (hg:o.guard=none) (hdf:EM o.op=false) (hd:Ej o.dst F.N=true)
  (hr:∀w,(execOp (AU σ) o).runT P w #[]=(.ok (.comm #[scase c v z] true .send) w,#[])) (hsp:GH.Split h h1 hm) (hrep:F.Rep c m v hm) (hnx:¬nx.isDone)
  (x:Lp F ops l (some nx) (putS σ o.dst undef) ds h1 Q):Lp F ops (o ::l) (some (.send c m nx)) σ ds h Q:=by
 intro n b k cs L t hi hb hrd hl hs hc;have ho:ops[n]? =some o:=by simpa using (hi 0).symm
 refine E5.stop ⟨_,cs,v,z,hm,h1,rfl,⟨fun w f=>?_,hsp,hrep,?_⟩⟩
 ·rw [List.length_cons,List.range'_succ];exact XT hs ho (by simp [Region.wanted,hg]) (.inr hdf) (hr w)
 ·rw [HH hnx,List.length_cons,List.range'_succ,DM ho];exact x (n+1) b k cs L _ (fun j=>by have:=hi (j+1);simpa [Nat.add_assoc,Nat.add_comm 1 j] using this) hb hrd hl (hs.putS hd undef) hc
theorem Qg {c:Nat} {f:Option M→Fi M} {z:Value} {ok:Bool} (hg:o.guard=none) (hdf:EM o.op=false) (hd:Ej o.dst F.N=true)
  (hr:∀w,(execOp (AU σ) o).runT P w #[]=(.ok (.comm #[rcase c z] true (.recv ok)) w,#[])) (hnx:∀o,¬(f o).isDone)
  (x:∀m v hm,F.Rep c m v hm→h.Compat hm→Lp F ops l (some (f (some m))) (putS σ o.dst (recvd ok v true)) ds (h.join hm) Q)
  (y:Lp F ops l (some (f none)) (putS σ o.dst (recvd ok z false)) ds h Q):Lp F ops (o ::l) (some (.recv c f)) σ ds h Q:=by
 intro n b k cs L t hi hb hrd hl hs hc;have ho:ops[n]? =some o:=by simpa using (hi 0).symm
 refine E5.stop ⟨_,cs,z,ok,rfl,⟨fun w fw=>?_,fun m v hm hrep hcp=>?_,?_⟩⟩
 ·rw [List.length_cons,List.range'_succ];exact XT hs ho (by simp [Region.wanted,hg]) (.inr hdf) (hr w)
 ·show Fz P F.Rep F.W.K (f (some m)) F.main _ _;rw [HH (hnx _),List.length_cons,List.range'_succ,DM ho];exact x m v hm hrep hcp (n+1) b k cs L _ (fun j=>by have:=hi (j+1);simpa [Nat.add_assoc,Nat.add_comm 1 j] using this) hb hrd hl (hs.putS hd _) hc
 ·show Fz P F.Rep F.W.K (f none) F.main _ _;rw [HH (hnx _),List.length_cons,List.range'_succ,DM ho];exact y (n+1) b k cs L _ (fun j=>by have:=hi (j+1);simpa [Nat.add_assoc,Nat.add_comm 1 j] using this) hb hrd hl (hs.putS hd _) hc
theorem trLI_go {ch nx:Fi M} {f:Fn} {cap args:Array Value} {hc h1:GH} (hg:o.guard=none) (hdf:EM o.op=false) (hd:Ej o.dst F.N=true)
  (hr:∀w,(execOp (AU σ) o).runT P w #[]=(.ok (.spawn { target:=.fn f cap,args:=args }) w,#[])) (hsp:GH.Split h h1 hc) (hnx:¬nx.isDone)
  (child:Fz P F.Rep F.W.K ch false (born P { target:=.fn f cap,args:=args }) hc) (x:Lp F ops l (some nx) (putS σ o.dst undef) ds h1 Q):Lp F ops (o ::l) (some (.spawn ch nx)) σ ds h Q:=by
 intro n b k cs L t hi hb hrd hl hs hq;have ho:ops[n]? =some o:=by simpa using (hi 0).symm
 refine E5.stop ⟨_,cs,(Cj b t ds (.inRegion ops (List.range' n (o ::l).length) ::k)).finish undef,_,hc,h1,rfl,⟨fun w fw=>?_,hsp,?_,child⟩⟩
 ·rw [List.length_cons,List.range'_succ];exact spawn_at hs ho (by simp [Region.wanted,hg]) (.inr hdf) (hr w)
 ·rw [HH hnx,List.length_cons,List.range'_succ,DM ho];exact x (n+1) b k cs L _ (fun j=>by have:=hi (j+1);simpa [Nat.add_assoc,Nat.add_comm 1 j] using this) hb hrd hl (hs.putS hd undef) hq
def Ku (tys:Array TypeId) (ty:TypeId) (cs:Array Bool) (c:Nat):Deferred:={ target:=.builtin .close tys ty cs,args:=#[.chan (some c)] }
theorem SA {f:FuncId} {fn:Func} {args:Array Value} (hf:P.funcs[f]? =some fn) (hc:AP fn=true) (w:World):(callFunc f args).runT P w #[]=(.ok (.enter f args) w,#[]):=by
 unfold AP at hc;simp only [Bool.and_eq_true,Bool.not_eq_true'] at hc;unfold callFunc;show (match P.funcs[f]? with | none=>_ | some fn=>_:Sem Next).runT P w #[]=_;rw [hf];simp only [];rw [if_neg (by rw [hc.1];simp),if_neg (by cases hb:fn.body with | none=>rw [hb] at hc;simp at hc | some c=>simp)];rfl
theorem VJ {tys:Array TypeId} {ty:TypeId} {cs:Array Bool} {ch s r:Nat} {w:World} (hw:w.heap[ch]? =some (.chan 0 #[] false s r false)) :
  (invoke (.builtin .close tys ty cs) #[.chan (some ch)]).runT P w #[]=(.ok (.value (.tuple #[])) { w with heap:=w.heap.setIfInBounds ch (.chan 0 #[] true s r false) },#[⟨.obj ch,false,true⟩,⟨.obj ch,true,true⟩]):=by
 show ((do pure (.value (←Builtin.close_ tys ty #[.chan (some ch)])):Sem Next)).runT P w #[]=_;show Sem.runT P (.getObj ch fun o=>_) w #[]=_;unfold Sem.runT;rw [hw];show Sem.runT P (.setObj ch (.chan 0 #[] true s r false) _) w _=_;unfold Sem.runT;rw [hw];rfl
theorem VK {fn:FuncId} {ch:Nat}:seen P fn #[⟨.obj ch,false,true⟩,⟨.obj ch,true,true⟩]=#[⟨.obj ch,false,true⟩,⟨.obj ch,true,true⟩]:=by
 rw [seen_def];simp [seenStep]
theorem YH {fn:Func} {c:Code} {s:Fi M} {ars cap args:Array Value} (hm:F.main=false) (hrd:F.rd=none) (ha:ars++cap=args) (hf:P.funcs[F.fn]? =some fn) (hc:AP fn=true) (hb:fn.body=some c) (hN:F.N=fn.ntmps) (hres:fn.results=#[]) (hsz:args.size≤fn.ntmps) (hs:¬s.isDone)
  (x:LM F c (some s) (fun i=>args.getD i undef) [] h fun i e σ ds h=>(e=.normal∨e=.ret)∧∃ch tys ty cs,i=some (.close ch .done)∧ds=[Ku tys ty cs ch]):Fz P F.Rep F.W.K s false (born P { target:=.fn (.func F.fn) cap,args:=ars }) h:=by
 let bot:Frame:={ (default:Frame) with fn:=P.funcs.size,defers:=[],mode:=.panicking [goexitEntry] };have hwk:∀s,(F.wk (some s)).K=E5 P false (Im P F.Rep F.W.K s false):=fun s=>by show E5 P F.main (Im P F.Rep F.W.K s F.main)=_;rw [hm]
 rw [HH hs];refine LP _ _ _ _ rfl fun w f=>⟨G (Frame.enter P F.fn args .deferred) [bot],w,#[],h,?_,Bh.refl f,?_⟩
 ·subst ha;have hi:(invoke (.fn (.func F.fn) cap) ars).runT P w #[]=(.ok (.enter F.fn (ars++cap)) w,#[]):=SA hf hc w;show callDeferred P bot [] none { target:=.fn (.func F.fn) cap,args:=ars } w=_;unfold callDeferred;rw [if_neg (by simp)];simp only [hi,seen_none];rfl
 have e0:Frame.enter P F.fn args .deferred=Cj (Frame.enter P F.fn args .deferred) (args++Array.replicate (fn.ntmps-args.size) undef) [] [.code c]:=by simp [Frame.enter,Cj,hf,hb]
 rw [e0,←hwk s];let L:Option (Fi M)→Lv:=fun i j t ds h'=>(j=none∨j=some .ret)∧∃ch tys ty cs,i=some (.close ch .done)∧ds=[Ku tys ty cs ch];have fin:∀ch tys ty cs h' t k,(F.wk (some (.close ch .done))).K (G (Ds (Frame.enter P F.fn args .deferred) t [Ku tys ty cs ch] k) [bot]) h':=by
  intro ch tys ty cs h' t k;rw [hwk];refine E5.stop ⟨_,_,Ds (Frame.enter P F.fn args .deferred) t [] k,[bot],rfl,⟨fun w s r _ hw=>?_,rfl,?_⟩⟩
  ·have hi:=VJ (P:=P) (tys:=tys) (ty:=ty) (cs:=cs) hw;show callDeferred P (Ds (Frame.enter P F.fn args .deferred) t [] k) [bot] none (Ku tys ty cs ch) w=_;unfold callDeferred Ku;rw [if_neg (by simp)];simp only [hi,VK];rfl
  ·refine ⟨2,.inr ⟨rfl,G bot [],fun w=>?_,.inr ⟨rfl,{ G bot [] with status:=.finished },fun w=>?_,rfl⟩⟩⟩
   ·show unwind P false (Ds (Frame.enter P F.fn args .deferred) t [] k) [bot] none w=_;have hfn:(Ds (Frame.enter P F.fn args .deferred) t [] k).fn=F.fn:=rfl;have hk:(Ds (Frame.enter P F.fn args .deferred) t [] k).kind=.deferred:=rfl;have hmd:(Ds (Frame.enter P F.fn args .deferred) t [] k).mode=.returning:=rfl;have hd:(Ds (Frame.enter P F.fn args .deferred) t [] k).defers=[]:=rfl;have r1:∀t,(results fn t).runT P w #[]=(.ok (.tuple #[]) w,#[]):=fun t=>by
     unfold results;rw [hres];simp only [Array.mapM_empty];rfl
    unfold unwind;simp only [hd,hmd,hfn,hf,r1,GStep.after,doReturn,hk,seen_none];rfl
   ·show unwind P false bot [] none w=_;have hcat:bot.catches P=false:=by
     unfold Frame.catches
     have:P.funcs[bot.fn]? =none:=Array.getElem?_eq_none (Nat.le_refl _)
     rw [this];rfl
    have hd:bot.defers=[]:=rfl;have hmd:bot.mode=.panicking [goexitEntry]:=rfl;unfold unwind;simp only [hd,hmd,hcat];rfl
 refine x (Frame.enter P F.fn args .deferred) [] [bot] L _ rfl hrd.symm (fun i=>⟨?_,?_,?_⟩) ⟨by rw [hN];simp;omega,fun i=>?_⟩ ?_
 ·rintro t ds h' ⟨_,ch,tys,ty,cs,rfl,rfl⟩;exact Wk.go (Ds (Frame.enter P F.fn args .deferred) t _ []) (fun w=>by rw [A9];simp [stepG.exec,Cj,Ds,G,Frame.enter]) (fin ch tys ty cs h' t [])
 ·rintro t ds h' k ⟨_,ch,tys,ty,cs,rfl,rfl⟩;exact Wk.go (Ds (Frame.enter P F.fn args .deferred) t _ (.code .ret ::k)) (fun w=>by rw [A9];simp [stepG.exec,Cj,Ds,G,Frame.enter]) (fin ch tys ty cs h' t _)
 ·rintro id t ds h' k _ ⟨h1 | h1,_⟩ <;> cases h1
 ·by_cases hi:i<args.size
  ·simp [Array.getD_eq_getD_getElem?,Array.getElem?_append_left hi]
  ·simp only [Array.getD_eq_getD_getElem?];rw [Array.getElem?_append_right (by omega),Array.getElem?_eq_none (show args.size≤i by omega),Array.getElem?_replicate];split <;> rfl
 ·rintro i e σ ds h' ⟨he,ch,tys,ty,cs,rfl,rfl⟩ t' ht';rcases he with rfl | rfl
  ·exact Wk.go (Ds (Frame.enter P F.fn args .deferred) t' _ []) (fun w=>by rw [A9];simp [stepG.exec,Cj,Ds,G,Frame.enter]) (fin ch tys ty cs h' t' [])
  ·exact ⟨.inr rfl,ch,tys,ty,cs,rfl,rfl⟩
end
section
variable {P:Program} {M:Type} {Post:Value→World→Prop}
def GH.Same (h h':GH):Prop:=∀b p o,h b=some (p,o)→∃p',h' b=some (p',o)
theorem H1.flags {g:Goroutine} {h h':GH} {gs:Array Goroutine} {w:World} {q:Nat→Nat} {t:Trace} (B:H1 P g h gs w q t) (s:h'.Same h):H1 P g h' gs w q t:=
 { B with
  fits:=fun b p o hb=>by obtain ⟨p',x⟩:=s b p o hb;exact B.fits b p' o x
  chn:=fun b p o k a hb=>by obtain ⟨p',x⟩:=s b p o hb;exact B.chn b p' o k a x }
theorem D6.flags {g:Goroutine} {h h':GH} (s:h'.Same h) (x:D6 P Post g h'):D6 P Post g h:=fun gs w sl q t B=>x gs w sl q t (B.flags s)
def VL (c:Nat) (s0:Fi M) (N:In M):Prop:=0<N.n∧N.s 0=s0∧(∀j,0<j→j<N.n→N.s j=.done∧N.kn 0 j)∧N.cl c=false
theorem P3 {Rep:Nat→M→Value→GH→Prop} {g:Goroutine} {h:GH} {c:Nat} {s0:Fi M} (hc:h c=some (true,.chan 0 #[] false 0 0 false)) (good:∀N:In M,VL c s0 N→JL (fun x=>x=c) N)
  (d:Fz P Rep (D6 P Post) s0 true g (h.delS fun x=>x=c)):D6 P Post g h:=by
 intro gs w sl q t B;have hsub:(h.delS fun x=>x=c).Same h:=fun b p o hb=>by
  by_cases e:b=c
  ·rw [GH.delS_in (X:=fun x=>x=c) e] at hb;cases hb
  ·rw [GH.delS_ne (X:=fun x=>x=c) e] at hb;exact ⟨p,hb⟩
 have B':=B.flags hsub;let N:In M:={ n:=gs.size,s:=fun j=>if j=0 then s0 else .done,kn:=fun i j=>i=0∧0<j,cl:=fun _=>false,ck:=fun _ _=>False };have hpos:0<gs.size:=B.lt;obtain ⟨r0,hsit⟩:=HI (cl:=N.cl) d;have hsits:∀i g',gs[i]? =some g'→QG P Rep (D6 P Post) (N.s i) N.cl (i==0) g' (only (h.delS fun x=>x=c) i) (if i=0 then r0 else .leave (q i)):=by
  intro i g' hi;rcases Nat.eq_zero_or_pos i with rfl | hp
  ·have:=B.here;rw [hi] at this;cases this
   simpa [N,only] using hsit
  ·have h0:¬i=0:=by omega
   have hq:=B.old i g' hp hi;simp only [N,h0,if_false];exact .leave (q i) rfl hq
 have hparked:∀i (gi:Goroutine) cs sh,gs[i]? =some (parked gi cs sh)→i=0:=fun i gi cs sh hi=>by
  rcases Nat.eq_zero_or_pos i with e | hp
  ·exact e
  ·rcases (B.old i _ hp hi).status with e | e <;> cases e
 refine Zy (used:=fun x=>x=c) (N:=N) (good N ⟨hpos,rfl,fun j hj hjn=>⟨if_neg (by omega),rfl,hj⟩,rfl⟩) (fun i=>if i=0 then r0 else .leave (q i)) gs w sl t (only (h.delS fun x=>x=c))
  ⟨rfl,B'.HS,B'.TI,hsits,?_,?_,?_,?_,?_,?_⟩
 ·rintro c' rfl;exact ⟨0,B.fits _ _ _ hc⟩
 ·rintro c' i rfl hi;unfold only;split
  ·exact GH.delS_in rfl
  ·rfl
 ·rintro c' k a rfl hk hl;exact B.chn _ _ _ k a hc rfl hk hl
 ·intro i j gi gj c' v z sh z' sh' h1 h2;obtain rfl:=hparked i _ _ _ h1;obtain rfl:=hparked j _ _ _ h2;rw [h1] at h2;exact G7 (Option.some.inj h2).symm
 ·rintro i j hi hj ⟨rfl,hjp⟩;refine ⟨if_neg (by omega),fun k a hk _=>B.known k a hk⟩
 ·rintro c' rfl h1;cases h1
def Of (W:Wk P):Prop:=∃Post:Value→World→Prop,W.K=D6 P Post
variable {F:P2 P M} {i:Option (Fi M)} {σ:Nat→Value} {ds:List Deferred} {h:GH} {Q:Te M}
theorem trI_net {c:Code} {s0:Fi M} {ch:Nat} (hm:F.main=true) (hW:Of F.W) (hc:h ch=some (true,.chan 0 #[] false 0 0 false)) (hs:¬s0.isDone) (good:∀N:In M,VL ch s0 N→JL (fun x=>x=ch) N)
  (x:LM F c (some s0) σ ds (h.delS fun x=>x=ch) Q):LM F c none σ ds h Q:=by
 intro b k cs L t hb hr hl ht hq
 have:=x b k cs L t hb hr hl ht hq
 obtain ⟨Post,hP⟩:=hW;show F.W.K _ _;rw [hP];refine P3 (Rep:=F.Rep) hc good ?_;rw [HH hs];unfold P2.wk at this;simp only [hm,hP] at this;exact this
theorem trI_out {c:Code} {h0:GH} (hW:Of F.W) (hs:h0.Same h) (x:LM F c none σ ds (h0.join h) Q):LM F c (some .stop) σ ds h Q:=by
 intro b k cs L t hb hr hl ht hq
 have:=x b k cs L t hb hr hl ht hq
 obtain ⟨Post,hP⟩:=hW;refine E5.stop ?_;show F.W.K _ _;have h2:F.W.K _ _:=this;rw [hP] at h2 ⊢;refine h2.flags fun b p o hb=>?_;rcases hj:h0 b with _ | ⟨p0,o0⟩
 ·unfold GH.join at hb;rw [hj] at hb;exact ⟨p,hb⟩
 ·unfold GH.join at hb;rw [hj] at hb;cases hb;exact hs b p o hj
def GH.ro (h:GH):GH:=fun b=>(h b).map fun x=>(false,x.2)
theorem GH.ro_some {h:GH} {b:Nat} {p:Bool} {o:Obj} (hb:h b=some (p,o)):h.ro b=some (false,o):=by unfold GH.ro;rw [hb];rfl
theorem GH.ro_inv {h:GH} {b:Nat} {p:Bool} {o:Obj} (hb:h.ro b=some (p,o)):p=false∧∃p',h b=some (p',o):=by
 unfold GH.ro at hb;cases e:h b with
 | none=>rw [e] at hb;cases hb
 | some x=>rw [e] at hb;obtain ⟨p',o'⟩:=x;cases hb;exact ⟨rfl,p',rfl⟩
theorem GH.split_ro (h:GH):GH.Split h h.ro h.ro where
 left:=fun b p o hb=>by obtain ⟨rfl,p',x⟩:=GH.ro_inv hb;exact ⟨p',x,fun e=>by cases e⟩
 right:=fun b p o hb=>by obtain ⟨rfl,p',x⟩:=GH.ro_inv hb;exact ⟨p',x,fun e=>by cases e⟩
 one:=fun r o x hb=>by cases (GH.ro_inv hb).1
 two:=fun r o x hb=>by cases (GH.ro_inv hb).1
theorem GH.same_ro (h:GH):h.Same h.ro:=fun _ _ _ hb=>⟨false,GH.ro_some hb⟩
theorem GH.Same.trans {a b c:GH} (x:a.Same b) (y:b.Same c):a.Same c:=fun r p o hr=>by obtain ⟨p',z⟩:=x r p o hr;exact y r p' o z
theorem GH.Le.same {a b:GH} (x:a.Le b):a.Same b:=fun r p o hr=>⟨p,x.keep hr rfl⟩
theorem GH.le_join (a b:GH):a.Le (a.join b):=fun r p o hr=>⟨o,by unfold GH.join;rw [hr],.inl rfl⟩
theorem GH.Same.join {a b:GH} (s:a.Same b):b.Same (a.join b):=fun r p o hr=>by
 unfold GH.join;cases e:a r with
 | none=>exact ⟨p,hr⟩
 | some x=>obtain ⟨p0,o0⟩:=x;obtain ⟨p',y⟩:=s r p0 o0 e;rw [hr] at y;cases y;exact ⟨p0,rfl⟩
theorem AZ.flags {h h':GH} (s:h.Same h') {b off n:Nat} {vs:Array Value} (x:AZ h b off n vs):AZ h' b off n vs:=by
 obtain ⟨p,c,t,f,y,z⟩:=x;obtain ⟨p',y'⟩:=s _ _ _ y;exact ⟨p',c,t,f,y',z⟩
theorem AJ.flags {α:Type} {h h':GH} (s:h.Same h') {v:Value} {n:Nat} {enc:α→Array Value} {xs:List α} (x:AJ h v n enc xs):AJ h' v n enc xs:=by
 obtain ⟨a,cap,hv,hc,hm,he⟩:=x;refine ⟨a,cap,hv,hc,hm,fun i hi=>?_⟩;obtain ⟨b,off,h1,h2⟩:=he i hi;exact ⟨b,off,h1,h2.flags s⟩
end
section
variable {M:Type} [DecidableEq M]
def IR (c:Nat):List M→Fi M
 | []=>.close c .done
 | m ::ms=>.send c m (IR c ms)
def Lt:Option M→Fi M
 | none=>.stop
 | some _=>.never
def GW (m:M) (nx:Fi M):Option M→Fi M
 | some m'=>if m'=m then nx else .never
 | none=>.never
def Jq (c:Nat):List M→Fi M
 | []=>.recv c Lt
 | m ::ms=>.recv c (GW m (Jq c ms))
structure TwoN (c k:Nat) (ms:List M) (N:In M):Prop where
 n:N.n=k+1
 pos:0<k
 main:N.s 0=Jq c ms
 child:N.s k=IR c ms
 rest:∀j,0<j→j<k→N.s j=.done∧N.kn 0 j
 cl:N.cl c=false
theorem YI {c k:Nat}:∀{ms:List M} {N:In M},TwoN c k ms N→JL (fun x=>x=c) N:=by
 intro ms
 induction ms with
 | nil=>
  intro N T;have hk:=T.pos;refine .step N (by rw [T.n];omega) ⟨_,.shut (i:=k) (c:=c) (nx:=.done) (by rw [T.n];omega) T.child⟩ (fun i hi=>?_) (fun N' st=>?_)
  ·rcases Nat.eq_zero_or_pos i with rfl | hp
   ·rw [T.main];rfl
   ·rcases Nat.lt_or_ge i k with hl | hl
    ·rw [(T.rest i hp hl).1];show i≠0;omega
    ·obtain rfl:i=k:=by have:=T.n;omega
     rw [T.child];exact ⟨rfl,T.cl⟩
  ·have key:∀i,i<N.n→i=0∨i=k∨N.s i=.done:=fun i hi=>by
    rcases Nat.eq_zero_or_pos i with e | hp
    ·exact .inl e
    ·rcases Nat.lt_or_ge i k with hl | hl
     ·exact .inr (.inr (T.rest i hp hl).1)
     ·exact .inr (.inl (by have:=T.n;omega))
   have hm:N.s 0=.recv c Lt:=T.main;have hch:N.s k=.close c .done:=T.child;cases st with
   | hire hi hs=>rcases key _ hi with rfl | rfl | e <;> simp_all
   | meet hi hj hij hs hs'=>rcases key _ hi with rfl | rfl | e <;> simp_all
   | hear hj hs hcl=>
    rcases key _ hj with rfl | rfl | e
    ·rw [hm] at hs;cases hs;rw [T.cl] at hcl;cases hcl
    ·rw [hch] at hs;cases hs
    ·rw [e] at hs;cases hs
   | @shut i c' nx hi hs=>
    rcases key _ hi with rfl | rfl | e
    ·rw [hm] at hs;cases hs
    ·rw [hch] at hs;cases hs;refine .step _ (by show 0<N.n;rw [T.n];omega) ⟨_,.hear (j:=0) (c:=c) (f:=_) (by show 0<N.n;rw [T.n];omega) (by show (if 0=i then _ else N.s 0)=_;rw [if_neg (by omega)];exact hm) (by show (if c=c then true else _)=true;rw [if_pos rfl])⟩ (fun j hj=>?_) (fun N'' st=>?_)
     ·have hj:j<N.n:=hj;show Nq _ _ j (if j=i then _ else N.s j);by_cases e:j=i
      ·rw [if_pos e];show j≠0;omega
      ·rw [if_neg e];rcases key j hj with rfl | rfl | e'
       ·rw [hm];rfl
       ·exact absurd rfl e
       ·rw [e'];show j≠0;rintro rfl;rw [hm] at e';cases e'
     ·have hs':∀j,j<N.n→j≠0→(N.shut i c .done).s j=.done:=fun j hj hj0=>by
       show (if j=i then _ else N.s j)=_;by_cases e:j=i
       ·rw [if_pos e]
       ·rw [if_neg e];rcases key j hj with rfl | rfl | e'
        ·exact absurd rfl hj0
        ·exact absurd rfl e
        ·exact e'
      have hs0:(N.shut i c .done).s 0=.recv c Lt:=by show (if 0=i then _ else N.s 0)=_;rw [if_neg (by omega)];exact hm
      have key2:∀j,j<N.n→j=0∨(N.shut i c .done).s j=.done:=fun j hj=>(Nat.eq_zero_or_pos j).imp id fun hp=>hs' j hj (by omega);cases st with
      | hire hi hs=>rcases key2 _ hi with rfl | e <;> simp_all
      | meet hi hj hij hs hs'=>rcases key2 _ hi with rfl | e <;> simp_all
      | shut hi hs=>rcases key2 _ hi with rfl | e <;> simp_all
      | @hear j c' f hj hs hcl=>
       rcases key2 _ hj with rfl | e
       ·rw [hs0] at hs;cases hs;refine .stop _ (by show 0<N.n;rw [T.n];omega) (show (if 0=0 then Lt none else (N.shut i c .done).s 0)=Fi.stop from rfl) fun j hj hjn=>⟨?_,?_⟩
        ·show (if j=0 then _ else (N.shut i c .done).s j)=_;rw [if_neg (by omega)];exact hs' j hjn (by omega)
        ·simp only [In.hear,In.shut,if_true];show N.kn 0 j∨N.kn i j∨(j=i∧True);rcases Nat.lt_or_ge j i with hl | hl
         ·exact .inl (T.rest j hj hl).2
         ·have hjn:j<N.n:=hjn;exact .inr (.inr ⟨by have:=T.n;omega,trivial⟩)
       ·rw [e] at hs;cases hs
    ·rw [e] at hs;cases hs
 | cons m ms ih=>
  intro N T;have hk:=T.pos;have hch:N.s k=.send c m (IR c ms):=T.child;have hm:N.s 0=.recv c (GW m (Jq c ms)):=T.main;have key:∀i,i<N.n→i=0∨i=k∨N.s i=.done:=fun i hi=>by
   rcases Nat.eq_zero_or_pos i with e | hp
   ·exact .inl e
   ·rcases Nat.lt_or_ge i k with hl | hl
    ·exact .inr (.inr (T.rest i hp hl).1)
    ·exact .inr (.inl (by have:=T.n;omega))
  refine .step N (by rw [T.n];omega) ⟨_,.meet (i:=k) (j:=0) (by rw [T.n];omega) (by rw [T.n];omega) (by omega) hch hm⟩ (fun i hi=>?_) (fun N' st=>?_)
  ·rcases key i hi with rfl | rfl | e
   ·rw [hm];rfl
   ·rw [hch];exact ⟨rfl,T.cl⟩
   ·rw [e];show i≠0;rintro rfl;rw [hm] at e;cases e
  ·cases st with
   | hire hi hs=>rcases key _ hi with rfl | rfl | e <;> simp_all
   | shut hi hs=>rcases key _ hi with rfl | rfl | e <;> simp_all
   | hear hj hs hcl=>
    rcases key _ hj with rfl | rfl | e
    ·rw [hm] at hs;cases hs;rw [T.cl] at hcl;cases hcl
    ·rw [hch] at hs;cases hs
    ·rw [e] at hs;cases hs
   | @meet i j c' m' nx f hi hj hij hs hs'=>
    have hi':i=k:=by
     rcases key _ hi with rfl | rfl | e
     ·rw [hm] at hs;cases hs
     ·rfl
     ·rw [e] at hs;cases hs
    have hj':j=0:=by
     rcases key _ hj with rfl | rfl | e
     ·rfl
     ·rw [hch] at hs';cases hs'
     ·rw [e] at hs';cases hs'
    subst hi' hj';rw [hch] at hs;cases hs;rw [hm] at hs';cases hs';refine ih ⟨T.n,hk,?_,?_,fun j hj hjk=>⟨?_,?_⟩,T.cl⟩
    ·show (if 0=i then _ else if 0=0 then _ else N.s 0)=_;rw [if_neg (by omega),if_pos rfl];show (if m=m then _ else _)=_;rw [if_pos rfl]
    ·show (if i=i then _ else _)=_;rw [if_pos rfl]
    ·show (if j=i then _ else if j=0 then _ else N.s j)=_;rw [if_neg (by omega),if_neg (by omega)];exact (T.rest j hj hjk).1
    ·simp only [In.meet,or_true,if_true];exact .inr (.inl (T.rest j hj hjk).2)
theorem VM {c:Nat} {ms:List M} {N:In M} (S:VL c (.spawn (IR c ms) (Jq c ms)) N):JL (fun x=>x=c) N:=by
 obtain ⟨hn,h0,hr,hcl⟩:=S;have key:∀i,i<N.n→i=0∨N.s i=.done:=fun i hi=>(Nat.eq_zero_or_pos i).imp id fun hp=>(hr i hp hi).1;refine .step N hn ⟨_,.hire hn h0⟩ (fun i hi=>?_) (fun N' st=>?_)
 ·rcases key i hi with rfl | e
  ·rw [h0];trivial
  ·rw [e];show i≠0;rintro rfl;rw [h0] at e;cases e
 ·cases st with
  | meet hi hj hij hs hs'=>rcases key _ hi with rfl | e <;> simp_all
  | shut hi hs=>rcases key _ hi with rfl | e <;> simp_all
  | hear hj hs hcl=>rcases key _ hj with rfl | e <;> simp_all
  | @hire i ch nx hi hs=>
   rcases key _ hi with rfl | e
   ·rw [h0] at hs;cases hs;refine YI (k:=N.n) (ms:=ms) ⟨rfl,hn,?_,?_,fun j hj hjk=>⟨?_,?_⟩,hcl⟩
    ·show (if 0=N.n then _ else if 0=0 then _ else _)=_;rw [if_neg (by omega),if_pos rfl]
    ·show (if N.n=N.n then _ else _)=_;rw [if_pos rfl]
    ·show (if j=N.n then _ else if j=0 then _ else N.s j)=_;rw [if_neg (by omega),if_neg (by omega)];exact (hr j hj hjk).1
    ·show (if j=N.n then False else if 0=N.n then _ else N.kn 0 j);rw [if_neg (by omega),if_neg (by omega)];exact (hr j hj hjk).2
   ·rw [e] at hs;cases hs
omit [DecidableEq M] in
theorem Qh (c:Nat) (ms:List M):¬(IR c ms).isDone:=by cases ms <;> exact id
theorem Qi (c:Nat) (ms:List M):¬(Jq c ms).isDone:=by cases ms <;> exact id
end
end Go.Ns
namespace Go.Ns
open Go.Conc
section
variable (d m:Int) (gs:List Good) (ms:List AB) (cs:List AF)
def Lu (mask:Nat):Option (List Int):=if DK d gs ms (Cv cs (mask:Int) cs.length) m=true then none else some (BJ (mask:Int) cs.length)
def DE (k f:Nat):List (List Int):=(List.range' k f).filterMap (Lu d m gs ms cs)
def EB:List (List Int):=DE d m gs ms cs 0 (2 ^ cs.length)
def Eb:Int:=if Ak d m gs ms cs=0 then (if DK d gs ms cs m=true then 0 else if DK d gs ms (Cv cs 0 cs.length) m=true then 0 else 8) else Ak d m gs ms cs
def Fq:List Int:=if Ak d m gs ms cs=0∧DK d gs ms cs m=false∧DK d gs ms (Cv cs 0 cs.length) m=true then JQ ((EB d m gs ms cs).getD 0 []) ((EB d m gs ms cs).drop 1) else []
end
section
variable {d m:Int} {gs:List Good} {ms:List AB} {cs:List AF}
theorem Og {k f:Nat} (h:DK d gs ms (Cv cs (k:Int) cs.length) m=true):DE d m gs ms cs k (f+1)=DE d m gs ms cs (k+1) f:=by
 unfold DE Lu;rw [List.range'_succ,List.filterMap_cons];simp [h]
theorem Oh {k f:Nat} (h:DK d gs ms (Cv cs (k:Int) cs.length) m=false):DE d m gs ms cs k (f+1)=BJ (k:Int) cs.length ::DE d m gs ms cs (k+1) f:=by
 unfold DE Lu;rw [List.range'_succ,List.filterMap_cons];simp [h]
theorem VN {n i:Nat} (hn:n≤4) (hi:i<n):HP ((2 ^ n-1:Nat):Int) i=true:=by
 have h:∀n,n≤4→∀i,i<n→HP ((2 ^ n-1:Nat):Int) i=true:=by decide
 exact h n hn i hi
theorem VO {α:Type} (l:List α) (z:α):(List.range l.length).map (fun i=>l.getD i z)=l:=by
 apply List.ext_getElem
 ·simp
 ·intro i h1 h2;simp [List.getD_eq_getElem?_getD,List.getElem?_eq_getElem h2]
theorem VP (h:cs.length≤4):Cv cs ((2 ^ cs.length-1:Nat):Int) cs.length=cs:=by
 unfold Cv;rw [List.filter_eq_self.2 fun i hi=>VN h (List.mem_range.1 hi)];exact VO cs AF.z
theorem Ti (hcl:cs.length≤4) (h:DK d gs ms cs m=false):EB d m gs ms cs≠[]:=by
 intro e;unfold EB DE at e;rw [List.filterMap_eq_nil_iff] at e;have hp:0<2 ^ cs.length:=Nat.pow_pos (by decide)
 have:=e (2 ^ cs.length-1) (List.mem_range'.2 ⟨2 ^ cs.length-1,by omega,by omega⟩)
 unfold Lu at this;rw [VP hcl,if_neg (by rw [h];simp)] at this;cases this
theorem SB (hcl:cs.length≤4):(EB d m gs ms cs).length≤16:=by
 unfold EB DE;refine Nat.le_trans (List.length_filterMap_le _ _) ?_;rw [List.length_range'];exact Nat.pow_le_pow_right (n:=2) (by decide) hcl
theorem P4 (h:¬Ak d m gs ms cs=0):Eb d m gs ms cs=Ak d m gs ms cs:=by unfold Eb;rw [if_neg h]
theorem VQ (h:¬Ak d m gs ms cs=0):Fq d m gs ms cs=[]:=by unfold Fq;rw [if_neg (fun e=>h e.1)]
theorem Oi (h:Ak d m gs ms cs=0) (h1:DK d gs ms cs m=true):Eb d m gs ms cs=0:=by unfold Eb;rw [if_pos h,if_pos h1]
theorem Tj (h1:DK d gs ms cs m=true):Fq d m gs ms cs=[]:=by unfold Fq;rw [if_neg (fun e=>by rw [h1] at e;cases e.2.1)]
theorem NT (h:Ak d m gs ms cs=0) (h1:DK d gs ms cs m=false) (h2:DK d gs ms (Cv cs 0 cs.length) m=false):Eb d m gs ms cs=8:=by
 unfold Eb;rw [if_pos h,if_neg (by rw [h1];simp),if_neg (by rw [h2];simp)]
theorem SC (h2:DK d gs ms (Cv cs 0 cs.length) m=false):Fq d m gs ms cs=[]:=by unfold Fq;rw [if_neg (fun e=>by rw [h2] at e;cases e.2.2)]
theorem SD (h:Ak d m gs ms cs=0) (h1:DK d gs ms cs m=false) (h2:DK d gs ms (Cv cs 0 cs.length) m=true):Eb d m gs ms cs=0:=by
 unfold Eb;rw [if_pos h,if_neg (by rw [h1];simp),if_pos h2]
theorem YJ {fl:List Sl} (h:Ak d m gs ms cs=0) (h1:DK d gs ms cs m=false) (h2:DK d gs ms (Cv cs 0 cs.length) m=true) (hcl:cs.length≤4) (hfl:A8 fl=EB d m gs ms cs) :
  0<fl.length∧Fq d m gs ms cs=JQ (fl.getD 0 Sl.z).2 (A8 (fl.drop 1)):=by
 have hne:=Ti (d:=d) (gs:=gs) (ms:=ms) hcl h1;have hpos:0<fl.length:=by
  rw [←DH,hfl];exact List.length_pos_iff.2 hne
 refine ⟨hpos,?_⟩;unfold Fq;rw [if_pos ⟨h,h1,h2⟩,←hfl,Cg hpos];congr 1;unfold A8;rw [List.map_drop]
end
theorem At.pick {d m:Int} {gs:List Good} {ms:List AB} {cs:List AF} (b:At d m gs ms cs) (mask:Int):At d m gs ms (Cv cs mask cs.length):=
 { b with
  clen:=Nat.le_trans (QZ cs mask _) b.clen
  count:=fun k hk=>by
   have hm:=CB (d:=AF.z) hk;generalize hx:(Cv cs mask cs.length).getD k AF.z=x at hm;unfold Cv at hm;obtain ⟨i,hi,e⟩:=List.mem_map.1 hm;have hi2:=List.mem_range.1 (List.mem_filter.1 hi).1
   have:=b.count i hi2
   unfold FL at this ⊢;rw [hx,←e];exact this }
theorem B8.flags {h h':GH} {l:List Sl} (s:h.Same h') (a:B8 h l):B8 h' l:=fun k=>(a k).flags s
def RepL:Nat→List Int→Value→GH→Prop:=fun _ l v hm=>AJ hm v 1 eI l
def GH.part (h:GH) (v:Value):GH:=fun b=>if Bw v=some b then h b else none
def GH.rest (h:GH) (v:Value):GH:=fun b=>if Bw v=some b then none else h b
theorem GH.split_part (h:GH) (v:Value):GH.Split h (h.rest v) (h.part v) where
 left:=fun b p o hb=>by
  unfold GH.rest at hb;split at hb
  ·cases hb
  ·exact ⟨p,hb,id⟩
 right:=fun b p o hb=>by
  unfold GH.part at hb;split at hb
  ·exact ⟨p,hb,id⟩
  ·cases hb
 one:=fun r o x h1 h2=>by
  unfold GH.rest at h1;unfold GH.part at h2;split at h1
  ·cases h1
  ·rename_i e;rw [if_neg e] at h2;cases h2
 two:=fun r o x h1 h2=>by
  unfold GH.rest at h2;unfold GH.part at h1;split at h2
  ·cases h2
  ·rename_i e;rw [if_neg e] at h1;cases h1
theorem AR.part {α:Type} {h0 h:GH} {v:Value} {t:TypeId} {n:Nat} {enc:α→Array Value} {xs:List α} (x:AR h0 h v t n enc xs):AJ (h.part v) v n enc xs:=
 AR.sl (h0:=h0) (x.keep fun b o hb ho=>by unfold GH.part;rw [if_pos hb];exact ho)
theorem AR.le_rest {α:Type} {h0 h hb:GH} {v:Value} {t:TypeId} {n:Nat} {enc:α→Array Value} {xs:List α} (x:AR h0 h v t n enc xs) (l:hb.Le h) (l0:hb.Le h0):hb.Le (h.rest v):=fun b p o hbb=>by
 unfold GH.rest;rw [if_neg]
 ·exact l b p o hbb
 ·intro e;rcases x with ⟨rfl,_⟩ | ⟨b1,cap,c,rfl,f0,_⟩
  ·cases e
  ·have:b1=b:=by simpa [Bw] using e
   subst this
   have:=l0.keep hbb rfl
   rw [f0] at this;cases this
theorem AJ.join {α:Type} {h hm:GH} {v:Value} {n:Nat} {enc:α→Array Value} {xs:List α} (x:AJ hm v n enc xs) (c:h.Compat hm):AJ (h.join hm) v n enc xs:=x.flags fun b p o hb=>by
 unfold GH.join;cases e:h b with
 | none=>exact ⟨p,hb⟩
 | some y=>obtain ⟨q,o'⟩:=y;obtain ⟨rfl,rfl,rfl⟩:=c b q o' p o e hb;exact ⟨false,rfl⟩
theorem GH.Compat.le {a h hm:GH} (l:a.Le h) (c:h.Compat hm):a.Compat hm:=fun b p o q o' x y=>c b p o q o' (l.keep x rfl) y
theorem GH.Le.joins {a h hm:GH} (l:a.Le h) (c:h.Compat hm):(a.join hm).Le (h.join hm):=fun b p o hb=>by
 unfold GH.join at hb ⊢;cases e:a b with
 | some x=>rw [e] at hb;cases hb;rw [l.keep e rfl];exact ⟨o,rfl,.inl rfl⟩
 | none=>
  rw [e] at hb;cases e2:h b with
  | none=>exact ⟨o,hb,.inl rfl⟩
  | some y=>obtain ⟨q,o'⟩:=y;obtain ⟨rfl,rfl,rfl⟩:=c b q o' p o e2 hb;exact ⟨_,rfl,.inl rfl⟩
theorem AR.joins {α:Type} {h0 h hm:GH} {v:Value} {t:TypeId} {n:Nat} {enc:α→Array Value} {xs:List α} (x:AR h0 h v t n enc xs) (c:h.Compat hm):AR (h0.join hm) (h.join hm) v t n enc xs:=by
 rcases x with x | ⟨b,cap,cc,rfl,f0,f1,f2⟩
 ·exact .inl x
 ·refine .inr ⟨b,cap,cc,rfl,?_,?_,f2⟩
  ·unfold GH.join;rw [f0];cases e:hm b with
   | none=>rfl
   | some y=>obtain ⟨q,o'⟩:=y;have:=(c b _ _ q o' f1 e).1;cases this
  ·unfold GH.join;rw [f1]
section
variable {P:Program} {M:Type} {F:P2 P M} {i i':Option (Fi M)} {σ:Nat→Value} {ds:List Deferred} {h:GH} {Q:Te M}
theorem trI_ix {c:Code} (e:i=i') (x:LM F c i' σ ds h Q):LM F c i σ ds h Q:=e▸x
theorem XU {ops:Array Oper} {l:List Oper} (e:i=i') (x:Lp F ops l i' σ ds h Q):Lp F ops l i σ ds h Q:=e▸x
theorem YK {c:Code} {Q:Post} (x:LM F c none σ ds h fun i e σ ds h=>i=none∧Q e σ ds h):Tr ⟨F.W,F.fn,F.rd,F.N⟩ c σ ds h Q:=by
 intro b k cs L t hb hr hl hs hc;refine x b k cs (fun i=>match i with | none=>L | some _=>fun _ _ _ _=>False) t hb hr (fun i=>?_) hs fun i e σ' ds' h' q t' ht'=>?_
 ·cases i with
  | none=>exact hl
  | some s=>exact ⟨fun _ _ _ x=>x.elim,fun _ _ _ _ x=>x.elim,fun _ _ _ _ _ _ x=>x.elim⟩
 ·obtain ⟨rfl,q⟩:=q;exact hc e σ' ds' h' q t' ht'
theorem trI_end {c:Code} {Q:Post} (x:Tr (F.env none) c σ ds h Q):LM F c none σ ds h fun i e σ ds h=>i=none∧Q e σ ds h:=
 IQ (NY (fun _ _ _ _ q=>⟨rfl,q⟩) x)
variable {dst:Option Nat} {ty:TypeId} {pos:String} {af:Array Edge} {gd:Option (Nat×Bool)}
theorem run_send {a x:Operand} {c:Nat} {v:Value} (ha:AU σ a=.chan (some c)) (hx:AU σ x=v) (w:World):(execOp (AU σ) ⟨dst,.send a x,ty,pos,af,gd⟩).runT P w #[]=(.ok (.comm #[scase c v (.tuple #[])] true .send) w,#[]):=by
 subst hx;show (Result.ok (Next.comm #[{ chan:=AU σ a,send:=some (AU σ x),zero:=.tuple #[] }] true .send) w,#[])=_;rw [ha];rfl
theorem run_recv {a:Operand} {c:Nat} {t e:TypeId} {d:ChanDir} {ok:Bool} {z:Value} {inf:TypeInfo} (ht:P.underlying t=some (.chan d e)) (hi:P.info? e=some inf) (hz:inf.zero=some z) (ha:AU σ a=.chan (some c)) (w:World) :
  (execOp (AU σ) ⟨dst,.recv t a ok,ty,pos,af,gd⟩).runT P w #[]=(.ok (.comm #[rcase c z] true (.recv ok)) w,#[]):=by
 have h1:(zeroValue e).run P w=.ok z w:=by
  unfold zeroValue typeInfo;simp only [Sem.run_bind,program,hi];simp [Sem.run,hi,hz]
 have h2:(underlying t).run P w=.ok (.chan d e) w:=run_underlying ht w;rw [Sem.runT_eq];unfold execOp;simp [h1,h2,ha,rcase]
theorem Qj {a:Operand} {c:Nat} {t e:TypeId} {d:ChanDir} {ok:Bool} {z:Value} (ht:P.underlying t=some (.chan d e)) (hz:(P.info? e).map (·.zero)=some (some z)) (ha:AU σ a=.chan (some c)) (w:World) :
  (execOp (AU σ) ⟨dst,.recv t a ok,ty,pos,af,gd⟩).runT P w #[]=(.ok (.comm #[rcase c z] true (.recv ok)) w,#[]):=by
 obtain ⟨inf,hi,h2⟩:=Option.map_eq_some_iff.1 hz;exact run_recv ht hi h2 ha w
theorem run_go {x:Operand} {f:Fn} {cap:Array Value} {tys:Array TypeId} (hx:AU σ x=.func f #[] cap) (w:World):(execOp (AU σ) ⟨dst,.go ⟨.value x,#[],tys⟩,ty,pos,af,gd⟩).runT P w #[]=(.ok (.spawn { target:=.fn f cap,args:=#[] }) w,#[]):=by
 have e:resolve (AU σ) ⟨.value x,#[],tys⟩ ty=(pure { target:=.fn f cap,args:=#[] }:Sem Deferred):=by
  unfold resolve;simp only [hx,Deferred.ofValue];simp
 unfold execOp;simp only [e];rfl
variable {E:Gm P} {T:(Nat→Value)→List Deferred→GH→Prop}
theorem Tk {t e:TypeId} {d:ChanDir} {n:Operand} (ht:P.underlying t=some (.chan d e)) (hi0:(P.info? e).isSome=true) (hn:AU σ n=.int .i64 0)
  (k:∀r h',h r=none→h.Le h'→h' r=some (true,.chan 0 #[] false 0 0 false)→(∀b,b≠r→h' b=h b)→T (putS σ dst (.chan (some r))) ds h'):Bi E ⟨dst,.makeChan t n,ty,pos,af,gd⟩ σ ds h T:=by
 unfold Bi execOp;refine F0 ?_;unfold Instr.makeChan;rw [hn];refine AG _ _ (A1 ?_);refine AG _ _ (Aq ht ?_);simp only [];obtain ⟨inf,hi⟩:=Option.isSome_iff_exists.1 hi0;refine AG _ _ (C4 hi ?_);rw [if_neg (by simp [IntKind.max];decide)];refine AG _ _ ?_;exact fun r hr=>k r _ hr (GH.Le.new hr _ _) (GH.set_same _ _ _ _) fun b hb=>GH.set_ne _ _ _ hb
theorem trL_def {ops:Array Oper} {l:List Oper} {o:Oper} {Q:Post} (hg:o.guard=none) (hrd:E.rd=none) (hd:Ej o.dst E.N=true) (x:Bi E o σ ds h fun σ' ds' h'=>EL E ops l σ' ds' h' Q):EL E ops (o ::l) σ ds h Q:=
 Zu hg (.inl hrd) hd x
theorem P5 {x:Operand} {c:Nat} {tys:Array TypeId} {bs:Array Bool} (hx:AU σ x=.chan (some c)) (hb:(#[x].map fun | .const _=>true | _=>false)=bs) (k:T (putS σ dst undef) (Ku tys ty bs c ::ds) h) :
  Bi E ⟨dst,.defer ⟨.builtin .close,#[x],tys⟩,ty,pos,af,gd⟩ σ ds h T:=by
 unfold Bi execOp;simp only [];refine AG _ _ ?_;unfold resolve;simp only [];refine A1 (A1 ?_);have e:(#[x].map (AU σ):Array Value)=#[.chan (some c)]:=by simp [hx]
 rw [e];subst hb;exact k
end
section
variable {d m:Int} {gs:List Good} {ms:List AB} {cs:List AF} {k c:Nat}
theorem VR (hk:k<2 ^ cs.length) (h:DK d gs ms (Cv cs (k:Int) cs.length) m=true) :
  some (IR c (DE d m gs ms cs k (2 ^ cs.length-k)))=some (IR c (DE d m gs ms cs (k+1) (2 ^ cs.length-(k+1)))):=by
 rw [show 2 ^ cs.length-k=(2 ^ cs.length-(k+1))+1 by omega,Og h]
theorem VS (hk:k<2 ^ cs.length) (h:DK d gs ms (Cv cs (k:Int) cs.length) m=false) :
  some (IR c (DE d m gs ms cs k (2 ^ cs.length-k)))=some (.send c (BJ (k:Int) cs.length) (IR c (DE d m gs ms cs (k+1) (2 ^ cs.length-(k+1))))):=by
 rw [show 2 ^ cs.length-k=(2 ^ cs.length-(k+1))+1 by omega,Oh h];rfl
theorem YL (hk:2 ^ cs.length≤k):some (IR c (DE d m gs ms cs k (2 ^ cs.length-k)))=some (.close c .done):=by
 rw [show 2 ^ cs.length-k=0 by omega];rfl
theorem Tl (h:(k:Int)<(2:Int) ^ ((cs.length:Int)).toNat):k<2 ^ cs.length:=by
 have:=R9 cs.length
 rw [Int.toNat_natCast] at h;omega
theorem clash_ge (h:¬(k:Int)<(2:Int) ^ ((cs.length:Int)).toNat):2 ^ cs.length≤k:=by
 have:=R9 cs.length
 rw [Int.toNat_natCast] at h;omega
end
end Go.Ns
namespace Go.Ns
def SE (ms:List AB) (p:AT) (g:Int) (k:Nat):Int:=if (ms.getD k AB.z).good=g then signed (ms.getD k AB.z).kind.toNat (CG p k) else 0
def FC (ms:List AB) (p:AT) (g:Int) (k:Nat):Int×Int:=((ms.getD k AB.z).day,SE ms p g k)
def Nh (ms:List AB) (p:AT) (g:Int):List (Int×Int):=(List.range ms.length).map (FC ms p g)
def runA (n low:Int):List (Int×Int)→Int×Int
 | []=>(n,low)
 | [x]=>(n+x.2,min (n+x.2) low)
 | x ::y ::t=>runA (n+x.2) (if x.1<y.1 then min (n+x.2) low else low) (y ::t)
def runB (c n low:Int):List (Int×Int)→Int×Int
 | []=>(n,min n low)
 | x ::t=>if c<x.1 then runB x.1 (n+x.2) (min n low) t else runB c (n+x.2) low t
def Gq:Int→List (Int×Int)→Prop
 | _,[]=>True
 | c,x ::t=>c≤x.1∧Gq x.1 t
theorem runA_B:∀(t:List (Int×Int)) (x:Int×Int) (n low:Int),Gq x.1 t→runA n low (x ::t)=runB x.1 (n+x.2) low t
 | [],x,n,low,_=>rfl
 | y ::t,x,n,low,h=>by
  show runA (n+x.2) _ (y ::t)=if x.1<y.1 then _ else _
  rw [runA_B t y _ _ h.2];by_cases e:x.1<y.1
  ·rw [if_pos e,if_pos e]
  ·rw [if_neg e,if_neg e,show x.1=y.1 from by have:=h.1;omega]
theorem runA_B0 {n:Int}:∀{t:List (Int×Int)},(∀x ∈ t,1≤x.1)→Gq 0 t→runA n n t=runB 0 n n t
 | [],_,_=>by simp [runA,runB,Int.min_self]
 | x ::t,h1,h=>by
  rw [runA_B t x n n h.2];show _=if 0<x.1 then _ else _
  rw [if_pos (by have:=h1 x (by simp);omega),Int.min_self]
theorem Gq.weak {c c':Int} (hc:c'≤c):∀{t:List (Int×Int)},Gq c t→Gq c' t
 | [],_=>trivial
 | _ ::_,h=>⟨by have:=h.1;omega,h.2⟩
theorem YM {c d n low:Int} (hcd:c<d):∀{t:List (Int×Int)},Gq d t→runB d n (min n low) t=runB c n low t
 | [],_=>by simp only [runB];congr 1;omega
 | y ::t,h=>by
  have h1:=h.1;show (if d<y.1 then _ else _)=if c<y.1 then _ else _
  rw [if_pos (show c<y.1 by omega)];by_cases e:d<y.1
  ·rw [if_pos e,show min n (min n low)=min n low by omega]
  ·rw [if_neg e,show d=y.1 by omega]
theorem Ht {ι:Type} {f:ι→Int×Int} {q:ι→Bool}:∀{l:List ι} {c n low:Int},(∀i ∈ l,q i=false→(f i).2=0)→Gq c (l.map f)→runB c n low (l.map f)=runB c n low ((l.filter q).map f)
 | [],_,_,_,_,_=>rfl
 | i ::l,c,n,low,hz,hr=>by
  have hz':∀j ∈ l,q j=false→(f j).2=0:=fun j hj=>hz j (by simp [hj]);cases hq:q i with
  | true=>
   rw [List.filter_cons_of_pos hq];show (if c<(f i).1 then _ else _)=if c<(f i).1 then _ else _
   split
   ·exact Ht hz' hr.2
   ·exact Ht hz' (Gq.weak hr.1 hr.2)
  | false=>
   rw [List.filter_cons_of_neg (by simp [hq])];have h0:=hz i (by simp) hq;show (if c<(f i).1 then runB (f i).1 (n+(f i).2) _ _ else _)=_;rw [h0,Int.add_zero];have hr2:Gq (f i).1 (l.map f):=hr.2;rw [←Ht hz' (Gq.weak hr.1 hr2)];split
   ·rename_i e;exact YM e hr2
   ·rfl
theorem Oj {ms:List AB} {p:AT} {g dy:Int} (hd:∀k,k<ms.length→(ms.getD k AB.z).day≤dy):∀(f k:Nat) (n low:Int),k+f=ms.length→Cs ms p g dy f k n low=runA n low ((List.range' k f).map (FC ms p g))
 | 0,_,_,_,_=>rfl
 | f+1,k,n,low,e=>by
  have h1:¬dy<(ms.getD k AB.z).day:=by have:=hd k (by omega);omega
  unfold Cs;rw [if_neg h1,Oj hd f (k+1) _ _ (by omega),List.range'_succ,List.map_cons];have hn:GS ms p g k n=n+(FC ms p g k).2:=by unfold GS FC SE;simp only [];split <;> omega
  cases f with
  | zero=>
   show (_,_)=(_,_);rw [hn];congr 1;unfold Fl;rw [if_pos (.inl (by omega)),Int.min_comm]
  | succ f=>
   rw [List.range'_succ,List.map_cons,hn];have hne:¬((k:Int)+1=ms.length):=by omega
   have hlow:Fl ms k low (n+(FC ms p g k).2)=if (FC ms p g k).1<(FC ms p g (k+1)).1 then min (n+(FC ms p g k).2) low else low:=by
    show (if (k:Int)+1=ms.length∨(ms.getD k AB.z).day<(ms.getD (k+1) AB.z).day then _ else _)=if (ms.getD k AB.z).day<(ms.getD (k+1) AB.z).day then _ else _
    by_cases e2:(ms.getD k AB.z).day<(ms.getD (k+1) AB.z).day
    ·rw [if_pos (.inr e2),if_pos e2,Int.min_comm]
    ·rw [if_neg (by simp only [e2,or_false];exact hne),if_neg e2]
   rw [hlow];rfl
theorem YN {ms:List AB} {p:AT} {g dy:Int} (hd:∀k,k<ms.length→(ms.getD k AB.z).day≤dy):AN ms p g dy=runA (p.first g.toNat) (p.first g.toNat) (Nh ms p g):=by
 unfold AN Nh;rw [Oj hd ms.length 0 _ _ (by omega),List.range_eq_range']
theorem GX {d m:Int} {gs:List Good} {ms:List AB} {cs:List AF} (b:At d m gs ms cs):Ak d m gs ms cs=0:=by
 unfold Ak;refine En fun j _ hj=>?_
 have:j=0∨j=1∨j=2∨j=3:=by omega
 rcases this with rfl | rfl | rfl | rfl
 ·show ET d m=0;unfold ET;have:=b.days;have:=b.most;rw [if_neg (by omega)]
 ·show BY gs=0;unfold BY;have:=b.glen;rw [if_neg (by omega)];exact En fun j _ hj=>b.good j (by omega)
 ·show BM d gs ms=0;unfold BM;have:=b.mlen;rw [if_neg (by omega)];exact En fun j _ hj=>b.move j (by omega)
 ·show CH d gs cs=0;unfold CH;have:=b.clen;rw [if_neg (by omega)];exact En fun j _ hj=>b.count j (by omega)
def I9 (ms:List AB):Prop:=ms.Pairwise fun a b=>a.day≤b.day
section
variable {d m:Int} {gs:List Good} {ms:List AB} {cs:List AF}
theorem At.up (b:At d m gs ms cs):I9 ms:=by
 have adj:∀k,k+1<ms.length→(ms.getD k AB.z).day≤(ms.getD (k+1) AB.z).day:=fun k hk=>by
  have:=(b.move' hk).2.2.2.1
  unfold Du at this;rw [if_neg (by omega)] at this;simpa using this
 have all:∀f k,k+f<ms.length→(ms.getD k AB.z).day≤(ms.getD (k+f) AB.z).day:=by
  intro f
  induction f with
  | zero=>intro k _;exact Int.le_refl _
  | succ f ih=>intro k hk;exact Int.le_trans (ih k (by omega)) (adj (k+f) (by omega))
 unfold I9;rw [List.pairwise_iff_getElem];intro i j hi hj hij
 have:=all (j-i) i (by omega)
 rw [show i+(j-i)=j by omega,BW AB.z hi,BW AB.z hj] at this;exact this
theorem Qk {ι:Type} {f:ι→Int×Int}:∀{l:List ι} {c:Int},l.Pairwise (fun i j=>(f i).1≤(f j).1)→(∀i ∈ l,c≤(f i).1)→Gq c (l.map f)
 | [],_,_,_=>trivial
 | i ::l,c,h,h1=>⟨h1 i (by simp),Qk (List.pairwise_cons.1 h).2 fun j hj=>(List.pairwise_cons.1 h).1 j hj⟩
theorem At.pairsUp (b:At d m gs ms cs) (p:AT) (g:Int) {l:List Nat} (s:l.Sublist (List.range ms.length)):Gq 0 (l.map (FC ms p g)):=by
 refine Qk ?_ fun i hi=>?_
 ·have h1:(List.range ms.length).Pairwise (fun i j=>(FC ms p g i).1≤(FC ms p g j).1):=by
   rw [List.pairwise_iff_getElem];intro i j hi hj hij;simp only [List.getElem_range]
   have:=b.up
   unfold I9 at this;rw [List.pairwise_iff_getElem] at this;simp only [List.length_range] at hi hj
   have:=this i j hi hj hij
   rwa [←BW AB.z,←BW AB.z] at this
  exact h1.sublist s
 ·have:=List.mem_range.1 (s.subset hi)
  have:=(b.move' this).2.2.1
  show 0≤(ms.getD i AB.z).day;omega
theorem At.stock (b:At d m gs ms cs) (p:AT) (g:Int):AN ms p g d=runB 0 (p.first g.toNat) (p.first g.toNat) (Nh ms p g):=by
 rw [YN fun k hk=>(b.move' hk).2.2.1.2];refine runA_B0 (fun x hx=>?_) (b.pairsUp p g (List.Sublist.refl _));obtain ⟨i,hi,rfl⟩:=List.mem_map.1 hx;exact (b.move' (List.mem_range.1 hi)).2.2.1.1
end
theorem M8 {l:List Int} {n:Int} (h:(l.length:Int)=n) (h2:∀x ∈ l,0≤x∧x≤99):BA l n=0:=by
 unfold BA;rw [if_neg (by simpa using h),if_neg];rw [List.any_eq_true];rintro ⟨x,hx,e⟩;exact (of_decide_eq_true e) (h2 x hx)
theorem lieAt_of {ms:List AB} {l:List Int} (h1:∀x ∈ l,DQ ms x=true∧0≤x) (h2:l.Pairwise (· < ·)):Dh (JP ms l) 0 l.length=0:=by
 refine En fun j _ hj=>?_;have hj:j<l.length:=by omega
 unfold JP;rw [if_neg (by rw [(h1 _ (CB hj)).1];simp),if_neg];unfold Gz;split
 ·have:=(h1 _ (CB (d:=(0:Int)) hj)).2;omega
 ·rw [List.pairwise_iff_getElem] at h2
  have:=h2 (j-1) j (by omega) hj (by omega)
  rw [BW 0 hj,BW 0 (show j-1<l.length by omega)];omega
section
variable {d m:Int} {gs:List Good} {ms:List AB} {cs:List AF} {picks:List Int} {bits:Int}
theorem YO (b:At d m gs ms cs) {f y l:List Int} (hf:BA f gs.length=0) (hy:BA y ms.length=0) (hl:Dh (JP ms l) 0 l.length=0):Ai d m gs ms cs f y l=0:=
 G0 (by simpa using GX b) (by simpa using hf) (by simpa using hy) hl
theorem Tm (p:AT) (l:List Int) (i:Nat) (h0:∀x ∈ l,0≤x):(Di p l l.length).lies i=(decide ((i:Int) ∈ l) || p.lies i):=by
 unfold Di;rw [List.take_length]
 induction l generalizing p with
 | nil=>simp
 | cons x l ih=>
  rw [List.foldl_cons,ih _ fun y hy=>h0 y (by simp [hy])];have hx:=h0 x (by simp);show (decide ((i:Int) ∈ l) || if i=x.toNat then true else p.lies i)=_;by_cases e:i=x.toNat
  ·rw [if_pos e]
   have:(i:Int)=x:=by omega
   simp [this]
  ·rw [if_neg e]
   have:¬(i:Int)=x:=by omega
   simp [this]
theorem SF (p:AT) (l:List Int) (k:Nat):(Di p l k).first=p.first∧(Di p l k).many=p.many:=by
 unfold Di;generalize l.take k=t
 induction t generalizing p with
 | nil=>exact ⟨rfl,rfl⟩
 | cons x t ih=>exact ih (p.setLie x.toNat true)
end
end Go.Ns
namespace Go.Ns
open Go.Conc
section
variable {P:Program} {E:Gm P} {σ:Nat→Value} {ds:List Deferred} {h:GH} {T:(Nat→Value)→List Deferred→GH→Prop} {dst:Option Nat} {ty:TypeId} {pos:String} {af:Array Edge} {gd:Option (Nat×Bool)}
theorem VT {s:ByteArray} {i:Nat} (h:i<s.size):((s[i]'h).toNat:Int)=(bytesOf s).getD i 0:=by
 have h2:i<(bytesOf s).length:=by rw [Cq];exact h
 rw [BW 0 h2];exact (List.getElem_map (l:=s.data.toList) (f:=fun b=>(b.toNat:Int)) (h:=h2)).symm
theorem Ok {t:TypeId} {x ix:Operand} {s:ByteArray} {kd:IntKind} {i:Int} (ht:Ny P t=true) (hx:AU σ x=.string s) (hi:AU σ ix=.int kd i) (h0:0≤i) (h1:i<s.size) (k:T (putS σ dst (.int .u8 ((bytesOf s).getD i.toNat 0))) ds h) :
  Bi E ⟨dst,.index t x ix,ty,pos,af,gd⟩ σ ds h T:=QN ht hx hi h0 h1 (by rw [VT];exact k)
end
theorem Tn {s:ByteArray} (h:¬(1≤(s.size:Int)∧(s.size:Int)≤10)):Dz s=false:=by unfold Dz;rw [decide_eq_false h,Bool.and_false]
def Dw (d:Int) (gs:List Good) (c:AF):Int:=if¬(0≤c.good∧c.good≤(gs.length:Int)-1) then 6 else if¬(0≤c.day∧c.day≤d)∨¬((0≤c.low∧c.low≤c.high)∧c.high≤999) then 1 else 0
section
variable {d m:Int} {gs:List Good} {ms:List AB} {cs:List AF}
theorem Hu:Ak d m gs ms cs=if ET d m=0 then (if BY gs=0 then (if BM d gs ms=0 then (if CH d gs cs=0 then 0 else CH d gs cs) else BM d gs ms) else BY gs) else ET d m:=rfl
theorem bb1 (h:¬(1≤d∧d≤99)∨¬(0≤m∧m≤2)):Ak d m gs ms cs=1:=by
 have e:ET d m=1:=if_pos h;rw [Hu,e,if_neg (by decide)]
theorem head0 (h:(1≤d∧d≤99)∧(0≤m∧m≤2)):ET d m=0:=if_neg (by omega)
theorem bb2 (h0:(1≤d∧d≤99)∧(0≤m∧m≤2)) (h:¬BY gs=0):Ak d m gs ms cs=BY gs:=by rw [Hu,if_pos (head0 h0),if_neg h]
theorem bb3 (h0:(1≤d∧d≤99)∧(0≤m∧m≤2)) (h:¬¬BY gs=0) (h2:¬BM d gs ms=0):Ak d m gs ms cs=BM d gs ms:=by rw [Hu,if_pos (head0 h0),if_pos (Decidable.not_not.1 h),if_neg h2]
theorem bb4 (h0:(1≤d∧d≤99)∧(0≤m∧m≤2)) (h:¬¬BY gs=0) (h2:¬¬BM d gs ms=0) {c:Int} (h3:CH d gs cs=c):Ak d m gs ms cs=c:=by
 rw [Hu,if_pos (head0 h0),if_pos (Decidable.not_not.1 h),if_pos (Decidable.not_not.1 h2),h3];by_cases e:c=0
 ·rw [if_pos e,e]
 ·rw [if_neg e]
theorem VU (h:(4:Int)<cs.length):CH d gs cs=2:=if_pos h
theorem VV {k:Nat} (h:¬(4:Int)<cs.length) (hs:∀j,j<k→FL d gs cs j=0) (hk:k<cs.length) (e:¬Dw d gs (cs.getD k AF.z)=0):CH d gs cs=Dw d gs (cs.getD k AF.z):=by
 unfold CH;rw [if_neg h];exact BX hs hk rfl e
theorem VW {k:Nat} (h:¬(4:Int)<cs.length) (hs:∀j,j<k→FL d gs cs j=0) (hk:cs.length≤k):CH d gs cs=0:=by
 unfold CH;rw [if_neg h];exact Ce hs hk
theorem Ol {k:Nat} (h:0<k):Du ms k=(ms.getD ((k:Int)-1).toNat AB.z).day:=by
 unfold Du;rw [if_neg (by omega),show ((k:Int)-1).toNat=k-1 by omega]
theorem mv1 {k:Nat} (h:(ms.getD k AB.z).kind<0∨4<(ms.getD k AB.z).kind):DY d gs ms k=1:=by unfold DY;rw [if_pos (by omega)]
theorem mv2 {k:Nat} (h0:¬((ms.getD k AB.z).kind<0∨4<(ms.getD k AB.z).kind)) (h:¬(0≤(ms.getD k AB.z).good∧(ms.getD k AB.z).good≤(gs.length:Int)-1)):DY d gs ms k=6:=by unfold DY;rw [if_neg (by omega),if_pos h]
theorem mv3 {k:Nat} (h0:¬((ms.getD k AB.z).kind<0∨4<(ms.getD k AB.z).kind)) (h1:¬¬(0≤(ms.getD k AB.z).good∧(ms.getD k AB.z).good≤(gs.length:Int)-1)) (h:¬(1≤(ms.getD k AB.z).day∧(ms.getD k AB.z).day≤d)):DY d gs ms k=1:=by
 unfold DY;rw [if_neg (by omega),if_neg h1,if_pos h]
theorem mv4 {k:Nat} (h0:¬((ms.getD k AB.z).kind<0∨4<(ms.getD k AB.z).kind)) (h1:¬¬(0≤(ms.getD k AB.z).good∧(ms.getD k AB.z).good≤(gs.length:Int)-1)) (h2:¬¬(1≤(ms.getD k AB.z).day∧(ms.getD k AB.z).day≤d)) (hk:(0:Int)<(k:Int))
  (h:(ms.getD k AB.z).day<(ms.getD ((k:Int)-1).toNat AB.z).day):DY d gs ms k=7:=by
 unfold DY;rw [if_neg (by omega),if_neg h1,if_neg h2,Ol (by omega),if_pos h]
theorem mv5 {k:Nat} (h0:¬((ms.getD k AB.z).kind<0∨4<(ms.getD k AB.z).kind)) (h1:¬¬(0≤(ms.getD k AB.z).good∧(ms.getD k AB.z).good≤(gs.length:Int)-1)) (h2:¬¬(1≤(ms.getD k AB.z).day∧(ms.getD k AB.z).day≤d)) {c:Int}
  (h3:(0:Int)<(k:Int)→¬(ms.getD k AB.z).day<(ms.getD ((k:Int)-1).toNat AB.z).day) (h4:(if¬E7 (ms.getD k AB.z).low (ms.getD k AB.z).high then (1:Int) else 0)=c):DY d gs ms k=c:=by
 have e:¬(ms.getD k AB.z).day<Du ms k:=by
  by_cases hk:0<k
  ·rw [Ol hk];exact h3 (by omega)
  ·have:=Decidable.not_not.1 h2
   unfold Du;rw [if_pos (by omega)];omega
 unfold DY;rw [if_neg (by omega),if_neg h1,if_neg h2,if_neg e,h4]
theorem gd4 {k:Nat} (h:Dz (gs.getD k Good.z).name=false):FS gs k=4:=by unfold FS;rw [if_pos h]
theorem gd5 {k j:Nat} (h0:Dz (gs.getD k Good.z).name=true) (hj:(j:Int)<(k:Int)) (hk:(k:Int)<gs.length) (h:((gs.getD j Good.z).name.toList==(gs.getD k Good.z).name.toList)=true):FS gs k=5:=by
 unfold FS;rw [if_neg (by rw [h0];decide),if_pos];rw [List.any_eq_true];refine ⟨gs.getD j Good.z,?_,h⟩;rw [BW Good.z (show j<gs.length by omega)];exact List.mem_take_iff_getElem.2 ⟨j,by omega,rfl⟩
theorem gd1 {k j:Nat} (h0:Dz (gs.getD k Good.z).name=true) (hj:j≤k) (hj':¬(j:Int)<(k:Int)) (h:(gs.take j).any (fun x=>x.name.toList==(gs.getD k Good.z).name.toList)=false) {c:Int}
  (hc:(if (¬(0≤(gs.getD k Good.z).cost∧(gs.getD k Good.z).cost≤999)∨¬(1≤(gs.getD k Good.z).pack∧(gs.getD k Good.z).pack≤20))∨¬E7 (gs.getD k Good.z).low (gs.getD k Good.z).high then (1:Int) else 0)=c):FS gs k=c:=by
 obtain rfl:j=k:=by omega
 unfold FS;rw [if_neg (by rw [h0];decide),if_neg (by rw [h];decide),hc]
def Ee (gs:List Good) (ms:List AB) (cs:List AF):Bool:=decide ((20:Int)<gs.length) || decide ((20:Int)<ms.length) || decide ((20:Int)<cs.length) || gs.any fun x=>decide ((100:Int)<x.name.size)
theorem YP (h:((20:Int)<gs.length∨(20:Int)<ms.length)∨(20:Int)<cs.length):Ee gs ms cs=true:=by
 unfold Ee;rcases h with (h | h) | h <;> simp [h]
theorem YQ {k:Nat} (hk:k<gs.length) (h:(100:Int)<(gs.getD k Good.z).name.size):Ee gs ms cs=true:=by
 unfold Ee;rw [Bool.or_eq_true];right;rw [List.any_eq_true];exact ⟨_,CB hk,decide_eq_true h⟩
theorem YR {k:Nat} (h:¬(20:Int)<gs.length) (h2:¬(20:Int)<ms.length) (h3:¬(20:Int)<cs.length) (hk:gs.length≤k) (hs:∀j,j<k→¬(100:Int)<(gs.getD j Good.z).name.size):Ee gs ms cs=false:=by
 unfold Ee;rw [decide_eq_false h,decide_eq_false h2,decide_eq_false h3];simp only [Bool.false_or];rw [List.any_eq_false];intro x hx;obtain ⟨i,hi,rfl⟩:=List.getElem_of_mem hx
 have:=hs i (by omega)
 rw [BW Good.z hi] at this;simpa using this
theorem To (h:Ee gs ms cs=false):∀k,(gs.getD k Good.z).name.size≤1000:=by
 unfold Ee at h;rw [Bool.or_eq_false_iff] at h;intro k;by_cases hk:k<gs.length
 ·have:=List.any_eq_false.1 h.2 _ (CB (d:=Good.z) hk)
  have:=of_decide_eq_false (Bool.eq_false_iff.2 this)
  omega
 ·rw [B2 (by omega)];decide
theorem Lx (h:(!Ee gs ms cs)=true):∀k,(gs.getD k Good.z).name.size≤1000:=To (by simpa using h)
def VX (d m:Int) (gs:List Good) (ms:List AB) (cs:List AF):Bool:= !Ee gs ms cs && decide (Ak d m gs ms cs=0)
end
theorem B8.cons {h:GH} {l:List Sl} {v:Value} {xs:List Int} (a:AJ h v 1 eI xs) (b:B8 h l):B8 h ((v,xs) ::l):=fun k=>by
 cases k with
 | zero=>exact a
 | succ k=>exact b k
theorem VY {a b:List Sl} {k:Nat} (h:(A8 a).take k=(A8 b).take k) (ha:k<a.length) (hb:k<b.length) (e:(a.getD k Sl.z).2=(b.getD k Sl.z).2):(A8 a).take (k+1)=(A8 b).take (k+1):=
 OF [] h (by rw [DH];exact ha) (by rw [DH];exact hb) (by rw [Cg ha,Cg hb,e])
theorem YS {a b:List Sl} {k:Nat} (h:(A8 a).take k=(A8 b).take k) (hk:¬(k:Int)<a.length) (hl:(a.length:Int)=b.length):A8 a=A8 b:=by
 rw [List.take_of_length_le (by rw [DH];omega),List.take_of_length_le (by rw [DH];omega)] at h;exact h
theorem lists_ne {a b:List Sl} (h:¬(a.length:Int)=b.length):¬A8 a=A8 b:=fun e=>h (by rw [←DH,←DH,e])
theorem VZ {a b:List Sl} {k:Nat} (ha:k<a.length) (hb:k<b.length) (e:¬(a.getD k Sl.z).2=(b.getD k Sl.z).2):¬A8 a=A8 b:=fun q=>e (by rw [←Cg ha,←Cg hb,q])
end Go.Ns
namespace Go.Ns
open Go.Conc
def DS:List Good:=[⟨⟨#[116,101,97]⟩,5,4,3,3⟩,⟨⟨#[114,105,99,101]⟩,2,10,5,6⟩]
def DZ:List AB:=[⟨0,0,2,4,4⟩,⟨1,0,3,2,3⟩,⟨2,1,4,0,1⟩,⟨0,1,5,10,10⟩]
def Da:List AF:=[⟨0,10,4,5⟩,⟨1,10,5,5⟩]
theorem EC:∀k,(DS.getD k Good.z).name.size≤1000
 | 0=>by decide
 | 1=>by decide
 | k+2=>by rw [B2 (by simp [DS])];decide
theorem fill_sl7 {v0 v1 v2 v3 v4 v5 v6:Value} (h0:v0.cells=#[v0]) (h1:v1.cells=#[v1]) (h2:v2.cells=#[v2]) (h3:v3.cells=#[v3]) (h4:v4.cells=#[v4]) (h5:v5.cells=#[v5]) (h6:v6.cells=#[v6]):Instr.fill (fun i=>some (i*1,1)) ((Array.range (7*1)).map (#[Value.slice none 0 0][·% #[Value.slice none 0 0].size]!)) [(0,v0),(1,v1),(2,v2),(3,v3),(4,v4),(5,v5),(6,v6)]=some #[v0,v1,v2,v3,v4,v5,v6]:=by
 have e:((Array.range (7*1)).map (#[Value.slice none 0 0][·% #[Value.slice none 0 0].size]!))=#[Value.slice none 0 0,Value.slice none 0 0,Value.slice none 0 0,Value.slice none 0 0,Value.slice none 0 0,Value.slice none 0 0,Value.slice none 0 0]:=by kernel_rfl
 rw [e];simp [Instr.fill,h0,h1,h2,h3,h4,h5,h6]
theorem AJ.isSl {α:Type} {h:GH} {v:Value} {n:Nat} {enc:α→Array Value} {xs:List α} (x:AJ h v n enc xs):∀k i,v≠.int k i:=by
 obtain ⟨a,cap,rfl,_⟩:=x;intro k i e;cases e
theorem AJ.across {h h':GH} {v:Value} {xs:List Int} {r:Nat} {a b c:Value} {T:TypeId} (x:AJ h v 1 eI xs) (hb:h r=some (true,.cells #[.int .i64 10,.int .i64 1,a,b,c] T (0,0))) (ho:∀y,y≠r→h' y=h y)
  (ha:∀k i,a≠.int k i) (hb':∀k i,b≠.int k i) (hc:∀k i,c≠.int k i) (hx:∀o,o<5→∃i:Fin xs.length,(o+i.val=0→xs[i.val]≠10)∧(o+i.val=1→xs[i.val]≠1)):AJ h' v 1 eI xs:=by
 obtain ⟨ad,cap,hv,hcap,hm,he⟩:=x;refine ⟨ad,cap,hv,hcap,hm,fun i hi=>?_⟩;obtain ⟨y,off,h1,h2⟩:=he i hi;refine ⟨y,off,h1,h2.same (ho y ?_)⟩;rintro rfl;have key:∀j (hj:j<xs.length),off+j<5∧(#[Value.int .i64 10,.int .i64 1,a,b,c]:Array Value).extract (off+j) (off+j+1)=eI xs[j]:=fun j hj=>by
  obtain ⟨y2,off2,h3,h4⟩:=he j hj;rw [h1] at h3;simp only [Option.some.injEq,Addr.mk.injEq,and_true] at h3;obtain ⟨rfl,rfl⟩:=h3;obtain ⟨p,cc,t,f,q1,q2,q3⟩:=h4;rw [hb] at q1;simp only [Option.some.injEq,Prod.mk.injEq,Obj.cells.injEq] at q1;obtain ⟨_,rfl,_⟩:=q1;rw [Nat.mul_one] at q2 q3;exact ⟨by simp at q2;omega,q3⟩
 obtain ⟨⟨j,hj⟩,e0,e1⟩:=hx off (by have:=(key i hi).1;omega);obtain ⟨k1,k2⟩:=key j hj;simp only at e0 e1;generalize off+j=o at k1 k2 e0 e1;generalize xs[j]=z at k2 e0 e1
 have:o=0∨o=1∨o=2∨o=3∨o=4:=by omega
 rcases this with rfl | rfl | rfl | rfl | rfl
 ·have k3:(#[.int .i64 10]:Array Value)=#[.int .i64 z]:=k2;simp at k3;exact e0 rfl k3.symm
 ·have k3:(#[.int .i64 1]:Array Value)=#[.int .i64 z]:=k2;simp at k3;exact e1 rfl k3.symm
 ·have k3:(#[a]:Array Value)=#[.int .i64 z]:=k2;simp at k3;exact ha _ _ k3
 ·have k3:(#[b]:Array Value)=#[.int .i64 z]:=k2;simp at k3;exact hb' _ _ k3
 ·have k3:(#[c]:Array Value)=#[.int .i64 z]:=k2;simp at k3;exact hc _ _ k3
def EW (d m:Int) (gs:List Good) (ms:List AB) (cs:List AF):Int:=if Ak d m gs ms cs=0 then ((AV d gs ms cs m).length:Int) else 0
end Go.Ns
namespace Go.Ns
open Go.Conc
section
variable {P:Program} {E:Gm P} {σ:Nat→Value} {ds:List Deferred} {h:GH} {T:(Nat→Value)→List Deferred→GH→Prop} {dst:Option Nat} {ty:TypeId} {pos:String} {af:Array Edge} {gd:Option (Nat×Bool)}
end
section
variable {d m:Int} {gs:List Good} {ms:List AB} {cs:List AF} {f y l:List Int}
theorem fit_ok (h:VX d m gs ms cs=true):At d m gs ms cs∧∀k,(gs.getD k Good.z).name.size≤1000:=by
 unfold VX at h;rw [Bool.and_eq_true] at h;exact ⟨Iz (of_decide_eq_true h.2),Lx h.1⟩
end
end Go.Ns
namespace Go.Ns
open Go.Conc
section
variable {P:Program} {E:Gm P} {σ:Nat→Value} {ds:List Deferred} {h:GH} {T:(Nat→Value)→List Deferred→GH→Prop} {dst:Option Nat} {ty:TypeId} {pos:String} {af:Array Edge} {gd:Option (Nat×Bool)}
end
end Go.Ns
namespace Go.Ns
open Go.Conc Go Go.RowKit
section
variable {d m:Int} {gs:List Good} {ms:List AB} {cs:List AF}
end
section
variable {P:Program} {E:Gm P} {σ:Nat→Value} {ds:List Deferred} {h:GH} {T:(Nat→Value)→List Deferred→GH→Prop} {dst:Option Nat} {ty:TypeId} {pos:String} {af:Array Edge} {gd:Option (Nat×Bool)}
end
end Go.Ns
namespace Go.Ns
open Go.Conc Go Go.RowKit
theorem H6 {p q:AT}:∀{n:Nat},(∀k,k<n→p.lies k=q.lies k)→An p n=An q n
 | 0,_=>rfl
 | n+1,h=>by unfold An;rw [H6 fun k hk=>h k (by omega),h n (by omega)]
theorem JA (p:AT):∀{i n:Nat},i≤n→An p i≤An p n
 | i,0,h=>by rw [show i=0 by omega];exact Nat.le_refl _
 | i,n+1,h=>by
  by_cases e:i=n+1
  ·rw [e];exact Nat.le_refl _
  ·have:=JA p (i:=i) (n:=n) (by omega)
   have h2:An p (n+1)=An p n+if p.lies n then 1 else 0:=rfl
   omega
theorem Hv {p:AT}:∀{i n:Nat},(∀k,i≤k→k<n→p.lies k=false)→i≤n→An p n=An p i
 | i,0,_,h=>by rw [show i=0 by omega]
 | i,n+1,h0,h=>by
  by_cases e:i=n+1
  ·rw [e]
  ·have h2:An p (n+1)=An p n+if p.lies n then 1 else 0:=rfl
   rw [h2,h0 n (by omega) (by omega),Hv (fun k hk hk'=>h0 k hk (by omega)) (by omega)];rfl
theorem M9 {p:AT} {i:Nat} {n:Int} (h:p.lies i=false):∀k,An (p.setMove i n true) k=An p k+if i<k then 1 else 0
 | 0=>rfl
 | k+1=>by
  have h1:An (p.setMove i n true) (k+1)=An (p.setMove i n true) k+if (p.setMove i n true).lies k then 1 else 0:=rfl
  have h2:An p (k+1)=An p k+if p.lies k then 1 else 0:=rfl
  have h3:(p.setMove i n true).lies k=if k=i then true else p.lies k:=rfl
  rw [h1,h2,h3,M9 h k];by_cases e:k=i
  ·subst e;have e3:¬k<k:=by omega
   have e4:k<k+1:=by omega
   simp [h,e3,e4]
  ·rw [if_neg e];by_cases e2:i<k
   ·have e4:i<k+1:=by omega
    simp only [e2,e4,if_true];omega
   ·have e4:¬i<k+1:=by omega
    simp only [e2,e4,if_false];omega
theorem HX (p:AT):∀n,((List.range n).filter p.lies).length=An p n
 | 0=>rfl
 | n+1=>by
  rw [List.range_succ,List.filter_append,List.length_append,HX p n];have h2:An p (n+1)=An p n+if p.lies n then 1 else 0:=rfl
  rw [h2];by_cases e:p.lies n=true
  ·simp [e]
  ·simp [e]
structure XV (gs:List Good) (ms:List AB) (mo:Int) (p:AT):Prop where
 first:∀i,i<gs.length→(gs.getD i Good.z).low≤p.first i∧p.first i≤(gs.getD i Good.z).high
 many:∀i,i<ms.length→(ms.getD i AB.z).low≤p.many i∧p.many i≤(ms.getD i AB.z).high
 note:∀i,i<ms.length→p.lies i=true→DQ ms i=true
 few:(An p ms.length:Int)≤mo
theorem H7 {ag:AT→Bool} {ms:List AB} {mo:Int} (h6:ms.length≤6):∀(f i:Nat) (p q:AT),i+f=ms.length→(∀k,i≤k→p.lies k=false)→(An p 6:Int)≤mo→q ∈ Aw ag ms mo f i p→
  ag q=true∧q.first=p.first∧(∀k,k<i→q.many k=p.many k∧q.lies k=p.lies k)∧(∀k,i≤k→k<ms.length→(ms.getD k AB.z).low≤q.many k∧q.many k≤(ms.getD k AB.z).high∧(q.lies k=true→DQ ms k=true))∧(An q 6:Int)≤mo
 | 0,i,p,q,e,_,hl,h=>by
  unfold Aw at h;split at h
  ·rename_i ha
   rw [List.mem_singleton] at h;subst h;exact ⟨ha,rfl,fun _ _=>⟨rfl,rfl⟩,fun k h1 h2=>by omega,hl⟩
  ·cases h
 | f+1,i,p,q,e,hz,hl,h=>by
  rw [Cc,List.mem_flatMap] at h;obtain ⟨n,hn,h⟩:=h;rw [Fc] at hn;have hlf:∀k,i+1≤k→(p.setMove i n false).lies k=false:=fun k hk=>by
   show (if k=i then false else p.lies k)=false;split
   ·rfl
   ·exact hz k (by omega)
  have hcf:An (p.setMove i n false) 6=An p 6:=H6 fun k _=>by
   show (if k=i then false else p.lies k)=p.lies k;split
   ·rename_i e2;rw [e2,hz i (Nat.le_refl _)]
   ·rfl
  unfold BZ at h;rw [List.mem_append] at h;rcases h with h | h
  ·obtain ⟨a1,a2,a3,a4,a5⟩:=H7 h6 f (i+1) _ q (by omega) hlf (by rw [hcf];exact hl) h;refine ⟨a1,a2,fun k hk=>?_,fun k h1 h2=>?_,a5⟩
   ·have:=a3 k (by omega)
    rw [this.1,this.2];exact ⟨show (if k=i then n else p.many k)=_ from if_neg (by omega),show (if k=i then false else p.lies k)=_ from if_neg (by omega)⟩
   ·by_cases e2:k=i
    ·subst e2
     have:=a3 k (by omega)
     have g1:(p.setMove k n false).many k=n:=if_pos rfl;have g2:(p.setMove k n false).lies k=false:=if_pos rfl;rw [this.1,this.2,g1,g2];exact ⟨hn.1,hn.2,fun q=>by cases q⟩
    ·exact a4 k (by omega) h2
  ·split at h
   ·rename_i hc
    rw [Bool.and_eq_true] at hc;have hlt:=of_decide_eq_true hc.2;have hct:An (p.setMove i n true) 6=An p 6+1:=by rw [M9 (hz i (Nat.le_refl _)),if_pos (by omega)]
    have hlt2:∀k,i+1≤k→(p.setMove i n true).lies k=false:=fun k hk=>by
     show (if k=i then true else p.lies k)=false;rw [if_neg (by omega)];exact hz k (by omega)
    obtain ⟨a1,a2,a3,a4,a5⟩:=H7 h6 f (i+1) _ q (by omega) hlt2 (by rw [hct];omega) h;refine ⟨a1,a2,fun k hk=>?_,fun k h1 h2=>?_,a5⟩
    ·have:=a3 k (by omega)
     rw [this.1,this.2];exact ⟨show (if k=i then n else p.many k)=_ from if_neg (by omega),show (if k=i then true else p.lies k)=_ from if_neg (by omega)⟩
    ·by_cases e2:k=i
     ·subst e2
      have:=a3 k (by omega)
      have g1:(p.setMove k n true).many k=n:=if_pos rfl;rw [this.1,g1];exact ⟨hn.1,hn.2,fun _=>hc.1⟩
     ·exact a4 k (by omega) h2
   ·cases h
theorem KW {ag:AT→Bool} {gs:List Good} {ms:List AB} {mo:Int} (h6:ms.length≤6) (h0:0≤mo):∀(f i:Nat) (p q:AT),i+f=gs.length→(∀k,p.lies k=false)→q ∈ BG ag gs ms mo f i p→
  ag q=true∧(∀k,k<i→q.first k=p.first k)∧(∀k,i≤k→k<gs.length→(gs.getD k Good.z).low≤q.first k∧q.first k≤(gs.getD k Good.z).high)∧(∀k,k<ms.length→(ms.getD k AB.z).low≤q.many k∧q.many k≤(ms.getD k AB.z).high∧(q.lies k=true→DQ ms k=true))∧(An q 6:Int)≤mo
 | 0,i,p,q,e,hz,h=>by
  have hl:(An p 6:Int)≤mo:=by
   rw [Hv (i:=0) (fun k _ _=>hz k) (Nat.zero_le _)];exact h0
  obtain ⟨a1,a2,_,a4,a5⟩:=H7 h6 ms.length 0 p q (by omega) (fun k _=>hz k) hl h;exact ⟨a1,fun k _=>by rw [a2],fun k h1 h2=>by omega,fun k hk=>a4 k (Nat.zero_le _) hk,a5⟩
 | f+1,i,p,q,e,hz,h=>by
  rw [Ct,List.mem_flatMap] at h;obtain ⟨n,hn,h⟩:=h;rw [Fc] at hn;obtain ⟨a1,a2,a3,a4,a5⟩:=KW h6 h0 f (i+1) (p.setFirst i n) q (by omega) hz h;refine ⟨a1,fun k hk=>?_,fun k h1 h2=>?_,a4,a5⟩
  ·rw [a2 k (by omega)];exact if_neg (by omega)
  ·by_cases e2:k=i
   ·subst e2;rw [a2 k (by omega)];have g1:(p.setFirst k n).first k=n:=if_pos rfl;rw [g1];exact hn
   ·exact a3 k (by omega) h2
theorem Ql {d:Int} {gs:List Good} {ms:List AB} {cs:List AF} {mo:Int} (h6:ms.length≤6) (h0:0≤mo) {q:AT} (h:q ∈ AV d gs ms cs mo):XV gs ms mo q∧A5 d gs.length ms cs q=true:=by
 obtain ⟨a1,_,a3,a4,a5⟩:=KW h6 h0 gs.length 0 AT.zero q (by omega) (fun _=>rfl) h;refine ⟨⟨fun i hi=>a3 i (Nat.zero_le _) hi,fun i hi=>⟨(a4 i hi).1,(a4 i hi).2.1⟩,fun i hi=>(a4 i hi).2.2,?_⟩,a1⟩
 have:=JA q h6
 omega
def H8 (p:AT) (i j:Nat):AT:=⟨fun k=>if k<i then p.first k else 0,fun k=>if k<j then p.many k else 0,fun k=>if k<j then p.lies k else false⟩
theorem Qm (p:AT) (i j:Nat):(H8 p i j).setMove j (p.many j) (p.lies j)=H8 p i (j+1):=by
 unfold H8 AT.setMove AT.setMany AT.setLie;congr 1
 ·funext k;show (if k=j then p.many j else if k<j then p.many k else 0)=if k<j+1 then p.many k else 0
  by_cases e:k=j
  ·rw [if_pos e,e,if_pos (by omega)]
  ·rw [if_neg e];by_cases e2:k<j
   ·rw [if_pos e2,if_pos (by omega)]
   ·rw [if_neg e2,if_neg (by omega)]
 ·funext k;show (if k=j then p.lies j else if k<j then p.lies k else false)=if k<j+1 then p.lies k else false
  by_cases e:k=j
  ·rw [if_pos e,e,if_pos (by omega)]
  ·rw [if_neg e];by_cases e2:k<j
   ·rw [if_pos e2,if_pos (by omega)]
   ·rw [if_neg e2,if_neg (by omega)]
theorem Va (p:AT) (i:Nat):(H8 p i 0).setFirst i (p.first i)=H8 p (i+1) 0:=by
 unfold H8 AT.setFirst;congr 1;funext k;show (if k=i then p.first i else if k<i then p.first k else 0)=if k<i+1 then p.first k else 0
 by_cases e:k=i
 ·rw [if_pos e,e,if_pos (by omega)]
 ·rw [if_neg e];by_cases e2:k<i
  ·rw [if_pos e2,if_pos (by omega)]
  ·rw [if_neg e2,if_neg (by omega)]
theorem Ly {ag:AT→Bool} {gs:List Good} {ms:List AB} {mo:Int} (h6:ms.length≤6) {p:AT} (L:XV gs ms mo p) (ha:ag (H8 p gs.length ms.length)=true):∀(f i:Nat),i+f=ms.length→H8 p gs.length ms.length ∈ Aw ag ms mo f i (H8 p gs.length i)
 | 0,i,e=>by
  rw [show i=ms.length by omega];unfold Aw;rw [if_pos ha];exact List.mem_singleton.2 rfl
 | f+1,i,e=>by
  rw [Cc,List.mem_flatMap];refine ⟨p.many i,Fc.2 (L.many i (by omega)),?_⟩;have ih:=Ly h6 L ha f (i+1) (by omega);unfold BZ;rw [List.mem_append];cases hli:p.lies i with
  | false=>
   left
   have:=Qm p gs.length i
   rw [hli] at this;rw [this];exact ih
  | true=>
   right;have hlie:An ((H8 p gs.length i).setMove i (p.many i) false) 6=An p i:=by
    rw [Hv (i:=i) (fun k h1 h2=>?_) (by omega)]
    ·refine H6 fun k hk=>?_;show (if k=i then false else if k<i then p.lies k else false)=_;rw [if_neg (by omega),if_pos hk]
    ·show (if k=i then false else if k<i then p.lies k else false)=_;split
     ·rfl
     ·rw [if_neg (by omega)]
   have h1:An p (i+1)=An p i+1:=by
    show An p i+(if p.lies i then 1 else 0)=_;rw [hli];rfl
   have h2:=JA p (i:=i+1) (n:=ms.length) (by omega);have h3:=L.few;rw [if_pos (by rw [Bool.and_eq_true];exact ⟨L.note i (by omega) hli,decide_eq_true (by rw [hlie];omega)⟩)]
   have:=Qm p gs.length i
   rw [hli] at this;rw [this];exact ih
theorem Lz {ag:AT→Bool} {gs:List Good} {ms:List AB} {mo:Int} (h6:ms.length≤6) {p:AT} (L:XV gs ms mo p) (ha:ag (H8 p gs.length ms.length)=true):∀(f i:Nat),i+f=gs.length→H8 p gs.length ms.length ∈ BG ag gs ms mo f i (H8 p i 0)
 | 0,i,e=>by
  rw [show i=gs.length by omega];exact Ly h6 L ha ms.length 0 (by omega)
 | f+1,i,e=>by
  rw [Ct,List.mem_flatMap];refine ⟨p.first i,Fc.2 (L.first i (by omega)),?_⟩;rw [Va];exact Lz h6 L ha f (i+1) (by omega)
end Go.Ns
namespace Go.Ns
open Go.Conc Go Go.RowKit
section
variable {d m:Int} {gs:List Good} {ms:List AB} {cs:List AF}
theorem Kv {i:Nat} (hi:i<ms.length):DQ ms (i:Int)=true↔(ms.getD i AB.z).kind=0:=by
 unfold DQ;rw [decide_eq_true_eq,Int.toNat_natCast];exact ⟨fun h=>h.2,fun h=>⟨⟨by omega,by omega⟩,h⟩⟩
end
def L0 (ms:List AB) (p:AT) (g dy:Int) (k:Nat):Int:=if (ms.getD k AB.z).day≤dy then SE ms p g k else 0
theorem Tp {F:Nat→Int}:∀{l:List Nat},(∀i ∈ l,F i=0)→(l.map F).sum=0
 | [],_=>rfl
 | i ::l,h=>by rw [List.map_cons,List.sum_cons,h i (by simp),Tp fun j hj=>h j (by simp [hj])];rfl
theorem Om {F:Nat→Int} {q:Nat→Bool}:∀{l:List Nat},(∀i ∈ l,q i=false→F i=0)→(l.map F).sum=((l.filter q).map F).sum
 | [],_=>rfl
 | i ::l,h=>by
  have ih:=Om (F:=F) (q:=q) (l:=l) fun j hj=>h j (by simp [hj]);rw [List.map_cons,List.sum_cons,ih];cases e:q i with
  | true=>rw [List.filter_cons,if_pos e,List.map_cons,List.sum_cons]
  | false=>rw [List.filter_cons,if_neg (by rw [e];simp),h i (by simp) e];omega
theorem L3 {ms:List AB} {p:AT} {g dy:Int} (up:∀i j,i≤j→j<ms.length→(ms.getD i AB.z).day≤(ms.getD j AB.z).day):∀(f k:Nat) (n low:Int),k+f=ms.length→(Cs ms p g dy f k n low).1=n+((List.range' k f).map (L0 ms p g dy)).sum
 | 0,_,n,_,_=>by simp [Cs]
 | f+1,k,n,low,e=>by
  unfold Cs;by_cases h:dy<(ms.getD k AB.z).day
  ·rw [if_pos h,Tp fun i hi=>?_]
   ·omega
   ·have:=List.mem_range'_1.1 hi
    have h2:=up k i this.1 (by omega);unfold L0;rw [if_neg (by omega)]
  ·rw [if_neg h,L3 up f (k+1) _ _ (by omega),List.range'_succ,List.map_cons,List.sum_cons];have h1:L0 ms p g dy k=SE ms p g k:=by unfold L0;rw [if_pos (by omega)]
   have hn:GS ms p g k n=n+SE ms p g k:=by unfold GS SE;split <;> omega
   rw [h1,hn];omega
theorem I9.le {ms:List AB} (h:I9 ms):∀i j,i≤j→j<ms.length→(ms.getD i AB.z).day≤(ms.getD j AB.z).day:=fun i j hij hj=>by
 by_cases e:i=j
 ·rw [e];exact Int.le_refl _
 ·unfold I9 at h;rw [List.pairwise_iff_getElem] at h;rw [BW AB.z (by omega),BW AB.z hj];exact h i j (by omega) hj (by omega)
theorem NA {ms:List AB} (up:I9 ms) (p:AT) (g dy:Int):(AN ms p g dy).1=p.first g.toNat+((List.range ms.length).map (L0 ms p g dy)).sum:=by
 unfold AN;rw [L3 up.le _ _ _ _ (by omega),List.range_eq_range']
section
variable {d m:Int} {gs:List Good} {ms:List AB} {cs:List AF}
def CI (ms:List AB) (k:Nat):List Int:=((List.range k).filter fun i=>decide ((ms.getD i AB.z).kind=0)).map fun (i:Nat)=>(i:Int)
theorem cameTo_t {k:Nat} (h:(ms.getD k AB.z).kind=0):CI ms (k+1)=CI ms k++[(k:Int)]:=by
 unfold CI;rw [List.range_succ,List.filter_append];simp only [List.filter_cons,h,List.filter_nil];simp
theorem cameTo_f {k:Nat} (h:¬(ms.getD k AB.z).kind=0):CI ms (k+1)=CI ms k:=by
 unfold CI;rw [List.range_succ,List.filter_append];simp only [List.filter_cons,h,List.filter_nil];simp
theorem HY (ms:List AB) (k:Nat):(CI ms k).length≤k:=by
 unfold CI;rw [List.length_map]
 have:=List.length_filter_le (fun i:Nat=>decide ((ms.getD i AB.z).kind=0)) (List.range k)
 rwa [List.length_range] at this
theorem Vb {k i:Nat} (hi:i<k) (h:(ms.getD i AB.z).kind=0):(i:Int) ∈ CI ms k:=List.mem_map.2 ⟨i,List.mem_filter.2 ⟨List.mem_range.2 hi,decide_eq_true h⟩,rfl⟩
end
end Go.Ns
namespace Go.Ns
open Go.Conc
theorem Jr {x:Int}:∀(l acc:List Int),x ∈ acc∨x ∈ l→x ∈ l.foldl Gn acc
 | [],acc,h=>h.elim id fun h=>by cases h
 | y ::l,acc,h=>by
  refine Jr l _ ?_;unfold Gn;rcases h with h | h
  ·left;split
   ·exact h
   ·exact List.mem_append_left _ h
  ·rcases List.mem_cons.1 h with rfl | h
   ·left;split
    ·rename_i e;exact List.mem_of_getLast? e
    ·exact List.mem_append_right _ (List.mem_singleton.2 rfl)
   ·exact .inr h
theorem JT:∀(l acc:List Int),l.Pairwise (·≤·)→acc.Pairwise (· < ·)→(∀a ∈ acc,∀x ∈ l,a≤x)→(l.foldl Gn acc).Pairwise (· < ·)
 | [],_,_,h,_=>h
 | y ::l,acc,hl,ha,hx=>by
  rw [List.pairwise_cons] at hl;refine JT l _ hl.2 ?_ ?_
  ·unfold Gn;split
   ·exact ha
   ·rename_i hne
    rw [List.pairwise_append];refine ⟨ha,List.pairwise_singleton ..,fun a ha' b hb=>?_⟩;rw [List.mem_singleton] at hb;subst hb;have h1:=hx a ha' b List.mem_cons_self;rcases Int.lt_or_eq_of_le h1 with h2 | h2
    ·exact h2
    ·subst h2;exfalso;obtain ⟨z,hz⟩:∃z,acc.getLast? =some z:=by
      cases hq:acc.getLast? with
      | none=>rw [List.getLast?_eq_none_iff] at hq;subst hq;cases ha'
      | some z=>exact ⟨z,rfl⟩
     have hzm:=List.mem_of_getLast? hz;have h3:=hx z hzm a List.mem_cons_self;have h4:a≤z:=by
      obtain ⟨l0,hl0⟩:∃l0,acc=l0++[z]:=by
       rcases List.eq_nil_or_concat acc with e | ⟨l0,y0,e⟩
       ·subst e;cases hz
       ·subst e;simp at hz;subst hz;exact ⟨l0,by simp⟩
      subst hl0;rcases List.mem_append.1 ha' with q | q
      ·rw [List.pairwise_append] at ha;exact Int.le_of_lt (ha.2.2 a q z (List.mem_singleton.2 rfl))
      ·rw [List.mem_singleton] at q;omega
     exact hne (by rw [hz,show z=a by omega])
  ·intro a ha' x hx';unfold Gn at ha';split at ha'
   ·exact hx a ha' x (List.mem_cons_of_mem _ hx')
   ·rcases List.mem_append.1 ha' with q | q
    ·exact hx a q x (List.mem_cons_of_mem _ hx')
    ·rw [List.mem_singleton] at q;subst q;exact hl.1 x hx'
theorem MX {n:Nat} {f:Nat→Int} {x:Int}:x ∈ CK n f↔∃i,i<n∧f i=x:=by
 refine ⟨Qd,fun ⟨i,hi,e⟩=>Jr _ _ (.inr ?_)⟩;rw [Jj];exact List.mem_mergeSort.2 (List.mem_map.2 ⟨i,List.mem_range.2 hi,e⟩)
theorem MY (n:Nat) (f:Nat→Int):(CK n f).Pairwise (· < ·):=by
 refine JT _ _ ?_ List.Pairwise.nil (fun a ha=>by cases ha);rw [Jj]
 have:=List.pairwise_mergeSort (le:=fun x y:Int=>decide (x≤y)) (fun a b c h1 h2=>by simp at *;omega) (fun a b=>by simp;omega) ((List.range n).map f)
 exact this.imp fun h=>by simpa using h
theorem XW {l l':List Int} (h:l.Pairwise (· < ·)) (h':l'.Pairwise (· < ·)) (e:∀x,x ∈ l↔x ∈ l'):l=l':=by
 induction l generalizing l' with
 | nil=>
  cases l' with
  | nil=>rfl
  | cons y l'=>exact absurd ((e y).2 List.mem_cons_self) (by simp)
 | cons x l ih=>
  cases l' with
  | nil=>exact absurd ((e x).1 List.mem_cons_self) (by simp)
  | cons y l'=>
   rw [List.pairwise_cons] at h h';have hxy:x=y:=by
    rcases List.mem_cons.1 ((e x).1 List.mem_cons_self) with q | q
    ·exact q
    ·rcases List.mem_cons.1 ((e y).2 List.mem_cons_self) with q' | q'
     ·exact q'.symm
     ·have h1:=h.1 y q';have h2:=h'.1 x q;omega
   subst hxy;congr 1;refine ih h.2 h'.2 fun z=>⟨fun hz=>?_,fun hz=>?_⟩
   ·rcases List.mem_cons.1 ((e z).1 (List.mem_cons_of_mem _ hz)) with rfl | q
    ·exact absurd (h.1 z hz) (by omega)
    ·exact q
   ·rcases List.mem_cons.1 ((e z).2 (List.mem_cons_of_mem _ hz)) with rfl | q
    ·exact absurd (h'.1 z hz) (by omega)
    ·exact q
section
variable {d m:Int} {gs:List Good} {ms:List AB} {cs:List AF}
theorem own_fine {o:List Int} (h:∀x ∈ o,x=0):Dh (fun k=>o.getD k 0) 0 o.length=0:=Ce (k:=o.length) (fun j hj=>h _ (CB hj)) (Nat.le_refl _)
theorem IS (b:At d m gs ms cs) {o:List Int} (h:∀x ∈ o,x=0):Af d m gs ms cs o=if (AV d gs ms cs m).length=0 then 9 else 0:=by
 unfold Af;rw [if_neg (by rw [GX b];simp),if_neg (by rw [own_fine h];simp)]
theorem Qn (b:At d m gs ms cs) {g x y:Int} (hg:0≤g∧g<gs.length) (hx:1≤x∧x≤d) (hy:x≤y∧y≤d):DC d m gs ms cs g x y=if (AV d gs ms cs m).length=0 then 9 else 0:=by
 refine IS b fun z hz=>?_;rw [if_pos (by simp;omega),if_pos (by simp;omega),if_pos (by simp;omega)] at hz;simp at hz;exact hz
end
end Go.Ns
namespace Go.Ns
open Go.Conc
section
variable {P:Program} {E:Gm P} {σ:Nat→Value} {ds:List Deferred} {h:GH} {T:(Nat→Value)→List Deferred→GH→Prop}
variable {dst:Option Nat} {ty:TypeId} {pos:String} {af:Array Edge} {gd:Option (Nat×Bool)}
end
section
variable {d m:Int} {gs:List Good} {ms:List AB} {cs:List AF}
end
end Go.Ns
namespace Go.Ns
open Go.Conc
section
variable {d m:Int} {gs:List Good} {ms:List AB} {cs:List AF}
theorem Qo (b:At d m gs ms cs) {g r:Int} (hg:0≤g∧g<gs.length) (hr:0≤r∧r≤d):Cw d m gs ms cs g r=if (AV d gs ms cs m).length=0 then 9 else 0:=by
 refine IS b fun z hz=>?_;rw [if_pos (by simp;omega),if_pos (by simp;omega)] at hz;simp at hz;exact hz
end
end Go.Ns
namespace Go.Ns
open Go.Conc
theorem Fs {ag:AT→Bool} {ms:List AB} {mo:Int}:∀(f i:Nat) (p q:AT),q ∈ Aw ag ms mo f i p→q.first=p.first∧∀k,k<i→q.many k=p.many k∧q.lies k=p.lies k
 | 0,i,p,q,h=>by
  unfold Aw at h;split at h
  ·rw [List.mem_singleton] at h;subst h;exact ⟨rfl,fun _ _=>⟨rfl,rfl⟩⟩
  ·cases h
 | f+1,i,p,q,h=>by
  rw [Cc,List.mem_flatMap] at h;obtain ⟨n,_,h⟩:=h;have key:∀b,q ∈ Aw ag ms mo f (i+1) (p.setMove i n b)→q.first=p.first∧∀k,k<i→q.many k=p.many k∧q.lies k=p.lies k:=fun b hb=>by
   obtain ⟨a1,a2⟩:=Fs f (i+1) _ q hb;refine ⟨a1,fun k hk=>?_⟩;obtain ⟨b1,b2⟩:=a2 k (by omega);exact ⟨b1.trans (if_neg (by omega)),b2.trans (if_neg (by omega))⟩
  unfold BZ at h;rcases List.mem_append.1 h with h | h
  ·exact key _ h
  ·split at h
   ·exact key _ h
   ·cases h
theorem On (lo hi:Int):(E8 lo hi).Pairwise (·≠·):=by
 unfold E8 Bp;rw [List.pairwise_map];exact List.pairwise_lt_range.imp fun h=>by omega
theorem Gk {ag:AT→Bool} {ms:List AB} {mo:Int}:∀(f i:Nat) (p:AT),(Aw ag ms mo f i p).Pairwise (·≠·)
 | 0,i,p=>by
  unfold Aw;split
  ·exact List.pairwise_singleton ..
  ·exact List.Pairwise.nil
 | f+1,i,p=>by
  rw [Cc,List.pairwise_flatMap];have at1:∀n b q,q ∈ Aw ag ms mo f (i+1) (p.setMove i n b)→q.many i=n∧q.lies i=b:=fun n b q hq=>by
   obtain ⟨b1,b2⟩:=(Fs f (i+1) _ q hq).2 i (by omega);exact ⟨b1.trans (if_pos rfl),b2.trans (if_pos rfl)⟩
  have atR:∀n q,q ∈ BZ ag ms mo f i p n→q.many i=n:=fun n q hq=>by
   unfold BZ at hq;rcases List.mem_append.1 hq with h | h
   ·exact (at1 _ _ _ h).1
   ·split at h
    ·exact (at1 _ _ _ h).1
    ·cases h
  refine ⟨fun n _=>?_,(On _ _).imp fun hne x hx y hy e=>hne (by rw [←atR _ x hx,←atR _ y hy,e])⟩;unfold BZ;rw [List.pairwise_append];refine ⟨Gk f (i+1) _,?_,fun x hx y hy e=>?_⟩
  ·split
   ·exact Gk f (i+1) _
   ·exact List.Pairwise.nil
  ·split at hy
   ·have h1:=(at1 _ _ _ hx).2;have h2:=(at1 _ _ _ hy).2;rw [e,h2] at h1;cases h1
   ·cases hy
theorem Js {ag:AT→Bool} {gs:List Good} {ms:List AB} {mo:Int}:∀(f i:Nat) (p q:AT),q ∈ BG ag gs ms mo f i p→∀k,k<i→q.first k=p.first k
 | 0,i,p,q,h,k,hk=>by rw [(Fs _ _ _ _ h).1]
 | f+1,i,p,q,h,k,hk=>by
  rw [Ct,List.mem_flatMap] at h;obtain ⟨n,_,h⟩:=h;exact (Js f (i+1) _ q h k (by omega)).trans (if_neg (by omega))
theorem JU {ag:AT→Bool} {gs:List Good} {ms:List AB} {mo:Int}:∀(f i:Nat) (p:AT),(BG ag gs ms mo f i p).Pairwise (·≠·)
 | 0,i,p=>Gk _ _ _
 | f+1,i,p=>by
  rw [Ct,List.pairwise_flatMap];have at1:∀n q,q ∈ BG ag gs ms mo f (i+1) (p.setFirst i n)→q.first i=n:=fun n q hq=>(Js f (i+1) _ q hq i (by omega)).trans (if_pos rfl);exact ⟨fun n _=>JU f (i+1) _,(On _ _).imp fun hne x hx y hy e=>hne (by rw [←at1 _ x hx,←at1 _ y hy,e])⟩
theorem Tq (d:Int) (gs:List Good) (ms:List AB) (cs:List AF) (mo:Int):(AV d gs ms cs mo).Nodup:=JU _ _ _
theorem KX {ag:AT→Bool} {ms:List AB} {mo:Int}:∀(f i:Nat) (p q:AT),q ∈ Aw ag ms mo f i p→∀k,i+f≤k→q.many k=p.many k∧q.lies k=p.lies k
 | 0,i,p,q,h,k,_=>by
  unfold Aw at h;split at h
  ·rw [List.mem_singleton] at h;subst h;exact ⟨rfl,rfl⟩
  ·cases h
 | f+1,i,p,q,h,k,hk=>by
  rw [Cc,List.mem_flatMap] at h;obtain ⟨n,_,h⟩:=h;have key:∀b,q ∈ Aw ag ms mo f (i+1) (p.setMove i n b)→q.many k=p.many k∧q.lies k=p.lies k:=fun b hb=>by
   obtain ⟨b1,b2⟩:=KX f (i+1) _ q hb k (by omega);exact ⟨b1.trans (if_neg (by omega)),b2.trans (if_neg (by omega))⟩
  unfold BZ at h;rcases List.mem_append.1 h with h | h
  ·exact key _ h
  ·split at h
   ·exact key _ h
   ·cases h
theorem KY {ag:AT→Bool} {gs:List Good} {ms:List AB} {mo:Int}:∀(f i:Nat) (p q:AT),q ∈ BG ag gs ms mo f i p→(∀k,i+f≤k→q.first k=p.first k)∧∀k,ms.length≤k→q.many k=p.many k∧q.lies k=p.lies k
 | 0,i,p,q,h=>⟨fun k _=>by rw [(Fs _ _ _ _ h).1],fun k hk=>KX _ _ _ _ h k (by omega)⟩
 | f+1,i,p,q,h=>by
  rw [Ct,List.mem_flatMap] at h;obtain ⟨n,_,h⟩:=h;obtain ⟨a1,a2⟩:=KY f (i+1) _ q h;exact ⟨fun k hk=>(a1 k (by omega)).trans (if_neg (by omega)),a2⟩
theorem Qp {d:Int} {gs:List Good} {ms:List AB} {cs:List AF} {mo:Int} {q:AT} (h:q ∈ AV d gs ms cs mo):H8 q gs.length ms.length=q:=by
 obtain ⟨a1,a2⟩:=KY _ _ _ _ h;cases q with
 | mk fi ma li=>
  simp only [Nat.zero_add] at a1 a2;unfold H8;congr 1
  ·funext k;by_cases hk:k<gs.length
   ·exact if_pos hk
   ·exact (if_neg hk).trans (a1 k (by omega)).symm
  ·funext k;by_cases hk:k<ms.length
   ·exact if_pos hk
   ·exact (if_neg hk).trans (a2 k (by omega)).1.symm
  ·funext k;by_cases hk:k<ms.length
   ·exact if_pos hk
   ·exact (if_neg hk).trans (a2 k (by omega)).2.symm
theorem YT (p:AT):H8 p 0 0=AT.zero:=by
 unfold H8 AT.zero;congr 1
theorem MZ {d:Int} {gs:List Good} {ms:List AB} {cs:List AF} {mo:Int} {q:AT} (h6:ms.length≤6) (h0:0≤mo) :
  q ∈ AV d gs ms cs mo↔XV gs ms mo q∧A5 d gs.length ms cs q=true∧H8 q gs.length ms.length=q:=
 ⟨fun h=>⟨(Ql h6 h0 h).1,(Ql h6 h0 h).2,Qp h⟩,fun ⟨L,ha,e⟩=>by
  have h1:=Lz (ag:=A5 d gs.length ms cs) h6 L (by rw [e];exact ha) gs.length 0 (by omega);rw [e,YT] at h1;exact h1⟩
end Go.Ns
namespace Go.Ns
open Go.Conc
theorem At.cgood' {d m:Int} {gs:List Good} {ms:List AB} {cs:List AF} (b:At d m gs ms cs):∀x ∈ cs,0≤x.good∧x.good<(gs.length:Int):=fun x hx=>by
 obtain ⟨i,hi,e2⟩:=List.getElem_of_mem hx;have hc:=b.count i hi;unfold FL at hc;rw [BW AF.z hi,e2] at hc;have hg:0≤x.good∧x.good≤(gs.length:Int)-1:=by
  apply Decidable.byContradiction;intro q;rw [if_pos q] at hc;cases hc
 omega
theorem eachL_at {hs:List AT} {F:AT→Int} {x:Int}:x ∈ CK hs.length (fun (i:Nat)=>F (hs.getD ((i:Int)).toNat AT.zero))↔∃p ∈ hs,F p=x:=by
 rw [MX];constructor
 ·rintro ⟨i,hi,e⟩;exact ⟨_,CB (show ((i:Int)).toNat<hs.length by omega),e⟩
 ·rintro ⟨p,hp,e⟩;obtain ⟨i,hi,e2⟩:=List.getElem_of_mem hp;refine ⟨i,hi,?_⟩;show F (hs.getD ((i:Int)).toNat AT.zero)=x;rw [show ((i:Int)).toNat=i by omega,BW AT.zero hi,e2,e]
section
variable {d m:Int} {gs:List Good} {ms:List AB} {cs:List AF} {t:Nat}
end
section
variable {d m:Int} {gs:List Good} {ms:List AB} {cs:List AF} {t:Nat}
end
section
variable {d m:Int} {gs:List Good} {ms:List AB} {cs:List AF} {t:Nat}
theorem Oo (b:At d m gs ms cs) {dy:Int} (hd:0≤dy∧dy≤d):Cb d m gs ms cs dy=if (AV d gs ms cs m).length=0 then 9 else 0:=by
 refine IS b fun z hz=>?_;rw [if_pos (by simp;omega)] at hz;simp at hz;exact hz
end
section
variable {d m:Int} {gs:List Good} {ms:List AB} {cs:List AF} {t:Nat}
end
end Go.Ns
namespace Go.Ns
open Go.Conc
theorem IT {α:Type} {l:List α} {x:α} (z:α) (h:x ∈ l):∃k,k<l.length∧l.getD k z=x:=by
 obtain ⟨k,hk,e⟩:=List.getElem_of_mem h;exact ⟨k,hk,by rw [List.getD_eq_getElem?_getD,List.getElem?_eq_getElem hk];exact e⟩
def HZ (dy:Int) (t:List (Int×Int)):Int:=(t.map fun x=>if x.1≤dy then x.2 else 0).sum
theorem Kw (dy:Int) (x:Int×Int) (t:List (Int×Int)):HZ dy (x ::t)=(if x.1≤dy then x.2 else 0)+HZ dy t:=by
 unfold HZ;rw [List.map_cons,List.sum_cons]
theorem Kx {dy:Int}:∀{t:List (Int×Int)},(∀x ∈ t,dy<x.1)→HZ dy t=0
 | [],_=>rfl
 | x ::t,h=>by rw [Kw,if_neg (by have:=h x (by simp);omega),Kx fun y hy=>h y (by simp [hy])];rfl
theorem Gq.all {c:Int}:∀{t:List (Int×Int)},Gq c t→∀x ∈ t,c≤x.1
 | [],_,_,hx=>by cases hx
 | y ::t,h,x,hx=>by
  rcases List.mem_cons.1 hx with rfl | hx
  ·exact h.1
  ·have:=h.2.all x hx;have:=h.1;omega
theorem Oq:∀(t:List (Int×Int)) (c n low:Int),Gq c t→(0≤(runB c n low t).2↔0≤low∧0≤n+HZ c t∧∀x ∈ t,0≤n+HZ x.1 t)
 | [],c,n,low,_=>by simp only [runB,HZ,List.map_nil,List.sum_nil];constructor <;> intro h <;> simp at * <;> omega
 | x ::t,c,n,low,h=>by
  have ha:=h.2.all;have hy:∀y ∈ t,HZ y.1 (x ::t)=x.2+HZ y.1 t:=fun y hy=>by rw [Kw,if_pos (ha y hy)]
  have hx:HZ x.1 (x ::t)=x.2+HZ x.1 t:=by rw [Kw,if_pos (Int.le_refl _)]
  unfold runB;by_cases e:c<x.1
  ·rw [if_pos e,Oq t x.1 (n+x.2) (min n low) h.2];have h0:HZ c (x ::t)=0:=Kx fun y hy=>by
    rcases List.mem_cons.1 hy with rfl | hy
    ·exact e
    ·have:=ha y hy;omega
   rw [h0];constructor
   ·rintro ⟨a1,a2,a3⟩;refine ⟨by omega,by omega,fun y hyt=>?_⟩;rcases List.mem_cons.1 hyt with rfl | hyt
    ·rw [hx];omega
    ·rw [hy y hyt];have:=a3 y hyt;omega
   ·rintro ⟨a1,a2,a3⟩;refine ⟨by omega,?_,fun y hyt=>?_⟩
    ·have:=a3 x (by simp);rw [hx] at this;omega
    ·have:=a3 y (by simp [hyt]);rw [hy y hyt] at this;omega
  ·have ec:c=x.1:=by have:=h.1;omega
   subst ec;rw [if_neg e,Oq t x.1 (n+x.2) low h.2,hx];constructor
   ·rintro ⟨a1,a2,a3⟩;refine ⟨a1,by omega,fun y hyt=>?_⟩;rcases List.mem_cons.1 hyt with rfl | hyt
    ·rw [hx];omega
    ·rw [hy y hyt];have:=a3 y hyt;omega
   ·rintro ⟨a1,a2,a3⟩;refine ⟨a1,by omega,fun y hyt=>?_⟩
    have:=a3 y (by simp [hyt]);rw [hy y hyt] at this;omega
section
variable {d m:Int} {gs:List Good} {ms:List AB} {cs:List AF}
theorem At.day0 (b:At d m gs ms cs) {k:Nat} (hk:k<ms.length):1≤(ms.getD k AB.z).day:=(b.move' hk).2.2.1.1
theorem At.low_iff2 (b:At d m gs ms cs) (p:AT) (g:Int):0≤(AN ms p g d).2↔0≤p.first g.toNat∧∀k,k<ms.length→(ms.getD k AB.z).good=g→0≤(AN ms p g (ms.getD k AB.z).day).1:=by
 have hz:∀i ∈ List.range ms.length,decide ((ms.getD i AB.z).good=g)=false→(FC ms p g i).2=0:=fun i _ e=>by
  unfold FC SE;dsimp only;rw [if_neg (of_decide_eq_false e)]
 have hsub:((List.range ms.length).filter fun i=>decide ((ms.getD i AB.z).good=g)).Sublist (List.range ms.length):=List.filter_sublist;have hr:=b.pairsUp p g hsub;rw [b.stock p g];unfold Nh;rw [Ht hz (b.pairsUp p g (List.Sublist.refl _)),Oq _ _ _ _ hr];have hs:∀k,(AN ms p g (ms.getD k AB.z).day).1=p.first g.toNat+HZ (ms.getD k AB.z).day (((List.range ms.length).filter fun i=>decide ((ms.getD i AB.z).good=g)).map (FC ms p g)):=fun k=>by
  rw [NA b.up];congr 1;unfold HZ;rw [List.map_map,Om (q:=fun i=>decide ((ms.getD i AB.z).good=g)) (fun i _ e=>by
   unfold L0 SE;rw [if_neg (of_decide_eq_false e)];simp)]
  rfl
 have h0:HZ 0 (((List.range ms.length).filter fun i=>decide ((ms.getD i AB.z).good=g)).map (FC ms p g))=0:=Kx fun x hx=>by
  obtain ⟨k,hk,rfl⟩:=List.mem_map.1 hx
  have:=b.day0 (List.mem_range.1 (List.mem_filter.1 hk).1);unfold FC;dsimp only;omega
 rw [h0];constructor
 ·rintro ⟨a1,_,a3⟩;exact ⟨a1,fun k hk e=>by rw [hs];exact a3 _ (List.mem_map.2 ⟨k,List.mem_filter.2 ⟨List.mem_range.2 hk,decide_eq_true e⟩,rfl⟩)⟩
 ·rintro ⟨a1,a3⟩;refine ⟨a1,by omega,fun x hx=>?_⟩;obtain ⟨k,hk,rfl⟩:=List.mem_map.1 hx;obtain ⟨hk1,hk2⟩:=List.mem_filter.1 hk
  have:=a3 k (List.mem_range.1 hk1) (of_decide_eq_true hk2)
  rw [hs] at this;exact this
theorem SG {ng:Nat} {p:AT}:A5 d ng ms cs p=true↔(∀g,g<ng→0≤(AN ms p (g:Int) d).2)∧∀x ∈ cs,x.low≤(AN ms p x.good x.day).1∧(AN ms p x.good x.day).1≤x.high:=by
 unfold A5;rw [Bool.and_eq_true,decide_eq_true_iff,Bool.not_eq_true',List.any_eq_false];constructor
 ·rintro ⟨h1,h2⟩;exact ⟨fun g hg=>by have:=h1 g hg;omega,fun x hx=>by have:=h2 x hx;simpa using this⟩
 ·rintro ⟨h1,h2⟩;exact ⟨fun g hg=>by have:=h1 g hg;omega,fun x hx=>by have:=h2 x hx;simpa using this⟩
theorem At.agrees_iff2 (b:At d m gs ms cs) {p:AT}:A5 d gs.length ms cs p=true↔
  (∀g:Nat,g<gs.length→0≤p.first g)∧(∀k,k<ms.length→0≤(AN ms p (ms.getD k AB.z).good (ms.getD k AB.z).day).1)∧∀x ∈ cs,x.low≤(AN ms p x.good x.day).1∧(AN ms p x.good x.day).1≤x.high:=by
 rw [SG]
 have:∀g:Nat,0≤(AN ms p (g:Int) d).2↔0≤p.first g∧∀k,k<ms.length→(ms.getD k AB.z).good=(g:Int)→0≤(AN ms p (g:Int) (ms.getD k AB.z).day).1:=fun g=>by rw [b.low_iff2,Int.toNat_natCast]
 simp only [this];constructor
 ·rintro ⟨h1,h2⟩;refine ⟨fun g hg=>(h1 g hg).1,fun k hk=>?_,h2⟩;have hg:=(b.move' hk).2.1;obtain ⟨g,eg⟩:=Int.eq_ofNat_of_zero_le hg.1
  have:=(h1 g (by omega)).2 k hk eg
  rw [←eg] at this;exact this
 ·rintro ⟨h1,h2,h3⟩;exact ⟨fun g hg=>⟨h1 g hg,fun k hk e=>by have:=h2 k hk;rw [e] at this;exact this⟩,h3⟩
end
end Go.Ns
namespace Go.Ns
open Go.Conc
def GY (k:Int):Int:=if k=0∨k=4 then 1 else-1
def Ca (y l:List Int) (k:Int):Int:=if k ∈ l then 0 else y.getD k.toNat 0
def A6 (ms:List AB) (f y l:List Int) (g dy:Int):Nat→Int
 | 0=>f.getD g.toNat 0
 | k+1=>A6 ms f y l g dy k+if (ms.getD k AB.z).good=g∧(ms.getD k AB.z).day≤dy then GY (ms.getD k AB.z).kind*Ca y l (k:Int) else 0
def CQ (gs:List Good) (ms:List AB) (f y l:List Int) (dy:Int):Nat→Int
 | 0=>0
 | k+1=>CQ gs ms f y l dy k+(gs.getD k Good.z).cost*A6 ms f y l (k:Int) dy ms.length
def CD (ms:List AB) (y:List Int) (g a b:Int):Nat→Int
 | 0=>0
 | k+1=>CD ms y g a b k+if ((ms.getD k AB.z).kind=2∧(ms.getD k AB.z).good=g)∧a≤(ms.getD k AB.z).day∧(ms.getD k AB.z).day≤b then y.getD k 0 else 0
theorem Vc {ms:List AB} {f y l:List Int} {g dy:Int} {k:Nat} (h:(ms.getD k AB.z).good=g∧(ms.getD k AB.z).day≤dy):A6 ms f y l g dy (k+1)=A6 ms f y l g dy k+GY (ms.getD k AB.z).kind*Ca y l (k:Int):=by
 show _+(if _ then _ else _)=_;rw [if_pos h]
theorem Vd {ms:List AB} {f y l:List Int} {g dy:Int} {k:Nat} (h:¬((ms.getD k AB.z).good=g∧(ms.getD k AB.z).day≤dy)):A6 ms f y l g dy (k+1)=A6 ms f y l g dy k:=by
 show _+(if _ then _ else _)=_;rw [if_neg h];omega
theorem YU {ms:List AB} {y:List Int} {g a b:Int} {k:Nat} (h:((ms.getD k AB.z).kind=2∧(ms.getD k AB.z).good=g)∧a≤(ms.getD k AB.z).day∧(ms.getD k AB.z).day≤b):CD ms y g a b (k+1)=CD ms y g a b k+y.getD k 0:=by
 show _+(if _ then _ else _)=_;rw [if_pos h]
theorem YV {ms:List AB} {y:List Int} {g a b:Int} {k:Nat} (h:¬(((ms.getD k AB.z).kind=2∧(ms.getD k AB.z).good=g)∧a≤(ms.getD k AB.z).day∧(ms.getD k AB.z).day≤b)):CD ms y g a b (k+1)=CD ms y g a b k:=by
 show _+(if _ then _ else _)=_;rw [if_neg h];omega
theorem KZ {y l:List Int} (hy:∀i,0≤y.getD i 0∧y.getD i 0≤99) (k:Int):0≤Ca y l k∧Ca y l k≤99:=by
 unfold Ca;split
 ·omega
 ·exact hy _
theorem NB (k:Int):GY k=1∨GY k= -1:=by unfold GY;split <;> simp
theorem Or {y l:List Int} (hy:∀i,0≤y.getD i 0∧y.getD i 0≤99) (s k:Int): -99≤GY s*Ca y l k∧GY s*Ca y l k≤99:=by
 have:=KZ (l:=l) hy k
 rcases NB s with e | e <;> rw [e] <;> omega
theorem Ha {ms:List AB} {f y l:List Int} (hf:∀i,0≤f.getD i 0∧f.getD i 0≤99) (hy:∀i,0≤y.getD i 0∧y.getD i 0≤99) (g dy:Int):∀k:Nat,-(99*(k:Int))≤A6 ms f y l g dy k∧A6 ms f y l g dy k≤99*(k:Int)+99
 | 0=>by have:=hf g.toNat;unfold A6;omega
 | k+1=>by
  have h1:=Ha (ms:=ms) (l:=l) hf hy g dy k;have h2:=Or (l:=l) hy (ms.getD k AB.z).kind (k:Int);unfold A6;split <;> omega
theorem Ka {ms:List AB} {y:List Int} (hy:∀i,0≤y.getD i 0∧y.getD i 0≤99) (g a b:Int):∀k:Nat,0≤CD ms y g a b k∧CD ms y g a b k≤99*(k:Int)
 | 0=>by unfold CD;omega
 | k+1=>by
  have h1:=Ka (ms:=ms) hy g a b k;have h2:=hy k;unfold CD;split <;> omega
structure Ug (P:AT) (f y l:List Int) (ng nm:Nat):Prop where
 first:∀i,i<ng→P.first i=f.getD i 0
 many:∀i,i<nm→P.many i=y.getD i 0
 lies:∀i,i<nm→P.lies i=decide ((i:Int) ∈ l)
theorem Ug.real {P:AT} {f y l:List Int} {ng nm:Nat} (h:Ug P f y l ng nm) {k:Nat} (hk:k<nm):CG P k=Ca y l (k:Int):=by
 unfold CG Ca;rw [h.lies k hk,h.many k hk,Int.toNat_natCast];by_cases e:(k:Int) ∈ l <;> simp [e]
theorem Ug.sum {P:AT} {f y l:List Int} {ng:Nat} {ms:List AB} (h:Ug P f y l ng ms.length) (hk:∀k,0≤(ms.getD k AB.z).kind) {g dy:Int} (hg:0≤g∧g<ng):∀k,k≤ms.length→A6 ms f y l g dy k=P.first g.toNat+((List.range k).map (L0 ms P g dy)).sum
 | 0,_=>by rw [h.first _ (by omega)];simp [A6]
 | k+1,hl=>by
  rw [List.range_succ,List.map_append,List.sum_append,List.map_singleton,List.sum_singleton];have ih:=h.sum hk (dy:=dy) hg k (by omega);have e:L0 ms P g dy k=if (ms.getD k AB.z).good=g∧(ms.getD k AB.z).day≤dy then GY (ms.getD k AB.z).kind*Ca y l (k:Int) else 0:=by
   unfold L0 SE;rw [h.real (show k<ms.length by omega)];have hs:signed (ms.getD k AB.z).kind.toNat (Ca y l (k:Int))=GY (ms.getD k AB.z).kind*Ca y l (k:Int):=by
    unfold signed GY
    have:=hk k
    by_cases q:(ms.getD k AB.z).kind=0∨(ms.getD k AB.z).kind=4
    ·rw [if_pos (by omega),if_pos q];omega
    ·rw [if_neg (by omega),if_neg q];omega
   by_cases q1:(ms.getD k AB.z).day≤dy
   ·by_cases q2:(ms.getD k AB.z).good=g
    ·rw [if_pos q1,if_pos q2,if_pos ⟨q2,q1⟩,hs]
    ·rw [if_pos q1,if_neg q2,if_neg fun q=>q2 q.1]
   ·rw [if_neg q1,if_neg fun q=>q1 q.2]
  rw [e,A6,ih];omega
theorem Ug.stock {P:AT} {f y l:List Int} {ng:Nat} {ms:List AB} (h:Ug P f y l ng ms.length) (up:I9 ms) (hk:∀k,0≤(ms.getD k AB.z).kind) {g:Int} (hg:0≤g∧g<ng) (dy:Int):A6 ms f y l g dy ms.length=(AN ms P g dy).1:=by
 rw [h.sum hk hg ms.length (Nat.le_refl _),NA up]
theorem Ug.worth {P:AT} {f y l:List Int} {gs:List Good} {ms:List AB} (h:Ug P f y l gs.length ms.length) (up:I9 ms) (hk:∀k,0≤(ms.getD k AB.z).kind) (dy:Int):∀k,k≤gs.length→CQ gs ms f y l dy k=CC gs ms P dy k
 | 0,_=>rfl
 | k+1,hl=>by unfold CQ CC;rw [h.worth up hk dy k (by omega),h.stock up hk (by omega)]
theorem Ug.lost {P:AT} {f y l:List Int} {ng:Nat} {ms:List AB} (h:Ug P f y l ng ms.length) (hn:∀k,k<ms.length→(k:Int) ∈ l→(ms.getD k AB.z).kind=0) (g a b:Int):∀k,k≤ms.length→CD ms y g a b k=CM ms P g a b k
 | 0,_=>rfl
 | k+1,hl=>by
  unfold CD CM;rw [h.lost hn g a b k (by omega)];by_cases q:((ms.getD k AB.z).kind=2∧(ms.getD k AB.z).good=g)∧a≤(ms.getD k AB.z).day∧(ms.getD k AB.z).day≤b
  ·rw [if_pos q,if_pos q,h.real (by omega)];unfold Ca;rw [if_neg (fun e=>by have:=hn k (by omega) e;omega),Int.toNat_natCast]
  ·rw [if_neg q,if_neg q]
end Go.Ns
namespace Go.Ns
open Go.Conc
theorem Ni (a:ByteArray):(a==a)=true:=by
 cases a with
 | mk d=>show (d==d)=true;simp
section
variable {d m:Int} {gs:List Good} {ms ms2:List AB} {cs cs2:List AF}
theorem Nj {α:Type}:∀{l l1:List α},l.Nodup→(∀x ∈ l,x ∈ l1)→l.length≤l1.length
 | [],_,_,_=>Nat.zero_le _
 | a ::t,l1,hn,hs=>by
  obtain ⟨s,u,rfl⟩:=List.append_of_mem (hs a (List.mem_cons_self ..))
  have:=Nj (l1:=s++u) (List.nodup_cons.1 hn).2 fun x hx=>by
   have h1:=hs x (List.mem_cons_of_mem _ hx);rw [List.mem_append] at h1 ⊢;rcases h1 with h | h
   ·exact .inl h
   ·rcases List.mem_cons.1 h with rfl | h
    ·exact absurd hx (List.nodup_cons.1 hn).1
    ·exact .inr h
  simp only [List.length_append,List.length_cons] at this ⊢;omega
end
end Go.Ns
namespace Go.Ns
open Go.Conc
def Dx (ms:List AB) (cs:List AF) (f y l:List Int):Bool:=decide (∀k,k<cs.length→(cs.getD k AF.z).low≤A6 ms f y l (cs.getD k AF.z).good (cs.getD k AF.z).day ms.length∧A6 ms f y l (cs.getD k AF.z).good (cs.getD k AF.z).day ms.length≤(cs.getD k AF.z).high) &&
 decide (∀k,k<ms.length→¬A6 ms f y l (ms.getD k AB.z).good (ms.getD k AB.z).day ms.length<0)
section
variable {ms:List AB} {cs:List AF} {f y l:List Int}
theorem YW {k:Nat} (hk:k<cs.length) (h:¬((cs.getD k AF.z).low≤A6 ms f y l (cs.getD k AF.z).good (cs.getD k AF.z).day ms.length∧A6 ms f y l (cs.getD k AF.z).good (cs.getD k AF.z).day ms.length≤(cs.getD k AF.z).high)):Dx ms cs f y l=false:=by
 unfold Dx;rw [decide_eq_false (fun q=>h (q k hk))];rfl
theorem YX {k:Nat} (hk:k<ms.length) (h:A6 ms f y l (ms.getD k AB.z).good (ms.getD k AB.z).day ms.length<0):Dx ms cs f y l=false:=by
 unfold Dx;rw [Bool.and_eq_false_iff];exact .inr (decide_eq_false fun q=>q k hk h)
theorem YY {k k2:Nat} (h:∀j,j<k→(cs.getD j AF.z).low≤A6 ms f y l (cs.getD j AF.z).good (cs.getD j AF.z).day ms.length∧A6 ms f y l (cs.getD j AF.z).good (cs.getD j AF.z).day ms.length≤(cs.getD j AF.z).high) (hk:cs.length≤k)
  (h2:∀j,j<k2→¬A6 ms f y l (ms.getD j AB.z).good (ms.getD j AB.z).day ms.length<0) (hk2:ms.length≤k2):Dx ms cs f y l=true:=by
 unfold Dx;rw [decide_eq_true (fun j hj=>h j (by omega)),decide_eq_true (fun j hj=>h2 j (by omega))];rfl
end
section
variable {d m:Int} {gs:List Good} {ms:List AB} {cs:List AF}
end
end Go.Ns
namespace Go.Ns
open Go.Conc
section
variable {d m:Int} {gs:List Good} {ms:List AB} {cs:List AF} {kd g n:Int}
theorem Ve {mo:Int} {q:AT} (h:q ∈ AV d gs ms cs mo) {k:Nat} (hk:ms.length≤k):q.lies k=false:=by
 have e:=Qp h;rw [←e];unfold H8;dsimp only;rw [if_neg (by omega)]
theorem YZ (n:Nat) (f:Nat→Int):(CK n f).length≤n:=by
 have h:=Nj (l:=CK n f) (l1:=(List.range n).map f) ((MY n f).imp fun q=>by omega) fun x hx=>by
  obtain ⟨i,hi,e⟩:=MX.1 hx;exact List.mem_map.2 ⟨i,List.mem_range.2 hi,e⟩
 rwa [List.length_map,List.length_range] at h
end
end Go.Ns
namespace Go.Ns
open Go.Conc
def Ot (gs:List Good) (p:AT):Nat→AT
 | 0=>p
 | k+1=>(Ot gs p k).setFirst k (min (max (p.first k) (gs.getD k Good.z).low) (gs.getD k Good.z).high)
def Ou (ms:List AB) (p q:AT):Nat→AT
 | 0=>q
 | k+1=>(Ou ms p q k).setMany k (min (max (p.many k) (ms.getD k AB.z).low) (ms.getD k AB.z).high)
def SH (gs:List Good) (ms:List AB) (p:AT):AT:=Ou ms p (Ot gs p gs.length) ms.length
def eq3 (p q:AT):Bool:=(p.first 0==q.first 0) && ((p.first 1==q.first 1) && ((p.first 2==q.first 2) && true))
def eq6 (p q:AT):Bool:=(p.many 0==q.many 0) && ((p.many 1==q.many 1) && ((p.many 2==q.many 2) && ((p.many 3==q.many 3) && ((p.many 4==q.many 4) && ((p.many 5==q.many 5) && true)))))
def Hw (d m:Int) (gs:List Good) (ms:List AB) (cs:List AF) (f y l:List Int):Bool:=
 decide (Ai d m gs ms cs f y l=0) && (eq3 (SH gs ms (Ay d m gs ms cs f y l)) (Ay d m gs ms cs f y l) && (eq6 (SH gs ms (Ay d m gs ms cs f y l)) (Ay d m gs ms cs f y l) && (decide ((An (Ay d m gs ms cs f y l) 6:Int)≤m) && A5 d gs.length ms cs (Ay d m gs ms cs f y l))))
theorem Qq {gs:List Good} {p:AT} (h:∀i,i<gs.length→(gs.getD i Good.z).low≤p.first i∧p.first i≤(gs.getD i Good.z).high):∀k,k≤gs.length→Ot gs p k=p
 | 0,_=>rfl
 | k+1,hk=>by
  unfold Ot
  have:=h k (by omega)
  rw [Qq h k (by omega),show min (max (p.first k) (gs.getD k Good.z).low) (gs.getD k Good.z).high=p.first k by omega];unfold AT.setFirst;congr 1;funext j;split
  ·rename_i e;rw [e]
  ·rfl
theorem Qr {ms:List AB} {p:AT} (h:∀i,i<ms.length→(ms.getD i AB.z).low≤p.many i∧p.many i≤(ms.getD i AB.z).high):∀k,k≤ms.length→Ou ms p p k=p
 | 0,_=>rfl
 | k+1,hk=>by
  unfold Ou
  have:=h k (by omega)
  rw [Qr h k (by omega),show min (max (p.many k) (ms.getD k AB.z).low) (ms.getD k AB.z).high=p.many k by omega];unfold AT.setMany;congr 1;funext j;split
  ·rename_i e;rw [e]
  ·rfl
section
variable {d m:Int} {gs:List Good} {ms:List AB} {cs:List AF}
theorem is_hist (b:At d m gs ms cs) {f y l:List Int} (h0:Ai d m gs ms cs f y l=0) (hq:Ay d m gs ms cs f y l ∈ AV d gs ms cs m):Hw d m gs ms cs f y l=true:=by
 have hs:=fun k hk=>Ve hq (k:=k) hk;obtain ⟨L,ha,_⟩:=(MZ b.mlen b.most.1).1 hq;unfold Hw SH;generalize Ay d m gs ms cs f y l=P at L ha hs ⊢;have h6:An P 6=An P ms.length:=Hv (fun k h1 _=>hs k h1) b.mlen;rw [decide_eq_true h0,Qq L.first _ (Nat.le_refl _),Qr L.many _ (Nat.le_refl _),ha,decide_eq_true (by rw [h6];exact L.few)];simp [eq3,eq6]
end
end Go.Ns
namespace Go.Ns
open Go.Conc
def Ty (h:GH) (t:TypeId) (v:Value):Prop:=∀b,Bw v=some b→∃p c f,h b=some (p,.cells c t f)
def Ij (h:GH) (t:TypeId) (v:Value) (xs:List Int):Prop:=AJ h v 1 eI xs∧Ty h t v
theorem Ij.le {h h':GH} {t:TypeId} {v:Value} {xs:List Int} (x:Ij h t v xs) (l:h.Le h'):Ij h' t v xs:=⟨x.1.le l,fun b hb=>by
 obtain ⟨p,c,f,q⟩:=x.2 b hb;exact ⟨p,c,f,l.keep q rfl⟩⟩
theorem Ij.nil (h:GH) (t:TypeId):Ij h t (.slice none 0 0) []:=⟨AJ.nil _ _ _,fun b hb=>by cases hb⟩
theorem Ij.own {h0 h:GH} {t:TypeId} {v:Value} {xs:List Int} (o:AR h0 h v t 1 eI xs):Ij h t v xs:=⟨o.sl,fun b hb=>by
 rcases o with ⟨rfl,_⟩ | ⟨b1,cap,c,rfl,_,h2,_⟩
 ·cases hb
 ·simp only [Bw,Option.some.injEq] at hb;subst hb;exact ⟨_,_,_,h2⟩⟩
section
variable {α:Type} {h h' h0:GH} {v v':Value} {t t':TypeId} {n:Nat} {enc:α→Array Value} {ys:List α}
theorem Ij.grown (g:F2 h h' v v') (o:AR h0 h v t' n enc ys) (ne:t'≠t) {w:Value} {xs:List Int} (x:Ij h t w xs):Ij h' t w xs:=by
 have key:∀b,Bw w=some b→h' b=h b:=fun b hb=>by
  obtain ⟨p,c,f,q⟩:=x.2 b hb;rw [q];refine g.1 b _ q fun e=>?_;rcases o with ⟨rfl,_⟩ | ⟨b1,cap,c1,rfl,_,h2,_⟩
  ·cases e
  ·simp only [Bw,Option.some.injEq] at e;subst e;rw [q] at h2;cases h2;exact ne rfl
 refine ⟨?_,fun b hb=>by rw [key b hb];exact x.2 b hb⟩;obtain ⟨a,cap,hv,hc,hm,he⟩:=x.1;refine ⟨a,cap,hv,hc,hm,fun i hi=>?_⟩;obtain ⟨b,off,h1,h2⟩:=he i hi;exact ⟨b,off,h1,h2.same (key b (by rw [hv,h1];rfl))⟩
end
theorem Ky {P:Program} {E:Gm P} {σ:Nat→Value} {ds:List Deferred} {h:GH} {T:(Nat→Value)→List Deferred→GH→Prop} {dst:Option Nat} {ty:TypeId} {pos:String} {af:Array Edge} {gd:Option (Nat×Bool)} {α:Type}
  {s x:TypeId} {o1 o2:Operand} {h0:GH} {w:Value} {r e n bytes:Nat} {enc:α→Array Value} {ys:List α} (ht:IG P s x=some (e,n,bytes)) (h1:AU σ o1=.slice (some ⟨r,0,none⟩) 0 0) (h2:AU σ o2=w)
  (hv:AR h0 h (.slice (some ⟨r,0,none⟩) 0 0) e n enc ([]:List α)) (hw:AJ h w n enc ys) (l0:∀q,h q=none→h0 q=none) (hb:(2*(([]:List α).length+ys.length)+512)*bytes≤2 ^ 48) (hfine:∀y ∈ ys,(enc y).toList.all (·.oneCell')=true)
  (k:∀v' h',AR h0 h' v' e n enc ys→F2 h h' (.slice (some ⟨r,0,none⟩) 0 0) v'→h.Le h'→T (putS σ dst v') ds h'):Bi E ⟨dst,.call ⟨.builtin .append,#[o1,o2],#[s,x]⟩,ty,pos,af,gd⟩ σ ds h T:=
 N4 ht h1 h2 hv hw l0 hb hfine fun v' h' o g1 g2 g3=>k v' h' o ⟨g1,g2⟩ (.of fun b y hb=>by
  by_cases e:b=r
  ·subst e;rcases hv with ⟨q,_⟩ | ⟨b1,cap,c,q,_,q2,q3,_⟩
   ·cases q
   ·simp only [Value.slice.injEq,Option.some.injEq,Addr.mk.injEq,and_true] at q;obtain ⟨rfl,_,rfl⟩:=q;obtain ⟨c',q5,q6⟩:=g3 b c rfl q2;rw [q2] at hb;cases hb;rw [q5,Array.eq_empty_of_size_eq_zero (show c.size=0 by omega),Array.eq_empty_of_size_eq_zero (show c'.size=0 by omega)]
  ·exact g1 b y hb fun q=>e (by simpa [Bw] using q.symm))
def Ts (hs:GH) (k0 ln:Nat) (c:Array Value) (t:TypeId) (k:Nat) (v:Value) (h:GH):Prop:=k=k0→∃r,v=.slice (some ⟨r,0,none⟩) ln ln∧hs r=none∧h r=some (true,.cells c t (0,0))
theorem Ts.mono (hs:GH) (k0 ln:Nat) (c:Array Value) (t:TypeId):∀k v h1 h2,GH.Le h1 h2→Ts hs k0 ln c t k v h1→Ts hs k0 ln c t k v h2:=fun _ _ _ _ l x e=>by
 obtain ⟨r,q1,q2,q3⟩:=x e;exact ⟨r,q1,q2,l.keep q3 rfl⟩
theorem Qs {P:Program} {E:Gm P} {σ:Nat→Value} {ds:List Deferred} {hs hx:GH} {dst:Option Nat} {ty:TypeId} {pos:String} {af:Array Edge} {gd:Option (Nat×Bool)} {t:TypeId} {len n k0 k:Nat} {z cells:Array Value} {e:TypeId} {parts:Array (Nat×Operand)}
  (h0:Dt P t=some (n,z,e)) (hl:len*n≤2 ^ 24) (hn:(len*n=0)=False) (hf:Instr.fill (fun i=>some (i*n,n)) ((Array.range (len*n)).map (z[·%z.size]!)) (parts.map fun (i,x)=>(i,AU σ x)).toList=some cells) (l:hs.Le hx) :
  Bi E ⟨dst,.buildSlice t len parts,ty,pos,af,gd⟩ σ ds hx fun σ' ds' h'=>ds'=ds∧∃v,σ'=putS σ dst v∧hx.Le h'∧Ts hs k0 len cells e k v h':=
 Aa h0 hl hn hf fun r h' hr le bx _=>⟨rfl,_,rfl,le,fun _=>⟨r,rfl,GH.Le.nothing l hr,bx⟩⟩
theorem fill_b3 {v0 v1 v2:Value} (h0:v0.cells=#[v0]) (h1:v1.cells=#[v1]) (h2:v2.cells=#[v2]):Instr.fill (fun x=>#[(0,1),(1,1),(2,1)][x]?) #[Value.slice none 0 0,Value.slice none 0 0,Value.slice none 0 0] [(0,v0),(1,v1),(2,v2)]=some #[v0,v1,v2]:=by
 simp [Instr.fill,h0,h1,h2]
def Ef (h:GH) (t:TypeId) (l:List Sl):Prop:=∀k,Ij h t (l.getD k Sl.z).1 (l.getD k Sl.z).2
theorem Ef.le {h h':GH} {t:TypeId} {l:List Sl} (x:Ef h t l) (e:h.Le h'):Ef h' t l:=fun k=>(x k).le e
theorem Ef.nil (h:GH) (t:TypeId):Ef h t []:=fun k=>by
 rw [B2 (by simp)];exact Ij.nil _ _
theorem Ov {α:Type} (z:α) (a b:List α) (k:Nat):(a++b).getD k z=if k<a.length then a.getD k z else b.getD (k-a.length) z:=by
 simp only [List.getD_eq_getElem?_getD,List.getElem?_append];split <;> rfl
theorem Ef.app {h:GH} {t:TypeId} {l l':List Sl} (a:Ef h t l) (b:Ef h t l'):Ef h t (l++l'):=fun k=>by
 rw [Ov];split
 ·exact a k
 ·exact b _
theorem Ef.one {h:GH} {t:TypeId} {x:Sl} (a:Ij h t x.1 x.2):Ef h t [x]:=fun k=>by
 cases k with
 | zero=>exact a
 | succ k=>rw [B2 (by simp)];exact Ij.nil _ _
theorem Ef.grown {α:Type} {h h' h0:GH} {v v':Value} {t t':TypeId} {n:Nat} {enc:α→Array Value} {ys:List α} (g:F2 h h' v v') (o:AR h0 h v t' n enc ys) (ne:t'≠t) {l:List Sl} (x:Ef h t l):Ef h' t l:=fun k=>(x k).grown g o ne
structure PS where
 f:Sl
 y:Sl
 l:Sl
def PS.z:PS:=⟨Sl.z,Sl.z,Sl.z⟩
def ePS (x:PS):Array Value:=#[x.f.1,x.y.1,x.l.1]
def E2 (h:GH) (t:TypeId) (l:List PS):Prop:=∀k,Ij h t (l.getD k PS.z).f.1 (l.getD k PS.z).f.2∧Ij h t (l.getD k PS.z).y.1 (l.getD k PS.z).y.2∧Ij h t (l.getD k PS.z).l.1 (l.getD k PS.z).l.2
theorem E2.le {h h':GH} {t:TypeId} {l:List PS} (x:E2 h t l) (e:h.Le h'):E2 h' t l:=fun k=>⟨(x k).1.le e,(x k).2.1.le e,(x k).2.2.le e⟩
theorem E2.nil (h:GH) (t:TypeId):E2 h t []:=fun k=>by
 rw [B2 (by simp)];exact ⟨Ij.nil _ _,Ij.nil _ _,Ij.nil _ _⟩
theorem E2.app {h:GH} {t:TypeId} {l l':List PS} (a:E2 h t l) (b:E2 h t l'):E2 h t (l++l'):=fun k=>by
 rw [Ov];split
 ·exact a k
 ·exact b _
theorem E2.one {h:GH} {t:TypeId} {x:PS} (a:Ij h t x.f.1 x.f.2) (b:Ij h t x.y.1 x.y.2) (c:Ij h t x.l.1 x.l.2):E2 h t [x]:=fun k=>by
 cases k with
 | zero=>exact ⟨a,b,c⟩
 | succ k=>rw [B2 (by simp)];exact ⟨Ij.nil _ _,Ij.nil _ _,Ij.nil _ _⟩
theorem E2.grown {α:Type} {h h' h0:GH} {v v':Value} {t t':TypeId} {n:Nat} {enc:α→Array Value} {ys:List α} (g:F2 h h' v v') (o:AR h0 h v t' n enc ys) (ne:t'≠t) {l:List PS} (x:E2 h t l):E2 h' t l:=fun k=>⟨(x k).1.grown g o ne,(x k).2.1.grown g o ne,(x k).2.2.grown g o ne⟩
theorem Ij.fine {h:GH} {t:TypeId} {v:Value} {xs:List Int} (x:Ij h t v xs):v.oneCell'=true:=(AJ.one x.1).2
theorem Ef.fine {h:GH} {t:TypeId} {l:List Sl} (a:Ef h t l):∀y ∈ l,(Ii y).toList.all (·.oneCell')=true:=fun y hy=>by
 obtain ⟨k,hk,rfl⟩:=IT Sl.z hy;show (((l.getD k Sl.z).1.oneCell') && true)=true;rw [(a k).fine];rfl
theorem E2.fine {h:GH} {t:TypeId} {l:List PS} (a:E2 h t l):∀y ∈ l,(ePS y).toList.all (·.oneCell')=true:=fun y hy=>by
 obtain ⟨k,hk,rfl⟩:=IT PS.z hy;show (((l.getD k PS.z).f.1.oneCell') && (((l.getD k PS.z).y.1.oneCell') && (((l.getD k PS.z).l.1.oneCell') && true)))=true;rw [(a k).1.fine,(a k).2.1.fine,(a k).2.2.fine];rfl
abbrev RP:=List Int×List Int×List Int
def JZ (l:List PS):List RP:=l.map fun x=>(x.f.2,x.y.2,x.l.2)
theorem XX (a b:List PS):JZ (a++b)=JZ a++JZ b:=by simp [JZ]
theorem Qt (a b:List Sl):A8 (a++b)=A8 a++A8 b:=by simp [A8]
theorem Jt {l:List PS} {k:Nat} (hk:k<l.length):(JZ l).getD k ([],[],[])=((l.getD k PS.z).f.2,(l.getD k PS.z).y.2,(l.getD k PS.z).l.2):=by
 unfold JZ;rw [BW _ (by simpa using hk),BW PS.z hk];simp
def eSp (x:Int×Int):Array Value:=#[.int .i64 x.1,.int .i64 x.2]
def Bt (gs:List Good):List (Int×Int):=gs.map fun g=>(g.low,g.high)
def CV (ms:List AB):List (Int×Int):=ms.map fun g=>(g.low,g.high)
theorem SI {gs:List Good} {k:Nat} (hk:k<gs.length):Bt (gs.take (k+1))=Bt (gs.take k)++[((gs.getD k Good.z).low,(gs.getD k Good.z).high)]:=by
 unfold Bt;rw [CN Good.z hk,List.map_append];rfl
theorem Tt {ms:List AB} {k:Nat} (hk:k<ms.length):CV (ms.take (k+1))=CV (ms.take k)++[((ms.getD k AB.z).low,(ms.getD k AB.z).high)]:=by
 unfold CV;rw [CN AB.z hk,List.map_append];rfl
theorem NC {gs:List Good} (h:∀k,(gs.getD k Good.z).high-(gs.getD k Good.z).low<3) (k:Nat):((Bt gs).getD k (0,0)).2-((Bt gs).getD k (0,0)).1<3:=by
 unfold Bt;by_cases hk:k<gs.length
 ·have:=h k
  rw [BW _ (by simpa using hk),List.getElem_map];rw [BW Good.z hk] at this;exact this
 ·rw [B2 (by simpa using hk)];decide
theorem Ow {ms:List AB} (h:∀k,(ms.getD k AB.z).high-(ms.getD k AB.z).low<3) (k:Nat):((CV ms).getD k (0,0)).2-((CV ms).getD k (0,0)).1<3:=by
 unfold CV;by_cases hk:k<ms.length
 ·have:=h k
  rw [BW _ (by simpa using hk),List.getElem_map];rw [BW AB.z hk] at this;exact this
 ·rw [B2 (by simpa using hk)];decide
def Br:List (Int×Int)→List Int→List (List Int)
 | [],k=>[k]
 | s ::ss,k=>(E8 s.1 s.2).flatMap fun n=>Br ss (k++[n])
def Hx (ss:List (Int×Int)) (kn:List Int) (j:Nat):List (List Int):=(Bp (ss.getD kn.length (0,0)).1 j).flatMap fun n=>Br (ss.drop (kn.length+1)) (kn++[n])
theorem SJ (ss:List (Int×Int)) (kn:List Int) (j:Nat):Hx ss kn (j+1)=Hx ss kn j++Br (ss.drop (kn.length+1)) (kn++[(ss.getD kn.length (0,0)).1+(j:Int)]):=by
 unfold Hx;exact Hq
theorem Vf {ss:List (Int×Int)} {kn:List Int} (h:kn.length=ss.length):Br (ss.drop kn.length) kn=[kn]:=by
 rw [List.drop_eq_nil_of_le (by omega)];rfl
theorem Ya {ss:List (Int×Int)} {kn:List Int} (h:kn.length<ss.length) {j:Nat} (hj:¬(ss.getD kn.length (0,0)).1+(j:Int)≤(ss.getD kn.length (0,0)).2) (hk:(j:Int)≤(ss.getD kn.length (0,0)).2-(ss.getD kn.length (0,0)).1+1∨j=0):Br (ss.drop kn.length) kn=Hx ss kn j:=by
 have e:ss.drop kn.length=ss.getD kn.length (0,0) ::ss.drop (kn.length+1):=by
  rw [List.drop_eq_getElem_cons h,BW _ h]
 rw [e];unfold Hx;rw [OL hj hk];rfl
theorem GZ {α β:Type} {f:α→List β} {B:Nat}:∀{l:List α},(∀x ∈ l,(f x).length≤B)→(l.flatMap f).length≤l.length*B
 | [],_=>by simp
 | x ::l,h=>by
  rw [List.flatMap_cons,List.length_append,List.length_cons,Nat.succ_mul];have h1:=h x (by simp);have h2:=GZ (l:=l) fun y hy=>h y (by simp [hy]);omega
theorem Ox (lo:Int) (k:Nat):(Bp lo k).length=k:=by simp [Bp]
theorem Oy:∀{ss:List (Int×Int)} {kn:List Int},(∀k,(ss.getD k (0,0)).2-(ss.getD k (0,0)).1<3)→(Br ss kn).length≤3 ^ ss.length
 | [],kn,_=>by simp [Br]
 | s ::ss,kn,h=>by
  unfold Br;have h1:=h 0;have h2:(E8 s.1 s.2).length≤3:=by unfold E8;rw [Ox];have:s.2-s.1<3:=h1;omega
  have h3:=GZ (l:=E8 s.1 s.2) (f:=fun n=>Br ss (kn++[n])) (B:=3 ^ ss.length) fun n _=>Oy fun k=>h (k+1);rw [List.length_cons,Nat.pow_succ,Nat.mul_comm];exact Nat.le_trans h3 (Nat.mul_le_mul_right _ h2)
theorem drop_few {ss:List (Int×Int)} (h:∀k,(ss.getD k (0,0)).2-(ss.getD k (0,0)).1<3) (n:Nat) (k:Nat):((ss.drop n).getD k (0,0)).2-((ss.drop n).getD k (0,0)).1<3:=by
 have e:(ss.drop n).getD k (0,0)=ss.getD (n+k) (0,0):=by simp [List.getD_eq_getElem?_getD]
 rw [e];exact h _
theorem pow_le6 {n:Nat} (h:n≤6):3 ^ n≤729:=Nat.pow_le_pow_right (by decide) h
theorem Hy {ss:List (Int×Int)} {kn:List Int} (h:∀k,(ss.getD k (0,0)).2-(ss.getD k (0,0)).1<3) (hl:ss.length≤6) (n:Nat):(Br (ss.drop n) kn).length≤729:=by
 have h1:=Oy (kn:=kn) (drop_few h n);exact Nat.le_trans h1 (pow_le6 (by rw [List.length_drop];omega))
theorem SK {ss:List (Int×Int)} {kn:List Int} (h:∀k,(ss.getD k (0,0)).2-(ss.getD k (0,0)).1<3) (hl:ss.length≤6) (j:Nat):(Hx ss kn j).length≤j*729:=by
 unfold Hx
 have:=GZ (l:=Bp (ss.getD kn.length (0,0)).1 j) (f:=fun n=>Br (ss.drop (kn.length+1)) (kn++[n])) (B:=729) fun n _=>Hy h hl _
 rwa [Ox] at this
theorem CW (l:List Sl):(A8 l).length=l.length:=by simp [A8]
def BU (l:List Int):List (List Int):=l.foldl (fun c x=>c++c.map (·++[x])) [[]]
def ED (l:List Int) (k j:Nat):List (List Int):=BU (l.take k)++((BU (l.take k)).take j).map (·++[l.getD k 0])
theorem SL {l:List Int} {k:Nat} (hk:k<l.length):BU (l.take (k+1))=BU (l.take k)++(BU (l.take k)).map (·++[l.getD k 0]):=by
 rw [CN 0 hk];unfold BU;rw [List.foldl_append];rfl
theorem Vg (l:List Int) (k:Nat):ED l k 0=BU (l.take k):=by simp [ED]
theorem SM {l:List Int} {k j:Nat} (hk:k<l.length) (hj:(BU (l.take k)).length≤j):ED l k j=BU (l.take (k+1)):=by
 rw [SL hk];unfold ED;rw [List.take_of_length_le hj]
theorem P6 {l:List Int} {k j:Nat} (hj:j<(BU (l.take k)).length):ED l k (j+1)=ED l k j++[(BU (l.take k)).getD j []++[l.getD k 0]]:=by
 unfold ED;rw [CN [] hj,List.map_append,List.append_assoc];rfl
theorem Tu:∀(l:List Int),(BU l).length=2 ^ l.length:=fun l=>by
 have key:∀(l:List Int) (c:List (List Int)),(l.foldl (fun c x=>c++c.map (·++[x])) c).length=c.length*2 ^ l.length:=by
  intro l
  induction l with
  | nil=>intro c;simp
  | cons x l ih=>intro c;rw [List.foldl_cons,ih,List.length_append,List.length_map,List.length_cons,Nat.pow_succ,Nat.mul_comm (2 ^ l.length) 2,←Nat.mul_assoc];congr 1;omega
 unfold BU;rw [key];simp
theorem G3 {l:List Int} (h:l.length≤6) (k:Nat):(BU (l.take k)).length≤64:=by
 rw [Tu]
 have:2 ^ (l.take k).length≤2 ^ 6:=Nat.pow_le_pow_right (by decide) (by rw [List.length_take];omega)
 omega
theorem GD {l:List Int}:∀{c:List Int},c ∈ BU l→c.Sublist l:=by
 have key:∀(l r:List Int) (cs:List (List Int)),(∀c ∈ cs,c.Sublist r)→∀c ∈ l.foldl (fun c x=>c++c.map (·++[x])) cs,c.Sublist (r++l):=by
  intro l
  induction l with
  | nil=>intro r cs h c hc;rw [List.append_nil];exact h c hc
  | cons x l ih=>
   intro r cs h c hc
   have:=ih (r++[x]) (cs++cs.map (·++[x])) (fun c hc=>by
    rcases List.mem_append.1 hc with hc | hc
    ·exact (h c hc).trans (List.sublist_append_left _ _)
    ·obtain ⟨c',hc',rfl⟩:=List.mem_map.1 hc;exact (h c' hc').append (List.Sublist.refl _)) c hc
   rwa [List.append_assoc] at this
 intro c hc
 have:=key l [] [[]] (fun c hc=>by rw [List.mem_singleton.1 hc];exact List.Sublist.refl _) c hc
 simpa using this
theorem Vh {l:List Int} {c:List Int} (h:c.Sublist l):c ∈ BU l:=by
 have keep:∀(l:List Int) (cs:List (List Int)) c,c ∈ cs→c ∈ l.foldl (fun c x=>c++c.map (·++[x])) cs:=by
  intro l
  induction l with
  | nil=>intro cs c h;exact h
  | cons x l ih=>intro cs c h;exact ih _ _ (List.mem_append_left _ h)
 have key:∀(c l:List Int),c.Sublist l→∀(cs:List (List Int)) a,a ∈ cs→a++c ∈ l.foldl (fun c x=>c++c.map (·++[x])) cs:=by
  intro c l h
  induction h with
  | slnil=>intro cs a ha;rw [List.append_nil];exact ha
  | cons x _ ih=>intro cs a ha;exact ih _ _ (List.mem_append_left _ ha)
  | cons_cons x _ ih=>
   intro cs a ha
   have:=ih (cs++cs.map (·++[x])) (a++[x]) (List.mem_append_right _ (List.mem_map.2 ⟨a,ha,rfl⟩))
   rwa [List.append_assoc] at this
 exact key c l h [[]] [] (by simp)
theorem Yb {l:List Int} {k:Nat} (h6:l.length≤6) {x:List Int} (h:x ∈ BU (l.take k)):x.length≤6:=by
 have h1:=(GD h).length_le;rw [List.length_take] at h1;omega
theorem Yc {l:List Int} {k j:Nat} {fl fl2:List Sl} (h6:l.length≤6) (h1:A8 fl=BU (l.take k)) (h2:A8 fl2=ED l k j) (hj:j≤fl.length) :
  fl2.length=fl.length+j∧(j<fl.length→(fl2.getD j Sl.z).2=(BU (l.take k)).getD j []∧(fl2.getD j Sl.z).2.length≤6):=by
 have e1:(BU (l.take k)).length=fl.length:=by rw [←h1,CW]
 have e2:fl2.length=fl.length+j:=by
  rw [←CW fl2,h2];unfold ED;rw [List.length_append,List.length_map,List.length_take,e1];omega
 refine ⟨e2,fun hj2=>?_⟩;have e3:(fl2.getD j Sl.z).2=(BU (l.take k)).getD j []:=by
  rw [←Cg (by omega),h2];unfold ED;rw [Ov,if_pos (by omega)]
 exact ⟨e3,by rw [e3];exact Yb h6 (CB (by omega))⟩
theorem Tv {l:List Int} {k j:Nat} {fl fl2:List Sl} {w:Value} (h1:A8 fl=BU (l.take k)) (h2:A8 fl2=ED l k j) (e:(fl2.getD j Sl.z).2=(BU (l.take k)).getD j []) (hj:j<fl.length):A8 (fl2++[(w,(fl2.getD j Sl.z).2++[l.getD k 0])])=ED l k (j+1):=by
 rw [Qt,h2,P6 (by rw [←h1,CW];exact hj),e];rfl
def Ft (ms:List AB) (cs:List AF) (l f:List Int) (ys:List (List Int)):List RP:=(ys.map fun y=>(f,y,l)).filter fun x=>Dx ms cs x.1 x.2.1 x.2.2
def JV (gs:List Good) (ms:List AB) (cs:List AF) (l:List Int):List RP:=(Br (Bt gs) []).flatMap fun f=>Ft ms cs l f (Br (CV ms) [])
def Dj (ms:List AB) (cs:List AF) (l:List Int) (F Y:List (List Int)) (i k:Nat):List RP:=((F.take i).flatMap fun f=>Ft ms cs l f Y)++Ft ms cs l (F.getD i []) (Y.take k)
theorem L5 (ms:List AB) (cs:List AF) (l:List Int) (F Y:List (List Int)) (i:Nat):Dj ms cs l F Y i 0=(F.take i).flatMap fun f=>Ft ms cs l f Y:=by simp [Dj,Ft]
theorem Vi {ms:List AB} {cs:List AF} {l:List Int} {F Y:List (List Int)} {i k:Nat} (hi:i<F.length) (hk:Y.length≤k):Dj ms cs l F Y i k=(F.take (i+1)).flatMap fun f=>Ft ms cs l f Y:=by
 unfold Dj;rw [CN [] hi,List.flatMap_append,List.take_of_length_le hk];simp
theorem withTo_t {ms:List AB} {cs:List AF} {l:List Int} {F Y:List (List Int)} {i k:Nat} (hk:k<Y.length) (h:Dx ms cs (F.getD i []) (Y.getD k []) l=true):Dj ms cs l F Y i (k+1)=Dj ms cs l F Y i k++[(F.getD i [],Y.getD k [],l)]:=by
 unfold Dj Ft;rw [CN [] hk,List.map_append,List.filter_append,List.append_assoc];congr 1;congr 1;simp;exact h
theorem withTo_f {ms:List AB} {cs:List AF} {l:List Int} {F Y:List (List Int)} {i k:Nat} (hk:k<Y.length) (h:Dx ms cs (F.getD i []) (Y.getD k []) l=false):Dj ms cs l F Y i (k+1)=Dj ms cs l F Y i k:=by
 unfold Dj Ft;rw [CN [] hk,List.map_append,List.filter_append];congr 1;simp;exact h
theorem Oz (ms:List AB) (cs:List AF) (l f:List Int) (ys:List (List Int)):(Ft ms cs l f ys).length≤ys.length:=by
 unfold Ft;exact Nat.le_trans (List.length_filter_le _ _) (by simp)
theorem O0 {ms:List AB} {cs:List AF} {l:List Int} {F Y:List (List Int)} (hF:F.length≤729) (hY:Y.length≤729) (i k:Nat):(Dj ms cs l F Y i k).length≤532170:=by
 unfold Dj;have h1:=GZ (l:=F.take i) (f:=fun f=>Ft ms cs l f Y) (B:=729) fun f _=>Nat.le_trans (Oz ..) hY;have h2:=Oz ms cs l (F.getD i []) (Y.take k);rw [List.length_take] at h2;have h3:(F.take i).length*729≤729*729:=Nat.mul_le_mul_right _ (by rw [List.length_take];omega);rw [List.length_append];omega
theorem Qu {gs:List Good} {ms:List AB} {cs:List AF} {l:List Int} (hF:(Br (Bt gs) []).length≤729) (hY:(Br (CV ms) []).length≤729):(JV gs ms cs l).length≤532170:=by
 have:=O0 (ms:=ms) (cs:=cs) (l:=l) hF hY (Br (Bt gs) []).length 0
 rw [L5,List.take_length] at this;exact this
def Dy (m:Int) (gs:List Good) (ms:List AB) (cs:List AF) (C:List (List Int)):List RP:=C.flatMap fun l=>if (l.length:Int)≤m then JV gs ms cs l else []
def Aj (m:Int) (gs:List Good) (ms:List AB) (cs:List AF):List RP:=Dy m gs ms cs (BU (CI ms ms.length))
theorem Yd {m:Int} {gs:List Good} {ms:List AB} {cs:List AF} {C:List (List Int)} {k:Nat} (hk:k<C.length) (h:((C.getD k []).length:Int)≤m):Dy m gs ms cs (C.take (k+1))=Dy m gs ms cs (C.take k)++JV gs ms cs (C.getD k []):=by
 unfold Dy;rw [CN [] hk,List.flatMap_append,List.flatMap_singleton,if_pos h]
theorem Ye {m:Int} {gs:List Good} {ms:List AB} {cs:List AF} {C:List (List Int)} {k:Nat} (hk:k<C.length) (h:¬((C.getD k []).length:Int)≤m):Dy m gs ms cs (C.take (k+1))=Dy m gs ms cs (C.take k):=by
 unfold Dy;rw [CN [] hk,List.flatMap_append,List.flatMap_singleton,if_neg h,List.append_nil]
theorem ND {m:Int} {gs:List Good} {ms:List AB} {cs:List AF} {C:List (List Int)} (hF:(Br (Bt gs) []).length≤729) (hY:(Br (CV ms) []).length≤729) (hC:C.length≤64) (k:Nat):(Dy m gs ms cs (C.take k)).length≤34058880:=by
 unfold Dy;have h1:=GZ (l:=C.take k) (f:=fun l=>if (l.length:Int)≤m then JV gs ms cs l else []) (B:=532170) fun f _=>by
  split
  ·exact Qu hF hY
  ·simp
 have h3:(C.take k).length*532170≤64*532170:=Nat.mul_le_mul_right _ (by rw [List.length_take];omega);omega
theorem G4 (l:List PS):(JZ l).length=l.length:=by simp [JZ]
theorem Tw (gs:List Good) (k:Nat):(Bt (gs.take k)).length≤k:=by
 unfold Bt;rw [List.length_map,List.length_take];omega
theorem Vj (ms:List AB) (k:Nat):(CV (ms.take k)).length≤k:=by
 unfold CV;rw [List.length_map,List.length_take];omega
theorem Yf {ms:List AB} {cs:List AF} {l:List Int} {F Y:List Sl} {pl:List PS} {i k:Nat} {fv yv lv:Value} (h:JZ pl=Dj ms cs l (A8 F) (A8 Y) i k) (hi:i<F.length) (hk:k<Y.length) (hp:Dx ms cs (F.getD i Sl.z).2 (Y.getD k Sl.z).2 l=true) :
  JZ (pl++[(⟨(fv,(F.getD i Sl.z).2),(yv,(Y.getD k Sl.z).2),(lv,l)⟩:PS)])=Dj ms cs l (A8 F) (A8 Y) i (k+1):=by
 have e1:=Cg hi;have e2:=Cg hk;rw [XX,h,withTo_t (by rw [CW];exact hk) (by rw [e1,e2];exact hp),e1,e2];rfl
theorem Yg {ms:List AB} {cs:List AF} {l:List Int} {F Y:List Sl} {pl:List PS} {i k:Nat} (h:JZ pl=Dj ms cs l (A8 F) (A8 Y) i k) (hi:i<F.length) (hk:k<Y.length) (hp:Dx ms cs (F.getD i Sl.z).2 (Y.getD k Sl.z).2 l=false) :
  JZ pl=Dj ms cs l (A8 F) (A8 Y) i (k+1):=by
 rw [h,withTo_f (by rw [CW];exact hk) (by rw [Cg hi,Cg hk];exact hp)]
theorem Yh {ms:List AB} {cs:List AF} {l:List Int} {F Y:List Sl} {pl:List PS} {i k:Nat} (h:JZ pl=Dj ms cs l (A8 F) (A8 Y) i k) (hi:i<F.length) (hk:Y.length≤k):JZ pl=Dj ms cs l (A8 F) (A8 Y) (i+1) 0:=by
 rw [h,Vi (by rw [CW];exact hi) (by rw [CW];exact hk),L5]
theorem with_all {gs:List Good} {ms:List AB} {cs:List AF} {l:List Int} {F Y:List Sl} {pl:List PS} {i:Nat} (h:JZ pl=Dj ms cs l (A8 F) (A8 Y) i 0) (hi:F.length≤i) (e1:A8 F=Br (Bt gs) []) (e2:A8 Y=Br (CV ms) []):JZ pl=JV gs ms cs l:=by
 rw [h,L5,List.take_of_length_le (by rw [CW];exact hi),e1,e2];rfl
theorem Vk {m:Int} {gs:List Good} {ms:List AB} {cs:List AF} {F:List Sl} {pl pl2:List PS} {k:Nat} (h1:JZ pl=Dy m gs ms cs ((A8 F).take k)) (h2:JZ pl2=JV gs ms cs (F.getD k Sl.z).2) (hk:k<F.length) (hm:(((F.getD k Sl.z).2).length:Int)≤m):JZ (pl++pl2)=Dy m gs ms cs ((A8 F).take (k+1)):=by
 have e:=Cg hk;rw [XX,h1,h2,Yd (by rw [CW];exact hk) (by rw [e];exact hm),e]
theorem Vl {m:Int} {gs:List Good} {ms:List AB} {cs:List AF} {F:List Sl} {pl:List PS} {k:Nat} (h1:JZ pl=Dy m gs ms cs ((A8 F).take k)) (hk:k<F.length) (hm:¬(((F.getD k Sl.z).2).length:Int)≤m):JZ pl=Dy m gs ms cs ((A8 F).take (k+1)):=by
 rw [h1,Ye (by rw [CW];exact hk) (by rw [Cg hk];exact hm)]
theorem DW {G:RP→Int} {al:List PS} {ts:List RP} {k:Nat} (e:JZ al=ts) (hk:k<al.length):(ts.take (k+1)).map G=(ts.take k).map G++[G ((al.getD k PS.z).f.2,(al.getD k PS.z).y.2,(al.getD k PS.z).l.2)]:=by
 subst e;rw [CN ([],[],[]) (by rw [G4];exact hk),List.map_append,Jt hk];rfl
end Go.Ns
namespace Go.Ns
open Go.Conc
theorem Hb:∀{ss:List (Int×Int)} {kn x:List Int},x ∈ Br ss kn↔∃r,x=kn++r∧r.length=ss.length∧∀i,i<ss.length→(ss.getD i (0,0)).1≤r.getD i 0∧r.getD i 0≤(ss.getD i (0,0)).2
 | [],kn,x=>by
  unfold Br;rw [List.mem_singleton];constructor
  ·rintro rfl;exact ⟨[],by simp,rfl,fun i hi=>by cases hi⟩
  ·rintro ⟨r,rfl,hl,_⟩;rw [List.eq_nil_of_length_eq_zero hl,List.append_nil]
 | s ::ss,kn,x=>by
  unfold Br;rw [List.mem_flatMap];constructor
  ·rintro ⟨n,hn,hx⟩;obtain ⟨r,rfl,hl,hr⟩:=Hb.1 hx;refine ⟨n ::r,by simp,by simp [hl],fun i hi=>?_⟩;cases i with
   | zero=>exact Fc.1 hn
   | succ i=>exact hr i (by simpa using hi)
  ·rintro ⟨r,rfl,hl,hr⟩;cases r with
   | nil=>cases hl
   | cons n r=>
    refine ⟨n,Fc.2 (hr 0 (by simp)),Hb.2 ⟨r,by simp,by simpa using hl,fun i hi=>?_⟩⟩;exact hr (i+1) (by simpa using hi)
theorem O1 {ss:List (Int×Int)} {x:List Int}:x ∈ Br ss []↔x.length=ss.length∧∀i,i<ss.length→(ss.getD i (0,0)).1≤x.getD i 0∧x.getD i 0≤(ss.getD i (0,0)).2:=by
 rw [Hb];constructor
 ·rintro ⟨r,rfl,h⟩;exact h
 ·intro h;exact ⟨x,rfl,h⟩
theorem JB {gs:List Good} {f:List Int}:f ∈ Br (Bt gs) []↔f.length=gs.length∧∀i,i<gs.length→(gs.getD i Good.z).low≤f.getD i 0∧f.getD i 0≤(gs.getD i Good.z).high:=by
 rw [O1,show (Bt gs).length=gs.length by simp [Bt]];have e:∀i,i<gs.length→(Bt gs).getD i (0,0)=((gs.getD i Good.z).low,(gs.getD i Good.z).high):=fun i hi=>by
  unfold Bt;rw [BW _ (by simpa using hi),List.getElem_map,BW Good.z hi]
 constructor
 ·rintro ⟨h1,h2⟩;exact ⟨h1,fun i hi=>by have:=h2 i hi;rw [e i hi] at this;exact this⟩
 ·rintro ⟨h1,h2⟩;exact ⟨h1,fun i hi=>by rw [e i hi];exact h2 i hi⟩
theorem J7 {ms:List AB} {f:List Int}:f ∈ Br (CV ms) []↔f.length=ms.length∧∀i,i<ms.length→(ms.getD i AB.z).low≤f.getD i 0∧f.getD i 0≤(ms.getD i AB.z).high:=by
 rw [O1,show (CV ms).length=ms.length by simp [CV]];have e:∀i,i<ms.length→(CV ms).getD i (0,0)=((ms.getD i AB.z).low,(ms.getD i AB.z).high):=fun i hi=>by
  unfold CV;rw [BW _ (by simpa using hi),List.getElem_map,BW AB.z hi]
 constructor
 ·rintro ⟨h1,h2⟩;exact ⟨h1,fun i hi=>by have:=h2 i hi;rw [e i hi] at this;exact this⟩
 ·rintro ⟨h1,h2⟩;exact ⟨h1,fun i hi=>by rw [e i hi];exact h2 i hi⟩
theorem J8 {gs:List Good} {ms:List AB} {cs:List AF} {l:List Int} {t:RP}:t ∈ JV gs ms cs l↔t.2.2=l∧t.1 ∈ Br (Bt gs) []∧t.2.1 ∈ Br (CV ms) []∧Dx ms cs t.1 t.2.1 l=true:=by
 unfold JV Ft;rw [List.mem_flatMap];constructor
 ·rintro ⟨f,hf,h⟩;obtain ⟨h1,h2⟩:=List.mem_filter.1 h;obtain ⟨y,hy,rfl⟩:=List.mem_map.1 h1;exact ⟨rfl,hf,hy,h2⟩
 ·obtain ⟨f,y,l'⟩:=t;rintro ⟨rfl,hf,hy,h⟩;exact ⟨f,hf,List.mem_filter.2 ⟨List.mem_map.2 ⟨y,hy,rfl⟩,h⟩⟩
theorem HE {m:Int} {gs:List Good} {ms:List AB} {cs:List AF} {t:RP}:t ∈ Aj m gs ms cs↔t.2.2 ∈ BU (CI ms ms.length)∧(t.2.2.length:Int)≤m∧t.1 ∈ Br (Bt gs) []∧t.2.1 ∈ Br (CV ms) []∧Dx ms cs t.1 t.2.1 t.2.2=true:=by
 unfold Aj Dy;rw [List.mem_flatMap];constructor
 ·rintro ⟨l,hl,h⟩;split at h
  ·rename_i q
   obtain ⟨rfl,h1,h2,h3⟩:=J8.1 h;exact ⟨hl,q,h1,h2,h3⟩
  ·cases h
 ·rintro ⟨hl,q,h1,h2,h3⟩;exact ⟨_,hl,by rw [if_pos q];exact J8.2 ⟨rfl,h1,h2,h3⟩⟩
theorem Tx {d m:Int} {gs:List Good} {ms:List AB} {cs:List AF} (b:At d m gs ms cs) (k:Nat):0≤((Bt gs).getD k (0,0)).1∧((Bt gs).getD k (0,0)).2≤99:=by
 unfold Bt;by_cases hk:k<gs.length
 ·have:=b.gfew k
  rw [BW _ (by simpa using hk),List.getElem_map];rw [BW Good.z hk] at this;exact ⟨this.1,this.2.2.1⟩
 ·rw [B2 (by simpa using hk)];decide
theorem Vm {d m:Int} {gs:List Good} {ms:List AB} {cs:List AF} (b:At d m gs ms cs) (k:Nat):0≤((CV ms).getD k (0,0)).1∧((CV ms).getD k (0,0)).2≤99:=by
 unfold CV;by_cases hk:k<ms.length
 ·have:=b.few k
  rw [BW _ (by simpa using hk),List.getElem_map];rw [BW AB.z hk] at this;exact ⟨this.1,this.2.2.1⟩
 ·rw [B2 (by simpa using hk)];decide
def Cm (t:RP):AT:=⟨fun i=>t.1.getD i 0,fun i=>t.2.1.getD i 0,fun i=>decide ((i:Int) ∈ t.2.2)⟩
theorem O2 (t:RP) (a b:Nat):Ug (Cm t) t.1 t.2.1 t.2.2 a b:=⟨fun _ _=>rfl,fun _ _=>rfl,fun _ _=>rfl⟩
theorem O3 {ms:List AB} {x:Int} (h:x ∈ CI ms ms.length):0≤x∧x<ms.length∧(ms.getD x.toNat AB.z).kind=0:=by
 obtain ⟨i,hi,rfl⟩:=List.mem_map.1 h;obtain ⟨h1,h2⟩:=List.mem_filter.1 hi
 have:=List.mem_range.1 h1
 exact ⟨by omega,by omega,by rw [Int.toNat_natCast];exact of_decide_eq_true h2⟩
structure Ma (gs:List Good) (ms:List AB) (t:RP):Prop where
 fl:t.1.length=gs.length
 yl:t.2.1.length=ms.length
 fr:∀i,0≤t.1.getD i 0∧t.1.getD i 0≤99
 yr:∀i,0≤t.2.1.getD i 0∧t.2.1.getD i 0≤99
 ln:∀x ∈ t.2.2,0≤x∧x<ms.length∧(ms.getD x.toNat AB.z).kind=0
section
variable {d m:Int} {gs:List Good} {ms:List AB} {cs:List AF}
theorem past_is (b:At d m gs ms cs) {t:RP} (h1:t.1 ∈ Br (Bt gs) []) (h2:t.2.1 ∈ Br (CV ms) []) (h3:t.2.2 ∈ BU (CI ms ms.length)):Ma gs ms t:=by
 obtain ⟨a1,a2⟩:=JB.1 h1;obtain ⟨b1,b2⟩:=J7.1 h2;refine ⟨a1,b1,fun i=>?_,fun i=>?_,fun x hx=>O3 ((GD h3).mem hx)⟩
 ·by_cases hi:i<gs.length
  ·have:=a2 i hi;have:=b.gfew i;omega
  ·rw [B2 (by omega)];omega
 ·by_cases hi:i<ms.length
  ·have:=b2 i hi;have:=b.few i;omega
  ·rw [B2 (by omega)];omega
theorem IU (b:At d m gs ms cs) {t:RP} (h:t ∈ Aj m gs ms cs):Ma gs ms t:=by
 obtain ⟨h1,_,h3,h4,_⟩:=HE.1 h;exact past_is b h3 h4 h1
theorem O4 (ms:List AB) (k:Nat):(CI ms k).Nodup:=by
 unfold CI;exact List.pairwise_map.2 ((List.nodup_range.filter _).imp fun q e=>q (by omega))
theorem Kz (b:At d m gs ms cs) {t:RP} (h:t ∈ Aj m gs ms cs):Cm t ∈ AV d gs ms cs m:=by
 have P:=IU b h;obtain ⟨h1,h2,h3,h4,h5⟩:=HE.1 h;have I:=O2 t gs.length ms.length;have hk:=fun k=>(b.kind k).1;unfold Dx at h5;rw [Bool.and_eq_true,decide_eq_true_iff,decide_eq_true_iff] at h5;refine (MZ b.mlen b.most.1).2 ⟨⟨fun i hi=>(JB.1 h3).2 i hi,fun i hi=>(J7.1 h4).2 i hi,fun i hi hq=>?_,?_⟩,b.agrees_iff2.2 ⟨fun i hi=>(P.fr i).1,fun k hkk=>?_,fun x hx=>?_⟩,?_⟩
 ·have hq2:(i:Int) ∈ t.2.2:=of_decide_eq_true hq
  have:=(P.ln _ hq2).2.2
  rw [Int.toNat_natCast] at this;exact (Kv hi).2 this
 ·rw [←HX];have h6:=Nj (l:=((List.range ms.length).filter (Cm t).lies).map fun (i:Nat)=>(i:Int)) (l1:=t.2.2)
   (List.pairwise_map.2 ((List.nodup_range.filter _).imp fun q e=>q (by omega))) fun x hx=>by
    obtain ⟨i,hi,rfl⟩:=List.mem_map.1 hx;exact of_decide_eq_true (List.mem_filter.1 hi).2
  rw [List.length_map] at h6;omega
 ·rw [←I.stock b.up hk (by have:=(b.move' hkk).2.1;omega)];have:=h5.2 k hkk;omega
 ·obtain ⟨k,hkc,rfl⟩:=IT AF.z hx;have hg:=b.cgood' _ (CB (d:=AF.z) hkc);rw [←I.stock b.up hk (by omega)];exact h5.1 k hkc
 ·unfold H8 Cm;congr 1
  ·funext k;split
   ·rfl
   ·exact (B2 (by have:=P.fl;omega)).symm
  ·funext k;split
   ·rfl
   ·exact (B2 (by have:=P.yl;omega)).symm
  ·funext k;split
   ·rfl
   ·exact (decide_eq_false fun e=>by have:=P.ln _ e;omega).symm
def Mb (gs:List Good) (ms:List AB) (q:AT):RP:=((List.range gs.length).map q.first,(List.range ms.length).map q.many,(CI ms ms.length).filter fun x=>q.lies x.toNat)
theorem rpOf_isP (gs:List Good) (ms:List AB) {q:AT} (hn:∀i,i<ms.length→q.lies i=true→(ms.getD i AB.z).kind=0):Ug q (Mb gs ms q).1 (Mb gs ms q).2.1 (Mb gs ms q).2.2 gs.length ms.length:=by
 refine ⟨fun i hi=>?_,fun i hi=>?_,fun i hi=>?_⟩
 ·simp [Mb,List.getD_eq_getElem?_getD,hi]
 ·simp [Mb,List.getD_eq_getElem?_getD,hi]
 ·cases hq:q.lies i with
  | true=>exact (decide_eq_true (List.mem_filter.2 ⟨Vb hi (hn i hi hq),by rw [Int.toNat_natCast];exact hq⟩)).symm
  | false=>exact (decide_eq_false fun e=>by have:=(List.mem_filter.1 e).2;rw [Int.toNat_natCast,hq] at this;cases this).symm
theorem Yi (b:At d m gs ms cs) {q:AT} (h:q ∈ AV d gs ms cs m):Mb gs ms q ∈ Aj m gs ms cs∧Cm (Mb gs ms q)=q:=by
 obtain ⟨L,ha,hp⟩:=(MZ b.mlen b.most.1).1 h;have hn:∀i,i<ms.length→q.lies i=true→(ms.getD i AB.z).kind=0:=fun i hi hq=>(Kv hi).1 (L.note i hi hq);have I:=rpOf_isP gs ms hn;have hk:=fun k=>(b.kind k).1;obtain ⟨a1,a2,a3⟩:=b.agrees_iff2.1 ha;have hcur:Cm (Mb gs ms q)=q:=by
  refine Eq.trans ?_ hp;unfold Cm H8;congr 1
  ·funext k;split
   ·rename_i hk2;exact (I.first k hk2).symm
   ·exact B2 (by simp [Mb];omega)
  ·funext k;split
   ·rename_i hk2;exact (I.many k hk2).symm
   ·exact B2 (by simp [Mb];omega)
  ·funext k;split
   ·rename_i hk2;exact (I.lies k hk2).symm
   ·exact decide_eq_false fun e=>by have:=O3 (List.mem_filter.1 e).1;omega
 refine ⟨HE.2 ⟨Vh (List.filter_sublist),?_,JB.2 ⟨by simp [Mb],fun i hi=>by rw [←I.first i hi];exact L.first i hi⟩,J7.2 ⟨by simp [Mb],fun i hi=>by rw [←I.many i hi];exact L.many i hi⟩,?_⟩,hcur⟩
 ·have h6:=Nj (l:=(Mb gs ms q).2.2) (l1:=((List.range ms.length).filter q.lies).map fun (i:Nat)=>(i:Int)) ((O4 ms _).filter _) fun x hx=>by
   obtain ⟨h1,h2⟩:=List.mem_filter.1 hx
   have:=O3 h1
   exact List.mem_map.2 ⟨x.toNat,List.mem_filter.2 ⟨List.mem_range.2 (by omega),h2⟩,by omega⟩
  rw [List.length_map,HX] at h6
  have:=L.few;omega
 ·unfold Dx;rw [Bool.and_eq_true,decide_eq_true_iff,decide_eq_true_iff];refine ⟨fun k hkc=>?_,fun k hkk=>?_⟩
  ·have hg:=b.cgood' _ (CB (d:=AF.z) hkc);rw [I.stock b.up hk (by omega)];exact a3 _ (CB hkc)
  ·rw [I.stock b.up hk (by have:=(b.move' hkk).2.1;omega)];have:=a2 k hkk;omega
theorem L6 (b:At d m gs ms cs) {q:AT}:q ∈ AV d gs ms cs m↔∃t ∈ Aj m gs ms cs,Cm t=q:=
 ⟨fun h=>⟨_,Yi b h⟩,fun ⟨t,h,e⟩=>e▸Kz b h⟩
end
section
variable {d m:Int} {gs:List Good} {ms:List AB} {cs:List AF}
theorem JC (b:At d m gs ms cs) {G:RP→Int} {F:AT→Int} (hG:∀t,Ma gs ms t→Ug (Cm t) t.1 t.2.1 t.2.2 gs.length ms.length→G t=F (Cm t)):(∀t ∈ Aj m gs ms cs,Cm t ∈ AV d gs ms cs m∧G t=F (Cm t))∧∀q ∈ AV d gs ms cs m,∃t ∈ Aj m gs ms cs,Cm t=q:=
 ⟨fun t ht=>⟨Kz b ht,hG t (IU b ht) (O2 t _ _)⟩,fun _ hq=>(L6 b).1 hq⟩
theorem Yj (b:At d m gs ms cs) (g x y:Int) (t:RP) (P:Ma gs ms t) (I:Ug (Cm t) t.1 t.2.1 t.2.2 gs.length ms.length):CD ms t.2.1 g x y ms.length=CM ms (Cm t) g x y ms.length:=
 I.lost (fun k hk hx=>by have:=(P.ln _ hx).2.2;rwa [Int.toNat_natCast] at this) g x y ms.length (Nat.le_refl _)
theorem Vn (b:At d m gs ms cs) {g:Int} (hg:0≤g∧g<gs.length) (dy:Int) (t:RP) (_:Ma gs ms t) (I:Ug (Cm t) t.1 t.2.1 t.2.2 gs.length ms.length):A6 ms t.1 t.2.1 t.2.2 g dy ms.length=(AN ms (Cm t) g dy).1:=
 I.stock b.up (fun k=>(b.kind k).1) hg dy
theorem Vo (b:At d m gs ms cs) (dy:Int) (t:RP) (_:Ma gs ms t) (I:Ug (Cm t) t.1 t.2.1 t.2.2 gs.length ms.length):CQ gs ms t.1 t.2.1 t.2.2 dy gs.length=CC gs ms (Cm t) dy gs.length:=
 I.worth b.up (fun k=>(b.kind k).1) dy gs.length (Nat.le_refl _)
theorem first_is (b:At d m gs ms cs) {f:List Int} (h:f ∈ Br (Bt gs) []):f.length=gs.length∧∀i,0≤f.getD i 0∧f.getD i 0≤99:=by
 obtain ⟨a1,a2⟩:=JB.1 h;refine ⟨a1,fun i=>?_⟩;by_cases hi:i<gs.length
 ·have:=a2 i hi;have:=b.gfew i;omega
 ·rw [B2 (by omega)];omega
theorem many_is (b:At d m gs ms cs) {f:List Int} (h:f ∈ Br (CV ms) []):f.length=ms.length∧∀i,0≤f.getD i 0∧f.getD i 0≤99:=by
 obtain ⟨a1,a2⟩:=J7.1 h;refine ⟨a1,fun i=>?_⟩;by_cases hi:i<ms.length
 ·have:=a2 i hi;have:=b.few i;omega
 ·rw [B2 (by omega)];omega
theorem XY {F:List Sl} {L:List (List Int)} (e:A8 F=L) {k:Nat} (hk:k<F.length):(F.getD k Sl.z).2 ∈ L:=by
 subst e;rw [←Cg hk];exact CB (by rw [CW];exact hk)
theorem cgood_to (b:At d m gs ms cs) {f:List Int} (h:f.length=gs.length):∀k,k<cs.length→0≤(cs.getD k AF.z).good∧(cs.getD k AF.z).good<(f.length:Int):=fun k hk=>by
 have:=b.cgood' _ (CB (d:=AF.z) hk);omega
theorem mgood_to (b:At d m gs ms cs) {f:List Int} (h:f.length=gs.length):∀k,k<ms.length→0≤(ms.getD k AB.z).good∧(ms.getD k AB.z).good<(f.length:Int):=fun k hk=>by
 have:=(b.move' hk).2.1;omega
theorem H9 (b:At d m gs ms cs):(Br (Bt gs) []).length≤729∧(Br (CV ms) []).length≤729:=by
 have h1:=Hy (ss:=Bt gs) (kn:=[]) (NC fun k=>(b.gfew k).2.2.2) (by have:=b.glen;unfold Bt;rw [List.length_map];omega) 0;have h2:=Hy (ss:=CV ms) (kn:=[]) (Ow fun k=>(b.few k).2.2.2) (by have:=b.mlen;unfold CV;rw [List.length_map];omega) 0;exact ⟨h1,h2⟩
theorem Yk (b:At d m gs ms cs) {pl:List PS} {l:List Int} (e:JZ pl=JV gs ms cs l):pl.length≤532170:=by
 rw [←G4,e];exact Qu (H9 b).1 (H9 b).2
theorem Vp (b:At d m gs ms cs) {pl:List PS} {l:List Int} {F Y:List Sl} {i k:Nat} (e:JZ pl=Dj ms cs l (A8 F) (A8 Y) i k) (e1:A8 F=Br (Bt gs) []) (e2:A8 Y=Br (CV ms) []):pl.length≤532170:=by
 rw [←G4,e,e1,e2];exact O0 (H9 b).1 (H9 b).2 _ _
theorem Yl (b:At d m gs ms cs) {pl:List PS} {F:List Sl} {k:Nat} (e:JZ pl=Dy m gs ms cs ((A8 F).take k)) (e1:A8 F=BU (CI ms ms.length)):pl.length≤34058880:=by
 rw [←G4,e,e1];have h6:=b.mlen;have hc:=HY ms ms.length;exact ND (H9 b).1 (H9 b).2 (by have:=G3 (l:=CI ms ms.length) (by omega) (CI ms ms.length).length;rwa [List.take_length] at this) _
theorem Vq (b:At d m gs ms cs):(Aj m gs ms cs).length≤34058880:=by
 have h6:=b.mlen;have hc:=HY ms ms.length
 have:=ND (m:=m) (gs:=gs) (ms:=ms) (cs:=cs) (C:=BU (CI ms ms.length)) (H9 b).1 (H9 b).2 (by have:=G3 (l:=CI ms ms.length) (by omega) (CI ms ms.length).length;rwa [List.take_length] at this) (BU (CI ms ms.length)).length
 rw [List.take_length] at this;exact this
theorem past_at (b:At d m gs ms cs) {al:List PS} {k:Nat} (e:JZ al=Aj m gs ms cs) (hk:k<al.length) :
  (al.getD k PS.z).f.2.length=gs.length∧(al.getD k PS.z).y.2.length=ms.length∧(∀i,0≤(al.getD k PS.z).f.2.getD i 0∧(al.getD k PS.z).f.2.getD i 0≤99)∧(∀i,0≤(al.getD k PS.z).y.2.getD i 0∧(al.getD k PS.z).y.2.getD i 0≤99):=by
 have h:(JZ al).getD k ([],[],[]) ∈ Aj m gs ms cs:=by rw [←e];exact CB (by rw [G4];exact hk)
 have P:=IU b h;rw [Jt hk] at P;exact ⟨P.fl,P.yl,P.fr,P.yr⟩
def E9 (ms:List AB) (g x y:Int) (t:RP):Int:=CD ms t.2.1 g x y ms.length
def Dl (gs:List Good) (ms:List AB) (dy:Int) (t:RP):Int:=CQ gs ms t.1 t.2.1 t.2.2 dy gs.length
def EP (ms:List AB) (g dy:Int) (t:RP):Int:=A6 ms t.1 t.2.1 t.2.2 g dy ms.length
theorem L7 {α β:Type} {G:α→β} {ts:List α} {k:Nat} (hk:ts.length≤k):(ts.take k).map G=ts.map G∧((ts.take k).map G).length=ts.length:=by
 rw [List.take_of_length_le hk];simp
end
end Go.Ns
namespace Go.Ns
open Go.Conc
theorem SN (l:List Int) (x:Int):BU (l++[x])=BU l++(BU l).map (·++[x]):=by
 unfold BU;rw [List.foldl_append];rfl
theorem P7:∀{l:List Int},l.Nodup→(BU l).Nodup:=by
 have key:∀(n:Nat) (l:List Int),l.length=n→l.Nodup→(BU l).Nodup:=by
  intro n
  induction n with
  | zero=>intro l hl _;rw [List.eq_nil_of_length_eq_zero hl];exact List.pairwise_singleton ..
  | succ n ih=>
   intro l hl hn;obtain ⟨l',x,rfl⟩:∃l' x,l=l'++[x]:=⟨l.dropLast,l.getLast (by intro e;rw [e] at hl;cases hl),(List.dropLast_concat_getLast _).symm⟩;have hn2:=List.pairwise_append.1 hn;have h1:=ih l' (by simpa using hl) hn2.1;rw [SN];refine List.pairwise_append.2 ⟨h1,List.pairwise_map.2 (h1.imp fun q e=>q (List.append_cancel_right e)),fun a ha b hb e=>?_⟩;obtain ⟨c,_,rfl⟩:=List.mem_map.1 hb;have hx:x ∈ l':=(GD ha).mem (by rw [e];simp);exact hn2.2.2 x hx x (by simp) rfl
 exact fun {l} h=>key l.length l rfl h
theorem JD:∀(ss:List (Int×Int)) (kn:List Int),(Br ss kn).Nodup
 | [],kn=>List.pairwise_singleton ..
 | s ::ss,kn=>by
  unfold Br;refine List.pairwise_flatMap.2 ⟨fun n _=>JD ss _,(On _ _).imp fun {n m} hne x hx y hy e=>?_⟩;obtain ⟨r,rfl,_⟩:=Hb.1 hx;obtain ⟨r',e',_⟩:=Hb.1 hy;rw [e',List.append_assoc,List.append_assoc] at e
  have:=List.append_cancel_left e
  simp only [List.singleton_append,List.cons.injEq] at this;exact hne this.1
theorem Tz (gs:List Good) (ms:List AB) (cs:List AF) (l:List Int):(JV gs ms cs l).Nodup:=by
 unfold JV;refine List.pairwise_flatMap.2 ⟨fun f _=>?_,(JD _ _).imp fun {f g} hne x hx y hy e=>?_⟩
 ·unfold Ft;exact (List.pairwise_map.2 ((JD _ _).imp fun q e=>q (by simpa using e))).filter _
 ·unfold Ft at hx hy;obtain ⟨_,_,rfl⟩:=List.mem_map.1 (List.mem_filter.1 hx).1;obtain ⟨_,_,rfl⟩:=List.mem_map.1 (List.mem_filter.1 hy).1;simp only [Prod.mk.injEq] at e;exact hne e.1
theorem SO (m:Int) (gs:List Good) (ms:List AB) (cs:List AF):(Aj m gs ms cs).Nodup:=by
 unfold Aj Dy;refine List.pairwise_flatMap.2 ⟨fun l _=>?_,(P7 (O4 ms _)).imp fun {l l'} hne x hx y hy e=>?_⟩
 ·split
  ·exact Tz ..
  ·exact List.Pairwise.nil
 ·split at hx
  ·split at hy
   ·have h1:=(J8.1 hx).1;have h2:=(J8.1 hy).1;rw [e,h2] at h1;exact hne h1.symm
   ·cases hy
  ·cases hx
theorem O5 (ms:List AB) (k:Nat):(CI ms k).Pairwise (· < ·):=by
 unfold CI;exact List.pairwise_map.2 ((List.pairwise_lt_range.filter _).imp fun q=>by omega)
theorem T0 {a b:List Int} (h:a.length=b.length) (e:∀i,a.getD i 0=b.getD i 0):a=b:=by
 refine List.ext_getElem h fun i h1 h2=>?_
 have:=e i
 rw [BW 0 h1,BW 0 h2] at this;exact this
section
variable {d m:Int} {gs:List Good} {ms:List AB} {cs:List AF}
theorem Vr (b:At d m gs ms cs) {t t':RP} (h:t ∈ Aj m gs ms cs) (h':t' ∈ Aj m gs ms cs) (e:Cm t=Cm t'):t=t':=by
 have P:=IU b h;have P':=IU b h';have c:=GD (HE.1 h).1;have c':=GD (HE.1 h').1;unfold Cm at e;simp only [AT.mk.injEq] at e;obtain ⟨e1,e2,e3⟩:=e;obtain ⟨f,y,l⟩:=t;obtain ⟨f',y',l'⟩:=t';have q1:f=f':=T0 (by rw [P.fl,P'.fl]) fun i=>congrFun e1 i;have q2:y=y':=T0 (by rw [P.yl,P'.yl]) fun i=>congrFun e2 i;have q3:l=l':=XW ((O5 ms _).sublist c) ((O5 ms _).sublist c') fun x=>by
  constructor
  ·intro hx;have hx0:=P.ln x hx
   have:=congrFun e3 x.toNat
   rw [decide_eq_decide,Int.toNat_of_nonneg hx0.1] at this;exact this.1 hx
  ·intro hx;have hx0:=P'.ln x hx
   have:=congrFun e3 x.toNat
   rw [decide_eq_decide,Int.toNat_of_nonneg hx0.1] at this;exact this.2 hx
 rw [q1,q2,q3]
theorem O6 (b:At d m gs ms cs):((Aj m gs ms cs).map Cm).Perm (AV d gs ms cs m):=by
 refine (List.perm_ext_iff_of_nodup ?_ (Tq ..)).2 fun q=>?_
 ·have hn:=SO m gs ms cs
  have:∀{l:List RP},l.Nodup→(∀t ∈ l,t ∈ Aj m gs ms cs)→(l.map Cm).Nodup:=by
   intro l
   induction l with
   | nil=>intro _ _;exact List.Pairwise.nil
   | cons t l ih=>
    intro h1 h2;have h3:=List.nodup_cons.1 h1;rw [List.map_cons];refine List.nodup_cons.2 ⟨fun hm=>?_,ih h3.2 fun t' ht'=>h2 t' (by simp [ht'])⟩;obtain ⟨t',ht',e⟩:=List.mem_map.1 hm;exact h3.1 (Vr b (h2 t' (by simp [ht'])) (h2 t (by simp)) e▸ht')
  exact this hn fun _ h=>h
 ·rw [L6 b,List.mem_map]
theorem Ym (b:At d m gs ms cs):(Aj m gs ms cs).length=(AV d gs ms cs m).length:=by
 rw [←(O6 b).length_eq,List.length_map]
theorem T1 (b:At d m gs ms cs) {t:RP} (h:t ∈ Aj m gs ms cs):Ai d m gs ms cs t.1 t.2.1 t.2.2=0∧Hw d m gs ms cs t.1 t.2.1 t.2.2=true:=by
 have P:=IU b h;have c:=GD (HE.1 h).1;have hasc:=(O5 ms _).sublist c;have hh:Ai d m gs ms cs t.1 t.2.1 t.2.2=0:=YO b
  (M8 (by rw [P.fl]) fun x hx=>by obtain ⟨i,hi,rfl⟩:=IT 0 hx;exact P.fr i)
  (M8 (by rw [P.yl]) fun x hx=>by obtain ⟨i,hi,rfl⟩:=IT 0 hx;exact P.yr i)
  (lieAt_of (fun x hx=>by
   obtain ⟨a1,a2,a3⟩:=P.ln x hx;refine ⟨?_,a1⟩
   have:=(Kv (ms:=ms) (i:=x.toNat) (by omega)).2 a3
   rwa [Int.toNat_of_nonneg a1] at this) hasc)
 refine ⟨hh,is_hist b hh ?_⟩;have hq:=Kz b h;have e:Ay d m gs ms cs t.1 t.2.1 t.2.2=Cm t:=by
  have e1:=SF ((AT.zero.setFirsts t.1).setManys t.2.1) t.2.2 t.2.2.length;have e2:=fun i=>Tm ((AT.zero.setFirsts t.1).setManys t.2.1) t.2.2 i (fun x hx=>(P.ln x hx).1);unfold Ay;rw [if_pos hh];unfold Iy;generalize Di ((AT.zero.setFirsts t.1).setManys t.2.1) t.2.2 t.2.2.length=Q at e1 e2 ⊢;obtain ⟨f,y,l⟩:=Q;obtain ⟨rfl,rfl⟩:=e1;unfold Cm;congr 1
  ·funext k;show (if k<t.1.length then t.1.getD k 0 else (0:Int))=t.1.getD k 0;split
   ·rfl
   ·exact (B2 (by omega)).symm
  ·funext k;show (if k<t.2.1.length then t.2.1.getD k 0 else (0:Int))=t.2.1.getD k 0;split
   ·rfl
   ·exact (B2 (by omega)).symm
  ·funext k
   have:=e2 k
   have e3:(((AT.zero.setFirsts t.1).setManys t.2.1).lies k)=false:=rfl;rw [e3,Bool.or_false] at this;exact this
 rw [e];exact hq
def C6 (l:List Int):List Int:=DR (JR l)
theorem JE (l:List Int):C6 l=CK l.length fun i=>l.getD i 0:=by
 unfold C6 CK;congr 2;refine List.ext_getElem (by simp) fun i h1 h2=>?_;simp [List.getD_eq_getElem?_getD,h1]
theorem Yn (l:List Int):(C6 l).Pairwise (· < ·):=by rw [JE];exact MY _ _
theorem Yo {l:List Int} {x:Int}:x ∈ C6 l↔x ∈ l:=by
 rw [JE,MX];constructor
 ·rintro ⟨i,hi,rfl⟩;exact CB hi
 ·intro h;obtain ⟨i,hi,e⟩:=IT 0 h;exact ⟨i,hi,e⟩
theorem T3 {l s:List Int} (h:s.Pairwise (· < ·)) (e:∀x,x ∈ s↔x ∈ l):s=C6 l:=XW h (Yn l) fun x=>(e x).trans Yo.symm
theorem L9 {hs:List AT} {ts:List RP} {G:RP→Int} {F:AT→Int} (h1:∀t ∈ ts,Cm t ∈ hs∧G t=F (Cm t)) (h2:∀q ∈ hs,∃t ∈ ts,Cm t=q):CK hs.length (fun (i:Nat)=>F (hs.getD ((i:Int)).toNat AT.zero))=C6 (ts.map G):=by
 refine T3 (MY _ _) fun x=>?_;rw [eachL_at,List.mem_map];constructor
 ·rintro ⟨q,hq,e⟩;obtain ⟨t,ht,e2⟩:=h2 q hq;exact ⟨t,ht,by rw [(h1 t ht).2,e2];exact e⟩
 ·rintro ⟨t,ht,e⟩;exact ⟨Cm t,(h1 t ht).1,by rw [←(h1 t ht).2];exact e⟩
theorem ins_at {s l:List Int} {x:Int} {k i:Nat} (ha:s.Pairwise (· < ·)) (hm:∀y,y ∈ s↔y ∈ l.take i) (hi:i<l.length) (hx:l.getD i 0=x) (hk:k≤s.length) (hge:∀j,k≤j→j<s.length→x≤s.getD j 0) (hlt:k=0∨s.getD (k-1) 0<x) (hne:¬(k<s.length∧s.getD k 0=x)) :
  (s.take k++[x]++s.drop k).Pairwise (· < ·)∧∀y,y ∈ s.take k++[x]++s.drop k↔y ∈ l.take (i+1):=by
 have hs:s=s.take k++s.drop k:=(List.take_append_drop k s).symm;have ha2:=ha;rw [hs] at ha2;obtain ⟨p1,p2,p3⟩:=List.pairwise_append.1 ha2;have mono:∀a b,a<b→b<s.length→s.getD a 0<s.getD b 0:=fun a b hab hb=>by
  rw [BW 0 (by omega),BW 0 hb];exact List.pairwise_iff_getElem.1 ha a b (by omega) hb hab
 have lo:∀y ∈ s.take k,y<x:=fun y hy=>by
  obtain ⟨j,hj,e⟩:=List.mem_take_iff_getElem.1 hy;have hj2:j<s.length:=by omega
  rcases hlt with rfl | hlt
  ·omega
  ·by_cases q:j=k-1
   ·rw [←e,←BW 0 hj2,q];exact hlt
   ·have:=mono j (k-1) (by omega) (by omega)
    rw [←e,←BW 0 hj2];omega
 have hi2:∀y ∈ s.drop k,x<y:=fun y hy=>by
  obtain ⟨j,hj,e⟩:=List.mem_drop_iff_getElem.1 hy;have hkl:k<s.length:=by omega
  have h0:=hge k (Nat.le_refl _) hkl;have h1:s.getD k 0≠x:=fun e=>hne ⟨hkl,e⟩;by_cases q:j=0
  ·subst q
   have:s.getD k 0=y:=by rw [BW 0 hkl,←e];simp
   omega
  ·have h2:=mono k (k+j) (by omega) (by omega)
   have:s.getD (k+j) 0=y:=by rw [BW 0 (by omega),←e]
   omega
 refine ⟨List.pairwise_append.2 ⟨List.pairwise_append.2 ⟨p1,List.pairwise_singleton ..,fun a h b hb=>by rw [List.mem_singleton.1 hb];exact lo a h⟩,p2,fun a h b hb=>?_⟩,fun y=>?_⟩
 ·rcases List.mem_append.1 h with h | h
  ·exact p3 a h b hb
  ·rw [List.mem_singleton.1 h];exact hi2 b hb
 ·have e:y ∈ s↔y ∈ s.take k∨y ∈ s.drop k:=by rw [←List.mem_append,←hs]
  rw [CN 0 hi,hx];simp only [List.mem_append,List.mem_singleton,←hm y,e];constructor
  ·rintro ((h | h) | h)
   ·exact .inl (.inl h)
   ·exact .inr h
   ·exact .inl (.inr h)
  ·rintro ((h | h) | h)
   ·exact .inl (.inl h)
   ·exact .inr h
   ·exact .inl (.inr h)
theorem ins_had {s l:List Int} {x:Int} {k i:Nat} (hm:∀y,y ∈ s↔y ∈ l.take i) (hi:i<l.length) (hx:l.getD i 0=x) (h:k<s.length∧s.getD k 0=x):∀y,y ∈ s↔y ∈ l.take (i+1):=fun y=>by
 rw [CN 0 hi,hx,List.mem_append,List.mem_singleton,←hm y];exact ⟨.inl,fun q=>q.elim id fun e=>by rw [e,←h.2];exact CB h.1⟩
theorem ge_next {s:List Int} {x:Int} {k:Nat} (h:∀j,k≤j→j<s.length→x≤s.getD j 0) (hk:0<k) (hx:x≤s.getD ((k:Int)-1).toNat 0):∀j,k-1≤j→j<s.length→x≤s.getD j 0:=fun j h1 h2=>by
 by_cases q:j=k-1
 ·rw [show ((k:Int)-1).toNat=k-1 by omega] at hx;rw [q];exact hx
 ·exact h j (by omega) h2
theorem Yp (l:List Int):(C6 l).length≤l.length:=by rw [JE];exact YZ _ _
theorem Yq {l:List Int} (h:0<l.length):0<(C6 l).length:=by rw [JE];exact IO _ h
end
end Go.Ns
namespace Go.Ns
open Go.Conc
def XZ (mv:Int) (t:RP):Int:=Ca t.2.1 t.2.2 mv
def Ep (ms:List AB) (ts:List RP) (mv:Int):List Int:=if 0<(ms.length:Int) then ts.map (XZ mv) else []
def EE (ts:List RP) (mv:Int):Nat:=(ts.filter fun t=>decide (mv ∈ t.2.2)).length
theorem Xa {ms:List AB} {al:List PS} {ts:List RP} {k:Nat} {mv:Int} (e:JZ al=ts) (hk:k<al.length) (h:0<(ms.length:Int)):Ep ms (ts.take (k+1)) mv=Ep ms (ts.take k) mv++[Ca (al.getD k PS.z).y.2 (al.getD k PS.z).l.2 mv]:=by
 unfold Ep;rw [if_pos h,if_pos h];exact DW (G:=XZ mv) e hk
theorem Xb {ms:List AB} {ts ts':List RP} {mv:Int} (h:¬0<(ms.length:Int)):Ep ms ts mv=Ep ms ts' mv:=by
 unfold Ep;rw [if_neg h,if_neg h]
theorem Yr (ms:List AB) (ts:List RP) (mv:Int):(Ep ms ts mv).length≤ts.length:=by
 unfold Ep;split
 ·simp
 ·simp
theorem Xc {al:List PS} {ts:List RP} {k:Nat} {mv:Int} (e:JZ al=ts) (hk:k<al.length) (h:mv ∈ (al.getD k PS.z).l.2):EE (ts.take (k+1)) mv=EE (ts.take k) mv+1:=by
 subst e;unfold EE;rw [CN ([],[],[]) (by rw [G4];exact hk),List.filter_append,List.length_append,Jt hk];congr 1;rw [List.filter_cons,if_pos (decide_eq_true h)];rfl
theorem Xd {al:List PS} {ts:List RP} {k:Nat} {mv:Int} (e:JZ al=ts) (hk:k<al.length) (h:¬mv ∈ (al.getD k PS.z).l.2):EE (ts.take (k+1)) mv=EE (ts.take k) mv:=by
 subst e;unfold EE;rw [CN ([],[],[]) (by rw [G4];exact hk),List.filter_append,List.length_append,Jt hk,List.filter_cons,if_neg (by simpa using h)];rfl
theorem liesR_le (ts:List RP) (mv:Int) (k:Nat):EE (ts.take k) mv≤k:=by
 unfold EE;have h1:=List.length_filter_le (fun t:RP=>decide (mv ∈ t.2.2)) (ts.take k);rw [List.length_take] at h1;omega
section
variable {d m:Int} {gs:List Good} {ms:List AB} {cs:List AF}
theorem Ys (b:At d m gs ms cs) {al:List PS} (e:JZ al=Aj m gs ms cs):EW d m gs ms cs=(al.length:Int)∧al.length=(AV d gs ms cs m).length∧al.length=(Aj m gs ms cs).length∧al.length≤34058880:=by
 have h1:al.length=(Aj m gs ms cs).length:=by rw [←e,G4]
 have h2:=Ym b;have h3:=Vq b;refine ⟨?_,by omega,h1,by omega⟩;unfold EW;rw [if_pos (GX b)];omega
theorem past_mem {al:List PS} {k:Nat} (e:JZ al=Aj m gs ms cs) (hk:k<al.length):((al.getD k PS.z).f.2,(al.getD k PS.z).y.2,(al.getD k PS.z).l.2) ∈ Aj m gs ms cs:=by
 rw [←Jt hk,←e];exact CB (by rw [G4];exact hk)
theorem Vs (b:At d m gs ms cs) {g dy:Int} {k:Nat} (hg:0≤g∧g<gs.length) (h:Cw d m gs ms cs g dy=0) (hk:(Aj m gs ms cs).length≤k):IN d m gs ms cs g dy=C6 (((Aj m gs ms cs).take k).map (EP ms g dy)):=by
 rw [(L7 hk).1];unfold IN;rw [if_pos h];obtain ⟨h1,h2⟩:=JC b (G:=EP ms g dy) (F:=fun p=>(AN ms p g dy).1) (Vn b hg dy);exact L9 (G:=EP ms g dy) (F:=fun p=>(AN ms p g dy).1) h1 h2
theorem T4 (b:At d m gs ms cs) {dy:Int} {k:Nat} (h:Cb d m gs ms cs dy=0) (hk:(Aj m gs ms cs).length≤k):EN d m gs ms cs dy=BQ (C6 (((Aj m gs ms cs).take k).map (Dl gs ms dy)))∧EO d m gs ms cs dy=CY (C6 (((Aj m gs ms cs).take k).map (Dl gs ms dy))):=by
 rw [(L7 hk).1];obtain ⟨h1,h2⟩:=JC b (G:=Dl gs ms dy) (F:=fun p=>CC gs ms p dy gs.length) (Vo b dy);have e:Oa d m gs ms cs dy=C6 ((Aj m gs ms cs).map (Dl gs ms dy)):=L9 (G:=Dl gs ms dy) (F:=fun p=>CC gs ms p dy gs.length) h1 h2;unfold EN EO;rw [if_pos h,if_pos h,e];exact ⟨rfl,rfl⟩
theorem Vt (b:At d m gs ms cs) {g x y:Int} {k:Nat} (h:DC d m gs ms cs g x y=0) (hk:(Aj m gs ms cs).length≤k):FT d m gs ms cs g x y=BQ (C6 (((Aj m gs ms cs).take k).map (E9 ms g x y)))∧FU d m gs ms cs g x y=CY (C6 (((Aj m gs ms cs).take k).map (E9 ms g x y))):=by
 rw [(L7 hk).1];obtain ⟨h1,h2⟩:=JC b (G:=E9 ms g x y) (F:=fun p=>CM ms p g x y ms.length) (Yj b g x y);have e:R5 d m gs ms cs g x y=C6 ((Aj m gs ms cs).map (E9 ms g x y)):=L9 (G:=E9 ms g x y) (F:=fun p=>CM ms p g x y ms.length) h1 h2;unfold FT FU;rw [if_pos h,if_pos h,e];exact ⟨rfl,rfl⟩
theorem Vu (b:At d m gs ms cs) {mv:Int} {k:Nat} (hv:0≤mv∧mv<(ms.length:Int)) (h:DV d m gs ms cs mv=0) (hk:(Aj m gs ms cs).length≤k):FE d m gs ms cs mv=C6 (Ep ms ((Aj m gs ms cs).take k) mv):=by
 unfold Ep;rw [if_pos (by omega),(L7 hk).1];unfold FE;rw [if_pos h];obtain ⟨h1,h2⟩:=JC b (G:=XZ mv) (F:=fun p=>CG p mv.toNat) fun t _ I=>by
  have:=I.real (k:=mv.toNat) (by omega)
  rw [Int.toNat_of_nonneg hv.1] at this;exact this.symm
 exact L9 (G:=XZ mv) (F:=fun p=>CG p mv.toNat) h1 h2
theorem Vv (b:At d m gs ms cs) {mv:Int} {k:Nat} (hv:0≤mv) (hk:(Aj m gs ms cs).length≤k):EE ((Aj m gs ms cs).take k) mv=GA (AV d gs ms cs m) mv.toNat:=by
 unfold EE GA;rw [List.take_of_length_le hk,←((O6 b).filter fun p=>p.lies mv.toNat).length_eq,List.filter_map,List.length_map];congr 1;refine List.filter_congr fun t _=>?_;show decide (mv ∈ t.2.2)=decide (((mv.toNat:Nat):Int) ∈ t.2.2);rw [Int.toNat_of_nonneg hv]
theorem T5 (b:At d m gs ms cs) {mv:Int} {k:Nat} (hv:0≤mv) (h:C1 d m gs ms cs mv=0) (h0:0<(AV d gs ms cs m).length) (hk:(Aj m gs ms cs).length≤k) :
  C2 d m gs ms cs mv=if (EE ((Aj m gs ms cs).take k) mv:Int)=EW d m gs ms cs then (1:Int) else if (EE ((Aj m gs ms cs).take k) mv:Int)=0 then 2 else 0:=by
 rw [Vv b hv hk];unfold C2 MV EW;rw [if_pos h,if_pos (GX b)];by_cases e1:GA (AV d gs ms cs m) mv.toNat=0
 ·rw [if_pos e1,if_neg (by omega),if_pos (by omega)]
 ·by_cases e2:GA (AV d gs ms cs m) mv.toNat=(AV d gs ms cs m).length
  ·rw [if_neg e1,if_pos e2,if_pos (by omega)]
  ·rw [if_neg e1,if_neg e2,if_neg (by omega),if_neg (by omega)]
structure Xe (d m:Int) (gs:List Good) (ms:List AB) (cs:List AF) (g dy x y:Int) (c:Int):Prop where
 lb:Cw d m gs ms cs g dy=c
 wb:Cb d m gs ms cs dy=c
 ob:DC d m gs ms cs g x y=c
theorem reach_9 (b:At d m gs ms cs) {g dy x y:Int} (hg:0≤g∧g<gs.length) (hd:0≤dy∧dy≤d) (hx:1≤x∧x≤d) (hy:x≤y∧y≤d) (h:(AV d gs ms cs m).length=0):Xe d m gs ms cs g dy x y 9∧IN d m gs ms cs g dy=[]:=by
 have h1:Cw d m gs ms cs g dy=9:=by rw [Qo b hg hd,if_pos h]
 exact ⟨⟨h1,by rw [Oo b hd,if_pos h],by rw [Qn b hg hx hy,if_pos h]⟩,by unfold IN;rw [if_neg (by omega)]⟩
theorem reach_0 (b:At d m gs ms cs) {g dy x y:Int} (hg:0≤g∧g<gs.length) (hd:0≤dy∧dy≤d) (hx:1≤x∧x≤d) (hy:x≤y∧y≤d) (h:¬(AV d gs ms cs m).length=0):Xe d m gs ms cs g dy x y 0:=
 ⟨by rw [Qo b hg hd,if_neg h],by rw [Oo b hd,if_neg h],by rw [Qn b hg hx hy,if_neg h]⟩
theorem Vw (b:At d m gs ms cs) {mv:Int} (hv:0≤mv∧mv<(ms.length:Int)) (h:¬(AV d gs ms cs m).length=0):DV d m gs ms cs mv=0∧((ms.getD mv.toNat AB.z).kind=0→C1 d m gs ms cs mv=0):=by
 constructor
 ·unfold DV;rw [IS b (fun x hx=>by rw [if_pos (by simp;omega)] at hx;simpa using hx),if_neg h]
 ·intro hk;unfold C1;rw [IS b (fun x hx=>by rw [if_pos (decide_eq_true ⟨by omega,hk⟩)] at hx;simpa using hx),if_neg h]
end
end Go.Ns
namespace Go.Ns
open Go.Conc
section
variable {P:Program} {Post:Value→World→Prop}
def Xf (P:Program) (Post:Value→World→Prop):Wk P:=⟨true,D6 P Post,KK⟩
theorem SP:Of (Xf P Post):=⟨Post,rfl⟩
theorem Yt {f:FuncId} {fn:Func} {c:Code} {args:Array Value} {h:GH} {R:Value→GH→Prop} (hf:P.funcs[f]? =some fn) (hb:fn.body=some c) (hsz:args.size≤fn.ntmps) (hin:P.inits.idxOf? f=none) (hpost:∀v h',R v h'→∀w,D4 w h'→Post v w)
  (x:Tr ⟨Xf P Post,f,none,fn.ntmps⟩ c (fun i=>args.getD i undef) [] h (fun e σ ds h'=>(e=.normal∨e=.ret)∧Gt P fn σ R ds h')):D6 P Post (G (Frame.enter P f args .normal) []) h:=by
 have e0:Frame.enter P f args .normal=Cj (Frame.enter P f args .normal) (args++Array.replicate (fn.ntmps-args.size) undef) [] [.code c]:=by
  simp [Frame.enter,Cj,hf,hb]
 rw [e0];let L:Lv:=fun j t ds h'=>(j=none∨j=some .ret)∧∃σ,Bo t fn.ntmps σ∧Gt P fn σ R ds h';have fin:∀σ ds h' t k,Bo t fn.ntmps σ→Gt P fn σ R ds h'→(Xf P Post).K (G (Ds (Frame.enter P f args .normal) t ds k) []) h':=by
  intro σ ds h' t k hs ho;refine Mu (W:=Xf P Post) (R:=R) hf (b:=Frame.enter P f args .normal) rfl (fun t k v h h' hr hrun=>?_) ds h' t k hs ho;refine Ul rfl fun w fw=>?_;obtain ⟨w',es,r1,r2⟩:=hrun w fw;refine ⟨v,w',seen P f es++ #[],h',?_,r2.sub (es':=seen P f es++ #[]) fun e he=>?_,hpost v h' hr w' r2.fits⟩
  ·rw [Kg];unfold unwind;have hfn:(Ds (Frame.enter P f args .normal) t [] k).fn=f:=rfl;have hk:(Ds (Frame.enter P f args .normal) t [] k).kind=.normal:=rfl;have hm:(Ds (Frame.enter P f args .normal) t [] k).mode=.returning:=rfl;have hd:(Ds (Frame.enter P f args .normal) t [] k).defers=[]:=rfl;have ht:(Ds (Frame.enter P f args .normal) t [] k).tmps=t:=rfl;simp only [hd,hm,hfn,hf,ht,r1,GStep.after,doReturn,hk,hin];rfl
  ·rw [Array.append_empty] at he;exact mem_seen he
 refine x (Frame.enter P f args .normal) [] [] L _ rfl rfl ⟨?_,?_,?_⟩ ⟨by simp;omega,fun i=>?_⟩ ?_
 ·rintro t ds h' ⟨_,σ,hs,ho⟩;exact Wk.go (Ds (Frame.enter P f args .normal) t ds []) (fun w=>by rw [A9];simp [stepG.exec,Cj,Ds,G,Frame.enter]) (fin σ ds h' t [] hs ho)
 ·rintro t ds h' k ⟨_,σ,hs,ho⟩;exact Wk.go (Ds (Frame.enter P f args .normal) t ds (.code .ret ::k)) (fun w=>by rw [A9];simp [stepG.exec,Cj,Ds,G,Frame.enter]) (fin σ ds h' t _ hs ho)
 ·rintro id t ds h' k _ ⟨h1 | h1,_⟩ <;> cases h1
 ·by_cases hi:i<args.size
  ·simp [Array.getD_eq_getD_getElem?,Array.getElem?_append_left hi]
  ·simp only [Array.getD_eq_getD_getElem?];rw [Array.getElem?_append_right (by omega),Array.getElem?_eq_none (show args.size≤i by omega),Array.getElem?_replicate];split <;> rfl
 ·rintro e σ ds h' ⟨he,ho⟩ t' ht';rcases he with rfl | rfl
  ·exact Wk.go (Ds (Frame.enter P f args .normal) t' ds []) (fun w=>by rw [A9];simp [stepG.exec,Cj,Ds,G,Frame.enter]) (fin σ ds h' t' [] ht' ho)
  ·exact ⟨.inr rfl,σ,ht',ho⟩
def GH.of (W:World):GH:=fun b=>(W.heap[b]?).map fun o=>(false,o)
theorem GH.of_some {W:World} {b:Nat} {o:Obj} (h:W.heap[b]? =some o):GH.of W b=some (false,o):=by unfold GH.of;rw [h];rfl
theorem fits_of (W:World):D4 W (GH.of W):=fun b p o h=>by
 unfold GH.of at h;cases e:W.heap[b]? with
 | none=>rw [e] at h;cases h
 | some x=>rw [e] at h;cases h;rfl
theorem kept_of {W w:World} {h:GH} (l:(GH.of W).Le h) (f:D4 w h) {b:Nat} {o:Obj} (hb:W.heap[b]? =some o):w.heap[b]? =some o:=f b _ _ (l.keep (GH.of_some hb) rfl)
theorem Vx {g:Goroutine} {W:World} (hg:D6 P Post g (GH.of W)):Bm P (Il Post W.os W.output) (solo g W) #[]:=by
 have hno:∀k a,touchAt (#[]:Trace) k=some a→False:=fun k a h=>by
  obtain ⟨op,h1,_⟩:=touch_of h;simp at h1
 refine hg #[g] W none (fun _=>0) #[] ⟨rfl,?_,fits_of W,?_,?_,fun k a b hk=>(hno k a hk).elim,?_,fun k a hk=>(hno k a hk).elim,fun b p o k a _ _ hk=>(hno k a hk).elim⟩
 ·intro j x hj hx;rw [Array.getElem?_eq_none (by simp;omega)] at hx;cases hx
 ·intro op hop;simp at hop
 ·rintro said ⟨i,j,hij,⟨a,b,ha,_⟩,_⟩;exact hno i a ha
 ·intro op hop;simp at hop
end
end Go.Ns
namespace Go.Ns
open Go.Conc Go.ChangeShapes Go.WideShapes Go.ChangeAt Go.RowKit
section
variable {P:Program} {W:World}
theorem Vy {b off n:Nat} {cs:List Value} (h:W.cells? 0 ⟨b,off,none⟩ n=some cs) (hn:0<n):AZ (GH.of W) b off n cs.toArray:=by
 obtain ⟨_,hl,hc⟩:=World.cells?_some h;have hcell:∀i,i<n→W.cell? ⟨b,off+i,none⟩=cs[i]? :=fun i hi=>by
  have:=hc i hi
  unfold Addr.add at this;split at this
  ·rename_i e;subst e;exact this
  ·exact this
 have h0:=hcell 0 hn;unfold World.cell? at h0;cases hb:W.heap[b]? with
 | none=>simp [hb,List.getElem?_eq_getElem (show 0<cs.length by omega)] at h0
 | some o=>
  cases o with
  | cells c t f=>
   have hall:∀i,i<n→c[off+i]? =cs[i]? :=fun i hi=>by
    have:=hcell i hi
    unfold World.cell? at this;simpa [hb] using this
   have hlast:=hall (n-1) (by omega);rw [List.getElem?_eq_getElem (show n-1<cs.length by omega)] at hlast;have hsz:=(Array.getElem?_eq_some_iff.1 hlast).1;refine ⟨false,c,t,f,GH.of_some hb,by omega,?_⟩;apply Array.ext
   ·simp;omega
   ·intro i h1 h2;have hi:i<n:=by simp at h2;omega
    have:=hall i hi
    rw [Array.getElem?_eq_getElem (by omega),List.getElem?_eq_getElem (by omega)] at this;simpa using this
  | _=>simp [hb,List.getElem?_eq_getElem (show 0<cs.length by omega)] at h0
def Xg (P:Program) (e:TypeId) {α:Type} (enc:α→Array Value) (good:α→Prop):Prop:=
 ∀{H:Type} (en:TypeId×Value→H) (W:World) (base:Nat) (sp:Nat→Bool) (held:Bool) (fuel:Nat) (cs:List Value) (x:DataW H×List MemPlace),DataW.trod en P W base sp held fuel e cs=some x→∃a:α,cs=(enc a).toList∧good a
theorem SQ {H:Type} {en:TypeId×Value→H} {sp:Nat→Bool} {held:Bool} {fuel:Nat} {t e:TypeId} {n:Nat} {α:Type} {enc:α→Array Value} {good:α→Prop} {v:Value} {d:DataW H} {ps:List MemPlace} (ht:P.underlying t=some (.slice e)) (hc:P.cellsOf e=n) (hn:0<n)
  (ho:Xg P e enc good) (h:DataW.trod en P W 0 sp held fuel t [v]=some (d,ps)) (hw:∀es rs,d=.slice es rs→es.length≤140737488355328):∃xs:List α,AJ (GH.of W) v n enc xs∧∀x ∈ xs,good x:=by
 rcases DataW.trod_slice ht h with ⟨h1,_⟩ | ⟨a,len,cap,elems,rest,m,rfl,h1,h2,_,hl,_,hlen,hel,_,_⟩
 ·simp at h1;subst h1;exact ⟨[],AJ.nil _ _ _,fun x hx=>by cases hx⟩
 ·simp only [List.cons.injEq,and_true] at h1;subst h1;simp only [Prod.mk.injEq] at h2;have hlim:len≤140737488355328:=by
   have:=hw _ _ h2.1
   simpa [hlen] using this
  have each:∀i,i<len→∃x:α,∃b off,a=⟨b,off,none⟩∧AZ (GH.of W) b (off+i*n) n (enc x)∧good x:=fun i hi=>by
   have:=hel i hi
   rw [List.getElem?_eq_getElem (by omega),hc] at this;simp only [Option.bind_eq_some_iff] at this;obtain ⟨cs,hcs,hx⟩:=this;obtain ⟨x,e1,e2⟩:=ho _ _ _ _ _ _ _ _ hx;have hc0:=(World.cells?_some hcs).2.2 0 hn;have hlen2:=(World.cells?_some hcs).2.1;rw [List.getElem?_eq_getElem (show 0<cs.length by omega)] at hc0;have hsp:=World.cell?_spot hc0;obtain ⟨b,off,spot⟩:=a;have hspot:spot=none∨i≠0:=by
    by_cases e0:i=0
    ·subst e0;left;simpa [Addr.add] using hsp
    ·exact .inr e0
   have hfirst:spot=none:=by
    rcases hspot with e | e
    ·exact e
    ·have h00:=hel 0 (by omega);rw [List.getElem?_eq_getElem (by omega),hc] at h00;simp only [Option.bind_eq_some_iff] at h00;obtain ⟨c0,hc00,_⟩:=h00;have z:=(World.cells?_some hc00).2.2 0 hn;have zl:=(World.cells?_some hc00).2.1;rw [List.getElem?_eq_getElem (show 0<c0.length by omega)] at z
     have:=World.cell?_spot z
     simpa [Addr.add] using this
   subst hfirst;refine ⟨x,b,off,rfl,?_,e2⟩;have ea:(Addr.add ⟨b,off,none⟩ (i*n))=⟨b,off+i*n,none⟩:=by
    unfold Addr.add;split
    ·rename_i e;rw [e];rfl
    ·rfl
   rw [ea] at hcs
   have:=Vy hcs hn
   rw [e1] at this;simpa using this
  by_cases hz:len=0
  ·subst hz;exact ⟨[],⟨some a,cap,rfl,Nat.zero_le _,Nat.zero_le _,fun i hi=>by simp at hi⟩,fun x hx=>by cases hx⟩
  ·have hch:∀i:Fin len,∃x:α,∃b off,a=⟨b,off,none⟩∧AZ (GH.of W) b (off+i.val*n) n (enc x)∧good x:=fun i=>each i.val i.isLt;refine ⟨List.ofFn fun i=>Classical.choose (hch i),⟨some a,cap,by rw [List.length_ofFn],by rw [List.length_ofFn];exact hl,by rw [List.length_ofFn];exact hlim,fun i hi=>?_⟩,fun x hx=>?_⟩
   ·rw [List.length_ofFn] at hi;obtain ⟨b,off,e1,e2,_⟩:=Classical.choose_spec (hch ⟨i,hi⟩);refine ⟨b,off,by rw [e1],?_⟩;rw [List.getElem_ofFn];exact e2
   ·obtain ⟨i,rfl⟩:=List.mem_ofFn.1 hx;obtain ⟨_,_,_,_,e3⟩:=Classical.choose_spec (hch i);exact e3
theorem IV {H:Type} {en:TypeId×Value→H} {t:TypeId} (hl:laidOutB P=true) (hr:P.readableRec t=true) (hrow:t<P.types.size) {W':World} {v:Value} {d:DataW H} {ps:List MemPlace} (h:DataW.Trod en P W 0 (fun _=>true) true t v d ps)
  (hk:∀(b:Nat) (o:Obj),W.heap[b]? =some o→W'.heap[b]? =some o) (hlt:∀x ∈ ps,x.block<W.heap.size):DataW.Trod en P W' 0 (fun b=>decide (b<W.heap.size)) true t v d ps:=by
 let W2:World:={ W' with os:=W.os,tape:=W.tape,output:=W.output };have hsz:W.heap.size≤W'.heap.size:=by
  rcases Nat.lt_or_ge W'.heap.size W.heap.size with x | x
  ·have:=hk W'.heap.size _ (Array.getElem?_eq_getElem x)
   rw [Array.getElem?_eq_none (Nat.le_refl _)] at this;cases this
  ·exact x
 have hb:Below W.heap.size W W2:=⟨rfl,rfl,rfl,hsz,fun k hk'=>by
  show W'.heap[k]? =_;rw [Array.getElem?_eq_getElem hk'];exact hk k _ (Array.getElem?_eq_getElem hk')⟩
 exact DataW.Trod.of_heap (w:=W2) (w':=W') rfl (Below.trod hl hr hrow h hb hlt)
theorem kept_but {W':World} (hk:∀(b:Nat) (o:Obj),W.heap[b]? =some o→W'.heap[b]? =some o) (ho:W'.os=W.os) (hp:W'.output=W.output) (may:MemPlace→Prop):W.keptBut W' may:=by
 refine ⟨ho,hp,fun i hi=>?_⟩;rw [hk i _ (Array.getElem?_eq_getElem hi),Array.getElem?_eq_getElem hi];split <;> simp_all
end
end Go.Ns
namespace Go.Ns
open Go.Conc
universe u
theorem Z {α:Sort u} {a:α}:a=a:=rfl
theorem Lr {h:GH}:GH.Le h h:=GH.Le.refl h
theorem Ln {h h':GH} (l:h.Le h') {r:Nat} (hr:h' r=none):h r=none:=l.nothing hr
theorem DF {h:GH} {b r:Nat} {p:Bool} {o:Obj} (hb:h b=some (p,o)) (hr:h r=none):b≠r:=GH.ne_of hb hr
theorem Nb {a b:Nat} (h:Nat.ble a b=true):a≤b:=Nat.le_of_ble_eq_true h
theorem Dn {p:Prop} [Decidable p] (h:¬¬p):p:=Decidable.not_not.1 h
theorem Et {α:Sort u} {a b c:α} (x:a=b) (y:b=c):a=c:=x.trans y
theorem Kl {h0 h:GH} (k:D9 (fun b=>h0 b=none) h0 h):h0.Le h:=k.leOf
theorem Bx {h:GH} {b:Nat} {p:Bool} {c:Array Value} {t:TypeId} {f:Nat×Nat} (hb:h b=some (p,.cells c t f)) {n:Nat} (hn:c.size=n):AZ h b 0 n c:=AZ.box hb hn
abbrev lE (v:Value):IL:=fun _ u _=>u=v
abbrev lF (v:Value):Pn:=fun u _=>u=v
abbrev zP:Array Value:=#[.int .i64 0,.int .i64 0,.slice none 0 0,.slice none 0 0,.slice none 0 0,.slice none 0 0,.map none]
section
variable {P:Program} {E:Gm P} {σ:Nat→Value} {ds:List Deferred} {h:GH} {Q:Post} {T:(Nat→Value)→List Deferred→GH→Prop}
variable {dst:Option Nat} {ty:TypeId} {pos:String} {af:Array Edge} {ops:Array Oper} {o:Oper} {l:List Oper}
theorem Sq {x y:Code} (a:Tr E x σ ds h (fun e σ' ds' h'=>match e with | .normal=>Tr E y σ' ds' h' Q | e=>Q e σ' ds' h')):Tr E (.seq x y) σ ds h Q:=Zr a
theorem Rg {id:Nat} {l:List Oper} (a:EL E l.toArray l σ ds h Q):Tr E (.region id l.toArray false) σ ds h Q:=Xn a
theorem Nl (q:Q .normal σ ds h):EL E ops [] σ ds h Q:=trL_nil q
abbrev Rt:=@tr_ret
abbrev Bk:=@Zs
abbrev Sk:=@tr_skip
abbrev Xt:=@tr_exit
def plainB (N:Nat) (o:Oper):Bool:=o.guard.isNone && !EM o.op && Ej o.dst N
theorem Pl (hp:plainB E.N o=true) (x:Bi E o σ ds h fun σ' ds' h'=>EL E ops l σ' ds' h' Q):EL E ops (o ::l) σ ds h Q:=by
 simp only [plainB,Bool.and_eq_true,Option.isNone_iff_eq_none,Bool.not_eq_true'] at hp;exact F4 hp.1.1 hp.1.2 hp.2 x
theorem Mv {x:Operand} (v:Value) (hp:Ej dst E.N=true) (hx:AU σ x=v) (k:EL E ops l (putS σ dst v) ds h Q):EL E ops (⟨dst,.move x,ty,pos,af,none⟩ ::l) σ ds h Q:=F4 rfl rfl hp (AA hx k)
theorem As {x:Operand} (v:Value) (hp:Ej dst E.N=true) (hx:AU σ x=v) (k:EL E ops l (putS σ dst v) ds h Q):EL E ops (⟨dst,.assign x,ty,pos,af,none⟩ ::l) σ ds h Q:=F4 rfl rfl hp (Do hx k)
theorem Ld {t:TypeId} {x:Operand} {b off:Nat} (v:Value) (hp:Ej dst E.N=true) (hx:AU σ x=.pointer (some ⟨b,off,none⟩)) (hr:Rd P h t b off v) (k:EL E ops l (putS σ dst v) ds h Q):EL E ops (⟨dst,.load t x,ty,pos,af,none⟩ ::l) σ ds h Q:=
 F4 rfl rfl hp (AE hx hr k)
theorem Fa {s:TypeId} {x:Operand} {f o b off:Nat} (hf:DT P s f=some o) (hp:Ej dst E.N=true) (hx:AU σ x=.pointer (some ⟨b,off,none⟩)) (k:EL E ops l (putS σ dst (.pointer (some ⟨b,off+o,none⟩))) ds h Q) :
  EL E ops (⟨dst,.fieldAddr s x f,ty,pos,af,none⟩ ::l) σ ds h Q:=F4 rfl rfl hp (AI hf hx k)
theorem Pk {c a b:Operand} (t:Bool) (v:Value) (hp:Ej dst E.N=true) (hc:AU σ c=.bool t) (hv:(if t then AU σ a else AU σ b)=v) (k:EL E ops l (putS σ dst v) ds h Q):EL E ops (⟨dst,.pick c a b,ty,pos,af,none⟩ ::l) σ ds h Q:=
 F4 rfl rfl hp (BK hc hv k)
theorem Ad {xt yt:TypeId} {x y:Operand} (a b:Int) (hp:Ej dst E.N=true) (hx:AU σ x=.int .i64 a) (hy:AU σ y=.int .i64 b) (hr: -9223372036854775808≤a+b∧a+b≤9223372036854775807) (k:EL E ops l (putS σ dst (.int .i64 (a+b))) ds h Q) :
  EL E ops (⟨dst,.binOp .add xt x y yt,ty,pos,af,none⟩ ::l) σ ds h Q:=F4 rfl rfl hp (DD hx hy hr k)
def skipB (N:Nat) (ops:Array Oper) (o:Oper) (j d:Nat) (is:Bool):Bool:=(match o.guard with
 | some (i,w)=>i==j && w !=is
 | none=>false) && (match ops[j]? with
 | some oj=>(match oj.dst with
  | some e=>e==d
  | none=>false)
 | none=>false) && Nat.blt d N && Ej o.dst N
theorem Gs (j d:Nat) {is:Bool} (hv:σ d=.bool is) (hs:skipB E.N ops o j d is=true) (x:EL E ops l (putS σ o.dst undef) ds h Q):EL E ops (o ::l) σ ds h Q:=by
 simp only [skipB,Bool.and_eq_true] at hs;obtain ⟨⟨⟨h1,h2⟩,h3⟩,h4⟩:=hs;cases hg:o.guard with
 | none=>rw [hg] at h1;cases h1
 | some q=>
  obtain ⟨i,w⟩:=q;rw [hg] at h1;simp only [Bool.and_eq_true,beq_iff_eq,bne_iff_ne,ne_eq] at h1;obtain ⟨rfl,hne⟩:=h1;cases hj:ops[i]? with
  | none=>rw [hj] at h2;cases h2
  | some oj=>
   cases hd:oj.dst with
   | none=>simp [hj,hd] at h2
   | some e=>
    obtain rfl:e=d:=by simpa [hj,hd] using h2
    exact Np hg hj hd hv h3 hne h4 x
def goB (N:Nat) (ops:Array Oper) (o:Oper) (j d:Nat) (is:Bool):Bool:=(match o.guard with
 | some (i,w)=>i==j && w==is
 | none=>false) && (match ops[j]? with
 | some oj=>(match oj.dst with
  | some e=>e==d
  | none=>false)
 | none=>false) && Nat.blt d N && !EM o.op && Ej o.dst N
theorem Gg (j d:Nat) {is:Bool} (hv:σ d=.bool is) (hs:goB E.N ops o j d is=true) (x:Bi E o σ ds h fun σ' ds' h'=>EL E ops l σ' ds' h' Q):EL E ops (o ::l) σ ds h Q:=by
 simp only [goB,Bool.and_eq_true,Bool.not_eq_true'] at hs;obtain ⟨⟨⟨⟨h1,h2⟩,h3⟩,h5⟩,h4⟩:=hs;cases hg:o.guard with
 | none=>rw [hg] at h1;cases h1
 | some q=>
  obtain ⟨i,w⟩:=q;rw [hg] at h1;simp only [Bool.and_eq_true,beq_iff_eq] at h1;obtain ⟨rfl,rfl⟩:=h1;cases hj:ops[i]? with
  | none=>rw [hj] at h2;cases h2
  | some oj=>
   cases hd:oj.dst with
   | none=>simp [hj,hd] at h2
   | some e=>
    obtain rfl:e=d:=by simpa [hj,hd] using h2
    exact trL_opg hg hj hd hv h3 (.inr h5) h4 x
end
section
variable {S:Nat→Prop} {Pre:Nat→GH→Prop} {Φ:List IL} {cl:List Nat} {k d:Nat} {h h':GH} {σ:Nat→Value} {ds:List Deferred} {v:Value}
theorem fS (p:F9 Φ k (putS σ (some d) v) v h):ds=ds∧St (D9 S) Pre Φ cl k h h∧∃w,putS σ (some d) v=putS σ (some d) w∧F9 Φ k (putS σ (some d) v) w h∧((some d:Option Nat)=none→w=undef):=
 ⟨rfl,St.same,_,rfl,p,fun e=>by cases e⟩
theorem fT (l:h.Le h') (m:D5 GH.Le Φ) (p:F9 Φ k (putS σ (some d) v) v h'):ds=ds∧St (D9 S) (fun _ _=>True) Φ cl k h h'∧∃w,putS σ (some d) v=putS σ (some d) w∧F9 Φ k (putS σ (some d) v) w h'∧((some d:Option Nat)=none→w=undef):=
 ⟨rfl,St.ofLe l m (fun _ _ _ _ _=>trivial),_,rfl,p,fun e=>by cases e⟩
theorem fL {Φ:List Pn} (p:LT Φ k v h):ds=ds∧GH.Le h h∧∃w,putS σ (some d) v=putS σ (some d) w∧LT Φ k w h:=⟨rfl,GH.Le.refl _,_,rfl,p⟩
theorem L1 {R:GH→GH→Prop} {a:Value} (x:D5 R Φ):D5 R (lE a ::Φ):=⟨fun _ _ _ _ _ y=>y,x⟩
theorem L2 {R:GH→GH→Prop} {a b:Value} (x:D5 R Φ):D5 R (lE a ::lE b ::Φ):=L1 (L1 x)
theorem L4 {R:GH→GH→Prop} {a b c d:Value} (x:D5 R Φ):D5 R (lE a ::lE b ::lE c ::lE d ::Φ):=L2 (L2 x)
theorem L8 {R:GH→GH→Prop} {a b c d a' b' c' d':Value} (x:D5 R Φ):D5 R (lE a ::lE b ::lE c ::lE d ::lE a' ::lE b' ::lE c' ::lE d' ::Φ):=L4 (L4 x)
theorem K1 {R:GH→GH→Prop} {Φ:List Pn} {a:Value} (x:FQ R Φ):FQ R (lF a ::Φ):=⟨fun _ _ _ _ y=>y,x⟩
theorem K2 {R:GH→GH→Prop} {Φ:List Pn} {a b:Value} (x:FQ R Φ):FQ R (lF a ::lF b ::Φ):=K1 (K1 x)
theorem K4 {R:GH→GH→Prop} {Φ:List Pn} {a b c d:Value} (x:FQ R Φ):FQ R (lF a ::lF b ::lF c ::lF d ::Φ):=K2 (K2 x)
theorem K8 {R:GH→GH→Prop} {Φ:List Pn} {a b c d a' b' c' d':Value} (x:FQ R Φ):FQ R (lF a ::lF b ::lF c ::lF d ::lF a' ::lF b' ::lF c' ::lF d' ::Φ):=K4 (K4 x)
end
theorem Dk {P:Program} {E:Gm P} {S:Nat→Prop} {id:Nat} {l:List Oper} {σ:Nat→Value} {ds:List Deferred} {h:GH} {Q:Post} {Φ:List IL} (_:D5 GH.Le Φ) (n:Nat) (cls:List (List Nat)) (Pre:Nat→GH→Prop)
  (hm:P.follows .mixedOrders=true) (ok:FI E.N l n cls=true) (p0:∀k,k<n→Pre k h) (ind:Rr l n cls Φ) (x:Jg (D9 S) Pre E l n Φ σ ds h Q n 0 l cls):Tr E (.region id l.toArray true) σ ds h Q:=
 Xw n cls Φ Pre hm ok p0 ind x
end Go.Ns
namespace Go.Ns
open Go.Conc
abbrev J (x:Int):Value:=.int .i64 x
abbrev Pt (b:Nat):Value:=.pointer (some ⟨b,0,none⟩)
abbrev Sc (b:Nat) (n c:Nat):Value:=.slice (some ⟨b,0,none⟩) n c
abbrev Q22 (a:List Good) (b:Nat):=decide (((¬(0≤((a.getD b Good.z).cost)∧((a.getD b Good.z).cost)≤999))∨(¬(1≤((a.getD b Good.z).pack)∧((a.getD b Good.z).pack)≤20)))∨(¬(E7 ((a.getD b Good.z).low) ((a.getD b Good.z).high))))
abbrev Q23 (a:Int) (b:Int) (c:List Good) (d:List AB) (e:List AF) (f:Int) (g:Int) (h:Int):=Af a b c d e [if (decide (0≤f∧f≤(c.length:Int)-1)) then (0:Int) else 6,if (decide (1≤g∧g≤a)) then (0:Int) else 1,if (decide (g≤h∧h≤a)) then (0:Int) else 1]
abbrev IW (a:Int) (b:List Good) (c:List AB) (d:List AF) (e:Int) (f:Nat):=(AV a b c d e).getD ((f:Int)).toNat AT.zero
abbrev Zk:Array Value:=#[J 0,J 0,J 0,J 0,J 0,J 0,J 0,J 0,J 0,.bool false,.bool false,.bool false,.bool false,.bool false,.bool false]
abbrev Uh (a:Int) (b:List AB):=decide ((0≤a∧a≤(b.length:Int)-1)∧(b.getD a.toNat AB.z).kind=0)
abbrev Q27 (a:Int) (b:Int) (c:List Good) (d:List AB) (e:List AF) (f:Int) (g:Int):=Af a b c d e [if (decide (0≤f∧f≤(c.length:Int)-1)) then (0:Int) else 6,if (decide (0≤g∧g≤a)) then (0:Int) else 1]
abbrev Q28 (a:List Good) (b:Nat):Array Value:=#[.string ((a.getD b Good.z).name),J ((a.getD b Good.z).cost),J ((a.getD b Good.z).pack),J ((a.getD b Good.z).low),J ((a.getD b Good.z).high)]
abbrev SR (a:Int):=KI (KI a (EV a 13)) ((KI a (EV a 13)) / 128)
abbrev Q2a (a:List AB) (b:Nat):Array Value:=#[J ((a.getD b AB.z).kind),J ((a.getD b AB.z).good),J ((a.getD b AB.z).day),J ((a.getD b AB.z).low),J ((a.getD b AB.z).high)]
abbrev Q2b (a:Int) (b:Int) (c:List Good) (d:List AB) (e:List AF) (f:Int):=Af a b c d e [if (decide (0≤f∧f≤(d.length:Int)-1)) then (0:Int) else 6]
abbrev Ja (a:List AB) (b:Nat):=(a.getD b AB.z).day
abbrev Q2d (a:List AF) (b:Nat):Array Value:=#[J ((a.getD b AF.z).good),J ((a.getD b AF.z).day),J ((a.getD b AF.z).low),J ((a.getD b AF.z).high)]
abbrev Q2e (a:Int) (b:Int) (c:List Good) (d:List AB) (e:List AF) (f:Int):=Af a b c d e [if (decide (0≤f∧f≤a)) then (0:Int) else 1]
abbrev J9:Value:=.slice none 0 0
abbrev Q2g (a:List Good) (b:Nat):=E7 ((a.getD b Good.z).low) ((a.getD b Good.z).high)
abbrev P8 (a:List AT) (b:Int):=a.getD (b.toNat) AT.zero
abbrev SS (a:List AB) (b:Nat):=(a.getD b AB.z).good
abbrev Nk (a:List Good) (b:Nat):=(a.getD b Good.z).pack
abbrev NU (a:List AB) (b:Nat):=(a.getD b AB.z).kind
abbrev Q2l (a:List Int) (b:List Int):=decide (((a.length:Int)<(b.length:Int))∨(((a.length:Int)=(b.length:Int))∧((Pv a b)<0)))
abbrev Zl (a:Int) (b:List Good):=decide (0≤a∧a≤(b.length:Int)-1)
abbrev Q2n (a:Int) (b:Int):=decide (((0≤a∧a≤b)∧b≤99)∧((b-a)<3))
abbrev Q2o (a:Array Int) (b:Nat) (c:Nat):=(a.setIfInBounds b (a[c]!)).setIfInBounds c (a[b]!)
abbrev Q2p (a:List Good) (b:Nat):Array Value:=#[J ((a.getD b Good.z).low),J ((a.getD b Good.z).high)]
abbrev Qv (a:List Good) (b:Nat):=(a.getD b Good.z).cost
abbrev Q2r (a:ByteArray) (b:Nat):=decide ((¬(FD ((bytesOf a).getD b 0)))∧(((b:Int)=0)∨(¬(FK ((bytesOf a).getD b 0)))))
abbrev Q2s (a:List Int) (b:List Int):=(AT.zero.setFirsts a).setManys b
abbrev Q2t (a:Int) (b:Int) (c:Int) (d:Int):=decide (((a≤b)∧(b≤c))∧(c≤d))
abbrev Q2u (a:List Int):=(C6 a).getD ((((C6 a).length:Int)-1).toNat) 0
abbrev Ui (a:Int) (b:Int):Value:=.bool (decide (a≤b))
abbrev Q2w (a:Int) (b:Int):=decide ((¬(1≤a∧a≤99))∨(¬(0≤b∧b≤2)))
abbrev Uj (a:List Good) (b:Nat):=(a.getD b Good.z).name
abbrev Q2y (a:List AB) (b:Nat):=(a.getD (((b:Int)-1).toNat) AB.z).day
abbrev Yu (a:List AB) (b:AT) (c:AF):=(AN a b c.good c.day).1
abbrev Q30 (a:Nat) (b:Nat) (c:Array Int) (d:Nat):=decide (((a:Int)≤(b:Int))∧(¬((c[b]!)<(c[d]!))))
abbrev Q31 (a:List AB) (b:Nat):Array Value:=#[J ((a.getD b AB.z).low),J ((a.getD b AB.z).high)]
abbrev Q32 (a:List AB) (b:List Int) (c:List Int) (d:List Int) (e:List AF) (f:Nat):=A6 a b c d ((e.getD f AF.z).good) ((e.getD f AF.z).day) a.length
abbrev Zm (a:Int) (b:Int):=decide (0≤a∧a≤b)
abbrev NE (a:List Int) (b:Nat):=J (a.getD b 0)
abbrev Q35 (a:List Good) (b:List AB) (c:List AF):=decide (((20<(a.length:Int))∨(20<(b.length:Int)))∨(20<(c.length:Int)))
abbrev Q36 (a:AF) (b:Int):=decide ((¬(0≤a.day∧a.day≤b))∨(¬((0≤a.low∧a.low≤a.high)∧a.high≤999)))
abbrev Q37 (a:List Int):=a.getD (((a.length:Int)-1).toNat) 0
abbrev NV (a:Int) (b:Int) (c:Value) (d:Value) (e:Value):Value:=.agg #[J a,J b,c,d,e]
abbrev Q39 (a:Int) (b:List AB):=decide (0≤a∧a≤(b.length:Int)-1)
abbrev Zn (a:ByteArray) (b:Nat):=(bytesOf a).getD b 0
abbrev Q3b:=Ag AT.zero
abbrev Q3c (a:Int):=KI a (EV a 13)
abbrev Q3d (a:Nat) (b:Int) (c:Array Int) (d:Nat):=decide (((((2*(a:Int))+1)+1)<b)∧((c[(d+((2*a)+1))]!)<(c[((d+((2*a)+1))+1)]!)))
abbrev Q3e:Array Value:=#[.func (.func 194) #[] #[],.func (.func 195) #[] #[],.func (.func 196) #[] #[],.func (.func 197) #[] #[]]
abbrev Xh (a:List AF) (b:Nat):=a.getD b AF.z
abbrev Q3g (a:Int) (b:Int) (c:Int):=decide ((a≤b)∧(b≤c))
abbrev Q3h (a:Array Int) (b:Nat) (c:Nat):=a.setIfInBounds b (a[c]!)
abbrev K0 (a:Int) (b:Int) (c:List Good) (d:List AB) (e:List AF):=Ak a b c d e
abbrev Q3j (a:AF):Array Value:=#[J a.good,J a.day,J a.low,J a.high]
abbrev Q3k (a:Nat) (b:Nat):=J ((a:Int)-(b:Int))
abbrev Q3l (a:Nat) (b:Nat) (c:Array Int):=decide (((a:Int)<(b:Int))∧((c[b]!)<(c[((b:Int)-1).toNat]!)))
abbrev Q3m (a:Nat):=J ((a:Int)+1)
abbrev Q3n (a:Nat) (b:Array Int) (c:Nat):=decide ((0<(a:Int))∧(¬((b[((a:Int)-1).toNat]!)<(b[c]!))))
abbrev Q3o (a:List Int) (b:Nat) (c:List Int):=Pu (a.getD b 0) (c.getD b 0)
abbrev Q3p (a:ByteArray):=decide (((a.size:Int)<1)∨(10<(a.size:Int)))
abbrev Q3q (a:Int):=decide ((97≤a)∧(a≤122))
abbrev Q3r (a:Array Int) (b:Nat) (c:Nat):=decide (¬((a[b]!)<(a[c]!)))
abbrev Q3s (a:Int):=decide ((48≤a)∧(a≤57))
abbrev Q3t (a:List Int) (b:List Good):=BA a (b.length:Int)
abbrev Q3u (a:List Int) (b:List AB):=BA a (b.length:Int)
abbrev Q3v (a:Int):=decide (¬(0≤a∧a≤99))
abbrev Q3w (a:Int) (b:Int):=decide (1≤a∧a≤b)
abbrev Q3x (a:Nat) (b:Nat):=decide ((a:Int)≤(b:Int))
abbrev Q3y (a:Int):=decide (¬(0≤a∧a≤2))
abbrev Q3z (a:List Good) (b:Nat):=BS (a.getD b Good.z)
abbrev Q40 (a:List AB) (b:AT) (c:Nat) (d:Int):Array Value:=#[J ((AN a b (c:Int) d).1),J ((AN a b (c:Int) d).2)]
abbrev Q41 (a:List AF):=Cv a 0 a.length
abbrev Q42 (a:List AB) (b:Nat):=BD (a.getD b AB.z)
abbrev Q43 (a:List Int):=(C6 a).getD 0 0
end Go.Ns
namespace Go.Ns
open Go.Conc Go.Proofs Go.Proofs.Tryz
theorem GO:IG prog 102 102=some (27,1,24):=by kernel_rfl
theorem P9:IG prog 105 105=some (119,15,80):=by kernel_rfl
theorem Kb:IG prog 182 182=some (31,2,16):=by kernel_rfl
theorem fx_app22_22:IG prog 22 22=some (99,5,48):=by kernel_rfl
theorem T6:IG prog 23 23=some (75,5,40):=by kernel_rfl
theorem T7:IG prog 24 24=some (79,4,32):=by kernel_rfl
theorem B4:IG prog 27 27=some (3,1,8):=by kernel_rfl
theorem NF:IG prog 69 69=some (57,3,72):=by kernel_rfl
theorem Yv:XI prog 117=some (6,false,1):=by kernel_rfl
theorem Yw:XI prog 135=some (4,false,1):=by kernel_rfl
theorem IX:Mx prog 115=some (3,1):=by kernel_rfl
theorem IY:Mx prog 116=some (6,1):=by kernel_rfl
theorem HF:Mx prog 117=some (6,1):=by kernel_rfl
theorem Yx:Mx prog 174=some (5,2):=by kernel_rfl
theorem Vz:AP Tryz.f100=true:=by kernel_rfl
theorem O7:AP Tryz.f101=true:=by kernel_rfl
theorem O8:AP Tryz.f102=true:=by kernel_rfl
theorem V0:AP Tryz.f104=true:=by kernel_rfl
theorem K3:AP Tryz.f105=true:=by kernel_rfl
theorem V1:AP Tryz.f106=true:=by kernel_rfl
theorem O9:AP Tryz.f107=true:=by kernel_rfl
theorem PA:AP Tryz.f108=true:=by kernel_rfl
theorem V2:AP Tryz.f109=true:=by kernel_rfl
theorem JF:AP Tryz.f110=true:=by kernel_rfl
theorem V3:AP Tryz.f111=true:=by kernel_rfl
theorem fx_call112:AP Tryz.f112=true:=by kernel_rfl
theorem fx_call113:AP Tryz.f113=true:=by kernel_rfl
theorem PB:AP Tryz.f114=true:=by kernel_rfl
theorem K5:AP Tryz.f115=true:=by kernel_rfl
theorem V4:AP Tryz.f116=true:=by kernel_rfl
theorem PC:AP Tryz.f117=true:=by kernel_rfl
theorem V5:AP Tryz.f118=true:=by kernel_rfl
theorem V6:AP Tryz.f119=true:=by kernel_rfl
theorem Yy:AP Tryz.f12=true:=by kernel_rfl
theorem K6:AP Tryz.f120=true:=by kernel_rfl
theorem V7:AP Tryz.f121=true:=by kernel_rfl
theorem fx_call122:AP Tryz.f122=true:=by kernel_rfl
theorem V8:AP Tryz.f124=true:=by kernel_rfl
theorem V9:AP Tryz.f125=true:=by kernel_rfl
theorem fx_call126:AP Tryz.f126=true:=by kernel_rfl
theorem fx_call127:AP Tryz.f127=true:=by kernel_rfl
theorem PD:AP Tryz.f129=true:=by kernel_rfl
theorem IZ:AP Tryz.f13=true:=by kernel_rfl
theorem WA:AP Tryz.f136=true:=by kernel_rfl
theorem WB:AP Tryz.f137=true:=by kernel_rfl
theorem WC:AP Tryz.f138=true:=by kernel_rfl
theorem WD:AP Tryz.f139=true:=by kernel_rfl
theorem Qw:AP Tryz.f14=true:=by kernel_rfl
theorem PE:AP Tryz.f140=true:=by kernel_rfl
theorem WE:AP Tryz.f142=true:=by kernel_rfl
theorem PG:AP Tryz.f143=true:=by kernel_rfl
theorem WF:AP Tryz.f144=true:=by kernel_rfl
theorem WG:AP Tryz.f145=true:=by kernel_rfl
theorem WH:AP Tryz.f146=true:=by kernel_rfl
theorem K7:AP Tryz.f147=true:=by kernel_rfl
theorem PH:AP Tryz.f148=true:=by kernel_rfl
theorem K9:AP Tryz.f149=true:=by kernel_rfl
theorem LA:AP Tryz.f150=true:=by kernel_rfl
theorem fx_call151:AP Tryz.f151=true:=by kernel_rfl
theorem fx_call152:AP Tryz.f152=true:=by kernel_rfl
theorem LB:AP Tryz.f153=true:=by kernel_rfl
theorem PI:AP Tryz.f154=true:=by kernel_rfl
theorem WI:AP Tryz.f155=true:=by kernel_rfl
theorem WJ:AP Tryz.f156=true:=by kernel_rfl
theorem WK:AP Tryz.f157=true:=by kernel_rfl
theorem WL:AP Tryz.f158=true:=by kernel_rfl
theorem WM:AP Tryz.f159=true:=by kernel_rfl
theorem Qx:AP Tryz.f16=true:=by kernel_rfl
theorem WN:AP Tryz.f160=true:=by kernel_rfl
theorem WO:AP Tryz.f161=true:=by kernel_rfl
theorem WP:AP Tryz.f162=true:=by kernel_rfl
theorem WQ:AP Tryz.f163=true:=by kernel_rfl
theorem WR:AP Tryz.f164=true:=by kernel_rfl
theorem WS:AP Tryz.f165=true:=by kernel_rfl
theorem Ch:AP Tryz.f166=true:=by kernel_rfl
theorem WT:AP Tryz.f167=true:=by kernel_rfl
theorem WU:AP Tryz.f168=true:=by kernel_rfl
theorem WV:AP Tryz.f170=true:=by kernel_rfl
theorem LC:AP Tryz.f171=true:=by kernel_rfl
theorem PJ:AP Tryz.f172=true:=by kernel_rfl
theorem WW:AP Tryz.f173=true:=by kernel_rfl
theorem WX:AP Tryz.f174=true:=by kernel_rfl
theorem LD:AP Tryz.f175=true:=by kernel_rfl
theorem PK:AP Tryz.f176=true:=by kernel_rfl
theorem LE:AP Tryz.f177=true:=by kernel_rfl
theorem Yz:AP Tryz.f18=true:=by kernel_rfl
theorem WY:AP Tryz.f194=true:=by kernel_rfl
theorem WZ:AP Tryz.f195=true:=by kernel_rfl
theorem Wa:AP Tryz.f196=true:=by kernel_rfl
theorem Wb:AP Tryz.f197=true:=by kernel_rfl
theorem Wc:AP Tryz.f198=true:=by kernel_rfl
theorem Wd:AP Tryz.f199=true:=by kernel_rfl
theorem Y1:AP Tryz.f20=true:=by kernel_rfl
theorem We:AP Tryz.f200=true:=by kernel_rfl
theorem PL:AP Tryz.f201=true:=by kernel_rfl
theorem Wf:AP Tryz.f202=true:=by kernel_rfl
theorem PM:AP Tryz.f203=true:=by kernel_rfl
theorem LF:AP Tryz.f204=true:=by kernel_rfl
theorem Qy:AP Tryz.f22=true:=by kernel_rfl
theorem Y3:AP Tryz.f23=true:=by kernel_rfl
theorem HG:AP Tryz.f25=true:=by kernel_rfl
theorem Y4:AP Tryz.f26=true:=by kernel_rfl
theorem Y5:AP Tryz.f27=true:=by kernel_rfl
theorem Qz:AP Tryz.f29=true:=by kernel_rfl
theorem Q0:AP Tryz.f31=true:=by kernel_rfl
theorem Q1:AP Tryz.f33=true:=by kernel_rfl
theorem Mc:AP Tryz.f35=true:=by kernel_rfl
theorem Y6:AP Tryz.f37=true:=by kernel_rfl
theorem Y7:AP Tryz.f40=true:=by kernel_rfl
theorem Y8:AP Tryz.f41=true:=by kernel_rfl
theorem Md:AP Tryz.f42=true:=by kernel_rfl
theorem KA:AP Tryz.f43=true:=by kernel_rfl
theorem Y9:AP Tryz.f45=true:=by kernel_rfl
theorem ZA:AP Tryz.f47=true:=by kernel_rfl
theorem ZB:AP Tryz.f49=true:=by kernel_rfl
theorem Q2:AP Tryz.f50=true:=by kernel_rfl
theorem Q3:AP Tryz.f51=true:=by kernel_rfl
theorem Q4:AP Tryz.f52=true:=by kernel_rfl
theorem ZC:AP Tryz.f53=true:=by kernel_rfl
theorem ZD:AP Tryz.f58=true:=by kernel_rfl
theorem EF:AP Tryz.f59=true:=by kernel_rfl
theorem Dq:AP Tryz.f60=true:=by kernel_rfl
theorem fx_call63:AP Tryz.f63=true:=by kernel_rfl
theorem Q5:AP Tryz.f65=true:=by kernel_rfl
theorem ZE:AP Tryz.f73=true:=by kernel_rfl
theorem ZF:AP Tryz.f74=true:=by kernel_rfl
theorem C3:AP Tryz.f75=true:=by kernel_rfl
theorem Ia:AP Tryz.f76=true:=by kernel_rfl
theorem Ib:AP Tryz.f77=true:=by kernel_rfl
theorem GE:AP Tryz.f78=true:=by kernel_rfl
theorem B7:AP Tryz.f79=true:=by kernel_rfl
theorem Me:AP Tryz.f80=true:=by kernel_rfl
theorem Ic:AP Tryz.f81=true:=by kernel_rfl
theorem ZG:AP Tryz.f82=true:=by kernel_rfl
theorem Mf:AP Tryz.f83=true:=by kernel_rfl
theorem fx_call84:AP Tryz.f84=true:=by kernel_rfl
theorem fx_call85:AP Tryz.f85=true:=by kernel_rfl
theorem fx_call86:AP Tryz.f86=true:=by kernel_rfl
theorem fx_call87:AP Tryz.f87=true:=by kernel_rfl
theorem ZH:AP Tryz.f88=true:=by kernel_rfl
theorem KB:AP Tryz.f89=true:=by kernel_rfl
theorem Q6:AP Tryz.f90=true:=by kernel_rfl
theorem Q7:AP Tryz.f92=true:=by kernel_rfl
theorem ZI:AP Tryz.f93=true:=by kernel_rfl
theorem Q8:AP Tryz.f94=true:=by kernel_rfl
theorem KC:AP Tryz.f95=true:=by kernel_rfl
theorem ZJ:AP Tryz.f98=true:=by kernel_rfl
theorem ZK:AP Tryz.f99=true:=by kernel_rfl
theorem ZL:prog.eqGuardType prog.depth 115=false:=by kernel_rfl
theorem ZM:prog.eqGuardType prog.depth 116=false:=by kernel_rfl
theorem MA:prog.eqGuardType prog.depth 31=false:=by kernel_rfl
theorem fx_eqg75:prog.eqGuardType prog.depth 75=false:=by kernel_rfl
theorem fx_eqg79:prog.eqGuardType prog.depth 79=false:=by kernel_rfl
theorem fx_eqg99:prog.eqGuardType prog.depth 99=false:=by kernel_rfl
theorem Dr:EI prog 102=some 1:=by kernel_rfl
theorem KD:EI prog 105=some 15:=by kernel_rfl
theorem Q9:EI prog 165=some 1:=by kernel_rfl
theorem RA:EI prog 182=some 2:=by kernel_rfl
theorem EG:EI prog 22=some 5:=by kernel_rfl
theorem Cd:EI prog 23=some 5:=by kernel_rfl
theorem ZN:EI prog 230=some 1:=by kernel_rfl
theorem Ju:EI prog 24=some 4:=by kernel_rfl
theorem AS:EI prog 27=some 1:=by kernel_rfl
theorem fx_esz55:EI prog 55=some 1:=by kernel_rfl
theorem fx_esz69:EI prog 69=some 3:=by kernel_rfl
theorem A0:DT prog 104 0=some 0:=by kernel_rfl
theorem Hz:DT prog 108 0=some 0:=by kernel_rfl
theorem C7:DT prog 108 1=some 5:=by kernel_rfl
theorem NG:DT prog 108 2=some 6:=by kernel_rfl
theorem Er:DT prog 119 0=some 0:=by kernel_rfl
theorem Es:DT prog 119 1=some 3:=by kernel_rfl
theorem Eu:DT prog 119 2=some 9:=by kernel_rfl
theorem T8:DT prog 173 1=some 1:=by kernel_rfl
theorem CZ:DT prog 26 0=some 0:=by kernel_rfl
theorem FV:DT prog 26 1=some 1:=by kernel_rfl
theorem BL:DT prog 26 2=some 2:=by kernel_rfl
theorem Az:DT prog 26 3=some 3:=by kernel_rfl
theorem Cx:DT prog 26 4=some 4:=by kernel_rfl
theorem Cy:DT prog 31 0=some 0:=by kernel_rfl
theorem Cz:DT prog 31 1=some 1:=by kernel_rfl
theorem PN:DT prog 57 0=some 0:=by kernel_rfl
theorem LG:DT prog 57 1=some 1:=by kernel_rfl
theorem JG:DT prog 57 2=some 2:=by kernel_rfl
theorem D2:DT prog 75 0=some 0:=by kernel_rfl
theorem FW:DT prog 75 1=some 1:=by kernel_rfl
theorem Ci:DT prog 75 2=some 2:=by kernel_rfl
theorem Ev:DT prog 75 3=some 3:=by kernel_rfl
theorem JH:DT prog 79 0=some 0:=by kernel_rfl
theorem JI:DT prog 79 1=some 1:=by kernel_rfl
theorem GF:DT prog 79 2=some 2:=by kernel_rfl
theorem FX:DT prog 99 0=some 0:=by kernel_rfl
theorem Hc:DT prog 99 1=some 1:=by kernel_rfl
theorem Hd:DT prog 99 2=some 2:=by kernel_rfl
theorem FY:DT prog 99 3=some 3:=by kernel_rfl
theorem ZO:(prog.info? 27).isSome=true:=by kernel_rfl
theorem RB:(prog.info? 27).map (·.zero)=some (some (.slice none 0 0)):=by kernel_rfl
theorem PO:ML prog 188=some .u64:=by kernel_rfl
theorem Wg:ML prog 204=some .u64:=by kernel_rfl
theorem Db:ML prog 3=some .i64:=by kernel_rfl
theorem Ga:ML prog 5=some .u8:=by kernel_rfl
theorem RC:KM prog 106=some (168,3):=by kernel_rfl
theorem Mg:KM prog 159=some (3,3):=by kernel_rfl
theorem RD:∀a:Key,Z8 prog 3 168 (KH a)=true:=by intros;kernel_rfl
theorem Mh:∀a:Int,Z8 prog 3 3 (Ed a)=true:=by intros;kernel_rfl
theorem Mi:∀a b:Int,N5 prog 3 3 (Ed a) (Ed b)=some (a==b):=by intros;kernel_rfl
theorem RE:∀a b:Key,N5 prog 3 168 (KH a) (KH b)=some (a.1==b.1 && (a.2.1==b.2.1 && (a.2.2==b.2.2 && true))):=by intros;kernel_rfl
theorem Ae:prog.follows .mixedOrders=true:=by kernel_rfl
theorem fx_mz106:(prog.info? 3).bind (·.zero)=some (.int .i64 0):=by kernel_rfl
theorem T9:(prog.info? 3).bind (·.zero)=some (.int .i64 0):=by kernel_rfl
theorem Dc:ER prog 104=some [(0,5)]:=by kernel_rfl
theorem Gb:ER prog 108=some [(0,5),(5,1),(6,1)]:=by kernel_rfl
theorem Id:ER prog 119=some [(0,3),(3,6),(9,6)]:=by kernel_rfl
theorem fx_pl168:ER prog 168=some [(0,1),(1,1),(2,1)]:=by kernel_rfl
theorem fx_pl26:ER prog 26=some [(0,1),(1,1),(2,1),(3,1),(4,1)]:=by kernel_rfl
theorem JJ:ER prog 31=some [(0,1),(1,1)]:=by kernel_rfl
theorem fx_pl57:ER prog 57=some [(0,1),(1,1),(2,1)]:=by kernel_rfl
theorem Nm:ER prog 75=some [(0,1),(1,1),(2,1),(3,2)]:=by kernel_rfl
theorem Xi:ER prog 79=some [(0,1),(1,1),(2,2)]:=by kernel_rfl
theorem Xj:ER prog 99=some [(0,1),(1,1),(2,1),(3,2)]:=by kernel_rfl
theorem UA:Z6 prog 9 230=some 5:=by kernel_rfl
theorem GG:Dt prog 102=some (1,#[.slice none 0 0],27):=by kernel_rfl
theorem ZP:Dt prog 105=some (15,#[.int .i64 0,.int .i64 0,.int .i64 0,.int .i64 0,.int .i64 0,.int .i64 0,.int .i64 0,.int .i64 0,.int .i64 0,.bool false,.bool false,.bool false,.bool false,.bool false,.bool false],119):=by kernel_rfl
theorem GI:Dt prog 165=some (1,#[.int .i64 0],32):=by kernel_rfl
theorem RF:Dt prog 182=some (2,#[.int .i64 0,.int .i64 0],31):=by kernel_rfl
theorem fx_sel22:Dt prog 22=some (5,#[.string ⟨#[]⟩,.int .i64 0,.int .i64 0,.int .i64 0,.int .i64 0],99):=by kernel_rfl
theorem UB:Dt prog 23=some (5,#[.int .i64 0,.int .i64 0,.int .i64 0,.int .i64 0,.int .i64 0],75):=by kernel_rfl
theorem UC:Dt prog 24=some (4,#[.int .i64 0,.int .i64 0,.int .i64 0,.int .i64 0],79):=by kernel_rfl
theorem Bu:Dt prog 27=some (1,#[.int .i64 0],3):=by kernel_rfl
theorem fx_sel69:Dt prog 69=some (3,#[.slice none 0 0,.slice none 0 0,.slice none 0 0],57):=by kernel_rfl
theorem Fu:Jd prog 102=true:=by kernel_rfl
theorem Gc:Jd prog 105=true:=by kernel_rfl
theorem UD:Jd prog 165=true:=by kernel_rfl
theorem fx_sl182:Jd prog 182=true:=by kernel_rfl
theorem C9:Jd prog 22=true:=by kernel_rfl
theorem Ck:Jd prog 23=true:=by kernel_rfl
theorem fx_sl230:Jd prog 230=true:=by kernel_rfl
theorem G5:Jd prog 24=true:=by kernel_rfl
theorem CE:Jd prog 27=true:=by kernel_rfl
theorem fx_sl55:Jd prog 55=true:=by kernel_rfl
theorem fx_sl69:Jd prog 69=true:=by kernel_rfl
theorem EQ:Ny prog 9=true:=by kernel_rfl
theorem Jv:CT prog 102=some (false,1):=by kernel_rfl
theorem Bv:CT prog 104=some (true,5):=by kernel_rfl
theorem Dd:CT prog 105=some (false,1):=by kernel_rfl
theorem UE:CT prog 106=some (false,1):=by kernel_rfl
theorem BF:CT prog 108=some (true,7):=by kernel_rfl
theorem UF:CT prog 115=some (true,3):=by kernel_rfl
theorem UG:CT prog 116=some (true,6):=by kernel_rfl
theorem fx_ty117:CT prog 117=some (true,6):=by kernel_rfl
theorem BV:CT prog 119=some (true,15):=by kernel_rfl
theorem fx_ty120:CT prog 120=some (false,1):=by kernel_rfl
theorem fx_ty135:CT prog 135=some (true,4):=by kernel_rfl
theorem fx_ty138:CT prog 138=some (false,1):=by kernel_rfl
theorem MB:CT prog 147=some (false,1):=by kernel_rfl
theorem PP:CT prog 168=some (true,3):=by kernel_rfl
theorem fx_ty179:CT prog 179=some (false,1):=by kernel_rfl
theorem He:CT prog 181=some (false,1):=by kernel_rfl
theorem Ew:CT prog 204=some (false,1):=by kernel_rfl
theorem CL:CT prog 22=some (false,1):=by kernel_rfl
theorem Bf:CT prog 23=some (false,1):=by kernel_rfl
theorem Eg:CT prog 24=some (false,1):=by kernel_rfl
theorem Ax:CT prog 26=some (true,5):=by kernel_rfl
theorem C0:CT prog 27=some (false,1):=by kernel_rfl
theorem AM:CT prog 3=some (false,1):=by kernel_rfl
theorem Bg:CT prog 31=some (true,2):=by kernel_rfl
theorem Xk:CT prog 32=some (false,1):=by kernel_rfl
theorem IA:CT prog 4=some (false,1):=by kernel_rfl
theorem fx_ty5:CT prog 5=some (false,1):=by kernel_rfl
theorem E3:CT prog 57=some (true,3):=by kernel_rfl
theorem GP:CT prog 73=some (false,1):=by kernel_rfl
theorem FM:CT prog 75=some (true,5):=by kernel_rfl
theorem G6:CT prog 79=some (true,4):=by kernel_rfl
theorem LH:CT prog 9=some (false,1):=by kernel_rfl
theorem Fv:CT prog 99=some (true,5):=by kernel_rfl
theorem fx_und179:(prog.underlying 179).isSome=true:=by kernel_rfl
theorem ZQ:(prog.underlying 188).isSome=true:=by kernel_rfl
theorem Fg:(prog.underlying 203).isSome=true:=by kernel_rfl
theorem ST:(prog.underlying 3).isSome=true:=by kernel_rfl
theorem Eh:(prog.underlying 5).isSome=true:=by kernel_rfl
theorem Hf:prog.underlying 147=some (.chan .both 27):=by kernel_rfl
theorem Wh:CA prog 102=some #[.slice none 0 0]:=by kernel_rfl
theorem Bs:CA prog 104=some #[.int .i64 0,.int .i64 0,.slice none 0 0,.slice none 0 0,.slice none 0 0]:=by kernel_rfl
theorem Wi:CA prog 105=some #[.slice none 0 0]:=by kernel_rfl
theorem BR:CA prog 108=some #[.int .i64 0,.int .i64 0,.slice none 0 0,.slice none 0 0,.slice none 0 0,.slice none 0 0,.map none]:=by kernel_rfl
theorem DG:CA prog 119=some #[.int .i64 0,.int .i64 0,.int .i64 0,.int .i64 0,.int .i64 0,.int .i64 0,.int .i64 0,.int .i64 0,.int .i64 0,.bool false,.bool false,.bool false,.bool false,.bool false,.bool false]:=by kernel_rfl
theorem Wj:CA prog 147=some #[.chan none]:=by kernel_rfl
theorem PQ:CA prog 168=some #[.int .i64 0,.int .i64 0,.int .i64 0]:=by kernel_rfl
theorem PR:CA prog 181=some #[.nilFunc]:=by kernel_rfl
theorem Wl:CA prog 204=some #[.int .u64 0]:=by kernel_rfl
theorem Mj:CA prog 26=some #[.int .i64 0,.int .i64 0,.slice none 0 0,.slice none 0 0,.slice none 0 0]:=by kernel_rfl
theorem ZR:CA prog 27=some #[.slice none 0 0]:=by kernel_rfl
theorem fx_zero3:CA prog 3=some #[.int .i64 0]:=by kernel_rfl
theorem CX:CA prog 31=some #[.int .i64 0,.int .i64 0]:=by kernel_rfl
theorem fx_zero32:CA prog 32=some #[.int .i64 0]:=by kernel_rfl
theorem fx_zero4:CA prog 4=some #[.bool false]:=by kernel_rfl
theorem Mk:CA prog 57=some #[.slice none 0 0,.slice none 0 0,.slice none 0 0]:=by kernel_rfl
theorem Ec:CA prog 75=some #[.int .i64 0,.int .i64 0,.int .i64 0,.int .i64 0,.int .i64 0]:=by kernel_rfl
theorem Ie:CA prog 79=some #[.int .i64 0,.int .i64 0,.int .i64 0,.int .i64 0]:=by kernel_rfl
theorem GJ:CA prog 99=some #[.string ⟨#[]⟩,.int .i64 0,.int .i64 0,.int .i64 0,.int .i64 0]:=by kernel_rfl
end Go.Ns
namespace Go.Ns
open Go.Conc Go.Proofs Go.Proofs.Tryz
attribute [local irreducible] Bi EL Tr Ab Cl B9
theorem Bd {W:Wk prog} {h:GH} (n:Int) (lo:Int) (hi:Int):Ab W 79 #[J n,J lo,J hi] h (fun v h'=>v=(.bool (decide (lo≤n∧n≤hi)):Value)∧h=h'):=by
 refine AK func79 Z (Nb Z) (Sq (Rg (As (.bool false) Z Z (Nl (BC (fun σ' ds' h'=>ds'=[]∧h=h'∧σ' 6=.bool (Q3g lo n hi)) ?_ ?_)))))
 ·refine Rg (Mv (J lo) Z Z (Mv (J n) Z Z (Pl Z (DO (a:=lo) (b:=n) Z Z (Mv (Ui lo n) Z Z (BN (p:=lo≤n) ?_ ?_))))))
  ·intro aa;exact Gg 3 10 (AD Z aa) Z (AA (v:=J n) Z (Gg 3 10 (AD Z aa) Z (AA (v:=J hi) Z (Gg 3 10 (AD Z aa) Z (DO (a:=n) (b:=hi) Z Z (Pk true (Ui n hi) Z (AD Z aa) Z (As (Ui n hi) Z Z (Nl (⟨Z,Z,Et (b:=(.bool (decide (n≤hi)):Value)) Z (congrArg Value.bool (by (simp [aa];done):decide (n≤hi)=(Q3g lo n hi)))⟩)))))))))
  ·intro aa;exact Gs 3 10 (AC Z aa) Z (Gs 3 10 (AC Z aa) Z (Gs 3 10 (AC Z aa) Z (Pk false (.bool false) Z (AC Z aa) Z (As (.bool false) Z Z (Nl (⟨Z,Z,Et (b:=(.bool false:Value)) Z (congrArg Value.bool (by (simp [aa];done):false=(Q3g lo n hi)))⟩))))))
 ·rintro _ _ _ ⟨ac,ab,ad⟩;subst ac;subst ab;exact Rt (⟨.inr Z,Ac Z (v:=.bool (Q3g lo n hi)) ad (⟨(by rfl),Z⟩)⟩)
theorem PT {W:Wk prog} {h:GH} (xl:Int) (xh:Int) (lo:Int) (hi:Int):Ab W 129 #[.agg #[J xl,J xh],J lo,J hi] h (fun v h'=>v=(.bool (decide ((lo≤xl∧xl≤xh)∧xh≤hi)):Value)∧h.Le h'):=by
 refine AK func129 Z (Nb Z) (Sq (Rg (Pl Z (Av (v:=.agg #[J xl,J xh]) (c:=#[J xl,J xh]) Z Z fun _ h2 _ ae ad _=>As (.bool false) Z Z (Nl (BC (fun σ' ds' h'=>ds'=[]∧h2=h'∧σ' 6=.bool (Q2t lo xl xh hi)) ?_ ?_))))))
 ·refine Rg (Mv (J lo) Z Z (Fa Cy Z Z (Ld (J xl) Z Z (Rd.one AM ad Z) (Pl Z (DO (a:=lo) (b:=xl) Z Z (Mv (Ui lo xl) Z Z (BN (p:=lo≤xl) ?_ ?_)))))))
  ·intro aa;refine Gg 4 11 (AD Z aa) Z (AI Cy Z (Gg 4 11 (AD Z aa) Z (AE (v:=J xl) Z (Rd.one AM ad Z) (Gg 4 11 (AD Z aa) Z (AI Cz Z (Gg 4 11 (AD Z aa) Z (AE (v:=J xh) Z (Rd.one AM ad Z) (Gg 4 11 (AD Z aa) Z (DO (a:=xl) (b:=xh) Z Z (Pk true (Ui xl xh) Z (AD Z aa) Z (Mv (Ui xl xh) Z Z (BN (p:=xl≤xh) ?_ ?_))))))))))))
   ·intro ab;exact Gg 11 18 (AD Z ab) Z (AI Cz Z (Gg 11 18 (AD Z ab) Z (AE (v:=J xh) Z (Rd.one AM ad Z) (Gg 11 18 (AD Z ab) Z (AA (v:=J hi) Z (Gg 11 18 (AD Z ab) Z (DO (a:=xh) (b:=hi) Z Z (Pk true (Ui xh hi) Z (AD Z ab) Z (As (Ui xh hi) Z Z (Nl (⟨Z,Z,Et (b:=(.bool (decide (xh≤hi)):Value)) Z (congrArg Value.bool (by (simp [aa,ab];done):decide (xh≤hi)=(Q2t lo xl xh hi)))⟩)))))))))))
   ·intro ab;exact Gs 11 18 (AC Z ab) Z (Gs 11 18 (AC Z ab) Z (Gs 11 18 (AC Z ab) Z (Gs 11 18 (AC Z ab) Z (Pk false (.bool false) Z (AC Z ab) Z (As (.bool false) Z Z (Nl (⟨Z,Z,Et (b:=(.bool false:Value)) Z (congrArg Value.bool (by (simp [aa,ab];done):false=(Q2t lo xl xh hi)))⟩)))))))
  ·intro aa;exact Gs 4 11 (AC Z aa) Z (Gs 4 11 (AC Z aa) Z (Gs 4 11 (AC Z aa) Z (Gs 4 11 (AC Z aa) Z (Gs 4 11 (AC Z aa) Z (Pk false (.bool false) Z (AC Z aa) Z (Mv (.bool false) Z Z (Gs 11 18 Z Z (Gs 11 18 Z Z (Gs 11 18 Z Z (Gs 11 18 Z Z (Pk false (.bool false) Z Z Z (As (.bool false) Z Z (Nl (⟨Z,Z,Et (b:=(.bool false:Value)) Z (congrArg Value.bool (by (simp [aa];done):false=(Q2t lo xl xh hi)))⟩))))))))))))))
 ·rintro _ _ _ ⟨af,ac,ag⟩;subst af;subst ac;exact Rt (⟨.inr Z,Ac Z (v:=.bool (Q2t lo xl xh hi)) ag (⟨(by rfl),ae⟩)⟩)
theorem UH {W:Wk prog} {h:GH} (xl:Int) (xh:Int):Ab W 201 #[.agg #[J xl,J xh]] h (fun v h'=>v=(.bool (decide (E7 xl xh)):Value)∧h.Le h'):=by
 refine AK func201 Z (Nb Z) (Sq (Rg (Pl Z (Av (v:=.agg #[J xl,J xh]) (c:=#[J xl,J xh]) Z Z fun _ h2 _ ae ah _=>As (.bool false) Z Z (Nl (BC (fun σ' ds' h'=>ds'=[]∧GH.Le h2 h'∧σ' 2=.bool (Q2n xl xh)) ?_ ?_))))))
 ·refine Rg (Ld (.agg #[J xl,J xh]) Z Z (AO Bg (Bx ah Z)) (Pl Z (A3 func129 PD Z Z Z ((PT xl xh 0 99 ).mono fun _ _ ai=>?_))));obtain ⟨rfl,ab⟩:=ai;refine Mv (.bool (decide ((0≤xl∧xl≤xh)∧xh≤99))) Z Z (BN (p:=(0≤xl∧xl≤xh)∧xh≤99) ?_ ?_)
  ·intro aa;exact Gg 2 5 (AD Z aa) Z (AI Cz Z (have ac:=ab.keep ah Z;Gg 2 5 (AD Z aa) Z (AE (v:=J xh) Z (Rd.one AM ac Z) (Gg 2 5 (AD Z aa) Z (AI Cy Z (Gg 2 5 (AD Z aa) Z (AE (v:=J xl) Z (Rd.one AM ac Z) (Gg 2 5 (AD Z aa) Z (BI (a:=xh) (b:=xl) Z Z (by omega) (Gg 2 5 (AD Z aa) Z (A2 (a:=xh-xl) (b:=3) Z Z (Pk true (.bool (decide ((xh-xl)<3))) Z (AD Z aa) Z (As (.bool (decide ((xh-xl)<3))) Z Z (Nl (⟨Z,ab,Et (b:=(.bool (decide ((xh-xl)<3)):Value)) Z (congrArg Value.bool (by (simp [aa];done):decide ((xh-xl)<3)=(Q2n xl xh)))⟩)))))))))))))))
  ·intro aa;exact Gs 2 5 (AC Z aa) Z (Gs 2 5 (AC Z aa) Z (Gs 2 5 (AC Z aa) Z (Gs 2 5 (AC Z aa) Z (Gs 2 5 (AC Z aa) Z (Gs 2 5 (AC Z aa) Z (Pk false (.bool false) Z (AC Z aa) Z (As (.bool false) Z Z (Nl (⟨Z,ab,Et (b:=(.bool false:Value)) Z (congrArg Value.bool (by (simp [aa];done):false=(Q2n xl xh)))⟩)))))))))
 ·rintro _ _ _ ⟨af,ad,ag⟩;subst af;exact Rt (⟨.inr Z,Ac Z (v:=.bool (Q2n xl xh)) ag (⟨(by rfl),(ae.trans ad)⟩)⟩)
theorem Fw {W:Wk prog} {h:GH} (b:Bool):Ab W 76 #[.bool b] h (fun v h'=>v=(J (if b then (0:Int) else 6):Value)∧h=h'):=by
 refine AK func76 Z (Nb Z) (Sq (Rg (As (J 0) Z Z (Nl (Sq (Sq (Rg (Mv (.bool b) Z Z (Pl Z (Df (b:=b) Z (Nl (DI (t:= !b) Z (fun aa=>?_) (fun aa=>?_)))))))))))))
 ·have hc1_:b=false:=by simpa using aa
  exact Sq (Rg (As (J 6) Z Z (Nl (Rt (⟨.inr Z,Ac Z (v:=J 6) Z (⟨(by simp_all),Z⟩)⟩)))))
 ·have hc1_:b=true:=by simpa using aa
  exact Sk (Sq (Rg (As (J 0) Z Z (Nl (Rt (⟨.inr Z,Ac Z (v:=J 0) Z (⟨(by simp_all),Z⟩)⟩))))))
theorem FZ {W:Wk prog} {h:GH} (b:Bool):Ab W 78 #[.bool b] h (fun v h'=>v=(J (if b then (0:Int) else 1):Value)∧h=h'):=by
 refine AK func78 Z (Nb Z) (Sq (Rg (As (J 0) Z Z (Nl (Sq (Sq (Rg (Mv (.bool b) Z Z (Pl Z (Df (b:=b) Z (Nl (DI (t:= !b) Z (fun aa=>?_) (fun aa=>?_)))))))))))))
 ·have hc1_:b=false:=by simpa using aa
  exact Sq (Rg (As (J 1) Z Z (Nl (Rt (⟨.inr Z,Ac Z (v:=J 1) Z (⟨(by simp_all),Z⟩)⟩)))))
 ·have hc1_:b=true:=by simpa using aa
  exact Sk (Sq (Rg (As (J 0) Z Z (Nl (Rt (⟨.inr Z,Ac Z (v:=J 0) Z (⟨(by simp_all),Z⟩)⟩))))))
theorem Ge {W:Wk prog} {h:GH} (d:Int) (m:Int) (gs:List Good) (gsv:Value) (ms:List AB) (msv:Value) (cs:List AF) (csv:Value) (n:Int) (hgs:AJ h gsv 5 BS gs) (hms:AJ h msv 5 BD ms) (hcs:AJ h csv 4 A7 cs):Ab W 77 #[.agg #[J d,J m,gsv,msv,csv],J n] h (fun v h'=>v=(.bool (decide (0≤n∧n≤(gs.length:Int)-1)):Value)∧h.Le h'):=by
 have ab:=hgs.len;have ac:=hms.len;have ad:=hcs.len;refine AK func77 Z (Nb Z) (Sq (Rg (Pl Z (Av (v:=.agg #[J d,J m,gsv,msv,csv]) (c:=#[J d,J m,gsv,msv,csv]) Z Z fun _ _ _ aa af _=>As (.bool false) Z Z (Nl (Sq (Rg (Mv (J n) Z Z (Fa A0 Z Z (Fa BL Z Z (Ld gsv Z Z (Rd.one CL af Z) (Pl Z (AY C9 (hgs.le aa) Z (Pl Z (BI (a:=(gs.length:Int)) (b:=1) Z Z (by omega) (Pl Z (A3 func79 B7 Z Z Z ((Bd n 0 ((gs.length:Int)-1) ).mono fun _ _ ae=>?_))))))))))))))))));obtain ⟨rfl,rfl⟩:=ae;exact As (.bool (decide (0≤n∧n≤((gs.length:Int)-1)))) Z Z (Nl (Rt (⟨.inr Z,Ac Z (v:=.bool (decide (0≤n∧n≤((gs.length:Int)-1)))) Z (⟨(by rfl),aa⟩)⟩)))
theorem NH {W:Wk prog} {h:GH} (d:Int) (m:Int) (gs:List Good) (gsv:Value) (ms:List AB) (msv:Value) (cs:List AF) (csv:Value) (n:Int) (hgs:AJ h gsv 5 BS gs) (hms:AJ h msv 5 BD ms) (hcs:AJ h csv 4 A7 cs):Ab W 108 #[.agg #[J d,J m,gsv,msv,csv],J n] h (fun v h'=>v=(.bool (decide (0≤n∧n≤(ms.length:Int)-1)):Value)∧h.Le h'):=by
 have ab:=hgs.len;have ac:=hms.len;have ad:=hcs.len;refine AK func108 Z (Nb Z) (Sq (Rg (Pl Z (Av (v:=.agg #[J d,J m,gsv,msv,csv]) (c:=#[J d,J m,gsv,msv,csv]) Z Z fun _ _ _ aa af _=>As (.bool false) Z Z (Nl (Sq (Rg (Mv (J n) Z Z (Fa A0 Z Z (Fa Az Z Z (Ld msv Z Z (Rd.one Bf af Z) (Pl Z (AY Ck (hms.le aa) Z (Pl Z (BI (a:=(ms.length:Int)) (b:=1) Z Z (by omega) (Pl Z (A3 func79 B7 Z Z Z ((Bd n 0 ((ms.length:Int)-1) ).mono fun _ _ ae=>?_))))))))))))))))));obtain ⟨rfl,rfl⟩:=ae;exact As (.bool (decide (0≤n∧n≤((ms.length:Int)-1)))) Z Z (Nl (Rt (⟨.inr Z,Ac Z (v:=.bool (decide (0≤n∧n≤((ms.length:Int)-1)))) Z (⟨(by rfl),aa⟩)⟩)))
theorem Ml {W:Wk prog} {h:GH} (p:AT) (i:Int) (hi0:0≤i) (hi1:i<6):Ab W 83 #[.agg (Ag p),J i] h (fun v h'=>v=(J (CG p ((i).toNat)):Value)∧h.Le h'):=by
 refine AK func83 Z (Nb Z) (Sq (Rg (Pl Z (Av (v:=.agg (Ag p)) (c:=Ag p) Z Z fun _ _ _ aa ad _=>As (J 0) Z Z (Nl (Sq (Sq (Rg (Mv (J i) Z Z (Fa Eu Z Z ?_))))))))));have ae:(0:Int)≤i:=by omega
 have af:i<((6:Nat):Int):=by omega
 refine Pl Z (CP HF Z Z ae af (Ld (.bool (p.lies (i.toNat))) Z Z (Rd.one IA ad (Kn (i:=i.toNat) (by omega))) (Nl (DI (t:=p.lies (i.toNat)) Z (fun ag=>?_) (fun ag=>?_)))))
 ·exact Sq (Rg (As (J 0) Z Z (Nl (Rt (⟨.inr Z,Ac Z (v:=J 0) Z (⟨(by simp_all [CG]),aa⟩)⟩)))))
 ·refine Sk (Sq (Rg (Mv (J i) Z Z (Fa Es Z Z ?_))));have ab:(0:Int)≤i:=by omega
  have ac:i<((6:Nat):Int):=by omega
  exact Pl Z (CP IY Z Z ab ac (Ld (J (p.many (i.toNat))) Z Z (Rd.one AM ad (OC (i:=i.toNat) (by omega))) (As (J (p.many (i.toNat))) Z Z (Nl (Rt (⟨.inr Z,Ac Z (v:=J (p.many (i.toNat))) Z (⟨(by simp_all [CG]),aa⟩)⟩))))))
theorem PU {W:Wk prog} {h:GH} (p:AT):Ab W 101 #[.agg (Ag p)] h (fun v h'=>v=(J (An p 6:Int):Value)∧h.Le h'):=by
 refine AK func101 Z (Nb Z) (Sq (Rg (Pl Z (Av (v:=.agg (Ag p)) (c:=Ag p) Z Z fun _ h2 _ ab al _=>As (J 0) Z Z (Nl (Sq (Rg (As (J 0) Z Z (Nl (Sq (Sq (Rg (Fa Eu Z Z (Ld (.agg #[.bool (p.lies 0),.bool (p.lies 1),.bool (p.lies 2),.bool (p.lies 3),.bool (p.lies 4),.bool (p.lies 5)]) Z Z (FB (o:=9) (ws:=#[.bool (p.lies 0),.bool (p.lies 1),.bool (p.lies 2),.bool (p.lies 3),.bool (p.lies 4),.bool (p.lies 5)]) fx_ty117 (Bx al Z) (Nb Z) Z) (Mv (J 0) Z Z (Nl (Bk (Ao (fun nn σ' ds' h'=>∃(k:Nat),nn=6-k∧(k≤6)∧ds'=[]∧GH.Le h2 h'∧σ' 2=J 0∧σ' 7=.agg #[.bool (p.lies 0),.bool (p.lies 1),.bool (p.lies 2),.bool (p.lies 3),.bool (p.lies 4),.bool (p.lies 5)]∧σ' 3=J (An p k:Int)∧σ' 8=J k) ⟨0,Z,(by omega),Z,Lr,Z,Z,Z,Z⟩ (fun nn _ _ _ ac=>?_)))))))))))))))))));obtain ⟨k,rfl,hk,am,ad,ak,ae,af,aa⟩:=ac;subst am;have hly:=OE p k;refine Sq (Rg (Pl Z (A2 (a:=(k:Int)) (b:=6) aa Z (Nl (Sq (AX (p:=(k:Int)<6) Z (fun ag=>?_) (fun ag=>?_)))))))
 ·refine Sk (Sq (Bk (Sq (Rg ?_))));have ah:(0:Int)≤(k:Int):=by omega
  have ai:(k:Int)<((6:Nat):Int):=by omega
  refine Pl Z (QO Yv ae aa ah ai (S8 (by omega)) (As (.bool (p.lies k)) Z Z (Nl (Sq (Rg (Mv (.bool (p.lies k)) Z Z (Nl (DI (t:=p.lies k) Z (fun aj=>?_) (fun aj=>?_)))))))))
  ·exact Rg (Mv (J (An p k:Int)) Z af (Ad (An p k:Int) 1 Z Z Z (by omega) (As (J ((An p k:Int)+1)) Z Z (Nl (Rg (Ad (k:Int) 1 Z aa Z (by omega) (Mv (J ((k:Int)+1)) Z Z (Nl (⟨_,by omega,k+1,Z,(by omega),Z,ad,ak,ae,(Et (b:=(J ((An p k:Int)+1):Value)) Z (by congr 1;simp_all [An])),Z⟩)))))))))
  ·exact Sk (Rg (Ad (k:Int) 1 Z aa Z (by omega) (Mv (J ((k:Int)+1)) Z Z (Nl (⟨_,by omega,k+1,Z,(by omega),Z,ad,ak,ae,(Et (b:=(J (An p k:Int):Value)) af (by congr 1;simp_all [An])),Z⟩)))))
 ·exact Xt (Sq (Rg (Mv (J (An p k:Int)) Z af (As (J (An p k:Int)) Z Z (Nl (Rt (⟨.inr Z,Ac Z (v:=J (An p k:Int)) Z (⟨(by obtain rfl:k=6:=(by omega);rfl),(ab.trans ad)⟩)⟩)))))))
theorem Kc {W:Wk prog} {h:GH} (a:List Int) (av:Value) (b:List Int) (bv:Value) (ha:AJ h av 1 eI a) (hb:AJ h bv 1 eI b):Ab W 22 #[av,bv] h (fun v h'=>v=(.bool (decide (a=b)):Value)∧h.Le h'):=by
 have ad:=ha.len;have ae:=hb.len;refine AK func22 Z (Nb Z) (Sq (Rg (As (.bool false) Z Z (Nl (Sq (Sq (Rg (Mv av Z Z (Pl Z (AY CE ha Z (Mv bv Z Z (Pl Z (AY CE hb Z (Pl Z (BE (a:=(a.length:Int)) (b:=(b.length:Int)) Z Z (Nl (AX (p:=¬(a.length:Int)=(b.length:Int)) Z (fun ar=>?_) (fun ar=>?_))))))))))))))))))
 ·exact Sq (Rg (As (.bool false) Z Z (Nl (Rt (⟨.inr Z,Ac Z (v:=.bool false) Z (⟨(by (rw [decide_eq_false (ne_len (by omega))];done)),Lr⟩)⟩)))))
 ·refine Sk (Sq (Sq (Rg (As (J 0) Z Z (Nl (Bk (Ao (fun nn σ' ds' h'=>∃(k:Nat),nn=a.length-k∧(k≤a.length)∧(a.take k=b.take k)∧ds'=[]∧GH.Le h h'∧σ' 0=av∧σ' 1=bv∧σ' 5=J k) ⟨0,Z,(by omega),(by rfl),Z,Lr,Z,Z,Z⟩ (fun nn _ _ _ au=>?_))))))));obtain ⟨k,rfl,hk,hs,x8,x9,af,aq,ac⟩:=au;subst x8;refine Sq (Sq (Rg (Mv (J k) Z ac (Mv av Z af (Pl Z (AY CE (ha.le x9) Z (Pl Z (A2 (a:=(k:Int)) (b:=(a.length:Int)) Z Z (Nl (AX (p:=(k:Int)<(a.length:Int)) Z (fun ag=>?_) (fun ag=>?_)))))))))))
  ·refine Sk (Sq (Bk (Sq (BO 8 false [1,6,10,16,21,26,30,36] Ae (by kernel_rfl) (tR Z Z (AA (v:=av) af vz) (tR Z Z (AA (v:=J k) ac vz) ?_))))));have ah:(0:Int)≤(k:Int):=by omega
   have ai:(k:Int)<((a.length:Nat):Int):=by omega
   refine tI Z Z AS ha Z Z ah ai fun aw aa aj=>have ak:AZ _ aw aa 1 (eI (a.getD k 0)):=AZ.getD 0 aj;tR Z Z (AE (v:=J (a.getD k 0)) Z (Be AM (ak.le x9) Z) vz) (tR Z Z (AA (v:=bv) aq vz) (tR Z Z (AA (v:=J k) ac vz) ?_));have al:(0:Int)≤(k:Int):=by omega
   have am:(k:Int)<((b.length:Nat):Int):=by omega
   refine tI Z Z AS hb Z Z al am fun ax ab an=>have ao:AZ _ ax ab 1 (eI (b.getD k 0)):=AZ.getD 0 an;tR Z Z (AE (v:=J (b.getD k 0)) Z (Be AM (ao.le x9) Z) vz) (tN (Pl Z (BE (a:=a.getD k 0) (b:=b.getD k 0) Z Z (Nl (AX (p:=¬(a.getD k 0)=(b.getD k 0)) Z (fun ap=>?_) (fun ap=>?_))))))
   ·exact Sq (Rg (As (.bool false) Z Z (Nl (Rt (⟨.inr Z,Ac Z (v:=.bool false) Z (⟨(by (rw [decide_eq_false (ne_getD (k:=k) (d:=0) ‹_›)])),x9⟩)⟩)))))
   ·exact Sk (Rg (Mv (J k) Z ac (Ad (k:Int) 1 Z Z Z (by omega) (As (J ((k:Int)+1)) Z Z (Nl (⟨_,by omega,k+1,Z,(by omega),(by exact OF 0 hs (by omega) (by omega) (by simp_all)),Z,x9,af,aq,Z⟩))))))
  ·exact Xt (Sq (Rg (As (.bool true) Z Z (Nl (Rt (⟨.inr Z,Ac Z (v:=.bool true) Z (⟨(by (rw [decide_eq_true (Rh hs hk ‹_› (by omega))];done)),x9⟩)⟩))))))
theorem PV {W:Wk prog} {h:GH} (a:List Int) (av:Value) (n:Int) (ha:AJ h av 1 eI a):Ab W 42 #[av,J n] h (fun v h'=>v=(.bool (decide (n ∈ a)):Value)∧h.Le h'):=by
 have ab:=ha.len;refine AK func42 Z (Nb Z) (Sq (Rg (As (.bool false) Z Z (Nl (Sq (Sq (Rg (As (J 0) Z Z (Nl (Bk (Ao (fun nn σ' ds' h'=>∃(k:Nat),nn=a.length-k∧(k≤a.length)∧(¬n ∈ a.take k)∧ds'=[]∧GH.Le h h'∧σ' 0=av∧σ' 1=J n∧σ' 5=J k) ⟨0,Z,(by omega),(by simp),Z,Lr,Z,Z,Z⟩ (fun nn _ _ _ aj=>?_))))))))))));obtain ⟨k,rfl,hk,hs,x6,x7,x8,x9,ac⟩:=aj;subst x6;refine Sq (Sq (Rg (Mv (J k) Z ac (Mv av Z x8 (Pl Z (AY CE (ha.le x7) Z (Pl Z (A2 (a:=(k:Int)) (b:=(a.length:Int)) Z Z (Nl (AX (p:=(k:Int)<(a.length:Int)) Z (fun ad=>?_) (fun ad=>?_)))))))))))
 ·refine Sk (Sq (Bk (Sq (Rg (Mv av Z x8 (Mv (J k) Z ac ?_))))));have ae:(0:Int)≤(k:Int):=by omega
  have af:(k:Int)<((a.length:Nat):Int):=by omega
  refine Pl Z (Ap AS ha Z Z ae af fun ak aa ag=>have ah:AZ _ ak aa 1 (eI (a.getD k 0)):=AZ.getD 0 ag;Ld (NE a k) Z Z (Be AM (ah.le x7) Z) (Mv (J n) Z x9 (Pl Z (Bq (a:=a.getD k 0) (b:=n) Z Z (Nl (AX (p:=(a.getD k 0)=n) Z (fun ai=>?_) (fun ai=>?_)))))))
  ·exact Sq (Rg (As (.bool true) Z Z (Nl (Rt (⟨.inr Z,Ac Z (v:=.bool true) Z (⟨(by (rw [decide_eq_true (has_hit (k:=k) ‹_› ‹_›)];done)),x7⟩)⟩)))))
  ·exact Sk (Rg (Mv (J k) Z ac (Ad (k:Int) 1 Z Z Z (by omega) (As (J ((k:Int)+1)) Z Z (Nl (⟨_,by omega,k+1,Z,(by omega),(by exact AAC ‹_› hs ‹_›),Z,x7,x8,x9,Z⟩))))))
 ·exact Xt (Sq (Rg (As (.bool false) Z Z (Nl (Rt (⟨.inr Z,Ac Z (v:=.bool false) Z (⟨(by (rw [decide_eq_false (has_end (k:=k) ‹_› hs)])),x7⟩)⟩))))))
theorem Fx {W:Wk prog} {h:GH} (n:Int) (lo:Int) (hi:Int):Ab W 59 #[J n,J lo,J hi] h (fun v h'=>v=(.bool (decide (lo≤n∧n≤hi)):Value)∧h=h'):=by
 refine AK func59 Z (Nb Z) (Sq (Rg (As (.bool false) Z Z (Nl (BC (fun σ' ds' h'=>ds'=[]∧h=h'∧σ' 6=.bool (Q3g lo n hi)) ?_ ?_)))))
 ·refine Rg (Mv (J n) Z Z (Mv (J lo) Z Z (Pl Z (Co (a:=n) (b:=lo) Z Z (Mv (Ui lo n) Z Z (BN (p:=lo≤n) ?_ ?_))))))
  ·intro aa;exact Gg 3 10 (AD Z aa) Z (AA (v:=J n) Z (Gg 3 10 (AD Z aa) Z (AA (v:=J hi) Z (Gg 3 10 (AD Z aa) Z (DO (a:=n) (b:=hi) Z Z (Pk true (Ui n hi) Z (AD Z aa) Z (As (Ui n hi) Z Z (Nl (⟨Z,Z,Et (b:=(.bool (decide (n≤hi)):Value)) Z (congrArg Value.bool (by (simp [aa];done):decide (n≤hi)=(Q3g lo n hi)))⟩)))))))))
  ·intro aa;exact Gs 3 10 (AC Z aa) Z (Gs 3 10 (AC Z aa) Z (Gs 3 10 (AC Z aa) Z (Pk false (.bool false) Z (AC Z aa) Z (As (.bool false) Z Z (Nl (⟨Z,Z,Et (b:=(.bool false:Value)) Z (congrArg Value.bool (by (simp [aa];done):false=(Q3g lo n hi)))⟩))))))
 ·rintro _ _ _ ⟨ac,ab,ad⟩;subst ac;subst ab;exact Rt (⟨.inr Z,Ac Z (v:=.bool (Q3g lo n hi)) ad (⟨(by rfl),Z⟩)⟩)
theorem NI {W:Wk prog} {h:GH} (xl:Int) (xh:Int) (lo:Int) (hi:Int):Ab W 65 #[.agg #[J xl,J xh],J lo,J hi] h (fun v h'=>v=(.bool (decide ((lo≤xl∧xl≤xh)∧xh≤hi)):Value)∧h.Le h'):=by
 refine AK func65 Z (Nb Z) (Sq (Rg (Pl Z (Av (v:=.agg #[J xl,J xh]) (c:=#[J xl,J xh]) Z Z fun _ h2 _ ae ad _=>As (.bool false) Z Z (Nl (BC (fun σ' ds' h'=>ds'=[]∧h2=h'∧σ' 6=.bool (Q2t lo xl xh hi)) ?_ ?_))))))
 ·refine Rg (Fa Cy Z Z (Ld (J xl) Z Z (Rd.one AM ad Z) (Mv (J lo) Z Z (Pl Z (Co (a:=xl) (b:=lo) Z Z (Mv (Ui lo xl) Z Z (BN (p:=lo≤xl) ?_ ?_)))))))
  ·intro aa;refine Gg 4 11 (AD Z aa) Z (AI Cz Z (Gg 4 11 (AD Z aa) Z (AE (v:=J xh) Z (Rd.one AM ad Z) (Gg 4 11 (AD Z aa) Z (AI Cy Z (Gg 4 11 (AD Z aa) Z (AE (v:=J xl) Z (Rd.one AM ad Z) (Gg 4 11 (AD Z aa) Z (Co (a:=xh) (b:=xl) Z Z (Pk true (Ui xl xh) Z (AD Z aa) Z (Mv (Ui xl xh) Z Z (BN (p:=xl≤xh) ?_ ?_))))))))))))
   ·intro ab;exact Gg 11 18 (AD Z ab) Z (AI Cz Z (Gg 11 18 (AD Z ab) Z (AE (v:=J xh) Z (Rd.one AM ad Z) (Gg 11 18 (AD Z ab) Z (AA (v:=J hi) Z (Gg 11 18 (AD Z ab) Z (DO (a:=xh) (b:=hi) Z Z (Pk true (Ui xh hi) Z (AD Z ab) Z (As (Ui xh hi) Z Z (Nl (⟨Z,Z,Et (b:=(.bool (decide (xh≤hi)):Value)) Z (congrArg Value.bool (by (simp [aa,ab];done):decide (xh≤hi)=(Q2t lo xl xh hi)))⟩)))))))))))
   ·intro ab;exact Gs 11 18 (AC Z ab) Z (Gs 11 18 (AC Z ab) Z (Gs 11 18 (AC Z ab) Z (Gs 11 18 (AC Z ab) Z (Pk false (.bool false) Z (AC Z ab) Z (As (.bool false) Z Z (Nl (⟨Z,Z,Et (b:=(.bool false:Value)) Z (congrArg Value.bool (by (simp [aa,ab];done):false=(Q2t lo xl xh hi)))⟩)))))))
  ·intro aa;exact Gs 4 11 (AC Z aa) Z (Gs 4 11 (AC Z aa) Z (Gs 4 11 (AC Z aa) Z (Gs 4 11 (AC Z aa) Z (Gs 4 11 (AC Z aa) Z (Pk false (.bool false) Z (AC Z aa) Z (Mv (.bool false) Z Z (Gs 11 18 Z Z (Gs 11 18 Z Z (Gs 11 18 Z Z (Gs 11 18 Z Z (Pk false (.bool false) Z Z Z (As (.bool false) Z Z (Nl (⟨Z,Z,Et (b:=(.bool false:Value)) Z (congrArg Value.bool (by (simp [aa];done):false=(Q2t lo xl xh hi)))⟩))))))))))))))
 ·rintro _ _ _ ⟨af,ac,ag⟩;subst af;subst ac;exact Rt (⟨.inr Z,Ac Z (v:=.bool (Q2t lo xl xh hi)) ag (⟨(by rfl),ae⟩)⟩)
theorem PW {W:Wk prog} {h:GH} (xl:Int) (xh:Int):Ab W 143 #[.agg #[J xl,J xh]] h (fun v h'=>v=(.bool (decide (E7 xl xh)):Value)∧h.Le h'):=by
 refine AK func143 Z (Nb Z) (Sq (Rg (Pl Z (Av (v:=.agg #[J xl,J xh]) (c:=#[J xl,J xh]) Z Z fun _ h2 _ ae ah _=>As (.bool false) Z Z (Nl (BC (fun σ' ds' h'=>ds'=[]∧GH.Le h2 h'∧σ' 2=.bool (Q2n xl xh)) ?_ ?_))))))
 ·refine Rg (Ld (.agg #[J xl,J xh]) Z Z (AO Bg (Bx ah Z)) (Pl Z (A3 func65 Q5 Z Z Z ((NI xl xh 0 99 ).mono fun _ _ ai=>?_))));obtain ⟨rfl,ab⟩:=ai;refine Mv (.bool (decide ((0≤xl∧xl≤xh)∧xh≤99))) Z Z (BN (p:=(0≤xl∧xl≤xh)∧xh≤99) ?_ ?_)
  ·intro aa;exact Gg 2 5 (AD Z aa) Z (AI Cz Z (have ac:=ab.keep ah Z;Gg 2 5 (AD Z aa) Z (AE (v:=J xh) Z (Rd.one AM ac Z) (Gg 2 5 (AD Z aa) Z (AI Cy Z (Gg 2 5 (AD Z aa) Z (AE (v:=J xl) Z (Rd.one AM ac Z) (Gg 2 5 (AD Z aa) Z (BI (a:=xh) (b:=xl) Z Z (by omega) (Gg 2 5 (AD Z aa) Z (A2 (a:=xh-xl) (b:=3) Z Z (Pk true (.bool (decide ((xh-xl)<3))) Z (AD Z aa) Z (As (.bool (decide ((xh-xl)<3))) Z Z (Nl (⟨Z,ab,Et (b:=(.bool (decide ((xh-xl)<3)):Value)) Z (congrArg Value.bool (by (simp [aa];done):decide ((xh-xl)<3)=(Q2n xl xh)))⟩)))))))))))))))
  ·intro aa;exact Gs 2 5 (AC Z aa) Z (Gs 2 5 (AC Z aa) Z (Gs 2 5 (AC Z aa) Z (Gs 2 5 (AC Z aa) Z (Gs 2 5 (AC Z aa) Z (Gs 2 5 (AC Z aa) Z (Pk false (.bool false) Z (AC Z aa) Z (As (.bool false) Z Z (Nl (⟨Z,ab,Et (b:=(.bool false:Value)) Z (congrArg Value.bool (by (simp [aa];done):false=(Q2n xl xh)))⟩)))))))))
 ·rintro _ _ _ ⟨af,ad,ag⟩;subst af;exact Rt (⟨.inr Z,Ac Z (v:=.bool (Q2n xl xh)) ag (⟨(by rfl),(ae.trans ad)⟩)⟩)
theorem UI {W:Wk prog} {h:GH} (c:Int):Ab W 156 #[.int .u8 c] h (fun v h'=>v=(.bool (decide (FD c)):Value)∧h=h'):=by
 refine AK func156 Z (Nb Z) (Sq (Rg (As (.bool false) Z Z (Nl (BC (fun σ' ds' h'=>ds'=[]∧h=h'∧σ' 2=.bool (Q3q c)) ?_ ?_)))))
 ·refine Rg (Mv (.int .u8 c) Z Z (Pl Z (Co (a:=c) (b:=97) Z Z (Mv (.bool (decide (97≤c))) Z Z (BN (p:=97≤c) ?_ ?_)))))
  ·intro aa;exact Gg 2 5 (AD Z aa) Z (AA (v:=.int .u8 c) Z (Gg 2 5 (AD Z aa) Z (DO (a:=c) (b:=122) Z Z (Pk true (.bool (decide (c≤122))) Z (AD Z aa) Z (As (.bool (decide (c≤122))) Z Z (Nl (⟨Z,Z,Et (b:=(.bool (decide (c≤122)):Value)) Z (congrArg Value.bool (by (simp [aa];done):decide (c≤122)=(Q3q c)))⟩)))))))
  ·intro aa;exact Gs 2 5 (AC Z aa) Z (Gs 2 5 (AC Z aa) Z (Pk false (.bool false) Z (AC Z aa) Z (As (.bool false) Z Z (Nl (⟨Z,Z,Et (b:=(.bool false:Value)) Z (congrArg Value.bool (by (simp [aa];done):false=(Q3q c)))⟩)))))
 ·rintro _ _ _ ⟨ac,ab,ad⟩;subst ac;subst ab;exact Rt (⟨.inr Z,Ac Z (v:=.bool (Q3q c)) ad (⟨(by rfl),Z⟩)⟩)
theorem Wm {W:Wk prog} {h:GH} (c:Int):Ab W 157 #[.int .u8 c] h (fun v h'=>v=(.bool (decide (FK c)):Value)∧h=h'):=by
 refine AK func157 Z (Nb Z) (Sq (Rg (As (.bool false) Z Z (Nl (BC (fun σ' ds' h'=>ds'=[]∧h=h'∧σ' 2=.bool (Q3s c)) ?_ ?_)))))
 ·refine Rg (Mv (.int .u8 c) Z Z (Pl Z (Co (a:=c) (b:=48) Z Z (Mv (.bool (decide (48≤c))) Z Z (BN (p:=48≤c) ?_ ?_)))))
  ·intro aa;exact Gg 2 5 (AD Z aa) Z (AA (v:=.int .u8 c) Z (Gg 2 5 (AD Z aa) Z (DO (a:=c) (b:=57) Z Z (Pk true (.bool (decide (c≤57))) Z (AD Z aa) Z (As (.bool (decide (c≤57))) Z Z (Nl (⟨Z,Z,Et (b:=(.bool (decide (c≤57)):Value)) Z (congrArg Value.bool (by (simp [aa];done):decide (c≤57)=(Q3s c)))⟩)))))))
  ·intro aa;exact Gs 2 5 (AC Z aa) Z (Gs 2 5 (AC Z aa) Z (Pk false (.bool false) Z (AC Z aa) Z (As (.bool false) Z Z (Nl (⟨Z,Z,Et (b:=(.bool false:Value)) Z (congrArg Value.bool (by (simp [aa];done):false=(Q3s c)))⟩)))))
 ·rintro _ _ _ ⟨ac,ab,ad⟩;subst ac;subst ab;exact Rt (⟨.inr Z,Ac Z (v:=.bool (Q3s c)) ad (⟨(by rfl),Z⟩)⟩)
theorem FN {W:Wk prog} {h:GH} (a:Int) (b:Int):Ab W 60 #[J a,J b] h (fun v h'=>v=(.agg #[J a,J b]:Value)∧h.Le h'):=by
 exact AK func60 Z (Nb Z) (Sq (Rg (Pl Z (Am CX fun _ _ ab aa ac _=>Nl (Sq (Rg (Mv (J a) Z Z (Mv (J b) Z Z (Pl Z (BB (cells:=#[J a,J b]) JJ CX (by kernel_rfl) (Pl Z (AL (v:=.agg #[J a,J b]) (c':=#[J a,J b]) Bg Z Z ac Z Z (by simp) Z fun _ ad ae=>Nl (Rt (⟨.inr Z,MM Z (v:=.agg #[J a,J b]) Z (AO Bg (Bx ad Z)) (⟨Z,(aa.upd (Ln Lr ab) ae)⟩)⟩))))))))))))))
theorem H0 {W:Wk prog} {h:GH} (d:Int) (m:Int) (gs:List Good) (gsv:Value) (ms:List AB) (msv:Value) (cs:List AF) (csv:Value) (n:Int) (hgs:AJ h gsv 5 BS gs) (hms:AJ h msv 5 BD ms) (hcs:AJ h csv 4 A7 cs):Ab W 110 #[.agg #[J d,J m,gsv,msv,csv],J n] h (fun v h'=>v=(.bool (decide ((0≤n∧n≤(ms.length:Int)-1)∧(ms.getD (n).toNat AB.z).kind=0)):Value)∧h.Le h'):=by
 have af:=hgs.len;have ag:=hms.len;have ah:=hcs.len;refine AK func110 Z (Nb Z) (Sq (Rg (Pl Z (Av (v:=.agg #[J d,J m,gsv,msv,csv]) (c:=#[J d,J m,gsv,msv,csv]) Z Z fun _ h5 _ ac ap _=>As (.bool false) Z Z (Nl (BC (fun σ' ds' h'=>ds'=[]∧GH.Le h5 h'∧σ' 4=.bool (decide ((0≤n∧n≤(ms.length:Int)-1)∧(((ms.getD (n.toNat) AB.z).kind)=0)))) ?_ ?_))))))
 ·refine Rg (Ld (.agg #[J d,J m,gsv,msv,csv]) Z Z (AO Bv (Bx ap Z)) (Mv (J n) Z Z (Pl Z (AW func108 PA Z Z ((NH d m gs gsv ms msv cs csv n (hgs.le ac) (hms.le ac) (hcs.le ac) ).mono fun _ _ ai=>?_)))));obtain ⟨rfl,ab⟩:=ai;refine Mv (.bool (decide (0≤n∧n≤(ms.length:Int)-1))) Z Z (BN (p:=0≤n∧n≤(ms.length:Int)-1) ?_ ?_)
  ·intro aa;refine Gg 3 8 (AD Z aa) Z (AI A0 Z (Gg 3 8 (AD Z aa) Z (AI Az Z (Gg 3 8 (AD Z aa) Z (AE (v:=msv) Z (Rd.one Bf (ab.keep ap Z) Z) (Gg 3 8 (AD Z aa) Z (AA (v:=J n) Z ?_)))))));have aj:(0:Int)≤n:=by omega
   have ak:n<((ms.length:Nat):Int):=by omega
   exact Gg 3 8 (AD Z aa) Z (Ap Cd hms Z Z aj ak fun aq ad al=>have am:AZ _ aq ad 5 (BD (ms.getD (n.toNat) AB.z)):=AZ.getD AB.z al;Gg 3 8 (AD Z aa) Z (AI D2 Z (Gg 3 8 (AD Z aa) Z (AE (v:=J ((ms.getD (n.toNat) AB.z).kind)) Z (Be GP (am.le (ac.trans ab)) Z) (Gg 3 8 (AD Z aa) Z (Bq (a:=(ms.getD (n.toNat) AB.z).kind) (b:=0) Z Z (Pk true (.bool (decide (((ms.getD (n.toNat) AB.z).kind)=0))) Z (AD Z aa) Z (As (.bool (decide (((ms.getD (n.toNat) AB.z).kind)=0))) Z Z (Nl (⟨Z,ab,Et (b:=(.bool (decide (((ms.getD (n.toNat) AB.z).kind)=0)):Value)) Z (congrArg Value.bool (by (simp [aa];done):decide (((ms.getD (n.toNat) AB.z).kind)=0)=(decide ((0≤n∧n≤(ms.length:Int)-1)∧(((ms.getD (n.toNat) AB.z).kind)=0)))))⟩))))))))))
  ·intro aa;exact Gs 3 8 (AC Z aa) Z (Gs 3 8 (AC Z aa) Z (Gs 3 8 (AC Z aa) Z (Gs 3 8 (AC Z aa) Z (Gs 3 8 (AC Z aa) Z (Gs 3 8 (AC Z aa) Z (Gs 3 8 (AC Z aa) Z (Gs 3 8 (AC Z aa) Z (Pk false (.bool false) Z (AC Z aa) Z (As (.bool false) Z Z (Nl (⟨Z,ab,Et (b:=(.bool false:Value)) Z (congrArg Value.bool (by (simp [aa];done):false=(decide ((0≤n∧n≤(ms.length:Int)-1)∧(((ms.getD (n.toNat) AB.z).kind)=0)))))⟩)))))))))))
 ·rintro _ _ _ ⟨an,ae,ao⟩;subst an;exact Rt (⟨.inr Z,Ac Z (v:=.bool (decide ((0≤n∧n≤(ms.length:Int)-1)∧(((ms.getD (n.toNat) AB.z).kind)=0)))) ao (⟨(by rfl),(ac.trans ae)⟩)⟩)
theorem ZS {W:Wk prog} {h:GH} (d:Int) (m:Int) (gs:List Good) (gsv:Value) (ms:List AB) (msv:Value) (cs:List AF) (csv:Value) (hgs:AJ h gsv 5 BS gs) (hms:AJ h msv 5 BD ms) (hcs:AJ h csv 4 A7 cs):Ab W 194 #[.agg #[J d,J m,gsv,msv,csv]] h (fun v h'=>v=(J (ET d m):Value)∧h.Le h'):=by
 have ad:=hgs.len;have ae:=hms.len;have af:=hcs.len;refine AK func194 Z (Nb Z) (Sq (Rg (Pl Z (Av (v:=.agg #[J d,J m,gsv,msv,csv]) (c:=#[J d,J m,gsv,msv,csv]) Z Z fun _ h5 _ ab al _=>As (J 0) Z Z (Nl (Sq (BC (fun σ' ds' h'=>ds'=[]∧h5=h'∧σ' 2=J 0∧σ' 14=.bool (Q2w d m)) ?_ ?_)))))))
 ·refine Rg (Fa A0 Z Z (Fa CZ Z Z (Ld (J d) Z Z (Rd.one AM al Z) (Pl Z (A3 func79 B7 Z Z Z ((Bd d 1 99 ).mono fun _ _ ag=>?_))))));obtain ⟨rfl,rfl⟩:=ag;refine Pl Z (BT (p:=1≤d∧d≤99) Z (Mv (.bool (decide (¬(1≤d∧d≤99)))) Z Z (BN (p:=¬(1≤d∧d≤99)) ?_ ?_)))
  ·intro aa;exact Gs 5 8 (AD Z aa) Z (Gs 5 8 (AD Z aa) Z (Gs 5 8 (AD Z aa) Z (Gs 5 8 (AD Z aa) Z (Gs 5 8 (AD Z aa) Z (Pk true (.bool true) Z (AD Z aa) Z (Nl (⟨Z,Z,Z,Et (b:=(.bool true:Value)) Z (congrArg Value.bool (by (simp [aa];done):true=(Q2w d m)))⟩)))))))
  ·intro aa;refine Gg 5 8 (AC Z aa) Z (AI A0 Z (Gg 5 8 (AC Z aa) Z (AI FV Z (Gg 5 8 (AC Z aa) Z (AE (v:=J m) Z (Rd.one AM al Z) (Gg 5 8 (AC Z aa) Z (A3 func79 B7 Z Z Z ((Bd m 0 2 ).mono fun _ _ ah=>?_))))))));obtain ⟨rfl,rfl⟩:=ah;exact Gg 5 8 (AC Z aa) Z (BT (p:=0≤m∧m≤2) Z (Pk false (.bool (Q3y m)) Z (AC Z aa) Z (Nl (⟨Z,Z,Z,Et (b:=(.bool (Q3y m):Value)) Z (congrArg Value.bool (by (simp [aa];done):decide (¬(0≤m∧m≤2))=(Q2w d m)))⟩))))
 ·rintro _ _ _ ⟨ai,ac,am,aj⟩;subst ai;subst ac;refine AX (p:=(¬(1≤d∧d≤99))∨(¬(0≤m∧m≤2))) aj (fun ak=>?_) (fun ak=>?_)
  ·exact Sq (Rg (As (J 1) Z Z (Nl (Rt (⟨.inr Z,Ac Z (v:=J 1) Z (⟨(by simp_all [ET]),ab⟩)⟩)))))
  ·exact Sk (Sq (Rg (As (J 0) Z Z (Nl (Rt (⟨.inr Z,Ac Z (v:=J 0) Z (⟨(by simp_all [ET]),ab⟩)⟩))))))
theorem QA {W:Wk prog} {h:GH} (xs:List Int) (xsv:Value) (fv:Value) (p:Int→Bool) (hxs:AJ h xsv 1 eI xs) (hf:∀x ∈ xs,∀h1,h.Le h1→Cl W fv #[J x] h1 fun v h2=>v=.bool (p x)∧h1.Le h2):Ab W 139 #[xsv,fv] h (fun v h'=>v=(J (idxOf p xs):Value)∧h.Le h'):=by
 have ac:=hxs.len;refine AK func139 Z (Nb Z) (Sq (Rg (As (J 0) Z Z (Nl (Sq (Sq (Rg (Mv xsv Z Z (Pl Z (AY CE hxs Z (Mv (J 0) Z Z (Nl (Bk (Ao (fun nn σ' ds' h'=>∃(k:Nat),nn=xs.length-k∧(k≤xs.length)∧((xs.take k).any p=false)∧ds'=[]∧GH.Le h h'∧σ' 0=xsv∧σ' 1=fv∧σ' 7=J (xs.length:Int)∧σ' 8=J k) ⟨0,Z,(by omega),(by simp),Z,Lr,Z,Z,Z,Z⟩ (fun nn _ _ _ am=>?_)))))))))))))));obtain ⟨k,rfl,hk,hs,x6,x7,x8,x9,al,ad⟩:=am;subst x6;refine Sq (Rg (Pl Z (A2 (a:=(k:Int)) (b:=(xs.length:Int)) ad al (Nl (Sq (AX (p:=(k:Int)<(xs.length:Int)) Z (fun ae=>?_) (fun ae=>?_)))))))
 ·refine Sk (Sq (Bk (Sq (Rg (Mv (J k) Z ad (As (J k) Z Z (Nl (Sq (Rg (Mv fv Z x9 (Mv xsv Z x8 (Mv (J k) Z Z ?_))))))))))));have af:(0:Int)≤(k:Int):=by omega
  have ag:(k:Int)<((xs.length:Nat):Int):=by omega
  refine Pl Z (Ap AS hxs Z Z af ag fun an ab ah=>have ai:AZ _ an ab 1 (eI (xs.getD k 0)):=AZ.getD 0 ah;Ld (NE xs k) Z Z (Be AM (ai.le x7) Z) (Pl Z (Is Z (vs:=#[J (xs.getD k 0)]) (by simp only [List.map_toArray,List.map_cons,List.map_nil,AU] <;> rfl) ((hf (xs.getD k 0) (CB (by omega)) _ x7).mono fun _ _ aj=>?_))));obtain ⟨rfl,aa⟩:=aj;refine Nl (DI (t:=p (xs.getD k 0)) Z (fun ak=>?_) (fun ak=>?_))
  ·exact Sq (Rg (Mv (J k) Z Z (As (J k) Z Z (Nl (Rt (⟨.inr Z,Ac Z (v:=J k) Z (⟨(by (rw [MP (k:=k) (by omega) hs ‹_›];done)),(x7.trans aa)⟩)⟩))))))
  ·exact Sk (Rg (Ad (k:Int) 1 Z ad Z (by omega) (Mv (J ((k:Int)+1)) Z Z (Nl (⟨_,by omega,k+1,Z,(by omega),(by exact LZ (d:=0) (by omega) hs ‹_›),Z,(x7.trans aa),x8,x9,al,Z⟩)))))
 ·exact Xt (Sq (Rg (As (J (-1)) Z Z (Nl (Rt (⟨.inr Z,Ac Z (v:=J (-1)) Z (⟨(by (rw [Ko (k:=k) (by omega) hs])),x7⟩)⟩))))))
theorem If {W:Wk prog} {h:GH} (xs:List Int) (xsv:Value) (fv:Value) (p:Int→Bool) (hxs:AJ h xsv 1 eI xs) (hf:∀x ∈ xs,∀h1,h.Le h1→Cl W fv #[J x] h1 fun v h2=>v=.bool (p x)∧h1.Le h2):Ab W 92 #[xsv,fv] h (fun v h'=>v=(.bool (xs.any p):Value)∧h.Le h'):=by
 have aa:=hxs.len;refine AK func92 Z (Nb Z) (Sq (Rg (As (.bool false) Z Z (Nl (Sq (Rg (Mv xsv Z Z (Mv fv Z Z (Pl Z (AW func139 WD Z Z ((QA xs xsv fv p hxs (fun x hx h1 l1=>hf x hx h1 (GH.Le.trans Lr l1))).mono fun _ _ ac=>?_)))))))))));obtain ⟨rfl,ab⟩:=ac;exact Pl Z (Co (a:=idxOf p xs) (b:=0) Z Z (As (.bool (decide (0≤(idxOf p xs)))) Z Z (Nl (Rt (⟨.inr Z,Ac Z (v:=.bool (decide (0≤(idxOf p xs)))) Z (⟨(by rw [show decide (0≤idxOf p xs)=xs.any p from by rw [Bool.eq_iff_iff];simp [IK]]),ab⟩)⟩)))))
theorem NW {W:Wk prog} {h:GH} (xs:List AF) (xsv:Value) (fv:Value) (p:AF→Bool) (hxs:AJ h xsv 4 A7 xs) (hf:∀x ∈ xs,∀h1,h.Le h1→Cl W fv #[.agg #[J x.good,J x.day,J x.low,J x.high]] h1 fun v h2=>v=.bool (p x)∧h1.Le h2):Ab W 158 #[xsv,fv] h (fun v h'=>v=(J (idxOf p xs):Value)∧h.Le h'):=by
 have ac:=hxs.len;refine AK func158 Z (Nb Z) (Sq (Rg (As (J 0) Z Z (Nl (Sq (Sq (Rg (Mv xsv Z Z (Pl Z (AY G5 hxs Z (Mv (J 0) Z Z (Nl (Bk (Ao (fun nn σ' ds' h'=>∃(k:Nat),nn=xs.length-k∧(k≤xs.length)∧((xs.take k).any p=false)∧ds'=[]∧GH.Le h h'∧σ' 0=xsv∧σ' 1=fv∧σ' 7=J (xs.length:Int)∧σ' 8=J k) ⟨0,Z,(by omega),(by simp),Z,Lr,Z,Z,Z,Z⟩ (fun nn _ _ _ am=>?_)))))))))))))));obtain ⟨k,rfl,hk,hs,x6,x7,x8,x9,al,ad⟩:=am;subst x6;refine Sq (Rg (Pl Z (A2 (a:=(k:Int)) (b:=(xs.length:Int)) ad al (Nl (Sq (AX (p:=(k:Int)<(xs.length:Int)) Z (fun ae=>?_) (fun ae=>?_)))))))
 ·refine Sk (Sq (Bk (Sq (Rg (Mv (J k) Z ad (As (J k) Z Z (Nl (Sq (Rg (Mv fv Z x9 (Mv xsv Z x8 (Mv (J k) Z Z ?_))))))))))));have af:(0:Int)≤(k:Int):=by omega
  have ag:(k:Int)<((xs.length:Nat):Int):=by omega
  refine Pl Z (Ap Ju hxs Z Z af ag fun an ab ah=>have ai:AZ _ an ab 4 (A7 (Xh xs k)):=AZ.getD AF.z ah;Ld (.agg (Q2d xs k)) Z Z (AO G6 (ai.le x7)) (Pl Z (Is Z (vs:=#[.agg (Q2d xs k)]) (by simp only [List.map_toArray,List.map_cons,List.map_nil,AU] <;> rfl) ((hf (Xh xs k) (CB (by omega)) _ x7).mono fun _ _ aj=>?_))));obtain ⟨rfl,aa⟩:=aj;refine Nl (DI (t:=p (Xh xs k)) Z (fun ak=>?_) (fun ak=>?_))
  ·exact Sq (Rg (Mv (J k) Z Z (As (J k) Z Z (Nl (Rt (⟨.inr Z,Ac Z (v:=J k) Z (⟨(by (rw [MP (k:=k) (by omega) hs ‹_›];done)),(x7.trans aa)⟩)⟩))))))
  ·exact Sk (Rg (Ad (k:Int) 1 Z ad Z (by omega) (Mv (J ((k:Int)+1)) Z Z (Nl (⟨_,by omega,k+1,Z,(by omega),(by exact LZ (d:=AF.z) (by omega) hs ‹_›),Z,(x7.trans aa),x8,x9,al,Z⟩)))))
 ·exact Xt (Sq (Rg (As (J (-1)) Z Z (Nl (Rt (⟨.inr Z,Ac Z (v:=J (-1)) Z (⟨(by (rw [Ko (k:=k) (by omega) hs])),x7⟩)⟩))))))
theorem LI {W:Wk prog} {h:GH} (xs:List AF) (xsv:Value) (fv:Value) (p:AF→Bool) (hxs:AJ h xsv 4 A7 xs) (hf:∀x ∈ xs,∀h1,h.Le h1→Cl W fv #[.agg #[J x.good,J x.day,J x.low,J x.high]] h1 fun v h2=>v=.bool (p x)∧h1.Le h2):Ab W 144 #[xsv,fv] h (fun v h'=>v=(.bool (xs.any p):Value)∧h.Le h'):=by
 have aa:=hxs.len;refine AK func144 Z (Nb Z) (Sq (Rg (As (.bool false) Z Z (Nl (Sq (Rg (Mv xsv Z Z (Mv fv Z Z (Pl Z (AW func158 WL Z Z ((NW xs xsv fv p hxs (fun x hx h1 l1=>hf x hx h1 (GH.Le.trans Lr l1))).mono fun _ _ ac=>?_)))))))))));obtain ⟨rfl,ab⟩:=ac;exact Pl Z (Co (a:=idxOf p xs) (b:=0) Z Z (As (.bool (decide (0≤(idxOf p xs)))) Z Z (Nl (Rt (⟨.inr Z,Ac Z (v:=.bool (decide (0≤(idxOf p xs)))) Z (⟨(by rw [show decide (0≤idxOf p xs)=xs.any p from by rw [Bool.eq_iff_iff];simp [IK]]),ab⟩)⟩)))))
theorem PX {W:Wk prog} {h:GH} (xs:List Good) (xsv:Value) (fv:Value) (p:Good→Bool) (hxs:AJ h xsv 5 BS xs) (hf:∀x ∈ xs,∀h1,h.Le h1→Cl W fv #[.agg #[.string x.name,J x.cost,J x.pack,J x.low,J x.high]] h1 fun v h2=>v=.bool (p x)∧h1.Le h2):Ab W 202 #[xsv,fv] h (fun v h'=>v=(J (idxOf p xs):Value)∧h.Le h'):=by
 have ac:=hxs.len;refine AK func202 Z (Nb Z) (Sq (Rg (As (J 0) Z Z (Nl (Sq (Sq (Rg (Mv xsv Z Z (Pl Z (AY C9 hxs Z (Mv (J 0) Z Z (Nl (Bk (Ao (fun nn σ' ds' h'=>∃(k:Nat),nn=xs.length-k∧(k≤xs.length)∧((xs.take k).any p=false)∧ds'=[]∧GH.Le h h'∧σ' 0=xsv∧σ' 1=fv∧σ' 7=J (xs.length:Int)∧σ' 8=J k) ⟨0,Z,(by omega),(by simp),Z,Lr,Z,Z,Z,Z⟩ (fun nn _ _ _ am=>?_)))))))))))))));obtain ⟨k,rfl,hk,hs,x6,x7,x8,x9,al,ad⟩:=am;subst x6;refine Sq (Rg (Pl Z (A2 (a:=(k:Int)) (b:=(xs.length:Int)) ad al (Nl (Sq (AX (p:=(k:Int)<(xs.length:Int)) Z (fun ae=>?_) (fun ae=>?_)))))))
 ·refine Sk (Sq (Bk (Sq (Rg (Mv (J k) Z ad (As (J k) Z Z (Nl (Sq (Rg (Mv fv Z x9 (Mv xsv Z x8 (Mv (J k) Z Z ?_))))))))))));have af:(0:Int)≤(k:Int):=by omega
  have ag:(k:Int)<((xs.length:Nat):Int):=by omega
  refine Pl Z (Ap EG hxs Z Z af ag fun an ab ah=>have ai:AZ _ an ab 5 (Q3z xs k):=AZ.getD Good.z ah;Ld (.agg (Q28 xs k)) Z Z (AO Fv (ai.le x7)) (Pl Z (Is Z (vs:=#[.agg (Q28 xs k)]) (by simp only [List.map_toArray,List.map_cons,List.map_nil,AU] <;> rfl) ((hf (xs.getD k Good.z) (CB (by omega)) _ x7).mono fun _ _ aj=>?_))));obtain ⟨rfl,aa⟩:=aj;refine Nl (DI (t:=p (xs.getD k Good.z)) Z (fun ak=>?_) (fun ak=>?_))
  ·exact Sq (Rg (Mv (J k) Z Z (As (J k) Z Z (Nl (Rt (⟨.inr Z,Ac Z (v:=J k) Z (⟨(by (rw [MP (k:=k) (by omega) hs ‹_›];done)),(x7.trans aa)⟩)⟩))))))
  ·exact Sk (Rg (Ad (k:Int) 1 Z ad Z (by omega) (Mv (J ((k:Int)+1)) Z Z (Nl (⟨_,by omega,k+1,Z,(by omega),(by exact LZ (d:=Good.z) (by omega) hs ‹_›),Z,(x7.trans aa),x8,x9,al,Z⟩)))))
 ·exact Xt (Sq (Rg (As (J (-1)) Z Z (Nl (Rt (⟨.inr Z,Ac Z (v:=J (-1)) Z (⟨(by (rw [Ko (k:=k) (by omega) hs])),x7⟩)⟩))))))
theorem MC {W:Wk prog} {h:GH} (xs:List Good) (xsv:Value) (fv:Value) (p:Good→Bool) (hxs:AJ h xsv 5 BS xs) (hf:∀x ∈ xs,∀h1,h.Le h1→Cl W fv #[.agg #[.string x.name,J x.cost,J x.pack,J x.low,J x.high]] h1 fun v h2=>v=.bool (p x)∧h1.Le h2):Ab W 199 #[xsv,fv] h (fun v h'=>v=(.bool (xs.any p):Value)∧h.Le h'):=by
 have aa:=hxs.len;refine AK func199 Z (Nb Z) (Sq (Rg (As (.bool false) Z Z (Nl (Sq (Rg (Mv xsv Z Z (Mv fv Z Z (Pl Z (AW func202 Wf Z Z ((PX xs xsv fv p hxs (fun x hx h1 l1=>hf x hx h1 (GH.Le.trans Lr l1))).mono fun _ _ ac=>?_)))))))))));obtain ⟨rfl,ab⟩:=ac;exact Pl Z (Co (a:=idxOf p xs) (b:=0) Z Z (As (.bool (decide (0≤(idxOf p xs)))) Z Z (Nl (Rt (⟨.inr Z,Ac Z (v:=.bool (decide (0≤(idxOf p xs)))) Z (⟨(by rw [show decide (0≤idxOf p xs)=xs.any p from by rw [Bool.eq_iff_iff];simp [IK]]),ab⟩)⟩)))))
theorem QB {W:Wk prog} {h:GH} (n:Int):Ab W 155 #[J n] h (fun v h'=>v=(.bool (decide (¬(0≤n∧n≤99))):Value)∧h=h'):=by
 refine AK func155 Z (Nb Z) (Sq (Rg (As (.bool false) Z Z (Nl (Sq (Rg (Mv (J n) Z Z (Pl Z (A3 func79 B7 Z Z Z ((Bd n 0 99 ).mono fun _ _ aa=>?_))))))))));obtain ⟨rfl,rfl⟩:=aa;exact Pl Z (BT (p:=0≤n∧n≤99) Z (As (.bool (Q3v n)) Z Z (Nl (Rt (⟨.inr Z,Ac Z (v:=.bool (Q3v n)) Z (⟨Z,Z⟩)⟩)))))
theorem MD {W:Wk prog} {h:GH} (l:List Int) (lv:Value) (m:Int) (hl:AJ h lv 1 eI l):Ab W 140 #[lv,J m] h (fun v h'=>v=(J (BA l m):Value)∧h.Le h'):=by
 have ab:=hl.len;refine AK func140 Z (Nb Z) (Sq (Rg (As (J 0) Z Z (Nl (Sq (Bk (Sq (Rg (Mv lv Z Z (Pl Z (AY CE hl Z (Mv (J m) Z Z (Pl Z (BE (a:=(l.length:Int)) (b:=m) Z Z (As (.bool (decide (¬(l.length:Int)=m))) Z Z (Nl (AX (p:=¬(l.length:Int)=m) Z (fun ac=>?_) (fun ac=>?_))))))))))))))))))
 ·exact Sq (Rg (As (J 2) Z Z (Nl (Rt (⟨.inr Z,Ac Z (v:=J 2) Z (⟨(by simp_all [BA]),Lr⟩)⟩)))))
 ·refine Sq (Rg (Mv lv Z Z ?_));have ad:∀x ∈ l,∀h1,GH.Le h h1→Cl W (.func (.func 155) #[] #[]) #[J x] h1 fun v h2=>v=.bool ((fun x=>decide (¬(0≤x∧x≤99))) x)∧h1.Le h2:=by
   intro x hx h1 _;exact CF func155 WI Z ((QB x ).mono fun v h2 hp=>⟨hp.1,by rw [←hp.2];exact GH.Le.refl _⟩)
  refine Pl Z (AW func92 Q7 Z Z ((If l lv (.func (.func 155) #[] #[]) (fun x=>decide (¬(0≤x∧x≤99))) hl ad).mono fun _ _ ae=>?_));obtain ⟨rfl,aa⟩:=ae;refine As (.bool (l.any (fun x=>decide (¬(0≤x∧x≤99))))) Z Z (Nl (DI (t:=l.any (fun x=>decide (¬(0≤x∧x≤99)))) Z (fun af=>?_) (fun af=>?_)))
  ·exact Sq (Rg (As (J 1) Z Z (Nl (Rt (⟨.inr Z,Ac Z (v:=J 1) Z (⟨(by simp_all [BA]),aa⟩)⟩)))))
  ·exact Sk (Sq (Rg (As (J 0) Z Z (Nl (Rt (⟨.inr Z,Ac Z (v:=J 0) Z (⟨(by simp_all [BA]),aa⟩)⟩))))))
end Go.Ns
