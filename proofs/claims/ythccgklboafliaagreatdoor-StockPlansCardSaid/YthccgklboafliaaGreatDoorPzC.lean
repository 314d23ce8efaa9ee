/- Rules and walks, part 3 of 6. No conditions. -/
import Derived.Carry
import Derived.Conc.LeavingOf
import Derived.LaidMore
import Derived.OpenShut
import Derived.ProofKit
import Derived.Test.YthccgklboafliaaGreatDoorProg
import Derived.Test.YthccgklboafliaaGreatDoorPzA
import Derived.Test.YthccgklboafliaaGreatDoorPzB
set_option linter.unusedVariables false
set_option linter.unusedSimpArgs false
set_option linter.unnecessarySimpa false
set_option linter.unusedSectionVars false
namespace Go.Ns
open Go.Conc
section
variable {P:Program} {M:Type}
structure Pa (P:Program) (M:Type) where
 W:Wk P
 Rep:Nat→M→Value→GH→Prop
 main:Bool
 fn:FuncId
 rd:Option Nat
 N:Nat
def Pa.wk (F:Pa P M):Option (Fe M)→Wk P
 | none=>F.W
 | some s=>⟨F.main,E0 P F.main (IS P F.Rep F.W.K s F.main),LB _ _⟩
abbrev Pa.env (F:Pa P M) (i:Option (Fe M)):GY P:=⟨F.wk i,F.fn,F.rd,F.N⟩
abbrev Ta (M:Type):=Option (Fe M)→Exit→(Nat→Value)→List Deferred→GH→Prop
def K7 (F:Pa P M) (c:Code) (i:Option (Fe M)) (σ:Nat→Value) (ds:List Deferred) (h:GH) (Q:Ta M):Prop:=
 ∀(b:Frame) (k:List Item) (cs:List Frame) (L:Option (Fe M)→Lv) (t:Array Value),b.fn=F.fn→b.roundOf=F.rd→(∀i,K9 (F.wk i) b cs (L i))→Bj t F.N σ→
  (∀i e σ' ds' h',Q i e σ' ds' h'→∀t',Bj t' F.N σ'→C3 (F.wk i) (L i) b k cs e t' ds' h')→(F.wk i).K (G (Ce b t ds (.code c ::k)) cs) h
def Lb (F:Pa P M) (ops:Array Oper) (l:List Oper) (i:Option (Fe M)) (σ:Nat→Value) (ds:List Deferred) (h:GH) (Q:Ta M):Prop:=
 ∀(n:Nat) (b:Frame) (k:List Item) (cs:List Frame) (L:Option (Fe M)→Lv) (t:Array Value),(∀j,l[j]? =ops[n+j]?)→b.fn=F.fn→b.roundOf=F.rd→(∀i,K9 (F.wk i) b cs (L i))→Bj t F.N σ→
  (∀i e σ' ds' h',Q i e σ' ds' h'→∀t',Bj t' F.N σ'→C3 (F.wk i) (L i) b k cs e t' ds' h')→(F.wk i).K (G (Ce b t ds (.inRegion ops (List.range' n l.length) ::k)) cs) h
variable {F:Pa P M} {i:Option (Fe M)} {σ:Nat→Value} {ds:List Deferred} {h:GH} {Q:Ta M}
theorem IC {c:Code} (x:Tr (F.env i) c σ ds h (Q i)):K7 F c i σ ds h Q:=fun b k cs L t hb hr hl hs hc=>x b k cs (L i) t hb hr (hl i) hs (hc i)
theorem Lc {x y:Code} (a:K7 F x i σ ds h (fun i e σ' ds' h'=>match e with | .normal=>K7 F y i σ' ds' h' Q | e=>Q i e σ' ds' h')):K7 F (.seq x y) i σ ds h Q:=by
 intro b k cs L t hb hr hl hs hc;refine Wk.go (Ce b t ds (.code x ::.code y ::k)) (fun w=>by rw [A6];simp [stepG.exec,Ce,G]) ?_;refine a b (.code y ::k) cs L t hb hr hl hs fun i e σ' ds' h' q t' ht'=>?_;cases e with
 | normal=>exact q b k cs L t' hb hr hl ht' hc
 | exit id=>exact C3.push rfl (by simp) (hc _ _ _ _ _ q t' ht')
 | ret=>exact C3.push rfl (by simp) (hc _ _ _ _ _ q t' ht')
 | goto l=>exact C3.push rfl (by simp) (hc _ _ _ _ _ q t' ht')
 | panic l=>exact C3.push rfl (by simp) (hc _ _ _ _ _ q t' ht')
 | outgrown=>exact C3.push rfl (by simp) (hc _ _ _ _ _ q t' ht')
theorem Ca {x y:Code} (a:Tr (F.env i) x σ ds h (fun e σ' ds' h'=>match e with | .normal=>K7 F y i σ' ds' h' Q | e=>Q i e σ' ds' h')):K7 F (.seq x y) i σ ds h Q:=
 Lc (IC (Q:=fun i e σ' ds' h'=>match e with | .normal=>K7 F y i σ' ds' h' Q | e=>Q i e σ' ds' h') a)
theorem Tb {c:Operand} {x y:Code} {t:Bool} (hc:AU σ c=.bool t) (a:K7 F (if t then x else y) i σ ds h Q):K7 F (.cond c x y) i σ ds h Q:=by
 intro b k cs L tm hb hr hl hs hq;refine Wk.go (Ce b tm ds (.code (if t then x else y) ::k)) (fun w=>?_) (a b k cs L tm hb hr hl hs hq);have he:(Ce b tm ds (.code (.cond c x y) ::k)).eval c=.bool t:=by rw [JC hs];exact hc
 simp only [Ce] at he;rw [A6];simp [stepG.exec,Ce,G,he]
theorem AAK {c:Operand} {x y:Code} (hc:AU σ c=.bool true) (a:K7 F x i σ ds h Q):K7 F (.cond c x y) i σ ds h Q:=Tb hc a
theorem Xv {c:Operand} {x y:Code} (hc:AU σ c=.bool false) (a:K7 F y i σ ds h Q):K7 F (.cond c x y) i σ ds h Q:=Tb hc a
theorem trI_ifb {c:Operand} {x y:Code} {t:Bool} (hc:AU σ c=.bool t) (a:t=true→K7 F x i σ ds h Q) (a':t=false→K7 F y i σ ds h Q):K7 F (.cond c x y) i σ ds h Q:=by
 cases t with
 | true=>exact AAK hc (a rfl)
 | false=>exact Xv hc (a' rfl)
theorem Jo {id:Nat} {c:Code} (a:K7 F c i σ ds h (fun i e σ' ds' h'=>match e with | .normal=>Q i .normal σ' ds' h' | .exit id'=>if id'=id then Q i .normal σ' ds' h' else Q i (.exit id') σ' ds' h' | e=>Q i e σ' ds' h')) :
  K7 F (.block id c) i σ ds h Q:=by
 intro b k cs L t hb hr hl hs hc;refine Wk.go (Ce b t ds (.code c ::.inBlock id ::k)) (fun w=>by rw [A6];simp [stepG.exec,Ce,G]) ?_;refine a b (.inBlock id ::k) cs L t hb hr hl hs fun i e σ' ds' h' q t' ht'=>?_;cases e with
 | normal=>exact Wk.go (Ce b t' ds' k) (fun w=>by rw [A6];simp [stepG.exec,Ce,G]) (hc _ _ _ _ _ q t' ht')
 | exit id'=>
  by_cases hid:id'=id
  ·simp only [hid,if_true] at q
   have:=hc _ _ _ _ _ q t' ht'
   simp only [C3,exitTo,hid,beq_self_eq_true,if_true];exact this
  ·simp only [hid,if_false] at q
   have:=hc _ _ _ _ _ q t' ht'
   have hne:(id==id')=false:=by simp;exact fun h=>hid h.symm
   simp only [C3,exitTo,hne] at this ⊢;exact this
 | ret=>exact hc _ _ _ _ _ q t' ht'
 | goto l=>exact hc _ _ _ _ _ q t' ht'
 | panic l=>exact hc _ _ _ _ _ q t' ht'
 | outgrown=>exact hc _ _ _ _ _ q t' ht'
theorem Tc {c:Code} (I:Nat→Option (Fe M)→(Nat→Value)→List Deferred→GH→Prop) {n:Nat} (i0:I n i σ ds h)
  (round:∀n i σ ds h,I n i σ ds h→K7 F c i σ ds h (fun i e σ' ds' h'=>match e with | .normal=>∃m,m<n∧I m i σ' ds' h' | e=>Q i e σ' ds' h')):K7 F (.loop c) i σ ds h Q:=by
 intro b k cs L t hb hr hl hs hc;refine Wk.go (Ce b t ds (.code c ::.inLoop c ::k)) (fun w=>by rw [A6];simp [stepG.exec,Ce,G]) ?_;have key:∀n i σ ds h t,I n i σ ds h→Bj t F.N σ→(F.wk i).K (G (Ce b t ds (.code c ::.inLoop c ::k)) cs) h:=by
  intro n
  induction n using Nat.strongRecOn with
  | ind n ih=>
   intro i σ ds h t hi hs;refine round n i σ ds h hi b (.inLoop c ::k) cs L t hb hr hl hs fun i e σ' ds' h' q t' ht'=>?_;cases e with
   | normal=>
    obtain ⟨m,hm,hi'⟩:=q;exact Wk.go (Ce b t' ds' (.code c ::.inLoop c ::k)) (fun w=>by rw [A6];simp [stepG.exec,Ce,G]) (ih m hm _ _ _ _ _ hi' ht')
   | exit id=>exact C3.push rfl (by simp) (hc _ _ _ _ _ q t' ht')
   | ret=>exact C3.push rfl (by simp) (hc _ _ _ _ _ q t' ht')
   | goto l=>exact C3.push rfl (by simp) (hc _ _ _ _ _ q t' ht')
   | panic l=>exact C3.push rfl (by simp) (hc _ _ _ _ _ q t' ht')
   | outgrown=>exact C3.push rfl (by simp) (hc _ _ _ _ _ q t' ht')
 exact key n i σ ds h t i0 hs
theorem Kf {id:Nat} {l:List Oper} (a:Lb F l.toArray l i σ ds h Q):K7 F (.region id l.toArray false) i σ ds h Q:=by
 intro b k cs L t hb hr hl hs hc;refine Wk.go (Ce b t ds (.inRegion l.toArray (List.range' 0 l.length) ::k)) (fun w=>?_) (a 0 b k cs L t (by simp) hb hr hl hs hc);rw [A6];simp [stepG.exec,Ce,G,List.range_eq_range']
theorem Lf {ops:Array Oper} (q:Q i .normal σ ds h):Lb F ops [] i σ ds h Q:=by
 intro n b k cs L t hi hb hr hl hs hc;exact Wk.go (Ce b t ds k) (fun w=>by rw [A6];simp [stepG.exec,Ce,G]) (hc _ _ _ _ _ q t hs)
theorem HL {ops:Array Oper} {o:Oper} {l:List Oper} (hg:o.guard=none) (hdf:F.rd=none∨EL o.op=false) (hd:Ee o.dst F.N=true)
  (x:Be (F.env i) o σ ds h fun σ' ds' h'=>Lb F ops l i σ' ds' h' Q):Lb F ops (o ::l) i σ ds h Q:=by
 intro n b k cs L t hi hb hr hl hs hc;have ho:ops[n]? =some o:=by simpa using (hi 0).symm
 refine ND (E:=F.env i) (rest:=List.range' (n+1) l.length) ho (by simp [Region.wanted,hg]) (hr▸hdf) hd hs x fun σ' ds' h' y t' ht'=>?_;exact y (n+1) b k cs L t' (fun j=>by have:=hi (j+1);simpa [Nat.add_assoc,Nat.add_comm 1 j] using this) hb hr hl ht' hc
theorem Td {main:Bool} {b:Frame} {t:Array Value} {ops:Array Oper} {n:Nat} {rest:List Nat} {k:List Item} {cs:List Frame} {o:Oper} {N:Nat} (hs:Bj t N σ) (ho:ops[n]? =some o) (hw:Region.wanted o (yielded ops t)=true)
  (hdf:b.roundOf=none∨EL o.op=false) (w:World):stepG P main (G (Ce b t ds (.inRegion ops (n ::rest) ::k)) cs) w=stepG.apply P true (Ce b t ds (.inRegion ops (n ::rest) ::k)) cs none (execOp (AU σ) o) w:=by
 have hev:=JC (b:=b) (ds:=ds) (k:=.inRegion ops (n ::rest) ::k) hs;rw [←hev];have hw':((ops[n]?).map (Region.wanted · (yielded ops t))).getD false=true:=by simp [ho,hw]
 rw [A6];unfold stepG.exec;simp only [Ce,hw',↓reduceIte];unfold stepG.oper;simp only [Frame.oper?,ho];rcases hdf with e | e
 ·simp only [e]
 ·cases hq:o.op <;> first | rfl | (rw [hq] at e;cases e;done) | (cases b.roundOf <;> rfl)
theorem XI {main:Bool} {b:Frame} {t:Array Value} {ops:Array Oper} {n:Nat} {rest:List Nat} {k:List Item} {cs:List Frame} {o:Oper} {N:Nat} {w:World} {cc:Array CommCase} {bl:Bool} {sh:CommShape} (hs:Bj t N σ) (ho:ops[n]? =some o) (hw:Region.wanted o (yielded ops t)=true)
  (hdf:b.roundOf=none∨EL o.op=false) (hr:(execOp (AU σ) o).runT P w #[]=(.ok (.comm cc bl sh) w,#[])) :
  stepG P main (G (Ce b t ds (.inRegion ops (n ::rest) ::k)) cs) w=.comm (G (Ce b t ds (.inRegion ops (n ::rest) ::k)) cs) cc bl sh w #[]:=by
 rw [Td hs ho hw hdf];simp only [stepG.apply,hr,if_true,ite_self,seen_none];rfl
theorem AAL {main:Bool} {b:Frame} {t:Array Value} {ops:Array Oper} {n:Nat} {rest:List Nat} {k:List Item} {cs:List Frame} {o:Oper} {N:Nat} {w:World} {f:Fn} {cap args:Array Value} (hs:Bj t N σ) (ho:ops[n]? =some o) (hw:Region.wanted o (yielded ops t)=true)
  (hdf:b.roundOf=none∨EL o.op=false) (hr:(execOp (AU σ) o).runT P w #[]=(.ok (.spawn { target:=.fn f cap,args:=args }) w,#[])) :
  stepG P main (G (Ce b t ds (.inRegion ops (n ::rest) ::k)) cs) w=.spawn (G ((Ce b t ds (.inRegion ops (n ::rest) ::k)).finish undef) cs) (born P { target:=.fn f cap,args:=args }) w #[]:=by
 rw [Td hs ho hw hdf];simp only [stepG.apply,hr,if_true,ite_self,seen_none];simp [GStep.after,G,born]
variable {ops:Array Oper} {o:Oper} {l:List Oper}
theorem Kg (hl:l≠[]):Lb F ops l (some .never) σ ds h Q:=fun n b k cs L t hi hb hr _ hs hc=>E0.stop rfl
theorem Xw {c:Nat} {m:M} {nx:Fe M} {v z:Value} {hm h1:GH} (hg:o.guard=none) (hdf:EL o.op=false) (hd:Ee o.dst F.N=true)
  (hr:∀w,(execOp (AU σ) o).runT P w #[]=(.ok (.comm #[scase c v z] true .send) w,#[])) (hsp:GH.Split h h1 hm) (hrep:F.Rep c m v hm) (hnx:¬nx.isDone)
  (x:Lb F ops l (some nx) (putS σ o.dst undef) ds h1 Q):Lb F ops (o ::l) (some (.send c m nx)) σ ds h Q:=by
 intro n b k cs L t hi hb hrd hl hs hc;have ho:ops[n]? =some o:=by simpa using (hi 0).symm
 refine E0.stop ⟨_,cs,v,z,hm,h1,rfl,⟨fun w f=>?_,hsp,hrep,?_⟩⟩
 ·rw [List.length_cons,List.range'_succ];exact XI hs ho (by simp [Region.wanted,hg]) (.inr hdf) (hr w)
 ·rw [G3 hnx,List.length_cons,List.range'_succ,DI ho];exact x (n+1) b k cs L _ (fun j=>by have:=hi (j+1);simpa [Nat.add_assoc,Nat.add_comm 1 j] using this) hb hrd hl (hs.putS hd undef) hc
theorem QD {c:Nat} {f:Option M→Fe M} {z:Value} {ok:Bool} (hg:o.guard=none) (hdf:EL o.op=false) (hd:Ee o.dst F.N=true)
  (hr:∀w,(execOp (AU σ) o).runT P w #[]=(.ok (.comm #[rcase c z] true (.recv ok)) w,#[])) (hnx:∀o,¬(f o).isDone)
  (x:∀m v hm,F.Rep c m v hm→h.Compat hm→Lb F ops l (some (f (some m))) (putS σ o.dst (recvd ok v true)) ds (h.join hm) Q)
  (y:Lb F ops l (some (f none)) (putS σ o.dst (recvd ok z false)) ds h Q):Lb F ops (o ::l) (some (.recv c f)) σ ds h Q:=by
 intro n b k cs L t hi hb hrd hl hs hc;have ho:ops[n]? =some o:=by simpa using (hi 0).symm
 refine E0.stop ⟨_,cs,z,ok,rfl,⟨fun w fw=>?_,fun m v hm hrep hcp=>?_,?_⟩⟩
 ·rw [List.length_cons,List.range'_succ];exact XI hs ho (by simp [Region.wanted,hg]) (.inr hdf) (hr w)
 ·show Fq P F.Rep F.W.K (f (some m)) F.main _ _;rw [G3 (hnx _),List.length_cons,List.range'_succ,DI ho];exact x m v hm hrep hcp (n+1) b k cs L _ (fun j=>by have:=hi (j+1);simpa [Nat.add_assoc,Nat.add_comm 1 j] using this) hb hrd hl (hs.putS hd _) hc
 ·show Fq P F.Rep F.W.K (f none) F.main _ _;rw [G3 (hnx _),List.length_cons,List.range'_succ,DI ho];exact y (n+1) b k cs L _ (fun j=>by have:=hi (j+1);simpa [Nat.add_assoc,Nat.add_comm 1 j] using this) hb hrd hl (hs.putS hd _) hc
theorem trLI_go {ch nx:Fe M} {f:Fn} {cap args:Array Value} {hc h1:GH} (hg:o.guard=none) (hdf:EL o.op=false) (hd:Ee o.dst F.N=true)
  (hr:∀w,(execOp (AU σ) o).runT P w #[]=(.ok (.spawn { target:=.fn f cap,args:=args }) w,#[])) (hsp:GH.Split h h1 hc) (hnx:¬nx.isDone)
  (child:Fq P F.Rep F.W.K ch false (born P { target:=.fn f cap,args:=args }) hc) (x:Lb F ops l (some nx) (putS σ o.dst undef) ds h1 Q):Lb F ops (o ::l) (some (.spawn ch nx)) σ ds h Q:=by
 intro n b k cs L t hi hb hrd hl hs hq;have ho:ops[n]? =some o:=by simpa using (hi 0).symm
 refine E0.stop ⟨_,cs,(Ce b t ds (.inRegion ops (List.range' n (o ::l).length) ::k)).finish undef,_,hc,h1,rfl,⟨fun w fw=>?_,hsp,?_,child⟩⟩
 ·rw [List.length_cons,List.range'_succ];exact AAL hs ho (by simp [Region.wanted,hg]) (.inr hdf) (hr w)
 ·rw [G3 hnx,List.length_cons,List.range'_succ,DI ho];exact x (n+1) b k cs L _ (fun j=>by have:=hi (j+1);simpa [Nat.add_assoc,Nat.add_comm 1 j] using this) hb hrd hl (hs.putS hd undef) hq
def Kh (tys:Array TypeId) (ty:TypeId) (cs:Array Bool) (c:Nat):Deferred:={ target:=.builtin .close tys ty cs,args:=#[.chan (some c)] }
theorem R9 {f:FuncId} {fn:Func} {args:Array Value} (hf:P.funcs[f]? =some fn) (hc:AQ fn=true) (w:World):(callFunc f args).runT P w #[]=(.ok (.enter f args) w,#[]):=by
 unfold AQ at hc;simp only [Bool.and_eq_true,Bool.not_eq_true'] at hc;unfold callFunc;show (match P.funcs[f]? with | none=>_ | some fn=>_:Sem Next).runT P w #[]=_;rw [hf];simp only [];rw [if_neg (by rw [hc.1];simp),if_neg (by cases hb:fn.body with | none=>rw [hb] at hc;simp at hc | some c=>simp)];rfl
theorem VA {tys:Array TypeId} {ty:TypeId} {cs:Array Bool} {ch s r:Nat} {w:World} (hw:w.heap[ch]? =some (.chan 0 #[] false s r false)) :
  (invoke (.builtin .close tys ty cs) #[.chan (some ch)]).runT P w #[]=(.ok (.value (.tuple #[])) { w with heap:=w.heap.setIfInBounds ch (.chan 0 #[] true s r false) },#[⟨.obj ch,false,true⟩,⟨.obj ch,true,true⟩]):=by
 show ((do pure (.value (←Builtin.close_ tys ty #[.chan (some ch)])):Sem Next)).runT P w #[]=_;show Sem.runT P (.getObj ch fun o=>_) w #[]=_;unfold Sem.runT;rw [hw];show Sem.runT P (.setObj ch (.chan 0 #[] true s r false) _) w _=_;unfold Sem.runT;rw [hw];rfl
theorem VB {fn:FuncId} {ch:Nat}:seen P fn #[⟨.obj ch,false,true⟩,⟨.obj ch,true,true⟩]=#[⟨.obj ch,false,true⟩,⟨.obj ch,true,true⟩]:=by
 rw [seen_def];simp [seenStep]
theorem Xx {fn:Func} {c:Code} {s:Fe M} {ars cap args:Array Value} (hm:F.main=false) (hrd:F.rd=none) (ha:ars++cap=args) (hf:P.funcs[F.fn]? =some fn) (hc:AQ fn=true) (hb:fn.body=some c) (hN:F.N=fn.ntmps) (hres:fn.results=#[]) (hsz:args.size≤fn.ntmps) (hs:¬s.isDone)
  (x:K7 F c (some s) (fun i=>args.getD i undef) [] h fun i e σ ds h=>(e=.normal∨e=.ret)∧∃ch tys ty cs,i=some (.close ch .done)∧ds=[Kh tys ty cs ch]):Fq P F.Rep F.W.K s false (born P { target:=.fn (.func F.fn) cap,args:=ars }) h:=by
 let bot:Frame:={ (default:Frame) with fn:=P.funcs.size,defers:=[],mode:=.panicking [goexitEntry] };have hwk:∀s,(F.wk (some s)).K=E0 P false (IS P F.Rep F.W.K s false):=fun s=>by show E0 P F.main (IS P F.Rep F.W.K s F.main)=_;rw [hm]
 rw [G3 hs];refine LB _ _ _ _ rfl fun w f=>⟨G (Frame.enter P F.fn args .deferred) [bot],w,#[],h,?_,BZ.refl f,?_⟩
 ·subst ha;have hi:(invoke (.fn (.func F.fn) cap) ars).runT P w #[]=(.ok (.enter F.fn (ars++cap)) w,#[]):=R9 hf hc w;show callDeferred P bot [] none { target:=.fn (.func F.fn) cap,args:=ars } w=_;unfold callDeferred;rw [if_neg (by simp)];simp only [hi,seen_none];rfl
 have e0:Frame.enter P F.fn args .deferred=Ce (Frame.enter P F.fn args .deferred) (args++Array.replicate (fn.ntmps-args.size) undef) [] [.code c]:=by simp [Frame.enter,Ce,hf,hb]
 rw [e0,←hwk s];let L:Option (Fe M)→Lv:=fun i j t ds h'=>(j=none∨j=some .ret)∧∃ch tys ty cs,i=some (.close ch .done)∧ds=[Kh tys ty cs ch];have fin:∀ch tys ty cs h' t k,(F.wk (some (.close ch .done))).K (G (Dq (Frame.enter P F.fn args .deferred) t [Kh tys ty cs ch] k) [bot]) h':=by
  intro ch tys ty cs h' t k;rw [hwk];refine E0.stop ⟨_,_,Dq (Frame.enter P F.fn args .deferred) t [] k,[bot],rfl,⟨fun w s r _ hw=>?_,rfl,?_⟩⟩
  ·have hi:=VA (P:=P) (tys:=tys) (ty:=ty) (cs:=cs) hw;show callDeferred P (Dq (Frame.enter P F.fn args .deferred) t [] k) [bot] none (Kh tys ty cs ch) w=_;unfold callDeferred Kh;rw [if_neg (by simp)];simp only [hi,VB];rfl
  ·refine ⟨2,.inr ⟨rfl,G bot [],fun w=>?_,.inr ⟨rfl,{ G bot [] with status:=.finished },fun w=>?_,rfl⟩⟩⟩
   ·show unwind P false (Dq (Frame.enter P F.fn args .deferred) t [] k) [bot] none w=_;have hfn:(Dq (Frame.enter P F.fn args .deferred) t [] k).fn=F.fn:=rfl;have hk:(Dq (Frame.enter P F.fn args .deferred) t [] k).kind=.deferred:=rfl;have hmd:(Dq (Frame.enter P F.fn args .deferred) t [] k).mode=.returning:=rfl;have hd:(Dq (Frame.enter P F.fn args .deferred) t [] k).defers=[]:=rfl;have r1:∀t,(results fn t).runT P w #[]=(.ok (.tuple #[]) w,#[]):=fun t=>by
     unfold results;rw [hres];simp only [Array.mapM_empty];rfl
    unfold unwind;simp only [hd,hmd,hfn,hf,r1,GStep.after,doReturn,hk,seen_none];rfl
   ·show unwind P false bot [] none w=_;have hcat:bot.catches P=false:=by
     unfold Frame.catches
     have:P.funcs[bot.fn]? =none:=Array.getElem?_eq_none (Nat.le_refl _)
     rw [this];rfl
    have hd:bot.defers=[]:=rfl;have hmd:bot.mode=.panicking [goexitEntry]:=rfl;unfold unwind;simp only [hd,hmd,hcat];rfl
 refine x (Frame.enter P F.fn args .deferred) [] [bot] L _ rfl hrd.symm (fun i=>⟨?_,?_,?_⟩) ⟨by rw [hN];simp;omega,fun i=>?_⟩ ?_
 ·rintro t ds h' ⟨_,ch,tys,ty,cs,rfl,rfl⟩;exact Wk.go (Dq (Frame.enter P F.fn args .deferred) t _ []) (fun w=>by rw [A6];simp [stepG.exec,Ce,Dq,G,Frame.enter]) (fin ch tys ty cs h' t [])
 ·rintro t ds h' k ⟨_,ch,tys,ty,cs,rfl,rfl⟩;exact Wk.go (Dq (Frame.enter P F.fn args .deferred) t _ (.code .ret ::k)) (fun w=>by rw [A6];simp [stepG.exec,Ce,Dq,G,Frame.enter]) (fin ch tys ty cs h' t _)
 ·rintro id t ds h' k _ ⟨h1 | h1,_⟩ <;> cases h1
 ·by_cases hi:i<args.size
  ·simp [Array.getD_eq_getD_getElem?,Array.getElem?_append_left hi]
  ·simp only [Array.getD_eq_getD_getElem?];rw [Array.getElem?_append_right (by omega),Array.getElem?_eq_none (show args.size≤i by omega),Array.getElem?_replicate];split <;> rfl
 ·rintro i e σ ds h' ⟨he,ch,tys,ty,cs,rfl,rfl⟩ t' ht';rcases he with rfl | rfl
  ·exact Wk.go (Dq (Frame.enter P F.fn args .deferred) t' _ []) (fun w=>by rw [A6];simp [stepG.exec,Ce,Dq,G,Frame.enter]) (fin ch tys ty cs h' t' [])
  ·exact ⟨.inr rfl,ch,tys,ty,cs,rfl,rfl⟩
end
section
variable {P:Program} {M:Type} {Post:Value→World→Prop}
def GH.Same (h h':GH):Prop:=∀b p o,h b=some (p,o)→∃p',h' b=some (p',o)
theorem Ho.flags {g:Goroutine} {h h':GH} {gs:Array Goroutine} {w:World} {q:Nat→Nat} {t:Trace} (B:Ho P g h gs w q t) (s:h'.Same h):Ho P g h' gs w q t:=
 { B with
  fits:=fun b p o hb=>by obtain ⟨p',x⟩:=s b p o hb;exact B.fits b p' o x
  chn:=fun b p o k a hb=>by obtain ⟨p',x⟩:=s b p o hb;exact B.chn b p' o k a x }
theorem D6.flags {g:Goroutine} {h h':GH} (s:h'.Same h) (x:D6 P Post g h'):D6 P Post g h:=fun gs w sl q t B=>x gs w sl q t (B.flags s)
def VC (c:Nat) (s0:Fe M) (N:IT M):Prop:=0<N.n∧N.s 0=s0∧(∀j,0<j→j<N.n→N.s j=.done∧N.kn 0 j)∧N.cl c=false
theorem Pb {Rep:Nat→M→Value→GH→Prop} {g:Goroutine} {h:GH} {c:Nat} {s0:Fe M} (hc:h c=some (true,.chan 0 #[] false 0 0 false)) (good:∀N:IT M,VC c s0 N→I3 (fun x=>x=c) N)
  (d:Fq P Rep (D6 P Post) s0 true g (h.delS fun x=>x=c)):D6 P Post g h:=by
 intro gs w sl q t B;have hsub:(h.delS fun x=>x=c).Same h:=fun b p o hb=>by
  by_cases e:b=c
  ·rw [GH.delS_in (X:=fun x=>x=c) e] at hb;cases hb
  ·rw [GH.delS_ne (X:=fun x=>x=c) e] at hb;exact ⟨p,hb⟩
 have B':=B.flags hsub;let N:IT M:={ n:=gs.size,s:=fun j=>if j=0 then s0 else .done,kn:=fun i j=>i=0∧0<j,cl:=fun _=>false,ck:=fun _ _=>False };have hpos:0<gs.size:=B.lt;obtain ⟨r0,hsit⟩:=G4 (cl:=N.cl) d;have hsits:∀i g',gs[i]? =some g'→Po P Rep (D6 P Post) (N.s i) N.cl (i==0) g' (only (h.delS fun x=>x=c) i) (if i=0 then r0 else .leave (q i)):=by
  intro i g' hi;rcases Nat.eq_zero_or_pos i with rfl | hp
  ·have:=B.here;rw [hi] at this;cases this
   simpa [N,only] using hsit
  ·have h0:¬i=0:=by omega
   have hq:=B.old i g' hp hi;simp only [N,h0,if_false];exact .leave (q i) rfl hq
 have hparked:∀i (gi:Goroutine) cs sh,gs[i]? =some (parked gi cs sh)→i=0:=fun i gi cs sh hi=>by
  rcases Nat.eq_zero_or_pos i with e | hp
  ·exact e
  ·rcases (B.old i _ hp hi).status with e | e <;> cases e
 refine Zj (used:=fun x=>x=c) (N:=N) (good N ⟨hpos,rfl,fun j hj hjn=>⟨if_neg (by omega),rfl,hj⟩,rfl⟩) (fun i=>if i=0 then r0 else .leave (q i)) gs w sl t (only (h.delS fun x=>x=c))
  ⟨rfl,B'.HS,B'.TI,hsits,?_,?_,?_,?_,?_,?_⟩
 ·rintro c' rfl;exact ⟨0,B.fits _ _ _ hc⟩
 ·rintro c' i rfl hi;unfold only;split
  ·exact GH.delS_in rfl
  ·rfl
 ·rintro c' k a rfl hk hl;exact B.chn _ _ _ k a hc rfl hk hl
 ·intro i j gi gj c' v z sh z' sh' h1 h2;obtain rfl:=hparked i _ _ _ h1;obtain rfl:=hparked j _ _ _ h2;rw [h1] at h2;exact Gv (Option.some.inj h2).symm
 ·rintro i j hi hj ⟨rfl,hjp⟩;refine ⟨if_neg (by omega),fun k a hk _=>B.known k a hk⟩
 ·rintro c' rfl h1;cases h1
def OF (W:Wk P):Prop:=∃Post:Value→World→Prop,W.K=D6 P Post
variable {F:Pa P M} {i:Option (Fe M)} {σ:Nat→Value} {ds:List Deferred} {h:GH} {Q:Ta M}
theorem trI_net {c:Code} {s0:Fe M} {ch:Nat} (hm:F.main=true) (hW:OF F.W) (hc:h ch=some (true,.chan 0 #[] false 0 0 false)) (hs:¬s0.isDone) (good:∀N:IT M,VC ch s0 N→I3 (fun x=>x=ch) N)
  (x:K7 F c (some s0) σ ds (h.delS fun x=>x=ch) Q):K7 F c none σ ds h Q:=by
 intro b k cs L t hb hr hl ht hq
 have:=x b k cs L t hb hr hl ht hq
 obtain ⟨Post,hP⟩:=hW;show F.W.K _ _;rw [hP];refine Pb (Rep:=F.Rep) hc good ?_;rw [G3 hs];unfold Pa.wk at this;simp only [hm,hP] at this;exact this
theorem trI_out {c:Code} {h0:GH} (hW:OF F.W) (hs:h0.Same h) (x:K7 F c none σ ds (h0.join h) Q):K7 F c (some .stop) σ ds h Q:=by
 intro b k cs L t hb hr hl ht hq
 have:=x b k cs L t hb hr hl ht hq
 obtain ⟨Post,hP⟩:=hW;refine E0.stop ?_;show F.W.K _ _;have h2:F.W.K _ _:=this;rw [hP] at h2 ⊢;refine h2.flags fun b p o hb=>?_;rcases hj:h0 b with _ | ⟨p0,o0⟩
 ·unfold GH.join at hb;rw [hj] at hb;exact ⟨p,hb⟩
 ·unfold GH.join at hb;rw [hj] at hb;cases hb;exact hs b p o hj
def GH.ro (h:GH):GH:=fun b=>(h b).map fun x=>(false,x.2)
theorem GH.ro_some {h:GH} {b:Nat} {p:Bool} {o:Obj} (hb:h b=some (p,o)):h.ro b=some (false,o):=by unfold GH.ro;rw [hb];rfl
theorem GH.ro_inv {h:GH} {b:Nat} {p:Bool} {o:Obj} (hb:h.ro b=some (p,o)):p=false∧∃p',h b=some (p',o):=by
 unfold GH.ro at hb;cases e:h b with
 | none=>rw [e] at hb;cases hb
 | some x=>rw [e] at hb;obtain ⟨p',o'⟩:=x;cases hb;exact ⟨rfl,p',rfl⟩
theorem GH.split_ro (h:GH):GH.Split h h.ro h.ro where
 left:=fun b p o hb=>by obtain ⟨rfl,p',x⟩:=GH.ro_inv hb;exact ⟨p',x,fun e=>by cases e⟩
 right:=fun b p o hb=>by obtain ⟨rfl,p',x⟩:=GH.ro_inv hb;exact ⟨p',x,fun e=>by cases e⟩
 one:=fun r o x hb=>by cases (GH.ro_inv hb).1
 two:=fun r o x hb=>by cases (GH.ro_inv hb).1
theorem GH.same_ro (h:GH):h.Same h.ro:=fun _ _ _ hb=>⟨false,GH.ro_some hb⟩
theorem GH.Same.trans {a b c:GH} (x:a.Same b) (y:b.Same c):a.Same c:=fun r p o hr=>by obtain ⟨p',z⟩:=x r p o hr;exact y r p' o z
theorem GH.Le.same {a b:GH} (x:a.Le b):a.Same b:=fun r p o hr=>⟨p,x.keep hr rfl⟩
theorem GH.le_join (a b:GH):a.Le (a.join b):=fun r p o hr=>⟨o,by unfold GH.join;rw [hr],.inl rfl⟩
theorem GH.Same.join {a b:GH} (s:a.Same b):b.Same (a.join b):=fun r p o hr=>by
 unfold GH.join;cases e:a r with
 | none=>exact ⟨p,hr⟩
 | some x=>obtain ⟨p0,o0⟩:=x;obtain ⟨p',y⟩:=s r p0 o0 e;rw [hr] at y;cases y;exact ⟨p0,rfl⟩
theorem Ab.flags {h h':GH} (s:h.Same h') {b off n:Nat} {vs:Array Value} (x:Ab h b off n vs):Ab h' b off n vs:=by
 obtain ⟨p,c,t,f,y,z⟩:=x;obtain ⟨p',y'⟩:=s _ _ _ y;exact ⟨p',c,t,f,y',z⟩
theorem AJ.flags {α:Type} {h h':GH} (s:h.Same h') {v:Value} {n:Nat} {enc:α→Array Value} {xs:List α} (x:AJ h v n enc xs):AJ h' v n enc xs:=by
 obtain ⟨a,cap,hv,hc,hm,he⟩:=x;refine ⟨a,cap,hv,hc,hm,fun i hi=>?_⟩;obtain ⟨b,off,h1,h2⟩:=he i hi;exact ⟨b,off,h1,h2.flags s⟩
end
section
variable {M:Type} [DecidableEq M]
def ID (c:Nat):List M→Fe M
 | []=>.close c .done
 | m ::ms=>.send c m (ID c ms)
def Lg:Option M→Fe M
 | none=>.stop
 | some _=>.never
def GM (m:M) (nx:Fe M):Option M→Fe M
 | some m'=>if m'=m then nx else .never
 | none=>.never
def JS (c:Nat):List M→Fe M
 | []=>.recv c Lg
 | m ::ms=>.recv c (GM m (JS c ms))
structure TwoN (c k:Nat) (ms:List M) (N:IT M):Prop where
 n:N.n=k+1
 pos:0<k
 main:N.s 0=JS c ms
 child:N.s k=ID c ms
 rest:∀j,0<j→j<k→N.s j=.done∧N.kn 0 j
 cl:N.cl c=false
theorem Xy {c k:Nat}:∀{ms:List M} {N:IT M},TwoN c k ms N→I3 (fun x=>x=c) N:=by
 intro ms
 induction ms with
 | nil=>
  intro N T;have hk:=T.pos;refine .step N (by rw [T.n];omega) ⟨_,.shut (i:=k) (c:=c) (nx:=.done) (by rw [T.n];omega) T.child⟩ (fun i hi=>?_) (fun N' st=>?_)
  ·rcases Nat.eq_zero_or_pos i with rfl | hp
   ·rw [T.main];rfl
   ·rcases Nat.lt_or_ge i k with hl | hl
    ·rw [(T.rest i hp hl).1];show i≠0;omega
    ·obtain rfl:i=k:=by have:=T.n;omega
     rw [T.child];exact ⟨rfl,T.cl⟩
  ·have key:∀i,i<N.n→i=0∨i=k∨N.s i=.done:=fun i hi=>by
    rcases Nat.eq_zero_or_pos i with e | hp
    ·exact .inl e
    ·rcases Nat.lt_or_ge i k with hl | hl
     ·exact .inr (.inr (T.rest i hp hl).1)
     ·exact .inr (.inl (by have:=T.n;omega))
   have hm:N.s 0=.recv c Lg:=T.main;have hch:N.s k=.close c .done:=T.child;cases st with
   | hire hi hs=>rcases key _ hi with rfl | rfl | e <;> simp_all
   | meet hi hj hij hs hs'=>rcases key _ hi with rfl | rfl | e <;> simp_all
   | hear hj hs hcl=>
    rcases key _ hj with rfl | rfl | e
    ·rw [hm] at hs;cases hs;rw [T.cl] at hcl;cases hcl
    ·rw [hch] at hs;cases hs
    ·rw [e] at hs;cases hs
   | @shut i c' nx hi hs=>
    rcases key _ hi with rfl | rfl | e
    ·rw [hm] at hs;cases hs
    ·rw [hch] at hs;cases hs;refine .step _ (by show 0<N.n;rw [T.n];omega) ⟨_,.hear (j:=0) (c:=c) (f:=_) (by show 0<N.n;rw [T.n];omega) (by show (if 0=i then _ else N.s 0)=_;rw [if_neg (by omega)];exact hm) (by show (if c=c then true else _)=true;rw [if_pos rfl])⟩ (fun j hj=>?_) (fun N'' st=>?_)
     ·have hj:j<N.n:=hj;show NQ _ _ j (if j=i then _ else N.s j);by_cases e:j=i
      ·rw [if_pos e];show j≠0;omega
      ·rw [if_neg e];rcases key j hj with rfl | rfl | e'
       ·rw [hm];rfl
       ·exact absurd rfl e
       ·rw [e'];show j≠0;rintro rfl;rw [hm] at e';cases e'
     ·have hs':∀j,j<N.n→j≠0→(N.shut i c .done).s j=.done:=fun j hj hj0=>by
       show (if j=i then _ else N.s j)=_;by_cases e:j=i
       ·rw [if_pos e]
       ·rw [if_neg e];rcases key j hj with rfl | rfl | e'
        ·exact absurd rfl hj0
        ·exact absurd rfl e
        ·exact e'
      have hs0:(N.shut i c .done).s 0=.recv c Lg:=by show (if 0=i then _ else N.s 0)=_;rw [if_neg (by omega)];exact hm
      have key2:∀j,j<N.n→j=0∨(N.shut i c .done).s j=.done:=fun j hj=>(Nat.eq_zero_or_pos j).imp id fun hp=>hs' j hj (by omega);cases st with
      | hire hi hs=>rcases key2 _ hi with rfl | e <;> simp_all
      | meet hi hj hij hs hs'=>rcases key2 _ hi with rfl | e <;> simp_all
      | shut hi hs=>rcases key2 _ hi with rfl | e <;> simp_all
      | @hear j c' f hj hs hcl=>
       rcases key2 _ hj with rfl | e
       ·rw [hs0] at hs;cases hs;refine .stop _ (by show 0<N.n;rw [T.n];omega) (show (if 0=0 then Lg none else (N.shut i c .done).s 0)=Fe.stop from rfl) fun j hj hjn=>⟨?_,?_⟩
        ·show (if j=0 then _ else (N.shut i c .done).s j)=_;rw [if_neg (by omega)];exact hs' j hjn (by omega)
        ·simp only [IT.hear,IT.shut,if_true];show N.kn 0 j∨N.kn i j∨(j=i∧True);rcases Nat.lt_or_ge j i with hl | hl
         ·exact .inl (T.rest j hj hl).2
         ·have hjn:j<N.n:=hjn;exact .inr (.inr ⟨by have:=T.n;omega,trivial⟩)
       ·rw [e] at hs;cases hs
    ·rw [e] at hs;cases hs
 | cons m ms ih=>
  intro N T;have hk:=T.pos;have hch:N.s k=.send c m (ID c ms):=T.child;have hm:N.s 0=.recv c (GM m (JS c ms)):=T.main;have key:∀i,i<N.n→i=0∨i=k∨N.s i=.done:=fun i hi=>by
   rcases Nat.eq_zero_or_pos i with e | hp
   ·exact .inl e
   ·rcases Nat.lt_or_ge i k with hl | hl
    ·exact .inr (.inr (T.rest i hp hl).1)
    ·exact .inr (.inl (by have:=T.n;omega))
  refine .step N (by rw [T.n];omega) ⟨_,.meet (i:=k) (j:=0) (by rw [T.n];omega) (by rw [T.n];omega) (by omega) hch hm⟩ (fun i hi=>?_) (fun N' st=>?_)
  ·rcases key i hi with rfl | rfl | e
   ·rw [hm];rfl
   ·rw [hch];exact ⟨rfl,T.cl⟩
   ·rw [e];show i≠0;rintro rfl;rw [hm] at e;cases e
  ·cases st with
   | hire hi hs=>rcases key _ hi with rfl | rfl | e <;> simp_all
   | shut hi hs=>rcases key _ hi with rfl | rfl | e <;> simp_all
   | hear hj hs hcl=>
    rcases key _ hj with rfl | rfl | e
    ·rw [hm] at hs;cases hs;rw [T.cl] at hcl;cases hcl
    ·rw [hch] at hs;cases hs
    ·rw [e] at hs;cases hs
   | @meet i j c' m' nx f hi hj hij hs hs'=>
    have hi':i=k:=by
     rcases key _ hi with rfl | rfl | e
     ·rw [hm] at hs;cases hs
     ·rfl
     ·rw [e] at hs;cases hs
    have hj':j=0:=by
     rcases key _ hj with rfl | rfl | e
     ·rfl
     ·rw [hch] at hs';cases hs'
     ·rw [e] at hs';cases hs'
    subst hi' hj';rw [hch] at hs;cases hs;rw [hm] at hs';cases hs';refine ih ⟨T.n,hk,?_,?_,fun j hj hjk=>⟨?_,?_⟩,T.cl⟩
    ·show (if 0=i then _ else if 0=0 then _ else N.s 0)=_;rw [if_neg (by omega),if_pos rfl];show (if m=m then _ else _)=_;rw [if_pos rfl]
    ·show (if i=i then _ else _)=_;rw [if_pos rfl]
    ·show (if j=i then _ else if j=0 then _ else N.s j)=_;rw [if_neg (by omega),if_neg (by omega)];exact (T.rest j hj hjk).1
    ·simp only [IT.meet,or_true,if_true];exact .inr (.inl (T.rest j hj hjk).2)
theorem VD {c:Nat} {ms:List M} {N:IT M} (S:VC c (.spawn (ID c ms) (JS c ms)) N):I3 (fun x=>x=c) N:=by
 obtain ⟨hn,h0,hr,hcl⟩:=S;have key:∀i,i<N.n→i=0∨N.s i=.done:=fun i hi=>(Nat.eq_zero_or_pos i).imp id fun hp=>(hr i hp hi).1;refine .step N hn ⟨_,.hire hn h0⟩ (fun i hi=>?_) (fun N' st=>?_)
 ·rcases key i hi with rfl | e
  ·rw [h0];trivial
  ·rw [e];show i≠0;rintro rfl;rw [h0] at e;cases e
 ·cases st with
  | meet hi hj hij hs hs'=>rcases key _ hi with rfl | e <;> simp_all
  | shut hi hs=>rcases key _ hi with rfl | e <;> simp_all
  | hear hj hs hcl=>rcases key _ hj with rfl | e <;> simp_all
  | @hire i ch nx hi hs=>
   rcases key _ hi with rfl | e
   ·rw [h0] at hs;cases hs;refine Xy (k:=N.n) (ms:=ms) ⟨rfl,hn,?_,?_,fun j hj hjk=>⟨?_,?_⟩,hcl⟩
    ·show (if 0=N.n then _ else if 0=0 then _ else _)=_;rw [if_neg (by omega),if_pos rfl]
    ·show (if N.n=N.n then _ else _)=_;rw [if_pos rfl]
    ·show (if j=N.n then _ else if j=0 then _ else N.s j)=_;rw [if_neg (by omega),if_neg (by omega)];exact (hr j hj hjk).1
    ·show (if j=N.n then False else if 0=N.n then _ else N.kn 0 j);rw [if_neg (by omega),if_neg (by omega)];exact (hr j hj hjk).2
   ·rw [e] at hs;cases hs
omit [DecidableEq M] in
theorem QE (c:Nat) (ms:List M):¬(ID c ms).isDone:=by cases ms <;> exact id
theorem QF (c:Nat) (ms:List M):¬(JS c ms).isDone:=by cases ms <;> exact id
end
end Go.Ns
namespace Go.Ns
open Go.Conc
section
variable (d m:Int) (gs:List Good) (ms:List AB) (cs:List AF)
def Lh (mask:Nat):Option (List Int):=if DB d gs ms (Cp cs (mask:Int) cs.length) m=true then none else some (BK (mask:Int) cs.length)
def C6 (k f:Nat):List (List Int):=(List.range' k f).filterMap (Lh d m gs ms cs)
def EB:List (List Int):=C6 d m gs ms cs 0 (2 ^ cs.length)
def EY:Int:=if Ag d m gs ms cs=0 then (if DB d gs ms cs m=true then 0 else if DB d gs ms (Cp cs 0 cs.length) m=true then 0 else 8) else Ag d m gs ms cs
def Fl:List Int:=if Ag d m gs ms cs=0∧DB d gs ms cs m=false∧DB d gs ms (Cp cs 0 cs.length) m=true then I6 ((EB d m gs ms cs).getD 0 []) ((EB d m gs ms cs).drop 1) else []
end
section
variable {d m:Int} {gs:List Good} {ms:List AB} {cs:List AF}
theorem OG {k f:Nat} (h:DB d gs ms (Cp cs (k:Int) cs.length) m=true):C6 d m gs ms cs k (f+1)=C6 d m gs ms cs (k+1) f:=by
 unfold C6 Lh;rw [List.range'_succ,List.filterMap_cons];simp [h]
theorem OH {k f:Nat} (h:DB d gs ms (Cp cs (k:Int) cs.length) m=false):C6 d m gs ms cs k (f+1)=BK (k:Int) cs.length ::C6 d m gs ms cs (k+1) f:=by
 unfold C6 Lh;rw [List.range'_succ,List.filterMap_cons];simp [h]
theorem VE {n i:Nat} (hn:n≤4) (hi:i<n):HC ((2 ^ n-1:Nat):Int) i=true:=by
 have h:∀n,n≤4→∀i,i<n→HC ((2 ^ n-1:Nat):Int) i=true:=by decide
 exact h n hn i hi
theorem VF {α:Type} (l:List α) (z:α):(List.range l.length).map (fun i=>l.getD i z)=l:=by
 apply List.ext_getElem
 ·simp
 ·intro i h1 h2;simp [List.getD_eq_getElem?_getD,List.getElem?_eq_getElem h2]
theorem VG (h:cs.length≤4):Cp cs ((2 ^ cs.length-1:Nat):Int) cs.length=cs:=by
 unfold Cp;rw [List.filter_eq_self.2 fun i hi=>VE h (List.mem_range.1 hi)];exact VF cs AF.z
theorem Te (hcl:cs.length≤4) (h:DB d gs ms cs m=false):EB d m gs ms cs≠[]:=by
 intro e;unfold EB C6 at e;rw [List.filterMap_eq_nil_iff] at e;have hp:0<2 ^ cs.length:=Nat.pow_pos (by decide)
 have:=e (2 ^ cs.length-1) (List.mem_range'.2 ⟨2 ^ cs.length-1,by omega,by omega⟩)
 unfold Lh at this;rw [VG hcl,if_neg (by rw [h];simp)] at this;cases this
theorem SA (hcl:cs.length≤4):(EB d m gs ms cs).length≤16:=by
 unfold EB C6;refine Nat.le_trans (List.length_filterMap_le _ _) ?_;rw [List.length_range'];exact Nat.pow_le_pow_right (n:=2) (by decide) hcl
theorem Pc (h:¬Ag d m gs ms cs=0):EY d m gs ms cs=Ag d m gs ms cs:=by unfold EY;rw [if_neg h]
theorem VH (h:¬Ag d m gs ms cs=0):Fl d m gs ms cs=[]:=by unfold Fl;rw [if_neg (fun e=>h e.1)]
theorem OI (h:Ag d m gs ms cs=0) (h1:DB d gs ms cs m=true):EY d m gs ms cs=0:=by unfold EY;rw [if_pos h,if_pos h1]
theorem Tf (h1:DB d gs ms cs m=true):Fl d m gs ms cs=[]:=by unfold Fl;rw [if_neg (fun e=>by rw [h1] at e;cases e.2.1)]
theorem M8 (h:Ag d m gs ms cs=0) (h1:DB d gs ms cs m=false) (h2:DB d gs ms (Cp cs 0 cs.length) m=false):EY d m gs ms cs=8:=by
 unfold EY;rw [if_pos h,if_neg (by rw [h1];simp),if_neg (by rw [h2];simp)]
theorem SB (h2:DB d gs ms (Cp cs 0 cs.length) m=false):Fl d m gs ms cs=[]:=by unfold Fl;rw [if_neg (fun e=>by rw [h2] at e;cases e.2.2)]
theorem SC (h:Ag d m gs ms cs=0) (h1:DB d gs ms cs m=false) (h2:DB d gs ms (Cp cs 0 cs.length) m=true):EY d m gs ms cs=0:=by
 unfold EY;rw [if_pos h,if_neg (by rw [h1];simp),if_pos h2]
theorem Xz {fl:List Sl} (h:Ag d m gs ms cs=0) (h1:DB d gs ms cs m=false) (h2:DB d gs ms (Cp cs 0 cs.length) m=true) (hcl:cs.length≤4) (hfl:A5 fl=EB d m gs ms cs) :
  0<fl.length∧Fl d m gs ms cs=I6 (fl.getD 0 Sl.z).2 (A5 (fl.drop 1)):=by
 have hne:=Te (d:=d) (gs:=gs) (ms:=ms) hcl h1;have hpos:0<fl.length:=by
  rw [←C7,hfl];exact List.length_pos_iff.2 hne
 refine ⟨hpos,?_⟩;unfold Fl;rw [if_pos ⟨h,h1,h2⟩,←hfl,Cb hpos];congr 1;unfold A5;rw [List.map_drop]
end
theorem Az.pick {d m:Int} {gs:List Good} {ms:List AB} {cs:List AF} (b:Az d m gs ms cs) (mask:Int):Az d m gs ms (Cp cs mask cs.length):=
 { b with
  clen:=Nat.le_trans (P5 cs mask _) b.clen
  count:=fun k hk=>by
   have hm:=CR (d:=AF.z) hk;generalize hx:(Cp cs mask cs.length).getD k AF.z=x at hm;unfold Cp at hm;obtain ⟨i,hi,e⟩:=List.mem_map.1 hm;have hi2:=List.mem_range.1 (List.mem_filter.1 hi).1
   have:=b.count i hi2
   unfold FG at this ⊢;rw [hx,←e];exact this }
theorem B9.flags {h h':GH} {l:List Sl} (s:h.Same h') (a:B9 h l):B9 h' l:=fun k=>(a k).flags s
def RepL:Nat→List Int→Value→GH→Prop:=fun _ l v hm=>AJ hm v 1 eI l
def GH.part (h:GH) (v:Value):GH:=fun b=>if Bw v=some b then h b else none
def GH.rest (h:GH) (v:Value):GH:=fun b=>if Bw v=some b then none else h b
theorem GH.split_part (h:GH) (v:Value):GH.Split h (h.rest v) (h.part v) where
 left:=fun b p o hb=>by
  unfold GH.rest at hb;split at hb
  ·cases hb
  ·exact ⟨p,hb,id⟩
 right:=fun b p o hb=>by
  unfold GH.part at hb;split at hb
  ·exact ⟨p,hb,id⟩
  ·cases hb
 one:=fun r o x h1 h2=>by
  unfold GH.rest at h1;unfold GH.part at h2;split at h1
  ·cases h1
  ·rename_i e;rw [if_neg e] at h2;cases h2
 two:=fun r o x h1 h2=>by
  unfold GH.rest at h2;unfold GH.part at h1;split at h2
  ·cases h2
  ·rename_i e;rw [if_neg e] at h1;cases h1
theorem AT.part {α:Type} {h0 h:GH} {v:Value} {t:TypeId} {n:Nat} {enc:α→Array Value} {xs:List α} (x:AT h0 h v t n enc xs):AJ (h.part v) v n enc xs:=
 AT.sl (h0:=h0) (x.keep fun b o hb ho=>by unfold GH.part;rw [if_pos hb];exact ho)
theorem AT.le_rest {α:Type} {h0 h hb:GH} {v:Value} {t:TypeId} {n:Nat} {enc:α→Array Value} {xs:List α} (x:AT h0 h v t n enc xs) (l:hb.Le h) (l0:hb.Le h0):hb.Le (h.rest v):=fun b p o hbb=>by
 unfold GH.rest;rw [if_neg]
 ·exact l b p o hbb
 ·intro e;rcases x with ⟨rfl,_⟩ | ⟨b1,cap,c,rfl,f0,_⟩
  ·cases e
  ·have:b1=b:=by simpa [Bw] using e
   subst this
   have:=l0.keep hbb rfl
   rw [f0] at this;cases this
theorem AJ.join {α:Type} {h hm:GH} {v:Value} {n:Nat} {enc:α→Array Value} {xs:List α} (x:AJ hm v n enc xs) (c:h.Compat hm):AJ (h.join hm) v n enc xs:=x.flags fun b p o hb=>by
 unfold GH.join;cases e:h b with
 | none=>exact ⟨p,hb⟩
 | some y=>obtain ⟨q,o'⟩:=y;obtain ⟨rfl,rfl,rfl⟩:=c b q o' p o e hb;exact ⟨false,rfl⟩
theorem GH.Compat.le {a h hm:GH} (l:a.Le h) (c:h.Compat hm):a.Compat hm:=fun b p o q o' x y=>c b p o q o' (l.keep x rfl) y
theorem GH.Le.joins {a h hm:GH} (l:a.Le h) (c:h.Compat hm):(a.join hm).Le (h.join hm):=fun b p o hb=>by
 unfold GH.join at hb ⊢;cases e:a b with
 | some x=>rw [e] at hb;cases hb;rw [l.keep e rfl];exact ⟨o,rfl,.inl rfl⟩
 | none=>
  rw [e] at hb;cases e2:h b with
  | none=>exact ⟨o,hb,.inl rfl⟩
  | some y=>obtain ⟨q,o'⟩:=y;obtain ⟨rfl,rfl,rfl⟩:=c b q o' p o e2 hb;exact ⟨_,rfl,.inl rfl⟩
theorem AT.joins {α:Type} {h0 h hm:GH} {v:Value} {t:TypeId} {n:Nat} {enc:α→Array Value} {xs:List α} (x:AT h0 h v t n enc xs) (c:h.Compat hm):AT (h0.join hm) (h.join hm) v t n enc xs:=by
 rcases x with x | ⟨b,cap,cc,rfl,f0,f1,f2⟩
 ·exact .inl x
 ·refine .inr ⟨b,cap,cc,rfl,?_,?_,f2⟩
  ·unfold GH.join;rw [f0];cases e:hm b with
   | none=>rfl
   | some y=>obtain ⟨q,o'⟩:=y;have:=(c b _ _ q o' f1 e).1;cases this
  ·unfold GH.join;rw [f1]
section
variable {P:Program} {M:Type} {F:Pa P M} {i i':Option (Fe M)} {σ:Nat→Value} {ds:List Deferred} {h:GH} {Q:Ta M}
theorem trI_ix {c:Code} (e:i=i') (x:K7 F c i' σ ds h Q):K7 F c i σ ds h Q:=e▸x
theorem XJ {ops:Array Oper} {l:List Oper} (e:i=i') (x:Lb F ops l i' σ ds h Q):Lb F ops l i σ ds h Q:=e▸x
theorem X2 {c:Code} {Q:Post} (x:K7 F c none σ ds h fun i e σ ds h=>i=none∧Q e σ ds h):Tr ⟨F.W,F.fn,F.rd,F.N⟩ c σ ds h Q:=by
 intro b k cs L t hb hr hl hs hc;refine x b k cs (fun i=>match i with | none=>L | some _=>fun _ _ _ _=>False) t hb hr (fun i=>?_) hs fun i e σ' ds' h' q t' ht'=>?_
 ·cases i with
  | none=>exact hl
  | some s=>exact ⟨fun _ _ _ x=>x.elim,fun _ _ _ _ x=>x.elim,fun _ _ _ _ _ _ x=>x.elim⟩
 ·obtain ⟨rfl,q⟩:=q;exact hc e σ' ds' h' q t' ht'
theorem trI_end {c:Code} {Q:Post} (x:Tr (F.env none) c σ ds h Q):K7 F c none σ ds h fun i e σ ds h=>i=none∧Q e σ ds h:=
 IC (NC (fun _ _ _ _ q=>⟨rfl,q⟩) x)
variable {dst:Option Nat} {ty:TypeId} {pos:String} {af:Array Edge} {gd:Option (Nat×Bool)}
theorem AAM {a x:Operand} {c:Nat} {v:Value} (ha:AU σ a=.chan (some c)) (hx:AU σ x=v) (w:World):(execOp (AU σ) ⟨dst,.send a x,ty,pos,af,gd⟩).runT P w #[]=(.ok (.comm #[scase c v (.tuple #[])] true .send) w,#[]):=by
 subst hx;show (Result.ok (Next.comm #[{ chan:=AU σ a,send:=some (AU σ x),zero:=.tuple #[] }] true .send) w,#[])=_;rw [ha];rfl
theorem AAN {a:Operand} {c:Nat} {t e:TypeId} {d:ChanDir} {ok:Bool} {z:Value} {inf:TypeInfo} (ht:P.underlying t=some (.chan d e)) (hi:P.info? e=some inf) (hz:inf.zero=some z) (ha:AU σ a=.chan (some c)) (w:World) :
  (execOp (AU σ) ⟨dst,.recv t a ok,ty,pos,af,gd⟩).runT P w #[]=(.ok (.comm #[rcase c z] true (.recv ok)) w,#[]):=by
 have h1:(zeroValue e).run P w=.ok z w:=by
  unfold zeroValue typeInfo;simp only [Sem.run_bind,program,hi];simp [Sem.run,hi,hz]
 have h2:(underlying t).run P w=.ok (.chan d e) w:=run_underlying ht w;rw [Sem.runT_eq];unfold execOp;simp [h1,h2,ha,rcase]
theorem QG {a:Operand} {c:Nat} {t e:TypeId} {d:ChanDir} {ok:Bool} {z:Value} (ht:P.underlying t=some (.chan d e)) (hz:(P.info? e).map (·.zero)=some (some z)) (ha:AU σ a=.chan (some c)) (w:World) :
  (execOp (AU σ) ⟨dst,.recv t a ok,ty,pos,af,gd⟩).runT P w #[]=(.ok (.comm #[rcase c z] true (.recv ok)) w,#[]):=by
 obtain ⟨inf,hi,h2⟩:=Option.map_eq_some_iff.1 hz;exact AAN ht hi h2 ha w
theorem run_go {x:Operand} {f:Fn} {cap:Array Value} {tys:Array TypeId} (hx:AU σ x=.func f #[] cap) (w:World):(execOp (AU σ) ⟨dst,.go ⟨.value x,#[],tys⟩,ty,pos,af,gd⟩).runT P w #[]=(.ok (.spawn { target:=.fn f cap,args:=#[] }) w,#[]):=by
 have e:resolve (AU σ) ⟨.value x,#[],tys⟩ ty=(pure { target:=.fn f cap,args:=#[] }:Sem Deferred):=by
  unfold resolve;simp only [hx,Deferred.ofValue];simp
 unfold execOp;simp only [e];rfl
variable {E:GY P} {T:(Nat→Value)→List Deferred→GH→Prop}
theorem Tg {t e:TypeId} {d:ChanDir} {n:Operand} (ht:P.underlying t=some (.chan d e)) (hi0:(P.info? e).isSome=true) (hn:AU σ n=.int .i64 0)
  (k:∀r h',h r=none→h.Le h'→h' r=some (true,.chan 0 #[] false 0 0 false)→(∀b,b≠r→h' b=h b)→T (putS σ dst (.chan (some r))) ds h'):Be E ⟨dst,.makeChan t n,ty,pos,af,gd⟩ σ ds h T:=by
 unfold Be execOp;refine Fv ?_;unfold Instr.makeChan;rw [hn];refine AG _ _ (A0 ?_);refine AG _ _ (Ao ht ?_);simp only [];obtain ⟨inf,hi⟩:=Option.isSome_iff_exists.1 hi0;refine AG _ _ (Cx hi ?_);rw [if_neg (by simp [IntKind.max];decide)];refine AG _ _ ?_;exact fun r hr=>k r _ hr (GH.Le.new hr _ _) (GH.set_same _ _ _ _) fun b hb=>GH.set_ne _ _ _ hb
theorem trL_def {ops:Array Oper} {l:List Oper} {o:Oper} {Q:Post} (hg:o.guard=none) (hrd:E.rd=none) (hd:Ee o.dst E.N=true) (x:Be E o σ ds h fun σ' ds' h'=>EK E ops l σ' ds' h' Q):EK E ops (o ::l) σ ds h Q:=
 Zf hg (.inl hrd) hd x
theorem Pd {x:Operand} {c:Nat} {tys:Array TypeId} {bs:Array Bool} (hx:AU σ x=.chan (some c)) (hb:(#[x].map fun | .const _=>true | _=>false)=bs) (k:T (putS σ dst undef) (Kh tys ty bs c ::ds) h) :
  Be E ⟨dst,.defer ⟨.builtin .close,#[x],tys⟩,ty,pos,af,gd⟩ σ ds h T:=by
 unfold Be execOp;simp only [];refine AG _ _ ?_;unfold resolve;simp only [];refine A0 (A0 ?_);have e:(#[x].map (AU σ):Array Value)=#[.chan (some c)]:=by simp [hx]
 rw [e];subst hb;exact k
end
section
variable {d m:Int} {gs:List Good} {ms:List AB} {cs:List AF} {k c:Nat}
theorem VI (hk:k<2 ^ cs.length) (h:DB d gs ms (Cp cs (k:Int) cs.length) m=true) :
  some (ID c (C6 d m gs ms cs k (2 ^ cs.length-k)))=some (ID c (C6 d m gs ms cs (k+1) (2 ^ cs.length-(k+1)))):=by
 rw [show 2 ^ cs.length-k=(2 ^ cs.length-(k+1))+1 by omega,OG h]
theorem VJ (hk:k<2 ^ cs.length) (h:DB d gs ms (Cp cs (k:Int) cs.length) m=false) :
  some (ID c (C6 d m gs ms cs k (2 ^ cs.length-k)))=some (.send c (BK (k:Int) cs.length) (ID c (C6 d m gs ms cs (k+1) (2 ^ cs.length-(k+1))))):=by
 rw [show 2 ^ cs.length-k=(2 ^ cs.length-(k+1))+1 by omega,OH h];rfl
theorem X3 (hk:2 ^ cs.length≤k):some (ID c (C6 d m gs ms cs k (2 ^ cs.length-k)))=some (.close c .done):=by
 rw [show 2 ^ cs.length-k=0 by omega];rfl
theorem Th (h:(k:Int)<(2:Int) ^ ((cs.length:Int)).toNat):k<2 ^ cs.length:=by
 have:=R8 cs.length
 rw [Int.toNat_natCast] at h;omega
theorem AAO (h:¬(k:Int)<(2:Int) ^ ((cs.length:Int)).toNat):2 ^ cs.length≤k:=by
 have:=R8 cs.length
 rw [Int.toNat_natCast] at h;omega
end
end Go.Ns
namespace Go.Ns
def SD (ms:List AB) (p:AV) (g:Int) (k:Nat):Int:=if (ms.getD k AB.z).good=g then D0 (ms.getD k AB.z).kind.toNat (CQ p k) else 0
def E6 (ms:List AB) (p:AV) (g:Int) (k:Nat):Int×Int:=((ms.getD k AB.z).day,SD ms p g k)
def NI (ms:List AB) (p:AV) (g:Int):List (Int×Int):=(List.range ms.length).map (E6 ms p g)
def runA (n low:Int):List (Int×Int)→Int×Int
 | []=>(n,low)
 | [x]=>(n+x.2,min (n+x.2) low)
 | x ::y ::t=>runA (n+x.2) (if x.1<y.1 then min (n+x.2) low else low) (y ::t)
def runB (c n low:Int):List (Int×Int)→Int×Int
 | []=>(n,min n low)
 | x ::t=>if c<x.1 then runB x.1 (n+x.2) (min n low) t else runB c (n+x.2) low t
def Ga:Int→List (Int×Int)→Prop
 | _,[]=>True
 | c,x ::t=>c≤x.1∧Ga x.1 t
theorem AAP:∀(t:List (Int×Int)) (x:Int×Int) (n low:Int),Ga x.1 t→runA n low (x ::t)=runB x.1 (n+x.2) low t
 | [],x,n,low,_=>rfl
 | y ::t,x,n,low,h=>by
  show runA (n+x.2) _ (y ::t)=if x.1<y.1 then _ else _
  rw [AAP t y _ _ h.2];by_cases e:x.1<y.1
  ·rw [if_pos e,if_pos e]
  ·rw [if_neg e,if_neg e,show x.1=y.1 from by have:=h.1;omega]
theorem runA_B0 {n:Int}:∀{t:List (Int×Int)},(∀x ∈ t,1≤x.1)→Ga 0 t→runA n n t=runB 0 n n t
 | [],_,_=>by simp [runA,runB,Int.min_self]
 | x ::t,h1,h=>by
  rw [AAP t x n n h.2];show _=if 0<x.1 then _ else _
  rw [if_pos (by have:=h1 x (by simp);omega),Int.min_self]
theorem Ga.weak {c c':Int} (hc:c'≤c):∀{t:List (Int×Int)},Ga c t→Ga c' t
 | [],_=>trivial
 | _ ::_,h=>⟨by have:=h.1;omega,h.2⟩
theorem X4 {c d n low:Int} (hcd:c<d):∀{t:List (Int×Int)},Ga d t→runB d n (min n low) t=runB c n low t
 | [],_=>by simp only [runB];congr 1;omega
 | y ::t,h=>by
  have h1:=h.1;show (if d<y.1 then _ else _)=if c<y.1 then _ else _
  rw [if_pos (show c<y.1 by omega)];by_cases e:d<y.1
  ·rw [if_pos e,show min n (min n low)=min n low by omega]
  ·rw [if_neg e,show d=y.1 by omega]
theorem Hi {ι:Type} {f:ι→Int×Int} {q:ι→Bool}:∀{l:List ι} {c n low:Int},(∀i ∈ l,q i=false→(f i).2=0)→Ga c (l.map f)→runB c n low (l.map f)=runB c n low ((l.filter q).map f)
 | [],_,_,_,_,_=>rfl
 | i ::l,c,n,low,hz,hr=>by
  have hz':∀j ∈ l,q j=false→(f j).2=0:=fun j hj=>hz j (by simp [hj]);cases hq:q i with
  | true=>
   rw [List.filter_cons_of_pos hq];show (if c<(f i).1 then _ else _)=if c<(f i).1 then _ else _
   split
   ·exact Hi hz' hr.2
   ·exact Hi hz' (Ga.weak hr.1 hr.2)
  | false=>
   rw [List.filter_cons_of_neg (by simp [hq])];have h0:=hz i (by simp) hq;show (if c<(f i).1 then runB (f i).1 (n+(f i).2) _ _ else _)=_;rw [h0,Int.add_zero];have hr2:Ga (f i).1 (l.map f):=hr.2;rw [←Hi hz' (Ga.weak hr.1 hr2)];split
   ·rename_i e;exact X4 e hr2
   ·rfl
theorem OJ {ms:List AB} {p:AV} {g dy:Int} (hd:∀k,k<ms.length→(ms.getD k AB.z).day≤dy):∀(f k:Nat) (n low:Int),k+f=ms.length→Cm ms p g dy f k n low=runA n low ((List.range' k f).map (E6 ms p g))
 | 0,_,_,_,_=>rfl
 | f+1,k,n,low,e=>by
  have h1:¬dy<(ms.getD k AB.z).day:=by have:=hd k (by omega);omega
  unfold Cm;rw [if_neg h1,OJ hd f (k+1) _ _ (by omega),List.range'_succ,List.map_cons];have hn:GK ms p g k n=n+(E6 ms p g k).2:=by unfold GK E6 SD;simp only [];split <;> omega
  cases f with
  | zero=>
   show (_,_)=(_,_);rw [hn];congr 1;unfold Fg;rw [if_pos (.inl (by omega)),Int.min_comm]
  | succ f=>
   rw [List.range'_succ,List.map_cons,hn];have hne:¬((k:Int)+1=ms.length):=by omega
   have hlow:Fg ms k low (n+(E6 ms p g k).2)=if (E6 ms p g k).1<(E6 ms p g (k+1)).1 then min (n+(E6 ms p g k).2) low else low:=by
    show (if (k:Int)+1=ms.length∨(ms.getD k AB.z).day<(ms.getD (k+1) AB.z).day then _ else _)=if (ms.getD k AB.z).day<(ms.getD (k+1) AB.z).day then _ else _
    by_cases e2:(ms.getD k AB.z).day<(ms.getD (k+1) AB.z).day
    ·rw [if_pos (.inr e2),if_pos e2,Int.min_comm]
    ·rw [if_neg (by simp only [e2,or_false];exact hne),if_neg e2]
   rw [hlow];rfl
theorem X5 {ms:List AB} {p:AV} {g dy:Int} (hd:∀k,k<ms.length→(ms.getD k AB.z).day≤dy):AP ms p g dy=runA (p.first g.toNat) (p.first g.toNat) (NI ms p g):=by
 unfold AP NI;rw [OJ hd ms.length 0 _ _ (by omega),List.range_eq_range']
def Iu (ms:List AB):Prop:=ms.Pairwise fun a b=>a.day≤b.day
section
variable {d m:Int} {gs:List Good} {ms:List AB} {cs:List AF}
theorem Az.up (b:Az d m gs ms cs):Iu ms:=by
 have adj:∀k,k+1<ms.length→(ms.getD k AB.z).day≤(ms.getD (k+1) AB.z).day:=fun k hk=>by
  have:=(b.move' hk).2.2.2.1
  unfold Ds at this;rw [if_neg (by omega)] at this;simpa using this
 have all:∀f k,k+f<ms.length→(ms.getD k AB.z).day≤(ms.getD (k+f) AB.z).day:=by
  intro f
  induction f with
  | zero=>intro k _;exact Int.le_refl _
  | succ f ih=>intro k hk;exact Int.le_trans (ih k (by omega)) (adj (k+f) (by omega))
 unfold Iu;rw [List.pairwise_iff_getElem];intro i j hi hj hij
 have:=all (j-i) i (by omega)
 rw [show i+(j-i)=j by omega,Bi AB.z hi,Bi AB.z hj] at this;exact this
theorem QH {ι:Type} {f:ι→Int×Int}:∀{l:List ι} {c:Int},l.Pairwise (fun i j=>(f i).1≤(f j).1)→(∀i ∈ l,c≤(f i).1)→Ga c (l.map f)
 | [],_,_,_=>trivial
 | i ::l,c,h,h1=>⟨h1 i (by simp),QH (List.pairwise_cons.1 h).2 fun j hj=>(List.pairwise_cons.1 h).1 j hj⟩
theorem Az.pairsUp (b:Az d m gs ms cs) (p:AV) (g:Int) {l:List Nat} (s:l.Sublist (List.range ms.length)):Ga 0 (l.map (E6 ms p g)):=by
 refine QH ?_ fun i hi=>?_
 ·have h1:(List.range ms.length).Pairwise (fun i j=>(E6 ms p g i).1≤(E6 ms p g j).1):=by
   rw [List.pairwise_iff_getElem];intro i j hi hj hij;simp only [List.getElem_range]
   have:=b.up
   unfold Iu at this;rw [List.pairwise_iff_getElem] at this;simp only [List.length_range] at hi hj
   have:=this i j hi hj hij
   rwa [←Bi AB.z,←Bi AB.z] at this
  exact h1.sublist s
 ·have:=List.mem_range.1 (s.subset hi)
  have:=(b.move' this).2.2.1
  show 0≤(ms.getD i AB.z).day;omega
theorem Az.stock (b:Az d m gs ms cs) (p:AV) (g:Int):AP ms p g d=runB 0 (p.first g.toNat) (p.first g.toNat) (NI ms p g):=by
 rw [X5 fun k hk=>(b.move' hk).2.2.1.2];refine runA_B0 (fun x hx=>?_) (b.pairsUp p g (List.Sublist.refl _));obtain ⟨i,hi,rfl⟩:=List.mem_map.1 hx;exact (b.move' (List.mem_range.1 hi)).2.2.1.1
end
theorem Ti {l:List Int} {n:Int} (h:(l.length:Int)=n) (h2:∀x ∈ l,0≤x∧x≤99):A8 l n=0:=by
 unfold A8;rw [if_neg (by simpa using h),if_neg];rw [List.any_eq_true];rintro ⟨x,hx,e⟩;exact (of_decide_eq_true e) (h2 x hx)
section
variable {d m:Int} {gs:List Good} {ms:List AB} {cs:List AF} {picks:List Int} {bits:Int}
end
end Go.Ns
namespace Go.Ns
open Go.Conc
section
variable {P:Program} {E:GY P} {σ:Nat→Value} {ds:List Deferred} {h:GH} {T:(Nat→Value)→List Deferred→GH→Prop} {dst:Option Nat} {ty:TypeId} {pos:String} {af:Array Edge} {gd:Option (Nat×Bool)}
theorem VK {s:ByteArray} {i:Nat} (h:i<s.size):((s[i]'h).toNat:Int)=(bytesOf s).getD i 0:=by
 have h2:i<(bytesOf s).length:=by rw [Cj];exact h
 rw [Bi 0 h2];exact (List.getElem_map (l:=s.data.toList) (f:=fun b=>(b.toNat:Int)) (h:=h2)).symm
theorem OK {t:TypeId} {x ix:Operand} {s:ByteArray} {kd:IntKind} {i:Int} (ht:NX P t=true) (hx:AU σ x=.string s) (hi:AU σ ix=.int kd i) (h0:0≤i) (h1:i<s.size) (k:T (putS σ dst (.int .u8 ((bytesOf s).getD i.toNat 0))) ds h) :
  Be E ⟨dst,.index t x ix,ty,pos,af,gd⟩ σ ds h T:=Pv ht hx hi h0 h1 (by rw [VK];exact k)
end
theorem Tj {s:ByteArray} (h:¬(1≤(s.size:Int)∧(s.size:Int)≤10)):Dz s=false:=by unfold Dz;rw [decide_eq_false h,Bool.and_false]
def Du (d:Int) (gs:List Good) (c:AF):Int:=if¬(0≤c.good∧c.good≤(gs.length:Int)-1) then 6 else if¬(0≤c.day∧c.day≤d)∨¬((0≤c.low∧c.low≤c.high)∧c.high≤999) then 1 else 0
section
variable {d m:Int} {gs:List Good} {ms:List AB} {cs:List AF}
theorem Hj:Ag d m gs ms cs=if E8 d m=0 then (if Bb gs=0 then (if BT d gs ms=0 then (if CZ d gs cs=0 then 0 else CZ d gs cs) else BT d gs ms) else Bb gs) else E8 d m:=rfl
theorem bb1 (h:¬(1≤d∧d≤99)∨¬(0≤m∧m≤2)):Ag d m gs ms cs=1:=by
 have e:E8 d m=1:=if_pos h;rw [Hj,e,if_neg (by decide)]
theorem AAQ (h:(1≤d∧d≤99)∧(0≤m∧m≤2)):E8 d m=0:=if_neg (by omega)
theorem bb2 (h0:(1≤d∧d≤99)∧(0≤m∧m≤2)) (h:¬Bb gs=0):Ag d m gs ms cs=Bb gs:=by rw [Hj,if_pos (AAQ h0),if_neg h]
theorem bb3 (h0:(1≤d∧d≤99)∧(0≤m∧m≤2)) (h:¬¬Bb gs=0) (h2:¬BT d gs ms=0):Ag d m gs ms cs=BT d gs ms:=by rw [Hj,if_pos (AAQ h0),if_pos (Decidable.not_not.1 h),if_neg h2]
theorem bb4 (h0:(1≤d∧d≤99)∧(0≤m∧m≤2)) (h:¬¬Bb gs=0) (h2:¬¬BT d gs ms=0) {c:Int} (h3:CZ d gs cs=c):Ag d m gs ms cs=c:=by
 rw [Hj,if_pos (AAQ h0),if_pos (Decidable.not_not.1 h),if_pos (Decidable.not_not.1 h2),h3];by_cases e:c=0
 ·rw [if_pos e,e]
 ·rw [if_neg e]
theorem VL (h:(4:Int)<cs.length):CZ d gs cs=2:=if_pos h
theorem VM {k:Nat} (h:¬(4:Int)<cs.length) (hs:∀j,j<k→FG d gs cs j=0) (hk:k<cs.length) (e:¬Du d gs (cs.getD k AF.z)=0):CZ d gs cs=Du d gs (cs.getD k AF.z):=by
 unfold CZ;rw [if_neg h];exact BS hs hk rfl e
theorem VN {k:Nat} (h:¬(4:Int)<cs.length) (hs:∀j,j<k→FG d gs cs j=0) (hk:cs.length≤k):CZ d gs cs=0:=by
 unfold CZ;rw [if_neg h];exact Cl hs hk
theorem OL {k:Nat} (h:0<k):Ds ms k=(ms.getD ((k:Int)-1).toNat AB.z).day:=by
 unfold Ds;rw [if_neg (by omega),show ((k:Int)-1).toNat=k-1 by omega]
theorem mv1 {k:Nat} (h:(ms.getD k AB.z).kind<0∨4<(ms.getD k AB.z).kind):DU d gs ms k=1:=by unfold DU;rw [if_pos (by omega)]
theorem mv2 {k:Nat} (h0:¬((ms.getD k AB.z).kind<0∨4<(ms.getD k AB.z).kind)) (h:¬(0≤(ms.getD k AB.z).good∧(ms.getD k AB.z).good≤(gs.length:Int)-1)):DU d gs ms k=6:=by unfold DU;rw [if_neg (by omega),if_pos h]
theorem mv3 {k:Nat} (h0:¬((ms.getD k AB.z).kind<0∨4<(ms.getD k AB.z).kind)) (h1:¬¬(0≤(ms.getD k AB.z).good∧(ms.getD k AB.z).good≤(gs.length:Int)-1)) (h:¬(1≤(ms.getD k AB.z).day∧(ms.getD k AB.z).day≤d)):DU d gs ms k=1:=by
 unfold DU;rw [if_neg (by omega),if_neg h1,if_pos h]
theorem mv4 {k:Nat} (h0:¬((ms.getD k AB.z).kind<0∨4<(ms.getD k AB.z).kind)) (h1:¬¬(0≤(ms.getD k AB.z).good∧(ms.getD k AB.z).good≤(gs.length:Int)-1)) (h2:¬¬(1≤(ms.getD k AB.z).day∧(ms.getD k AB.z).day≤d)) (hk:(0:Int)<(k:Int))
  (h:(ms.getD k AB.z).day<(ms.getD ((k:Int)-1).toNat AB.z).day):DU d gs ms k=7:=by
 unfold DU;rw [if_neg (by omega),if_neg h1,if_neg h2,OL (by omega),if_pos h]
theorem mv5 {k:Nat} (h0:¬((ms.getD k AB.z).kind<0∨4<(ms.getD k AB.z).kind)) (h1:¬¬(0≤(ms.getD k AB.z).good∧(ms.getD k AB.z).good≤(gs.length:Int)-1)) (h2:¬¬(1≤(ms.getD k AB.z).day∧(ms.getD k AB.z).day≤d)) {c:Int}
  (h3:(0:Int)<(k:Int)→¬(ms.getD k AB.z).day<(ms.getD ((k:Int)-1).toNat AB.z).day) (h4:(if¬E2 (ms.getD k AB.z).low (ms.getD k AB.z).high then (1:Int) else 0)=c):DU d gs ms k=c:=by
 have e:¬(ms.getD k AB.z).day<Ds ms k:=by
  by_cases hk:0<k
  ·rw [OL hk];exact h3 (by omega)
  ·have:=Decidable.not_not.1 h2
   unfold Ds;rw [if_pos (by omega)];omega
 unfold DU;rw [if_neg (by omega),if_neg h1,if_neg h2,if_neg e,h4]
theorem gd4 {k:Nat} (h:Dz (gs.getD k Good.z).name=false):FN gs k=4:=by unfold FN;rw [if_pos h]
theorem gd5 {k j:Nat} (h0:Dz (gs.getD k Good.z).name=true) (hj:(j:Int)<(k:Int)) (hk:(k:Int)<gs.length) (h:((gs.getD j Good.z).name.toList==(gs.getD k Good.z).name.toList)=true):FN gs k=5:=by
 unfold FN;rw [if_neg (by rw [h0];decide),if_pos];rw [List.any_eq_true];refine ⟨gs.getD j Good.z,?_,h⟩;rw [Bi Good.z (show j<gs.length by omega)];exact List.mem_take_iff_getElem.2 ⟨j,by omega,rfl⟩
theorem gd1 {k j:Nat} (h0:Dz (gs.getD k Good.z).name=true) (hj:j≤k) (hj':¬(j:Int)<(k:Int)) (h:(gs.take j).any (fun x=>x.name.toList==(gs.getD k Good.z).name.toList)=false) {c:Int}
  (hc:(if (¬(0≤(gs.getD k Good.z).cost∧(gs.getD k Good.z).cost≤999)∨¬(1≤(gs.getD k Good.z).pack∧(gs.getD k Good.z).pack≤20))∨¬E2 (gs.getD k Good.z).low (gs.getD k Good.z).high then (1:Int) else 0)=c):FN gs k=c:=by
 obtain rfl:j=k:=by omega
 unfold FN;rw [if_neg (by rw [h0];decide),if_neg (by rw [h];decide),hc]
def EN (gs:List Good) (ms:List AB) (cs:List AF):Bool:=decide ((20:Int)<gs.length) || decide ((20:Int)<ms.length) || decide ((20:Int)<cs.length) || gs.any fun x=>decide ((100:Int)<x.name.size)
theorem X6 (h:((20:Int)<gs.length∨(20:Int)<ms.length)∨(20:Int)<cs.length):EN gs ms cs=true:=by
 unfold EN;rcases h with (h | h) | h <;> simp [h]
theorem X7 {k:Nat} (hk:k<gs.length) (h:(100:Int)<(gs.getD k Good.z).name.size):EN gs ms cs=true:=by
 unfold EN;rw [Bool.or_eq_true];right;rw [List.any_eq_true];exact ⟨_,CR hk,decide_eq_true h⟩
theorem X8 {k:Nat} (h:¬(20:Int)<gs.length) (h2:¬(20:Int)<ms.length) (h3:¬(20:Int)<cs.length) (hk:gs.length≤k) (hs:∀j,j<k→¬(100:Int)<(gs.getD j Good.z).name.size):EN gs ms cs=false:=by
 unfold EN;rw [decide_eq_false h,decide_eq_false h2,decide_eq_false h3];simp only [Bool.false_or];rw [List.any_eq_false];intro x hx;obtain ⟨i,hi,rfl⟩:=List.getElem_of_mem hx
 have:=hs i (by omega)
 rw [Bi Good.z hi] at this;simpa using this
theorem Mp (h:EN gs ms cs=false):∀k,(gs.getD k Good.z).name.size≤1000:=by
 unfold EN at h;rw [Bool.or_eq_false_iff] at h;intro k;by_cases hk:k<gs.length
 ·have:=List.any_eq_false.1 h.2 _ (CR (d:=Good.z) hk)
  have:=of_decide_eq_false (Bool.eq_false_iff.2 this)
  omega
 ·rw [CB (by omega)];decide
end
theorem B9.cons {h:GH} {l:List Sl} {v:Value} {xs:List Int} (a:AJ h v 1 eI xs) (b:B9 h l):B9 h ((v,xs) ::l):=fun k=>by
 cases k with
 | zero=>exact a
 | succ k=>exact b k
theorem VO {a b:List Sl} {k:Nat} (h:(A5 a).take k=(A5 b).take k) (ha:k<a.length) (hb:k<b.length) (e:(a.getD k Sl.z).2=(b.getD k Sl.z).2):(A5 a).take (k+1)=(A5 b).take (k+1):=
 Nu [] h (by rw [C7];exact ha) (by rw [C7];exact hb) (by rw [Cb ha,Cb hb,e])
theorem X9 {a b:List Sl} {k:Nat} (h:(A5 a).take k=(A5 b).take k) (hk:¬(k:Int)<a.length) (hl:(a.length:Int)=b.length):A5 a=A5 b:=by
 rw [List.take_of_length_le (by rw [C7];omega),List.take_of_length_le (by rw [C7];omega)] at h;exact h
theorem AAR {a b:List Sl} (h:¬(a.length:Int)=b.length):¬A5 a=A5 b:=fun e=>h (by rw [←C7,←C7,e])
theorem VP {a b:List Sl} {k:Nat} (ha:k<a.length) (hb:k<b.length) (e:¬(a.getD k Sl.z).2=(b.getD k Sl.z).2):¬A5 a=A5 b:=fun q=>e (by rw [←Cb ha,←Cb hb,q])
end Go.Ns
namespace Go.Ns
open Go.Conc
def DM:List Good:=[⟨⟨#[116,101,97]⟩,5,4,3,3⟩,⟨⟨#[114,105,99,101]⟩,2,10,5,6⟩]
def DX:List AB:=[⟨0,0,2,4,4⟩,⟨1,0,3,2,3⟩,⟨2,1,4,0,1⟩,⟨0,1,5,10,10⟩]
def DY:List AF:=[⟨0,10,4,5⟩,⟨1,10,5,5⟩]
theorem EC:∀k,(DM.getD k Good.z).name.size≤1000
 | 0=>by decide
 | 1=>by decide
 | k+2=>by rw [CB (by simp [DM])];decide
theorem AAS {v0 v1 v2 v3 v4 v5 v6:Value} (h0:v0.cells=#[v0]) (h1:v1.cells=#[v1]) (h2:v2.cells=#[v2]) (h3:v3.cells=#[v3]) (h4:v4.cells=#[v4]) (h5:v5.cells=#[v5]) (h6:v6.cells=#[v6]):Instr.fill (fun i=>some (i*1,1)) ((Array.range (7*1)).map (#[Value.slice none 0 0][·% #[Value.slice none 0 0].size]!)) [(0,v0),(1,v1),(2,v2),(3,v3),(4,v4),(5,v5),(6,v6)]=some #[v0,v1,v2,v3,v4,v5,v6]:=by
 have e:((Array.range (7*1)).map (#[Value.slice none 0 0][·% #[Value.slice none 0 0].size]!))=#[Value.slice none 0 0,Value.slice none 0 0,Value.slice none 0 0,Value.slice none 0 0,Value.slice none 0 0,Value.slice none 0 0,Value.slice none 0 0]:=by kernel_rfl
 rw [e];simp [Instr.fill,h0,h1,h2,h3,h4,h5,h6]
theorem AJ.isSl {α:Type} {h:GH} {v:Value} {n:Nat} {enc:α→Array Value} {xs:List α} (x:AJ h v n enc xs):∀k i,v≠.int k i:=by
 obtain ⟨a,cap,rfl,_⟩:=x;intro k i e;cases e
theorem AJ.across {h h':GH} {v:Value} {xs:List Int} {r:Nat} {a b c:Value} {T:TypeId} (x:AJ h v 1 eI xs) (hb:h r=some (true,.cells #[.int .i64 10,.int .i64 1,a,b,c] T (0,0))) (ho:∀y,y≠r→h' y=h y)
  (ha:∀k i,a≠.int k i) (hb':∀k i,b≠.int k i) (hc:∀k i,c≠.int k i) (hx:∀o,o<5→∃i:Fin xs.length,(o+i.val=0→xs[i.val]≠10)∧(o+i.val=1→xs[i.val]≠1)):AJ h' v 1 eI xs:=by
 obtain ⟨ad,cap,hv,hcap,hm,he⟩:=x;refine ⟨ad,cap,hv,hcap,hm,fun i hi=>?_⟩;obtain ⟨y,off,h1,h2⟩:=he i hi;refine ⟨y,off,h1,h2.same (ho y ?_)⟩;rintro rfl;have key:∀j (hj:j<xs.length),off+j<5∧(#[Value.int .i64 10,.int .i64 1,a,b,c]:Array Value).extract (off+j) (off+j+1)=eI xs[j]:=fun j hj=>by
  obtain ⟨y2,off2,h3,h4⟩:=he j hj;rw [h1] at h3;simp only [Option.some.injEq,Addr.mk.injEq,and_true] at h3;obtain ⟨rfl,rfl⟩:=h3;obtain ⟨p,cc,t,f,q1,q2,q3⟩:=h4;rw [hb] at q1;simp only [Option.some.injEq,Prod.mk.injEq,Obj.cells.injEq] at q1;obtain ⟨_,rfl,_⟩:=q1;rw [Nat.mul_one] at q2 q3;exact ⟨by simp at q2;omega,q3⟩
 obtain ⟨⟨j,hj⟩,e0,e1⟩:=hx off (by have:=(key i hi).1;omega);obtain ⟨k1,k2⟩:=key j hj;simp only at e0 e1;generalize off+j=o at k1 k2 e0 e1;generalize xs[j]=z at k2 e0 e1
 have:o=0∨o=1∨o=2∨o=3∨o=4:=by omega
 rcases this with rfl | rfl | rfl | rfl | rfl
 ·have k3:(#[.int .i64 10]:Array Value)=#[.int .i64 z]:=k2;simp at k3;exact e0 rfl k3.symm
 ·have k3:(#[.int .i64 1]:Array Value)=#[.int .i64 z]:=k2;simp at k3;exact e1 rfl k3.symm
 ·have k3:(#[a]:Array Value)=#[.int .i64 z]:=k2;simp at k3;exact ha _ _ k3
 ·have k3:(#[b]:Array Value)=#[.int .i64 z]:=k2;simp at k3;exact hb' _ _ k3
 ·have k3:(#[c]:Array Value)=#[.int .i64 z]:=k2;simp at k3;exact hc _ _ k3
def XK (d m:Int) (gs:List Good) (ms:List AB) (cs:List AF):Int:=if Ag d m gs ms cs=0 then ((AR d gs ms cs m).length:Int) else 0
end Go.Ns
namespace Go.Ns
open Go.Conc
section
variable {P:Program} {E:GY P} {σ:Nat→Value} {ds:List Deferred} {h:GH} {T:(Nat→Value)→List Deferred→GH→Prop} {dst:Option Nat} {ty:TypeId} {pos:String} {af:Array Edge} {gd:Option (Nat×Bool)}
end
section
variable {d m:Int} {gs:List Good} {ms:List AB} {cs:List AF} {f y l:List Int}
end
end Go.Ns
namespace Go.Ns
open Go.Conc
section
variable {P:Program} {E:GY P} {σ:Nat→Value} {ds:List Deferred} {h:GH} {T:(Nat→Value)→List Deferred→GH→Prop} {dst:Option Nat} {ty:TypeId} {pos:String} {af:Array Edge} {gd:Option (Nat×Bool)}
end
end Go.Ns
namespace Go.Ns
open Go.Conc Go Go.RowKit
section
variable {d m:Int} {gs:List Good} {ms:List AB} {cs:List AF}
end
section
variable {P:Program} {E:GY P} {σ:Nat→Value} {ds:List Deferred} {h:GH} {T:(Nat→Value)→List Deferred→GH→Prop} {dst:Option Nat} {ty:TypeId} {pos:String} {af:Array Edge} {gd:Option (Nat×Bool)}
end
end Go.Ns
namespace Go.Ns
open Go.Conc Go Go.RowKit
theorem Ht {p q:AV}:∀{n:Nat},(∀k,k<n→p.lies k=q.lies k)→Av p n=Av q n
 | 0,_=>rfl
 | n+1,h=>by unfold Av;rw [Ht fun k hk=>h k (by omega),h n (by omega)]
theorem Iv (p:AV):∀{i n:Nat},i≤n→Av p i≤Av p n
 | i,0,h=>by rw [show i=0 by omega];exact Nat.le_refl _
 | i,n+1,h=>by
  by_cases e:i=n+1
  ·rw [e];exact Nat.le_refl _
  ·have:=Iv p (i:=i) (n:=n) (by omega)
   have h2:Av p (n+1)=Av p n+if p.lies n then 1 else 0:=rfl
   omega
theorem JT {p:AV}:∀{i n:Nat},(∀k,i≤k→k<n→p.lies k=false)→i≤n→Av p n=Av p i
 | i,0,_,h=>by rw [show i=0 by omega]
 | i,n+1,h0,h=>by
  by_cases e:i=n+1
  ·rw [e]
  ·have h2:Av p (n+1)=Av p n+if p.lies n then 1 else 0:=rfl
   rw [h2,h0 n (by omega) (by omega),JT (fun k hk hk'=>h0 k hk (by omega)) (by omega)];rfl
theorem Mq {p:AV} {i:Nat} {n:Int} (h:p.lies i=false):∀k,Av (p.setMove i n true) k=Av p k+if i<k then 1 else 0
 | 0=>rfl
 | k+1=>by
  have h1:Av (p.setMove i n true) (k+1)=Av (p.setMove i n true) k+if (p.setMove i n true).lies k then 1 else 0:=rfl
  have h2:Av p (k+1)=Av p k+if p.lies k then 1 else 0:=rfl
  have h3:(p.setMove i n true).lies k=if k=i then true else p.lies k:=rfl
  rw [h1,h2,h3,Mq h k];by_cases e:k=i
  ·subst e;have e3:¬k<k:=by omega
   have e4:k<k+1:=by omega
   simp [h,e3,e4]
  ·rw [if_neg e];by_cases e2:i<k
   ·have e4:i<k+1:=by omega
    simp only [e2,e4,if_true];omega
   ·have e4:¬i<k+1:=by omega
    simp only [e2,e4,if_false];omega
theorem HM (p:AV):∀n,((List.range n).filter p.lies).length=Av p n
 | 0=>rfl
 | n+1=>by
  rw [List.range_succ,List.filter_append,List.length_append,HM p n];have h2:Av p (n+1)=Av p n+if p.lies n then 1 else 0:=rfl
  rw [h2];by_cases e:p.lies n=true
  ·simp [e]
  ·simp [e]
structure XL (gs:List Good) (ms:List AB) (mo:Int) (p:AV):Prop where
 first:∀i,i<gs.length→(gs.getD i Good.z).low≤p.first i∧p.first i≤(gs.getD i Good.z).high
 many:∀i,i<ms.length→(ms.getD i AB.z).low≤p.many i∧p.many i≤(ms.getD i AB.z).high
 note:∀i,i<ms.length→p.lies i=true→Dc ms i=true
 few:(Av p ms.length:Int)≤mo
theorem Hu {ag:AV→Bool} {ms:List AB} {mo:Int} (h6:ms.length≤6):∀(f i:Nat) (p q:AV),i+f=ms.length→(∀k,i≤k→p.lies k=false)→(Av p 6:Int)≤mo→q ∈ Aw ag ms mo f i p→
  ag q=true∧q.first=p.first∧(∀k,k<i→q.many k=p.many k∧q.lies k=p.lies k)∧(∀k,i≤k→k<ms.length→(ms.getD k AB.z).low≤q.many k∧q.many k≤(ms.getD k AB.z).high∧(q.lies k=true→Dc ms k=true))∧(Av q 6:Int)≤mo
 | 0,i,p,q,e,_,hl,h=>by
  unfold Aw at h;split at h
  ·rename_i ha
   rw [List.mem_singleton] at h;subst h;exact ⟨ha,rfl,fun _ _=>⟨rfl,rfl⟩,fun k h1 h2=>by omega,hl⟩
  ·cases h
 | f+1,i,p,q,e,hz,hl,h=>by
  rw [Cn,List.mem_flatMap] at h;obtain ⟨n,hn,h⟩:=h;rw [FV] at hn;have hlf:∀k,i+1≤k→(p.setMove i n false).lies k=false:=fun k hk=>by
   show (if k=i then false else p.lies k)=false;split
   ·rfl
   ·exact hz k (by omega)
  have hcf:Av (p.setMove i n false) 6=Av p 6:=Ht fun k _=>by
   show (if k=i then false else p.lies k)=p.lies k;split
   ·rename_i e2;rw [e2,hz i (Nat.le_refl _)]
   ·rfl
  unfold Bh at h;rw [List.mem_append] at h;rcases h with h | h
  ·obtain ⟨a1,a2,a3,a4,a5⟩:=Hu h6 f (i+1) _ q (by omega) hlf (by rw [hcf];exact hl) h;refine ⟨a1,a2,fun k hk=>?_,fun k h1 h2=>?_,a5⟩
   ·have:=a3 k (by omega)
    rw [this.1,this.2];exact ⟨show (if k=i then n else p.many k)=_ from if_neg (by omega),show (if k=i then false else p.lies k)=_ from if_neg (by omega)⟩
   ·by_cases e2:k=i
    ·subst e2
     have:=a3 k (by omega)
     have g1:(p.setMove k n false).many k=n:=if_pos rfl;have g2:(p.setMove k n false).lies k=false:=if_pos rfl;rw [this.1,this.2,g1,g2];exact ⟨hn.1,hn.2,fun q=>by cases q⟩
    ·exact a4 k (by omega) h2
  ·split at h
   ·rename_i hc
    rw [Bool.and_eq_true] at hc;have hlt:=of_decide_eq_true hc.2;have hct:Av (p.setMove i n true) 6=Av p 6+1:=by rw [Mq (hz i (Nat.le_refl _)),if_pos (by omega)]
    have hlt2:∀k,i+1≤k→(p.setMove i n true).lies k=false:=fun k hk=>by
     show (if k=i then true else p.lies k)=false;rw [if_neg (by omega)];exact hz k (by omega)
    obtain ⟨a1,a2,a3,a4,a5⟩:=Hu h6 f (i+1) _ q (by omega) hlt2 (by rw [hct];omega) h;refine ⟨a1,a2,fun k hk=>?_,fun k h1 h2=>?_,a5⟩
    ·have:=a3 k (by omega)
     rw [this.1,this.2];exact ⟨show (if k=i then n else p.many k)=_ from if_neg (by omega),show (if k=i then true else p.lies k)=_ from if_neg (by omega)⟩
    ·by_cases e2:k=i
     ·subst e2
      have:=a3 k (by omega)
      have g1:(p.setMove k n true).many k=n:=if_pos rfl;rw [this.1,g1];exact ⟨hn.1,hn.2,fun _=>hc.1⟩
     ·exact a4 k (by omega) h2
   ·cases h
theorem KF {ag:AV→Bool} {gs:List Good} {ms:List AB} {mo:Int} (h6:ms.length≤6) (h0:0≤mo):∀(f i:Nat) (p q:AV),i+f=gs.length→(∀k,p.lies k=false)→q ∈ BP ag gs ms mo f i p→
  ag q=true∧(∀k,k<i→q.first k=p.first k)∧(∀k,i≤k→k<gs.length→(gs.getD k Good.z).low≤q.first k∧q.first k≤(gs.getD k Good.z).high)∧(∀k,k<ms.length→(ms.getD k AB.z).low≤q.many k∧q.many k≤(ms.getD k AB.z).high∧(q.lies k=true→Dc ms k=true))∧(Av q 6:Int)≤mo
 | 0,i,p,q,e,hz,h=>by
  have hl:(Av p 6:Int)≤mo:=by
   rw [JT (i:=0) (fun k _ _=>hz k) (Nat.zero_le _)];exact h0
  obtain ⟨a1,a2,_,a4,a5⟩:=Hu h6 ms.length 0 p q (by omega) (fun k _=>hz k) hl h;exact ⟨a1,fun k _=>by rw [a2],fun k h1 h2=>by omega,fun k hk=>a4 k (Nat.zero_le _) hk,a5⟩
 | f+1,i,p,q,e,hz,h=>by
  rw [DV,List.mem_flatMap] at h;obtain ⟨n,hn,h⟩:=h;rw [FV] at hn;obtain ⟨a1,a2,a3,a4,a5⟩:=KF h6 h0 f (i+1) (p.setFirst i n) q (by omega) hz h;refine ⟨a1,fun k hk=>?_,fun k h1 h2=>?_,a4,a5⟩
  ·rw [a2 k (by omega)];exact if_neg (by omega)
  ·by_cases e2:k=i
   ·subst e2;rw [a2 k (by omega)];have g1:(p.setFirst k n).first k=n:=if_pos rfl;rw [g1];exact hn
   ·exact a3 k (by omega) h2
theorem QI {d:Int} {gs:List Good} {ms:List AB} {cs:List AF} {mo:Int} (h6:ms.length≤6) (h0:0≤mo) {q:AV} (h:q ∈ AR d gs ms cs mo):XL gs ms mo q∧BF d gs.length ms cs q=true:=by
 obtain ⟨a1,_,a3,a4,a5⟩:=KF h6 h0 gs.length 0 AV.zero q (by omega) (fun _=>rfl) h;refine ⟨⟨fun i hi=>a3 i (Nat.zero_le _) hi,fun i hi=>⟨(a4 i hi).1,(a4 i hi).2.1⟩,fun i hi=>(a4 i hi).2.2,?_⟩,a1⟩
 have:=Iv q h6
 omega
def IE (p:AV) (i j:Nat):AV:=⟨fun k=>if k<i then p.first k else 0,fun k=>if k<j then p.many k else 0,fun k=>if k<j then p.lies k else false⟩
theorem QJ (p:AV) (i j:Nat):(IE p i j).setMove j (p.many j) (p.lies j)=IE p i (j+1):=by
 unfold IE AV.setMove AV.setMany AV.setLie;congr 1
 ·funext k;show (if k=j then p.many j else if k<j then p.many k else 0)=if k<j+1 then p.many k else 0
  by_cases e:k=j
  ·rw [if_pos e,e,if_pos (by omega)]
  ·rw [if_neg e];by_cases e2:k<j
   ·rw [if_pos e2,if_pos (by omega)]
   ·rw [if_neg e2,if_neg (by omega)]
 ·funext k;show (if k=j then p.lies j else if k<j then p.lies k else false)=if k<j+1 then p.lies k else false
  by_cases e:k=j
  ·rw [if_pos e,e,if_pos (by omega)]
  ·rw [if_neg e];by_cases e2:k<j
   ·rw [if_pos e2,if_pos (by omega)]
   ·rw [if_neg e2,if_neg (by omega)]
theorem VQ (p:AV) (i:Nat):(IE p i 0).setFirst i (p.first i)=IE p (i+1) 0:=by
 unfold IE AV.setFirst;congr 1;funext k;show (if k=i then p.first i else if k<i then p.first k else 0)=if k<i+1 then p.first k else 0
 by_cases e:k=i
 ·rw [if_pos e,e,if_pos (by omega)]
 ·rw [if_neg e];by_cases e2:k<i
  ·rw [if_pos e2,if_pos (by omega)]
  ·rw [if_neg e2,if_neg (by omega)]
theorem Li {ag:AV→Bool} {gs:List Good} {ms:List AB} {mo:Int} (h6:ms.length≤6) {p:AV} (L:XL gs ms mo p) (ha:ag (IE p gs.length ms.length)=true):∀(f i:Nat),i+f=ms.length→IE p gs.length ms.length ∈ Aw ag ms mo f i (IE p gs.length i)
 | 0,i,e=>by
  rw [show i=ms.length by omega];unfold Aw;rw [if_pos ha];exact List.mem_singleton.2 rfl
 | f+1,i,e=>by
  rw [Cn,List.mem_flatMap];refine ⟨p.many i,FV.2 (L.many i (by omega)),?_⟩;have ih:=Li h6 L ha f (i+1) (by omega);unfold Bh;rw [List.mem_append];cases hli:p.lies i with
  | false=>
   left
   have:=QJ p gs.length i
   rw [hli] at this;rw [this];exact ih
  | true=>
   right;have hlie:Av ((IE p gs.length i).setMove i (p.many i) false) 6=Av p i:=by
    rw [JT (i:=i) (fun k h1 h2=>?_) (by omega)]
    ·refine Ht fun k hk=>?_;show (if k=i then false else if k<i then p.lies k else false)=_;rw [if_neg (by omega),if_pos hk]
    ·show (if k=i then false else if k<i then p.lies k else false)=_;split
     ·rfl
     ·rw [if_neg (by omega)]
   have h1:Av p (i+1)=Av p i+1:=by
    show Av p i+(if p.lies i then 1 else 0)=_;rw [hli];rfl
   have h2:=Iv p (i:=i+1) (n:=ms.length) (by omega);have h3:=L.few;rw [if_pos (by rw [Bool.and_eq_true];exact ⟨L.note i (by omega) hli,decide_eq_true (by rw [hlie];omega)⟩)]
   have:=QJ p gs.length i
   rw [hli] at this;rw [this];exact ih
theorem Lj {ag:AV→Bool} {gs:List Good} {ms:List AB} {mo:Int} (h6:ms.length≤6) {p:AV} (L:XL gs ms mo p) (ha:ag (IE p gs.length ms.length)=true):∀(f i:Nat),i+f=gs.length→IE p gs.length ms.length ∈ BP ag gs ms mo f i (IE p i 0)
 | 0,i,e=>by
  rw [show i=gs.length by omega];exact Li h6 L ha ms.length 0 (by omega)
 | f+1,i,e=>by
  rw [DV,List.mem_flatMap];refine ⟨p.first i,FV.2 (L.first i (by omega)),?_⟩;rw [VQ];exact Lj h6 L ha f (i+1) (by omega)
end Go.Ns
namespace Go.Ns
open Go.Conc Go Go.RowKit
section
variable {d m:Int} {gs:List Good} {ms:List AB} {cs:List AF}
theorem OM {i:Nat} (hi:i<ms.length):Dc ms (i:Int)=true↔(ms.getD i AB.z).kind=0:=by
 unfold Dc;rw [decide_eq_true_eq,Int.toNat_natCast];exact ⟨fun h=>h.2,fun h=>⟨⟨by omega,by omega⟩,h⟩⟩
end
def Lk (ms:List AB) (p:AV) (g dy:Int) (k:Nat):Int:=if (ms.getD k AB.z).day≤dy then SD ms p g k else 0
theorem Tk {F:Nat→Int}:∀{l:List Nat},(∀i ∈ l,F i=0)→(l.map F).sum=0
 | [],_=>rfl
 | i ::l,h=>by rw [List.map_cons,List.sum_cons,h i (by simp),Tk fun j hj=>h j (by simp [hj])];rfl
theorem ON {F:Nat→Int} {q:Nat→Bool}:∀{l:List Nat},(∀i ∈ l,q i=false→F i=0)→(l.map F).sum=((l.filter q).map F).sum
 | [],_=>rfl
 | i ::l,h=>by
  have ih:=ON (F:=F) (q:=q) (l:=l) fun j hj=>h j (by simp [hj]);rw [List.map_cons,List.sum_cons,ih];cases e:q i with
  | true=>rw [List.filter_cons,if_pos e,List.map_cons,List.sum_cons]
  | false=>rw [List.filter_cons,if_neg (by rw [e];simp),h i (by simp) e];omega
theorem Ll {ms:List AB} {p:AV} {g dy:Int} (up:∀i j,i≤j→j<ms.length→(ms.getD i AB.z).day≤(ms.getD j AB.z).day):∀(f k:Nat) (n low:Int),k+f=ms.length→(Cm ms p g dy f k n low).1=n+((List.range' k f).map (Lk ms p g dy)).sum
 | 0,_,n,_,_=>by simp [Cm]
 | f+1,k,n,low,e=>by
  unfold Cm;by_cases h:dy<(ms.getD k AB.z).day
  ·rw [if_pos h,Tk fun i hi=>?_]
   ·omega
   ·have:=List.mem_range'_1.1 hi
    have h2:=up k i this.1 (by omega);unfold Lk;rw [if_neg (by omega)]
  ·rw [if_neg h,Ll up f (k+1) _ _ (by omega),List.range'_succ,List.map_cons,List.sum_cons];have h1:Lk ms p g dy k=SD ms p g k:=by unfold Lk;rw [if_pos (by omega)]
   have hn:GK ms p g k n=n+SD ms p g k:=by unfold GK SD;split <;> omega
   rw [h1,hn];omega
theorem Iu.le {ms:List AB} (h:Iu ms):∀i j,i≤j→j<ms.length→(ms.getD i AB.z).day≤(ms.getD j AB.z).day:=fun i j hij hj=>by
 by_cases e:i=j
 ·rw [e];exact Int.le_refl _
 ·unfold Iu at h;rw [List.pairwise_iff_getElem] at h;rw [Bi AB.z (by omega),Bi AB.z hj];exact h i j (by omega) hj (by omega)
theorem Mr {ms:List AB} (up:Iu ms) (p:AV) (g dy:Int):(AP ms p g dy).1=p.first g.toNat+((List.range ms.length).map (Lk ms p g dy)).sum:=by
 unfold AP;rw [Ll up.le _ _ _ _ (by omega),List.range_eq_range']
section
variable {d m:Int} {gs:List Good} {ms:List AB} {cs:List AF}
def CS (ms:List AB) (k:Nat):List Int:=((List.range k).filter fun i=>decide ((ms.getD i AB.z).kind=0)).map fun (i:Nat)=>(i:Int)
theorem AAT {k:Nat} (h:(ms.getD k AB.z).kind=0):CS ms (k+1)=CS ms k++[(k:Int)]:=by
 unfold CS;rw [List.range_succ,List.filter_append];simp only [List.filter_cons,h,List.filter_nil];simp
theorem AAU {k:Nat} (h:¬(ms.getD k AB.z).kind=0):CS ms (k+1)=CS ms k:=by
 unfold CS;rw [List.range_succ,List.filter_append];simp only [List.filter_cons,h,List.filter_nil];simp
theorem HN (ms:List AB) (k:Nat):(CS ms k).length≤k:=by
 unfold CS;rw [List.length_map]
 have:=List.length_filter_le (fun i:Nat=>decide ((ms.getD i AB.z).kind=0)) (List.range k)
 rwa [List.length_range] at this
theorem VR {k i:Nat} (hi:i<k) (h:(ms.getD i AB.z).kind=0):(i:Int) ∈ CS ms k:=List.mem_map.2 ⟨i,List.mem_filter.2 ⟨List.mem_range.2 hi,decide_eq_true h⟩,rfl⟩
end
end Go.Ns
namespace Go.Ns
open Go.Conc
theorem JU {x:Int}:∀(l acc:List Int),x ∈ acc∨x ∈ l→x ∈ l.foldl GZ acc
 | [],acc,h=>h.elim id fun h=>by cases h
 | y ::l,acc,h=>by
  refine JU l _ ?_;unfold GZ;rcases h with h | h
  ·left;split
   ·exact h
   ·exact List.mem_append_left _ h
  ·rcases List.mem_cons.1 h with rfl | h
   ·left;split
    ·rename_i e;exact List.mem_of_getLast? e
    ·exact List.mem_append_right _ (List.mem_singleton.2 rfl)
   ·exact .inr h
theorem I8:∀(l acc:List Int),l.Pairwise (·≤·)→acc.Pairwise (· < ·)→(∀a ∈ acc,∀x ∈ l,a≤x)→(l.foldl GZ acc).Pairwise (· < ·)
 | [],_,_,h,_=>h
 | y ::l,acc,hl,ha,hx=>by
  rw [List.pairwise_cons] at hl;refine I8 l _ hl.2 ?_ ?_
  ·unfold GZ;split
   ·exact ha
   ·rename_i hne
    rw [List.pairwise_append];refine ⟨ha,List.pairwise_singleton ..,fun a ha' b hb=>?_⟩;rw [List.mem_singleton] at hb;subst hb;have h1:=hx a ha' b List.mem_cons_self;rcases Int.lt_or_eq_of_le h1 with h2 | h2
    ·exact h2
    ·subst h2;exfalso;obtain ⟨z,hz⟩:∃z,acc.getLast? =some z:=by
      cases hq:acc.getLast? with
      | none=>rw [List.getLast?_eq_none_iff] at hq;subst hq;cases ha'
      | some z=>exact ⟨z,rfl⟩
     have hzm:=List.mem_of_getLast? hz;have h3:=hx z hzm a List.mem_cons_self;have h4:a≤z:=by
      obtain ⟨l0,hl0⟩:∃l0,acc=l0++[z]:=by
       rcases List.eq_nil_or_concat acc with e | ⟨l0,y0,e⟩
       ·subst e;cases hz
       ·subst e;simp at hz;subst hz;exact ⟨l0,by simp⟩
      subst hl0;rcases List.mem_append.1 ha' with q | q
      ·rw [List.pairwise_append] at ha;exact Int.le_of_lt (ha.2.2 a q z (List.mem_singleton.2 rfl))
      ·rw [List.mem_singleton] at q;omega
     exact hne (by rw [hz,show z=a by omega])
  ·intro a ha' x hx';unfold GZ at ha';split at ha'
   ·exact hx a ha' x (List.mem_cons_of_mem _ hx')
   ·rcases List.mem_append.1 ha' with q | q
    ·exact hx a q x (List.mem_cons_of_mem _ hx')
    ·rw [List.mem_singleton] at q;subst q;exact hl.1 x hx'
theorem YA {n:Nat} {f:Nat→Int} {x:Int}:x ∈ CK n f↔∃i,i<n∧f i=x:=by
 refine ⟨Jm,fun ⟨i,hi,e⟩=>JU _ _ (.inr ?_)⟩;rw [JL];exact List.mem_mergeSort.2 (List.mem_map.2 ⟨i,List.mem_range.2 hi,e⟩)
theorem QK (n:Nat) (f:Nat→Int):(CK n f).Pairwise (· < ·):=by
 refine I8 _ _ ?_ List.Pairwise.nil (fun a ha=>by cases ha);rw [JL]
 have:=List.pairwise_mergeSort (le:=fun x y:Int=>decide (x≤y)) (fun a b c h1 h2=>by simp at *;omega) (fun a b=>by simp;omega) ((List.range n).map f)
 exact this.imp fun h=>by simpa using h
theorem Tl {l:List Int} (h:l.Pairwise (· < ·)) {i j:Nat} (hij:i≤j) (hj:j<l.length):l.getD i 0≤l.getD j 0:=by
 rcases Nat.lt_or_eq_of_le hij with q | rfl
 ·rw [Bi 0 hj,Bi 0 (by omega)];exact Int.le_of_lt (List.pairwise_iff_getElem.1 h i j (by omega) hj q)
 ·exact Int.le_refl _
theorem VS {n:Nat} (f:Nat→Int) (hn:0<n):(∀i,i<n→BB (CK n f)≤f i∧f i≤B5 (CK n f))∧(∃i,i<n∧f i=BB (CK n f))∧∃i,i<n∧f i=B5 (CK n f):=by
 have hp:=IA f hn;refine ⟨fun i hi=>?_,Jm (CR (d:=0) hp),Jm (CR (d:=0) (by omega))⟩;obtain ⟨k,hk,e⟩:=List.mem_iff_getElem.1 (YA.2 ⟨i,hi,rfl⟩);have e':(CK n f).getD k 0=f i:=by rw [Bi 0 hk];exact e
 rw [←e'];exact ⟨Tl (QK n f) (Nat.zero_le _) hk,Tl (QK n f) (by omega) (by omega)⟩
section
variable {d m:Int} {gs:List Good} {ms:List AB} {cs:List AF}
end
end Go.Ns
namespace Go.Ns
open Go.Conc
section
variable {P:Program} {E:GY P} {σ:Nat→Value} {ds:List Deferred} {h:GH} {T:(Nat→Value)→List Deferred→GH→Prop}
variable {dst:Option Nat} {ty:TypeId} {pos:String} {af:Array Edge} {gd:Option (Nat×Bool)}
end
section
variable {d m:Int} {gs:List Good} {ms:List AB} {cs:List AF}
end
end Go.Ns
namespace Go.Ns
open Go.Conc
section
variable {d m:Int} {gs:List Good} {ms:List AB} {cs:List AF}
end
end Go.Ns
namespace Go.Ns
open Go.Conc
theorem JV {ag:AV→Bool} {ms:List AB} {mo:Int}:∀(f i:Nat) (p q:AV),q ∈ Aw ag ms mo f i p→q.first=p.first∧∀k,k<i→q.many k=p.many k∧q.lies k=p.lies k
 | 0,i,p,q,h=>by
  unfold Aw at h;split at h
  ·rw [List.mem_singleton] at h;subst h;exact ⟨rfl,fun _ _=>⟨rfl,rfl⟩⟩
  ·cases h
 | f+1,i,p,q,h=>by
  rw [Cn,List.mem_flatMap] at h;obtain ⟨n,_,h⟩:=h;have key:∀b,q ∈ Aw ag ms mo f (i+1) (p.setMove i n b)→q.first=p.first∧∀k,k<i→q.many k=p.many k∧q.lies k=p.lies k:=fun b hb=>by
   obtain ⟨a1,a2⟩:=JV f (i+1) _ q hb;refine ⟨a1,fun k hk=>?_⟩;obtain ⟨b1,b2⟩:=a2 k (by omega);exact ⟨b1.trans (if_neg (by omega)),b2.trans (if_neg (by omega))⟩
  unfold Bh at h;rcases List.mem_append.1 h with h | h
  ·exact key _ h
  ·split at h
   ·exact key _ h
   ·cases h
theorem KG {ag:AV→Bool} {ms:List AB} {mo:Int}:∀(f i:Nat) (p q:AV),q ∈ Aw ag ms mo f i p→∀k,i+f≤k→q.many k=p.many k∧q.lies k=p.lies k
 | 0,i,p,q,h,k,_=>by
  unfold Aw at h;split at h
  ·rw [List.mem_singleton] at h;subst h;exact ⟨rfl,rfl⟩
  ·cases h
 | f+1,i,p,q,h,k,hk=>by
  rw [Cn,List.mem_flatMap] at h;obtain ⟨n,_,h⟩:=h;have key:∀b,q ∈ Aw ag ms mo f (i+1) (p.setMove i n b)→q.many k=p.many k∧q.lies k=p.lies k:=fun b hb=>by
   obtain ⟨b1,b2⟩:=KG f (i+1) _ q hb k (by omega);exact ⟨b1.trans (if_neg (by omega)),b2.trans (if_neg (by omega))⟩
  unfold Bh at h;rcases List.mem_append.1 h with h | h
  ·exact key _ h
  ·split at h
   ·exact key _ h
   ·cases h
theorem KH {ag:AV→Bool} {gs:List Good} {ms:List AB} {mo:Int}:∀(f i:Nat) (p q:AV),q ∈ BP ag gs ms mo f i p→(∀k,i+f≤k→q.first k=p.first k)∧∀k,ms.length≤k→q.many k=p.many k∧q.lies k=p.lies k
 | 0,i,p,q,h=>⟨fun k _=>by rw [(JV _ _ _ _ h).1],fun k hk=>KG _ _ _ _ h k (by omega)⟩
 | f+1,i,p,q,h=>by
  rw [DV,List.mem_flatMap] at h;obtain ⟨n,_,h⟩:=h;obtain ⟨a1,a2⟩:=KH f (i+1) _ q h;exact ⟨fun k hk=>(a1 k (by omega)).trans (if_neg (by omega)),a2⟩
theorem YB {d:Int} {gs:List Good} {ms:List AB} {cs:List AF} {mo:Int} {q:AV} (h:q ∈ AR d gs ms cs mo):IE q gs.length ms.length=q:=by
 obtain ⟨a1,a2⟩:=KH _ _ _ _ h;cases q with
 | mk fi ma li=>
  simp only [Nat.zero_add] at a1 a2;unfold IE;congr 1
  ·funext k;by_cases hk:k<gs.length
   ·exact if_pos hk
   ·exact (if_neg hk).trans (a1 k (by omega)).symm
  ·funext k;by_cases hk:k<ms.length
   ·exact if_pos hk
   ·exact (if_neg hk).trans (a2 k (by omega)).1.symm
  ·funext k;by_cases hk:k<ms.length
   ·exact if_pos hk
   ·exact (if_neg hk).trans (a2 k (by omega)).2.symm
theorem YC (p:AV):IE p 0 0=AV.zero:=by
 unfold IE AV.zero;congr 1
theorem QL {d:Int} {gs:List Good} {ms:List AB} {cs:List AF} {mo:Int} {q:AV} (h6:ms.length≤6) (h0:0≤mo) :
  q ∈ AR d gs ms cs mo↔XL gs ms mo q∧BF d gs.length ms cs q=true∧IE q gs.length ms.length=q:=
 ⟨fun h=>⟨(QI h6 h0 h).1,(QI h6 h0 h).2,YB h⟩,fun ⟨L,ha,e⟩=>by
  have h1:=Lj (ag:=BF d gs.length ms cs) h6 L (by rw [e];exact ha) gs.length 0 (by omega);rw [e,YC] at h1;exact h1⟩
end Go.Ns
namespace Go.Ns
open Go.Conc
theorem Az.cgood' {d m:Int} {gs:List Good} {ms:List AB} {cs:List AF} (b:Az d m gs ms cs):∀x ∈ cs,0≤x.good∧x.good<(gs.length:Int):=fun x hx=>by
 obtain ⟨i,hi,e2⟩:=List.getElem_of_mem hx;have hc:=b.count i hi;unfold FG at hc;rw [Bi AF.z hi,e2] at hc;have hg:0≤x.good∧x.good≤(gs.length:Int)-1:=by
  apply Decidable.byContradiction;intro q;rw [if_pos q] at hc;cases hc
 omega
section
variable {d m:Int} {gs:List Good} {ms:List AB} {cs:List AF} {t:Nat}
end
section
variable {d m:Int} {gs:List Good} {ms:List AB} {cs:List AF} {t:Nat}
end
section
variable {d m:Int} {gs:List Good} {ms:List AB} {cs:List AF} {t:Nat}
end
section
variable {d m:Int} {gs:List Good} {ms:List AB} {cs:List AF} {t:Nat}
end
end Go.Ns
namespace Go.Ns
open Go.Conc
theorem IF {α:Type} {l:List α} {x:α} (z:α) (h:x ∈ l):∃k,k<l.length∧l.getD k z=x:=by
 obtain ⟨k,hk,e⟩:=List.getElem_of_mem h;exact ⟨k,hk,by rw [List.getD_eq_getElem?_getD,List.getElem?_eq_getElem hk];exact e⟩
def HO (dy:Int) (t:List (Int×Int)):Int:=(t.map fun x=>if x.1≤dy then x.2 else 0).sum
theorem Ki (dy:Int) (x:Int×Int) (t:List (Int×Int)):HO dy (x ::t)=(if x.1≤dy then x.2 else 0)+HO dy t:=by
 unfold HO;rw [List.map_cons,List.sum_cons]
theorem Kj {dy:Int}:∀{t:List (Int×Int)},(∀x ∈ t,dy<x.1)→HO dy t=0
 | [],_=>rfl
 | x ::t,h=>by rw [Ki,if_neg (by have:=h x (by simp);omega),Kj fun y hy=>h y (by simp [hy])];rfl
theorem Ga.all {c:Int}:∀{t:List (Int×Int)},Ga c t→∀x ∈ t,c≤x.1
 | [],_,_,hx=>by cases hx
 | y ::t,h,x,hx=>by
  rcases List.mem_cons.1 hx with rfl | hx
  ·exact h.1
  ·have:=h.2.all x hx;have:=h.1;omega
theorem OO:∀(t:List (Int×Int)) (c n low:Int),Ga c t→(0≤(runB c n low t).2↔0≤low∧0≤n+HO c t∧∀x ∈ t,0≤n+HO x.1 t)
 | [],c,n,low,_=>by simp only [runB,HO,List.map_nil,List.sum_nil];constructor <;> intro h <;> simp at * <;> omega
 | x ::t,c,n,low,h=>by
  have ha:=h.2.all;have hy:∀y ∈ t,HO y.1 (x ::t)=x.2+HO y.1 t:=fun y hy=>by rw [Ki,if_pos (ha y hy)]
  have hx:HO x.1 (x ::t)=x.2+HO x.1 t:=by rw [Ki,if_pos (Int.le_refl _)]
  unfold runB;by_cases e:c<x.1
  ·rw [if_pos e,OO t x.1 (n+x.2) (min n low) h.2];have h0:HO c (x ::t)=0:=Kj fun y hy=>by
    rcases List.mem_cons.1 hy with rfl | hy
    ·exact e
    ·have:=ha y hy;omega
   rw [h0];constructor
   ·rintro ⟨a1,a2,a3⟩;refine ⟨by omega,by omega,fun y hyt=>?_⟩;rcases List.mem_cons.1 hyt with rfl | hyt
    ·rw [hx];omega
    ·rw [hy y hyt];have:=a3 y hyt;omega
   ·rintro ⟨a1,a2,a3⟩;refine ⟨by omega,?_,fun y hyt=>?_⟩
    ·have:=a3 x (by simp);rw [hx] at this;omega
    ·have:=a3 y (by simp [hyt]);rw [hy y hyt] at this;omega
  ·have ec:c=x.1:=by have:=h.1;omega
   subst ec;rw [if_neg e,OO t x.1 (n+x.2) low h.2,hx];constructor
   ·rintro ⟨a1,a2,a3⟩;refine ⟨a1,by omega,fun y hyt=>?_⟩;rcases List.mem_cons.1 hyt with rfl | hyt
    ·rw [hx];omega
    ·rw [hy y hyt];have:=a3 y hyt;omega
   ·rintro ⟨a1,a2,a3⟩;refine ⟨a1,by omega,fun y hyt=>?_⟩
    have:=a3 y (by simp [hyt]);rw [hy y hyt] at this;omega
section
variable {d m:Int} {gs:List Good} {ms:List AB} {cs:List AF}
theorem Az.day0 (b:Az d m gs ms cs) {k:Nat} (hk:k<ms.length):1≤(ms.getD k AB.z).day:=(b.move' hk).2.2.1.1
theorem Az.low_iff2 (b:Az d m gs ms cs) (p:AV) (g:Int):0≤(AP ms p g d).2↔0≤p.first g.toNat∧∀k,k<ms.length→(ms.getD k AB.z).good=g→0≤(AP ms p g (ms.getD k AB.z).day).1:=by
 have hz:∀i ∈ List.range ms.length,decide ((ms.getD i AB.z).good=g)=false→(E6 ms p g i).2=0:=fun i _ e=>by
  unfold E6 SD;dsimp only;rw [if_neg (of_decide_eq_false e)]
 have hsub:((List.range ms.length).filter fun i=>decide ((ms.getD i AB.z).good=g)).Sublist (List.range ms.length):=List.filter_sublist;have hr:=b.pairsUp p g hsub;rw [b.stock p g];unfold NI;rw [Hi hz (b.pairsUp p g (List.Sublist.refl _)),OO _ _ _ _ hr];have hs:∀k,(AP ms p g (ms.getD k AB.z).day).1=p.first g.toNat+HO (ms.getD k AB.z).day (((List.range ms.length).filter fun i=>decide ((ms.getD i AB.z).good=g)).map (E6 ms p g)):=fun k=>by
  rw [Mr b.up];congr 1;unfold HO;rw [List.map_map,ON (q:=fun i=>decide ((ms.getD i AB.z).good=g)) (fun i _ e=>by
   unfold Lk SD;rw [if_neg (of_decide_eq_false e)];simp)]
  rfl
 have h0:HO 0 (((List.range ms.length).filter fun i=>decide ((ms.getD i AB.z).good=g)).map (E6 ms p g))=0:=Kj fun x hx=>by
  obtain ⟨k,hk,rfl⟩:=List.mem_map.1 hx
  have:=b.day0 (List.mem_range.1 (List.mem_filter.1 hk).1);unfold E6;dsimp only;omega
 rw [h0];constructor
 ·rintro ⟨a1,_,a3⟩;exact ⟨a1,fun k hk e=>by rw [hs];exact a3 _ (List.mem_map.2 ⟨k,List.mem_filter.2 ⟨List.mem_range.2 hk,decide_eq_true e⟩,rfl⟩)⟩
 ·rintro ⟨a1,a3⟩;refine ⟨a1,by omega,fun x hx=>?_⟩;obtain ⟨k,hk,rfl⟩:=List.mem_map.1 hx;obtain ⟨hk1,hk2⟩:=List.mem_filter.1 hk
  have:=a3 k (List.mem_range.1 hk1) (of_decide_eq_true hk2)
  rw [hs] at this;exact this
theorem SE {ng:Nat} {p:AV}:BF d ng ms cs p=true↔(∀g,g<ng→0≤(AP ms p (g:Int) d).2)∧∀x ∈ cs,x.low≤(AP ms p x.good x.day).1∧(AP ms p x.good x.day).1≤x.high:=by
 unfold BF;rw [Bool.and_eq_true,decide_eq_true_iff,Bool.not_eq_true',List.any_eq_false];constructor
 ·rintro ⟨h1,h2⟩;exact ⟨fun g hg=>by have:=h1 g hg;omega,fun x hx=>by have:=h2 x hx;simpa using this⟩
 ·rintro ⟨h1,h2⟩;exact ⟨fun g hg=>by have:=h1 g hg;omega,fun x hx=>by have:=h2 x hx;simpa using this⟩
theorem Az.agrees_iff2 (b:Az d m gs ms cs) {p:AV}:BF d gs.length ms cs p=true↔
  (∀g:Nat,g<gs.length→0≤p.first g)∧(∀k,k<ms.length→0≤(AP ms p (ms.getD k AB.z).good (ms.getD k AB.z).day).1)∧∀x ∈ cs,x.low≤(AP ms p x.good x.day).1∧(AP ms p x.good x.day).1≤x.high:=by
 rw [SE]
 have:∀g:Nat,0≤(AP ms p (g:Int) d).2↔0≤p.first g∧∀k,k<ms.length→(ms.getD k AB.z).good=(g:Int)→0≤(AP ms p (g:Int) (ms.getD k AB.z).day).1:=fun g=>by rw [b.low_iff2,Int.toNat_natCast]
 simp only [this];constructor
 ·rintro ⟨h1,h2⟩;refine ⟨fun g hg=>(h1 g hg).1,fun k hk=>?_,h2⟩;have hg:=(b.move' hk).2.1;obtain ⟨g,eg⟩:=Int.eq_ofNat_of_zero_le hg.1
  have:=(h1 g (by omega)).2 k hk eg
  rw [←eg] at this;exact this
 ·rintro ⟨h1,h2,h3⟩;exact ⟨fun g hg=>⟨h1 g hg,fun k hk e=>by have:=h2 k hk;rw [e] at this;exact this⟩,h3⟩
end
end Go.Ns
namespace Go.Ns
open Go.Conc
def GN (k:Int):Int:=if k=0∨k=4 then 1 else-1
def DE (y l:List Int) (k:Int):Int:=if k ∈ l then 0 else y.getD k.toNat 0
def A3 (ms:List AB) (f y l:List Int) (g dy:Int):Nat→Int
 | 0=>f.getD g.toNat 0
 | k+1=>A3 ms f y l g dy k+if (ms.getD k AB.z).good=g∧(ms.getD k AB.z).day≤dy then GN (ms.getD k AB.z).kind*DE y l (k:Int) else 0
def CM (gs:List Good) (ms:List AB) (f y l:List Int) (dy:Int):Nat→Int
 | 0=>0
 | k+1=>CM gs ms f y l dy k+(gs.getD k Good.z).cost*A3 ms f y l (k:Int) dy ms.length
def CE (ms:List AB) (y:List Int) (g a b:Int):Nat→Int
 | 0=>0
 | k+1=>CE ms y g a b k+if ((ms.getD k AB.z).kind=2∧(ms.getD k AB.z).good=g)∧a≤(ms.getD k AB.z).day∧(ms.getD k AB.z).day≤b then y.getD k 0 else 0
theorem VT {ms:List AB} {f y l:List Int} {g dy:Int} {k:Nat} (h:(ms.getD k AB.z).good=g∧(ms.getD k AB.z).day≤dy):A3 ms f y l g dy (k+1)=A3 ms f y l g dy k+GN (ms.getD k AB.z).kind*DE y l (k:Int):=by
 show _+(if _ then _ else _)=_;rw [if_pos h]
theorem VU {ms:List AB} {f y l:List Int} {g dy:Int} {k:Nat} (h:¬((ms.getD k AB.z).good=g∧(ms.getD k AB.z).day≤dy)):A3 ms f y l g dy (k+1)=A3 ms f y l g dy k:=by
 show _+(if _ then _ else _)=_;rw [if_neg h];omega
theorem YD {ms:List AB} {y:List Int} {g a b:Int} {k:Nat} (h:((ms.getD k AB.z).kind=2∧(ms.getD k AB.z).good=g)∧a≤(ms.getD k AB.z).day∧(ms.getD k AB.z).day≤b):CE ms y g a b (k+1)=CE ms y g a b k+y.getD k 0:=by
 show _+(if _ then _ else _)=_;rw [if_pos h]
theorem YE {ms:List AB} {y:List Int} {g a b:Int} {k:Nat} (h:¬(((ms.getD k AB.z).kind=2∧(ms.getD k AB.z).good=g)∧a≤(ms.getD k AB.z).day∧(ms.getD k AB.z).day≤b)):CE ms y g a b (k+1)=CE ms y g a b k:=by
 show _+(if _ then _ else _)=_;rw [if_neg h];omega
theorem KI {y l:List Int} (hy:∀i,0≤y.getD i 0∧y.getD i 0≤99) (k:Int):0≤DE y l k∧DE y l k≤99:=by
 unfold DE;split
 ·omega
 ·exact hy _
theorem Ms (k:Int):GN k=1∨GN k= -1:=by unfold GN;split <;> simp
theorem OP {y l:List Int} (hy:∀i,0≤y.getD i 0∧y.getD i 0≤99) (s k:Int): -99≤GN s*DE y l k∧GN s*DE y l k≤99:=by
 have:=KI (l:=l) hy k
 rcases Ms s with e | e <;> rw [e] <;> omega
theorem HP {ms:List AB} {f y l:List Int} (hf:∀i,0≤f.getD i 0∧f.getD i 0≤99) (hy:∀i,0≤y.getD i 0∧y.getD i 0≤99) (g dy:Int):∀k:Nat,-(99*(k:Int))≤A3 ms f y l g dy k∧A3 ms f y l g dy k≤99*(k:Int)+99
 | 0=>by have:=hf g.toNat;unfold A3;omega
 | k+1=>by
  have h1:=HP (ms:=ms) (l:=l) hf hy g dy k;have h2:=OP (l:=l) hy (ms.getD k AB.z).kind (k:Int);unfold A3;split <;> omega
theorem KJ {ms:List AB} {y:List Int} (hy:∀i,0≤y.getD i 0∧y.getD i 0≤99) (g a b:Int):∀k:Nat,0≤CE ms y g a b k∧CE ms y g a b k≤99*(k:Int)
 | 0=>by unfold CE;omega
 | k+1=>by
  have h1:=KJ (ms:=ms) hy g a b k;have h2:=hy k;unfold CE;split <;> omega
structure UY (P:AV) (f y l:List Int) (ng nm:Nat):Prop where
 first:∀i,i<ng→P.first i=f.getD i 0
 many:∀i,i<nm→P.many i=y.getD i 0
 lies:∀i,i<nm→P.lies i=decide ((i:Int) ∈ l)
theorem UY.real {P:AV} {f y l:List Int} {ng nm:Nat} (h:UY P f y l ng nm) {k:Nat} (hk:k<nm):CQ P k=DE y l (k:Int):=by
 unfold CQ DE;rw [h.lies k hk,h.many k hk,Int.toNat_natCast];by_cases e:(k:Int) ∈ l <;> simp [e]
theorem UY.sum {P:AV} {f y l:List Int} {ng:Nat} {ms:List AB} (h:UY P f y l ng ms.length) (hk:∀k,0≤(ms.getD k AB.z).kind) {g dy:Int} (hg:0≤g∧g<ng):∀k,k≤ms.length→A3 ms f y l g dy k=P.first g.toNat+((List.range k).map (Lk ms P g dy)).sum
 | 0,_=>by rw [h.first _ (by omega)];simp [A3]
 | k+1,hl=>by
  rw [List.range_succ,List.map_append,List.sum_append,List.map_singleton,List.sum_singleton];have ih:=h.sum hk (dy:=dy) hg k (by omega);have e:Lk ms P g dy k=if (ms.getD k AB.z).good=g∧(ms.getD k AB.z).day≤dy then GN (ms.getD k AB.z).kind*DE y l (k:Int) else 0:=by
   unfold Lk SD;rw [h.real (show k<ms.length by omega)];have hs:D0 (ms.getD k AB.z).kind.toNat (DE y l (k:Int))=GN (ms.getD k AB.z).kind*DE y l (k:Int):=by
    unfold D0 GN
    have:=hk k
    by_cases q:(ms.getD k AB.z).kind=0∨(ms.getD k AB.z).kind=4
    ·rw [if_pos (by omega),if_pos q];omega
    ·rw [if_neg (by omega),if_neg q];omega
   by_cases q1:(ms.getD k AB.z).day≤dy
   ·by_cases q2:(ms.getD k AB.z).good=g
    ·rw [if_pos q1,if_pos q2,if_pos ⟨q2,q1⟩,hs]
    ·rw [if_pos q1,if_neg q2,if_neg fun q=>q2 q.1]
   ·rw [if_neg q1,if_neg fun q=>q1 q.2]
  rw [e,A3,ih];omega
theorem UY.stock {P:AV} {f y l:List Int} {ng:Nat} {ms:List AB} (h:UY P f y l ng ms.length) (up:Iu ms) (hk:∀k,0≤(ms.getD k AB.z).kind) {g:Int} (hg:0≤g∧g<ng) (dy:Int):A3 ms f y l g dy ms.length=(AP ms P g dy).1:=by
 rw [h.sum hk hg ms.length (Nat.le_refl _),Mr up]
theorem UY.worth {P:AV} {f y l:List Int} {gs:List Good} {ms:List AB} (h:UY P f y l gs.length ms.length) (up:Iu ms) (hk:∀k,0≤(ms.getD k AB.z).kind) (dy:Int):∀k,k≤gs.length→CM gs ms f y l dy k=CH gs ms P dy k
 | 0,_=>rfl
 | k+1,hl=>by unfold CM CH;rw [h.worth up hk dy k (by omega),h.stock up hk (by omega)]
theorem UY.lost {P:AV} {f y l:List Int} {ng:Nat} {ms:List AB} (h:UY P f y l ng ms.length) (hn:∀k,k<ms.length→(k:Int) ∈ l→(ms.getD k AB.z).kind=0) (g a b:Int):∀k,k≤ms.length→CE ms y g a b k=CO ms P g a b k
 | 0,_=>rfl
 | k+1,hl=>by
  unfold CE CO;rw [h.lost hn g a b k (by omega)];by_cases q:((ms.getD k AB.z).kind=2∧(ms.getD k AB.z).good=g)∧a≤(ms.getD k AB.z).day∧(ms.getD k AB.z).day≤b
  ·rw [if_pos q,if_pos q,h.real (by omega)];unfold DE;rw [if_neg (fun e=>by have:=hn k (by omega) e;omega),Int.toNat_natCast]
  ·rw [if_neg q,if_neg q]
end Go.Ns
namespace Go.Ns
open Go.Conc
theorem SF (a:ByteArray):(a==a)=true:=by
 cases a with
 | mk d=>show (d==d)=true;simp
section
variable {d m:Int} {gs:List Good} {ms ms2:List AB} {cs cs2:List AF}
theorem SG {α:Type}:∀{l l1:List α},l.Nodup→(∀x ∈ l,x ∈ l1)→l.length≤l1.length
 | [],_,_,_=>Nat.zero_le _
 | a ::t,l1,hn,hs=>by
  obtain ⟨s,u,rfl⟩:=List.append_of_mem (hs a (List.mem_cons_self ..))
  have:=SG (l1:=s++u) (List.nodup_cons.1 hn).2 fun x hx=>by
   have h1:=hs x (List.mem_cons_of_mem _ hx);rw [List.mem_append] at h1 ⊢;rcases h1 with h | h
   ·exact .inl h
   ·rcases List.mem_cons.1 h with rfl | h
    ·exact absurd hx (List.nodup_cons.1 hn).1
    ·exact .inr h
  simp only [List.length_append,List.length_cons] at this ⊢;omega
end
end Go.Ns
namespace Go.Ns
open Go.Conc
def Dv (ms:List AB) (cs:List AF) (f y l:List Int):Bool:=decide (∀k,k<cs.length→(cs.getD k AF.z).low≤A3 ms f y l (cs.getD k AF.z).good (cs.getD k AF.z).day ms.length∧A3 ms f y l (cs.getD k AF.z).good (cs.getD k AF.z).day ms.length≤(cs.getD k AF.z).high) &&
 decide (∀k,k<ms.length→¬A3 ms f y l (ms.getD k AB.z).good (ms.getD k AB.z).day ms.length<0)
section
variable {ms:List AB} {cs:List AF} {f y l:List Int}
theorem YF {k:Nat} (hk:k<cs.length) (h:¬((cs.getD k AF.z).low≤A3 ms f y l (cs.getD k AF.z).good (cs.getD k AF.z).day ms.length∧A3 ms f y l (cs.getD k AF.z).good (cs.getD k AF.z).day ms.length≤(cs.getD k AF.z).high)):Dv ms cs f y l=false:=by
 unfold Dv;rw [decide_eq_false (fun q=>h (q k hk))];rfl
theorem YG {k:Nat} (hk:k<ms.length) (h:A3 ms f y l (ms.getD k AB.z).good (ms.getD k AB.z).day ms.length<0):Dv ms cs f y l=false:=by
 unfold Dv;rw [Bool.and_eq_false_iff];exact .inr (decide_eq_false fun q=>q k hk h)
theorem YH {k k2:Nat} (h:∀j,j<k→(cs.getD j AF.z).low≤A3 ms f y l (cs.getD j AF.z).good (cs.getD j AF.z).day ms.length∧A3 ms f y l (cs.getD j AF.z).good (cs.getD j AF.z).day ms.length≤(cs.getD j AF.z).high) (hk:cs.length≤k)
  (h2:∀j,j<k2→¬A3 ms f y l (ms.getD j AB.z).good (ms.getD j AB.z).day ms.length<0) (hk2:ms.length≤k2):Dv ms cs f y l=true:=by
 unfold Dv;rw [decide_eq_true (fun j hj=>h j (by omega)),decide_eq_true (fun j hj=>h2 j (by omega))];rfl
end
section
variable {d m:Int} {gs:List Good} {ms:List AB} {cs:List AF}
end
end Go.Ns
namespace Go.Ns
open Go.Conc
section
variable {d m:Int} {gs:List Good} {ms:List AB} {cs:List AF} {kd g n:Int}
end
end Go.Ns
namespace Go.Ns
open Go.Conc
section
variable {d m:Int} {gs:List Good} {ms:List AB} {cs:List AF}
end
end Go.Ns
namespace Go.Ns
open Go.Conc
def Ty (h:GH) (t:TypeId) (v:Value):Prop:=∀b,Bw v=some b→∃p c f,h b=some (p,.cells c t f)
def IP (h:GH) (t:TypeId) (v:Value) (xs:List Int):Prop:=AJ h v 1 eI xs∧Ty h t v
theorem IP.le {h h':GH} {t:TypeId} {v:Value} {xs:List Int} (x:IP h t v xs) (l:h.Le h'):IP h' t v xs:=⟨x.1.le l,fun b hb=>by
 obtain ⟨p,c,f,q⟩:=x.2 b hb;exact ⟨p,c,f,l.keep q rfl⟩⟩
theorem IP.nil (h:GH) (t:TypeId):IP h t (.slice none 0 0) []:=⟨AJ.nil _ _ _,fun b hb=>by cases hb⟩
theorem IP.own {h0 h:GH} {t:TypeId} {v:Value} {xs:List Int} (o:AT h0 h v t 1 eI xs):IP h t v xs:=⟨o.sl,fun b hb=>by
 rcases o with ⟨rfl,_⟩ | ⟨b1,cap,c,rfl,_,h2,_⟩
 ·cases hb
 ·simp only [Bw,Option.some.injEq] at hb;subst hb;exact ⟨_,_,_,h2⟩⟩
section
variable {α:Type} {h h' h0:GH} {v v':Value} {t t':TypeId} {n:Nat} {enc:α→Array Value} {ys:List α}
theorem IP.grown (g:Fs h h' v v') (o:AT h0 h v t' n enc ys) (ne:t'≠t) {w:Value} {xs:List Int} (x:IP h t w xs):IP h' t w xs:=by
 have key:∀b,Bw w=some b→h' b=h b:=fun b hb=>by
  obtain ⟨p,c,f,q⟩:=x.2 b hb;rw [q];refine g.1 b _ q fun e=>?_;rcases o with ⟨rfl,_⟩ | ⟨b1,cap,c1,rfl,_,h2,_⟩
  ·cases e
  ·simp only [Bw,Option.some.injEq] at e;subst e;rw [q] at h2;cases h2;exact ne rfl
 refine ⟨?_,fun b hb=>by rw [key b hb];exact x.2 b hb⟩;obtain ⟨a,cap,hv,hc,hm,he⟩:=x.1;refine ⟨a,cap,hv,hc,hm,fun i hi=>?_⟩;obtain ⟨b,off,h1,h2⟩:=he i hi;exact ⟨b,off,h1,h2.same (key b (by rw [hv,h1];rfl))⟩
end
theorem OQ {P:Program} {E:GY P} {σ:Nat→Value} {ds:List Deferred} {h:GH} {T:(Nat→Value)→List Deferred→GH→Prop} {dst:Option Nat} {ty:TypeId} {pos:String} {af:Array Edge} {gd:Option (Nat×Bool)} {α:Type}
  {s x:TypeId} {o1 o2:Operand} {h0:GH} {w:Value} {r e n bytes:Nat} {enc:α→Array Value} {ys:List α} (ht:H1 P s x=some (e,n,bytes)) (h1:AU σ o1=.slice (some ⟨r,0,none⟩) 0 0) (h2:AU σ o2=w)
  (hv:AT h0 h (.slice (some ⟨r,0,none⟩) 0 0) e n enc ([]:List α)) (hw:AJ h w n enc ys) (l0:∀q,h q=none→h0 q=none) (hb:(2*(([]:List α).length+ys.length)+512)*bytes≤2 ^ 48) (hfine:∀y ∈ ys,(enc y).toList.all (·.oneCell')=true)
  (k:∀v' h',AT h0 h' v' e n enc ys→Fs h h' (.slice (some ⟨r,0,none⟩) 0 0) v'→h.Le h'→T (putS σ dst v') ds h'):Be E ⟨dst,.call ⟨.builtin .append,#[o1,o2],#[s,x]⟩,ty,pos,af,gd⟩ σ ds h T:=
 Nh ht h1 h2 hv hw l0 hb hfine fun v' h' o g1 g2 g3=>k v' h' o ⟨g1,g2⟩ (.of fun b y hb=>by
  by_cases e:b=r
  ·subst e;rcases hv with ⟨q,_⟩ | ⟨b1,cap,c,q,_,q2,q3,_⟩
   ·cases q
   ·simp only [Value.slice.injEq,Option.some.injEq,Addr.mk.injEq,and_true] at q;obtain ⟨rfl,_,rfl⟩:=q;obtain ⟨c',q5,q6⟩:=g3 b c rfl q2;rw [q2] at hb;cases hb;rw [q5,Array.eq_empty_of_size_eq_zero (show c.size=0 by omega),Array.eq_empty_of_size_eq_zero (show c'.size=0 by omega)]
  ·exact g1 b y hb fun q=>e (by simpa [Bw] using q.symm))
def YI (hs:GH) (k0 ln:Nat) (c:Array Value) (t:TypeId) (k:Nat) (v:Value) (h:GH):Prop:=k=k0→∃r,v=.slice (some ⟨r,0,none⟩) ln ln∧hs r=none∧h r=some (true,.cells c t (0,0))
theorem YI.mono (hs:GH) (k0 ln:Nat) (c:Array Value) (t:TypeId):∀k v h1 h2,GH.Le h1 h2→YI hs k0 ln c t k v h1→YI hs k0 ln c t k v h2:=fun _ _ _ _ l x e=>by
 obtain ⟨r,q1,q2,q3⟩:=x e;exact ⟨r,q1,q2,l.keep q3 rfl⟩
theorem YJ {P:Program} {E:GY P} {σ:Nat→Value} {ds:List Deferred} {hs hx:GH} {dst:Option Nat} {ty:TypeId} {pos:String} {af:Array Edge} {gd:Option (Nat×Bool)} {t:TypeId} {len n k0 k:Nat} {z cells:Array Value} {e:TypeId} {parts:Array (Nat×Operand)}
  (h0:Dr P t=some (n,z,e)) (hl:len*n≤2 ^ 24) (hn:(len*n=0)=False) (hf:Instr.fill (fun i=>some (i*n,n)) ((Array.range (len*n)).map (z[·%z.size]!)) (parts.map fun (i,x)=>(i,AU σ x)).toList=some cells) (l:hs.Le hx) :
  Be E ⟨dst,.buildSlice t len parts,ty,pos,af,gd⟩ σ ds hx fun σ' ds' h'=>ds'=ds∧∃v,σ'=putS σ dst v∧hx.Le h'∧YI hs k0 len cells e k v h':=
 Aa h0 hl hn hf fun r h' hr le bx _=>⟨rfl,_,rfl,le,fun _=>⟨r,rfl,GH.Le.nothing l hr,bx⟩⟩
theorem fill_b3 {v0 v1 v2:Value} (h0:v0.cells=#[v0]) (h1:v1.cells=#[v1]) (h2:v2.cells=#[v2]):Instr.fill (fun x=>#[(0,1),(1,1),(2,1)][x]?) #[Value.slice none 0 0,Value.slice none 0 0,Value.slice none 0 0] [(0,v0),(1,v1),(2,v2)]=some #[v0,v1,v2]:=by
 simp [Instr.fill,h0,h1,h2]
def Eb (h:GH) (t:TypeId) (l:List Sl):Prop:=∀k,IP h t (l.getD k Sl.z).1 (l.getD k Sl.z).2
theorem Eb.le {h h':GH} {t:TypeId} {l:List Sl} (x:Eb h t l) (e:h.Le h'):Eb h' t l:=fun k=>(x k).le e
theorem Eb.nil (h:GH) (t:TypeId):Eb h t []:=fun k=>by
 rw [CB (by simp)];exact IP.nil _ _
theorem OR {α:Type} (z:α) (a b:List α) (k:Nat):(a++b).getD k z=if k<a.length then a.getD k z else b.getD (k-a.length) z:=by
 simp only [List.getD_eq_getElem?_getD,List.getElem?_append];split <;> rfl
theorem Eb.app {h:GH} {t:TypeId} {l l':List Sl} (a:Eb h t l) (b:Eb h t l'):Eb h t (l++l'):=fun k=>by
 rw [OR];split
 ·exact a k
 ·exact b _
theorem Eb.one {h:GH} {t:TypeId} {x:Sl} (a:IP h t x.1 x.2):Eb h t [x]:=fun k=>by
 cases k with
 | zero=>exact a
 | succ k=>rw [CB (by simp)];exact IP.nil _ _
theorem Eb.grown {α:Type} {h h' h0:GH} {v v':Value} {t t':TypeId} {n:Nat} {enc:α→Array Value} {ys:List α} (g:Fs h h' v v') (o:AT h0 h v t' n enc ys) (ne:t'≠t) {l:List Sl} (x:Eb h t l):Eb h' t l:=fun k=>(x k).grown g o ne
structure PS where
 f:Sl
 y:Sl
 l:Sl
def PS.z:PS:=⟨Sl.z,Sl.z,Sl.z⟩
def ZV (x:PS):Array Value:=#[x.f.1,x.y.1,x.l.1]
def EH (h:GH) (t:TypeId) (l:List PS):Prop:=∀k,IP h t (l.getD k PS.z).f.1 (l.getD k PS.z).f.2∧IP h t (l.getD k PS.z).y.1 (l.getD k PS.z).y.2∧IP h t (l.getD k PS.z).l.1 (l.getD k PS.z).l.2
theorem EH.le {h h':GH} {t:TypeId} {l:List PS} (x:EH h t l) (e:h.Le h'):EH h' t l:=fun k=>⟨(x k).1.le e,(x k).2.1.le e,(x k).2.2.le e⟩
theorem EH.nil (h:GH) (t:TypeId):EH h t []:=fun k=>by
 rw [CB (by simp)];exact ⟨IP.nil _ _,IP.nil _ _,IP.nil _ _⟩
theorem EH.app {h:GH} {t:TypeId} {l l':List PS} (a:EH h t l) (b:EH h t l'):EH h t (l++l'):=fun k=>by
 rw [OR];split
 ·exact a k
 ·exact b _
theorem EH.one {h:GH} {t:TypeId} {x:PS} (a:IP h t x.f.1 x.f.2) (b:IP h t x.y.1 x.y.2) (c:IP h t x.l.1 x.l.2):EH h t [x]:=fun k=>by
 cases k with
 | zero=>exact ⟨a,b,c⟩
 | succ k=>rw [CB (by simp)];exact ⟨IP.nil _ _,IP.nil _ _,IP.nil _ _⟩
theorem EH.grown {α:Type} {h h' h0:GH} {v v':Value} {t t':TypeId} {n:Nat} {enc:α→Array Value} {ys:List α} (g:Fs h h' v v') (o:AT h0 h v t' n enc ys) (ne:t'≠t) {l:List PS} (x:EH h t l):EH h' t l:=fun k=>⟨(x k).1.grown g o ne,(x k).2.1.grown g o ne,(x k).2.2.grown g o ne⟩
theorem IP.fine {h:GH} {t:TypeId} {v:Value} {xs:List Int} (x:IP h t v xs):v.oneCell'=true:=(AJ.one x.1).2
theorem Eb.fine {h:GH} {t:TypeId} {l:List Sl} (a:Eb h t l):∀y ∈ l,(IO y).toList.all (·.oneCell')=true:=fun y hy=>by
 obtain ⟨k,hk,rfl⟩:=IF Sl.z hy;show (((l.getD k Sl.z).1.oneCell') && true)=true;rw [(a k).fine];rfl
theorem EH.fine {h:GH} {t:TypeId} {l:List PS} (a:EH h t l):∀y ∈ l,(ZV y).toList.all (·.oneCell')=true:=fun y hy=>by
 obtain ⟨k,hk,rfl⟩:=IF PS.z hy;show (((l.getD k PS.z).f.1.oneCell') && (((l.getD k PS.z).y.1.oneCell') && (((l.getD k PS.z).l.1.oneCell') && true)))=true;rw [(a k).1.fine,(a k).2.1.fine,(a k).2.2.fine];rfl
abbrev RP:=List Int×List Int×List Int
def I9 (l:List PS):List RP:=l.map fun x=>(x.f.2,x.y.2,x.l.2)
theorem XM (a b:List PS):I9 (a++b)=I9 a++I9 b:=by simp [I9]
theorem QM (a b:List Sl):A5 (a++b)=A5 a++A5 b:=by simp [A5]
theorem Tm {l:List PS} {k:Nat} (hk:k<l.length):(I9 l).getD k ([],[],[])=((l.getD k PS.z).f.2,(l.getD k PS.z).y.2,(l.getD k PS.z).l.2):=by
 unfold I9;rw [Bi _ (by simpa using hk),Bi PS.z hk];simp
def eSp (x:Int×Int):Array Value:=#[.int .i64 x.1,.int .i64 x.2]
def Bt (gs:List Good):List (Int×Int):=gs.map fun g=>(g.low,g.high)
def CW (ms:List AB):List (Int×Int):=ms.map fun g=>(g.low,g.high)
theorem SH {gs:List Good} {k:Nat} (hk:k<gs.length):Bt (gs.take (k+1))=Bt (gs.take k)++[((gs.getD k Good.z).low,(gs.getD k Good.z).high)]:=by
 unfold Bt;rw [Cv Good.z hk,List.map_append];rfl
theorem Tn {ms:List AB} {k:Nat} (hk:k<ms.length):CW (ms.take (k+1))=CW (ms.take k)++[((ms.getD k AB.z).low,(ms.getD k AB.z).high)]:=by
 unfold CW;rw [Cv AB.z hk,List.map_append];rfl
theorem Mt {gs:List Good} (h:∀k,(gs.getD k Good.z).high-(gs.getD k Good.z).low<3) (k:Nat):((Bt gs).getD k (0,0)).2-((Bt gs).getD k (0,0)).1<3:=by
 unfold Bt;by_cases hk:k<gs.length
 ·have:=h k
  rw [Bi _ (by simpa using hk),List.getElem_map];rw [Bi Good.z hk] at this;exact this
 ·rw [CB (by simpa using hk)];decide
theorem OS {ms:List AB} (h:∀k,(ms.getD k AB.z).high-(ms.getD k AB.z).low<3) (k:Nat):((CW ms).getD k (0,0)).2-((CW ms).getD k (0,0)).1<3:=by
 unfold CW;by_cases hk:k<ms.length
 ·have:=h k
  rw [Bi _ (by simpa using hk),List.getElem_map];rw [Bi AB.z hk] at this;exact this
 ·rw [CB (by simpa using hk)];decide
def Bu:List (Int×Int)→List Int→List (List Int)
 | [],k=>[k]
 | s ::ss,k=>(FU s.1 s.2).flatMap fun n=>Bu ss (k++[n])
def Hk (ss:List (Int×Int)) (kn:List Int) (j:Nat):List (List Int):=(Bo (ss.getD kn.length (0,0)).1 j).flatMap fun n=>Bu (ss.drop (kn.length+1)) (kn++[n])
theorem SI (ss:List (Int×Int)) (kn:List Int) (j:Nat):Hk ss kn (j+1)=Hk ss kn j++Bu (ss.drop (kn.length+1)) (kn++[(ss.getD kn.length (0,0)).1+(j:Int)]):=by
 unfold Hk;exact Hf
theorem VV {ss:List (Int×Int)} {kn:List Int} (h:kn.length=ss.length):Bu (ss.drop kn.length) kn=[kn]:=by
 rw [List.drop_eq_nil_of_le (by omega)];rfl
theorem YK {ss:List (Int×Int)} {kn:List Int} (h:kn.length<ss.length) {j:Nat} (hj:¬(ss.getD kn.length (0,0)).1+(j:Int)≤(ss.getD kn.length (0,0)).2) (hk:(j:Int)≤(ss.getD kn.length (0,0)).2-(ss.getD kn.length (0,0)).1+1∨j=0):Bu (ss.drop kn.length) kn=Hk ss kn j:=by
 have e:ss.drop kn.length=ss.getD kn.length (0,0) ::ss.drop (kn.length+1):=by
  rw [List.drop_eq_getElem_cons h,Bi _ h]
 rw [e];unfold Hk;rw [N0 hj hk];rfl
theorem GO {α β:Type} {f:α→List β} {B:Nat}:∀{l:List α},(∀x ∈ l,(f x).length≤B)→(l.flatMap f).length≤l.length*B
 | [],_=>by simp
 | x ::l,h=>by
  rw [List.flatMap_cons,List.length_append,List.length_cons,Nat.succ_mul];have h1:=h x (by simp);have h2:=GO (l:=l) fun y hy=>h y (by simp [hy]);omega
theorem OT (lo:Int) (k:Nat):(Bo lo k).length=k:=by simp [Bo]
theorem OU:∀{ss:List (Int×Int)} {kn:List Int},(∀k,(ss.getD k (0,0)).2-(ss.getD k (0,0)).1<3)→(Bu ss kn).length≤3 ^ ss.length
 | [],kn,_=>by simp [Bu]
 | s ::ss,kn,h=>by
  unfold Bu;have h1:=h 0;have h2:(FU s.1 s.2).length≤3:=by unfold FU;rw [OT];have:s.2-s.1<3:=h1;omega
  have h3:=GO (l:=FU s.1 s.2) (f:=fun n=>Bu ss (kn++[n])) (B:=3 ^ ss.length) fun n _=>OU fun k=>h (k+1);rw [List.length_cons,Nat.pow_succ,Nat.mul_comm];exact Nat.le_trans h3 (Nat.mul_le_mul_right _ h2)
theorem AAV {ss:List (Int×Int)} (h:∀k,(ss.getD k (0,0)).2-(ss.getD k (0,0)).1<3) (n:Nat) (k:Nat):((ss.drop n).getD k (0,0)).2-((ss.drop n).getD k (0,0)).1<3:=by
 have e:(ss.drop n).getD k (0,0)=ss.getD (n+k) (0,0):=by simp [List.getD_eq_getElem?_getD]
 rw [e];exact h _
theorem pow_le6 {n:Nat} (h:n≤6):3 ^ n≤729:=Nat.pow_le_pow_right (by decide) h
theorem Hl {ss:List (Int×Int)} {kn:List Int} (h:∀k,(ss.getD k (0,0)).2-(ss.getD k (0,0)).1<3) (hl:ss.length≤6) (n:Nat):(Bu (ss.drop n) kn).length≤729:=by
 have h1:=OU (kn:=kn) (AAV h n);exact Nat.le_trans h1 (pow_le6 (by rw [List.length_drop];omega))
theorem SJ {ss:List (Int×Int)} {kn:List Int} (h:∀k,(ss.getD k (0,0)).2-(ss.getD k (0,0)).1<3) (hl:ss.length≤6) (j:Nat):(Hk ss kn j).length≤j*729:=by
 unfold Hk
 have:=GO (l:=Bo (ss.getD kn.length (0,0)).1 j) (f:=fun n=>Bu (ss.drop (kn.length+1)) (kn++[n])) (B:=729) fun n _=>Hl h hl _
 rwa [OT] at this
theorem CX (l:List Sl):(A5 l).length=l.length:=by simp [A5]
def Bm (l:List Int):List (List Int):=l.foldl (fun c x=>c++c.map (·++[x])) [[]]
def ED (l:List Int) (k j:Nat):List (List Int):=Bm (l.take k)++((Bm (l.take k)).take j).map (·++[l.getD k 0])
theorem SK {l:List Int} {k:Nat} (hk:k<l.length):Bm (l.take (k+1))=Bm (l.take k)++(Bm (l.take k)).map (·++[l.getD k 0]):=by
 rw [Cv 0 hk];unfold Bm;rw [List.foldl_append];rfl
theorem VW (l:List Int) (k:Nat):ED l k 0=Bm (l.take k):=by simp [ED]
theorem SL {l:List Int} {k j:Nat} (hk:k<l.length) (hj:(Bm (l.take k)).length≤j):ED l k j=Bm (l.take (k+1)):=by
 rw [SK hk];unfold ED;rw [List.take_of_length_le hj]
theorem Pe {l:List Int} {k j:Nat} (hj:j<(Bm (l.take k)).length):ED l k (j+1)=ED l k j++[(Bm (l.take k)).getD j []++[l.getD k 0]]:=by
 unfold ED;rw [Cv [] hj,List.map_append,List.append_assoc];rfl
theorem To:∀(l:List Int),(Bm l).length=2 ^ l.length:=fun l=>by
 have key:∀(l:List Int) (c:List (List Int)),(l.foldl (fun c x=>c++c.map (·++[x])) c).length=c.length*2 ^ l.length:=by
  intro l
  induction l with
  | nil=>intro c;simp
  | cons x l ih=>intro c;rw [List.foldl_cons,ih,List.length_append,List.length_map,List.length_cons,Nat.pow_succ,Nat.mul_comm (2 ^ l.length) 2,←Nat.mul_assoc];congr 1;omega
 unfold Bm;rw [key];simp
theorem Gl {l:List Int} (h:l.length≤6) (k:Nat):(Bm (l.take k)).length≤64:=by
 rw [To]
 have:2 ^ (l.take k).length≤2 ^ 6:=Nat.pow_le_pow_right (by decide) (by rw [List.length_take];omega)
 omega
theorem OV {l:List Int}:∀{c:List Int},c ∈ Bm l→c.Sublist l:=by
 have key:∀(l r:List Int) (cs:List (List Int)),(∀c ∈ cs,c.Sublist r)→∀c ∈ l.foldl (fun c x=>c++c.map (·++[x])) cs,c.Sublist (r++l):=by
  intro l
  induction l with
  | nil=>intro r cs h c hc;rw [List.append_nil];exact h c hc
  | cons x l ih=>
   intro r cs h c hc
   have:=ih (r++[x]) (cs++cs.map (·++[x])) (fun c hc=>by
    rcases List.mem_append.1 hc with hc | hc
    ·exact (h c hc).trans (List.sublist_append_left _ _)
    ·obtain ⟨c',hc',rfl⟩:=List.mem_map.1 hc;exact (h c' hc').append (List.Sublist.refl _)) c hc
   rwa [List.append_assoc] at this
 intro c hc
 have:=key l [] [[]] (fun c hc=>by rw [List.mem_singleton.1 hc];exact List.Sublist.refl _) c hc
 simpa using this
theorem VX {l:List Int} {c:List Int} (h:c.Sublist l):c ∈ Bm l:=by
 have keep:∀(l:List Int) (cs:List (List Int)) c,c ∈ cs→c ∈ l.foldl (fun c x=>c++c.map (·++[x])) cs:=by
  intro l
  induction l with
  | nil=>intro cs c h;exact h
  | cons x l ih=>intro cs c h;exact ih _ _ (List.mem_append_left _ h)
 have key:∀(c l:List Int),c.Sublist l→∀(cs:List (List Int)) a,a ∈ cs→a++c ∈ l.foldl (fun c x=>c++c.map (·++[x])) cs:=by
  intro c l h
  induction h with
  | slnil=>intro cs a ha;rw [List.append_nil];exact ha
  | cons x _ ih=>intro cs a ha;exact ih _ _ (List.mem_append_left _ ha)
  | cons_cons x _ ih=>
   intro cs a ha
   have:=ih (cs++cs.map (·++[x])) (a++[x]) (List.mem_append_right _ (List.mem_map.2 ⟨a,ha,rfl⟩))
   rwa [List.append_assoc] at this
 exact key c l h [[]] [] (by simp)
theorem YL {l:List Int} {k:Nat} (h6:l.length≤6) {x:List Int} (h:x ∈ Bm (l.take k)):x.length≤6:=by
 have h1:=(OV h).length_le;rw [List.length_take] at h1;omega
theorem YM {l:List Int} {k j:Nat} {fl fl2:List Sl} (h6:l.length≤6) (h1:A5 fl=Bm (l.take k)) (h2:A5 fl2=ED l k j) (hj:j≤fl.length) :
  fl2.length=fl.length+j∧(j<fl.length→(fl2.getD j Sl.z).2=(Bm (l.take k)).getD j []∧(fl2.getD j Sl.z).2.length≤6):=by
 have e1:(Bm (l.take k)).length=fl.length:=by rw [←h1,CX]
 have e2:fl2.length=fl.length+j:=by
  rw [←CX fl2,h2];unfold ED;rw [List.length_append,List.length_map,List.length_take,e1];omega
 refine ⟨e2,fun hj2=>?_⟩;have e3:(fl2.getD j Sl.z).2=(Bm (l.take k)).getD j []:=by
  rw [←Cb (by omega),h2];unfold ED;rw [OR,if_pos (by omega)]
 exact ⟨e3,by rw [e3];exact YL h6 (CR (by omega))⟩
theorem Tp {l:List Int} {k j:Nat} {fl fl2:List Sl} {w:Value} (h1:A5 fl=Bm (l.take k)) (h2:A5 fl2=ED l k j) (e:(fl2.getD j Sl.z).2=(Bm (l.take k)).getD j []) (hj:j<fl.length):A5 (fl2++[(w,(fl2.getD j Sl.z).2++[l.getD k 0])])=ED l k (j+1):=by
 rw [QM,h2,Pe (by rw [←h1,CX];exact hj),e];rfl
def GX (ms:List AB) (cs:List AF) (l f:List Int) (ys:List (List Int)):List RP:=(ys.map fun y=>(f,y,l)).filter fun x=>Dv ms cs x.1 x.2.1 x.2.2
def KK (gs:List Good) (ms:List AB) (cs:List AF) (l:List Int):List RP:=(Bu (Bt gs) []).flatMap fun f=>GX ms cs l f (Bu (CW ms) [])
def Dh (ms:List AB) (cs:List AF) (l:List Int) (F Y:List (List Int)) (i k:Nat):List RP:=((F.take i).flatMap fun f=>GX ms cs l f Y)++GX ms cs l (F.getD i []) (Y.take k)
theorem Lm (ms:List AB) (cs:List AF) (l:List Int) (F Y:List (List Int)) (i:Nat):Dh ms cs l F Y i 0=(F.take i).flatMap fun f=>GX ms cs l f Y:=by simp [Dh,GX]
theorem VY {ms:List AB} {cs:List AF} {l:List Int} {F Y:List (List Int)} {i k:Nat} (hi:i<F.length) (hk:Y.length≤k):Dh ms cs l F Y i k=(F.take (i+1)).flatMap fun f=>GX ms cs l f Y:=by
 unfold Dh;rw [Cv [] hi,List.flatMap_append,List.take_of_length_le hk];simp
theorem AAW {ms:List AB} {cs:List AF} {l:List Int} {F Y:List (List Int)} {i k:Nat} (hk:k<Y.length) (h:Dv ms cs (F.getD i []) (Y.getD k []) l=true):Dh ms cs l F Y i (k+1)=Dh ms cs l F Y i k++[(F.getD i [],Y.getD k [],l)]:=by
 unfold Dh GX;rw [Cv [] hk,List.map_append,List.filter_append,List.append_assoc];congr 1;congr 1;simp;exact h
theorem AAX {ms:List AB} {cs:List AF} {l:List Int} {F Y:List (List Int)} {i k:Nat} (hk:k<Y.length) (h:Dv ms cs (F.getD i []) (Y.getD k []) l=false):Dh ms cs l F Y i (k+1)=Dh ms cs l F Y i k:=by
 unfold Dh GX;rw [Cv [] hk,List.map_append,List.filter_append];congr 1;simp;exact h
theorem OW (ms:List AB) (cs:List AF) (l f:List Int) (ys:List (List Int)):(GX ms cs l f ys).length≤ys.length:=by
 unfold GX;exact Nat.le_trans (List.length_filter_le _ _) (by simp)
theorem OX {ms:List AB} {cs:List AF} {l:List Int} {F Y:List (List Int)} (hF:F.length≤729) (hY:Y.length≤729) (i k:Nat):(Dh ms cs l F Y i k).length≤532170:=by
 unfold Dh;have h1:=GO (l:=F.take i) (f:=fun f=>GX ms cs l f Y) (B:=729) fun f _=>Nat.le_trans (OW ..) hY;have h2:=OW ms cs l (F.getD i []) (Y.take k);rw [List.length_take] at h2;have h3:(F.take i).length*729≤729*729:=Nat.mul_le_mul_right _ (by rw [List.length_take];omega);rw [List.length_append];omega
theorem QN {gs:List Good} {ms:List AB} {cs:List AF} {l:List Int} (hF:(Bu (Bt gs) []).length≤729) (hY:(Bu (CW ms) []).length≤729):(KK gs ms cs l).length≤532170:=by
 have:=OX (ms:=ms) (cs:=cs) (l:=l) hF hY (Bu (Bt gs) []).length 0
 rw [Lm,List.take_length] at this;exact this
def D5 (m:Int) (gs:List Good) (ms:List AB) (cs:List AF) (C:List (List Int)):List RP:=C.flatMap fun l=>if (l.length:Int)≤m then KK gs ms cs l else []
def Al (m:Int) (gs:List Good) (ms:List AB) (cs:List AF):List RP:=D5 m gs ms cs (Bm (CS ms ms.length))
theorem YN {m:Int} {gs:List Good} {ms:List AB} {cs:List AF} {C:List (List Int)} {k:Nat} (hk:k<C.length) (h:((C.getD k []).length:Int)≤m):D5 m gs ms cs (C.take (k+1))=D5 m gs ms cs (C.take k)++KK gs ms cs (C.getD k []):=by
 unfold D5;rw [Cv [] hk,List.flatMap_append,List.flatMap_singleton,if_pos h]
theorem YO {m:Int} {gs:List Good} {ms:List AB} {cs:List AF} {C:List (List Int)} {k:Nat} (hk:k<C.length) (h:¬((C.getD k []).length:Int)≤m):D5 m gs ms cs (C.take (k+1))=D5 m gs ms cs (C.take k):=by
 unfold D5;rw [Cv [] hk,List.flatMap_append,List.flatMap_singleton,if_neg h,List.append_nil]
theorem Mu {m:Int} {gs:List Good} {ms:List AB} {cs:List AF} {C:List (List Int)} (hF:(Bu (Bt gs) []).length≤729) (hY:(Bu (CW ms) []).length≤729) (hC:C.length≤64) (k:Nat):(D5 m gs ms cs (C.take k)).length≤34058880:=by
 unfold D5;have h1:=GO (l:=C.take k) (f:=fun l=>if (l.length:Int)≤m then KK gs ms cs l else []) (B:=532170) fun f _=>by
  split
  ·exact QN hF hY
  ·simp
 have h3:(C.take k).length*532170≤64*532170:=Nat.mul_le_mul_right _ (by rw [List.length_take];omega);omega
theorem Gm (l:List PS):(I9 l).length=l.length:=by simp [I9]
theorem Tq (gs:List Good) (k:Nat):(Bt (gs.take k)).length≤k:=by
 unfold Bt;rw [List.length_map,List.length_take];omega
theorem VZ (ms:List AB) (k:Nat):(CW (ms.take k)).length≤k:=by
 unfold CW;rw [List.length_map,List.length_take];omega
theorem YP {ms:List AB} {cs:List AF} {l:List Int} {F Y:List Sl} {pl:List PS} {i k:Nat} {fv yv lv:Value} (h:I9 pl=Dh ms cs l (A5 F) (A5 Y) i k) (hi:i<F.length) (hk:k<Y.length) (hp:Dv ms cs (F.getD i Sl.z).2 (Y.getD k Sl.z).2 l=true) :
  I9 (pl++[(⟨(fv,(F.getD i Sl.z).2),(yv,(Y.getD k Sl.z).2),(lv,l)⟩:PS)])=Dh ms cs l (A5 F) (A5 Y) i (k+1):=by
 have e1:=Cb hi;have e2:=Cb hk;rw [XM,h,AAW (by rw [CX];exact hk) (by rw [e1,e2];exact hp),e1,e2];rfl
theorem YQ {ms:List AB} {cs:List AF} {l:List Int} {F Y:List Sl} {pl:List PS} {i k:Nat} (h:I9 pl=Dh ms cs l (A5 F) (A5 Y) i k) (hi:i<F.length) (hk:k<Y.length) (hp:Dv ms cs (F.getD i Sl.z).2 (Y.getD k Sl.z).2 l=false) :
  I9 pl=Dh ms cs l (A5 F) (A5 Y) i (k+1):=by
 rw [h,AAX (by rw [CX];exact hk) (by rw [Cb hi,Cb hk];exact hp)]
theorem YR {ms:List AB} {cs:List AF} {l:List Int} {F Y:List Sl} {pl:List PS} {i k:Nat} (h:I9 pl=Dh ms cs l (A5 F) (A5 Y) i k) (hi:i<F.length) (hk:Y.length≤k):I9 pl=Dh ms cs l (A5 F) (A5 Y) (i+1) 0:=by
 rw [h,VY (by rw [CX];exact hi) (by rw [CX];exact hk),Lm]
theorem AAY {gs:List Good} {ms:List AB} {cs:List AF} {l:List Int} {F Y:List Sl} {pl:List PS} {i:Nat} (h:I9 pl=Dh ms cs l (A5 F) (A5 Y) i 0) (hi:F.length≤i) (e1:A5 F=Bu (Bt gs) []) (e2:A5 Y=Bu (CW ms) []):I9 pl=KK gs ms cs l:=by
 rw [h,Lm,List.take_of_length_le (by rw [CX];exact hi),e1,e2];rfl
theorem Va {m:Int} {gs:List Good} {ms:List AB} {cs:List AF} {F:List Sl} {pl pl2:List PS} {k:Nat} (h1:I9 pl=D5 m gs ms cs ((A5 F).take k)) (h2:I9 pl2=KK gs ms cs (F.getD k Sl.z).2) (hk:k<F.length) (hm:(((F.getD k Sl.z).2).length:Int)≤m):I9 (pl++pl2)=D5 m gs ms cs ((A5 F).take (k+1)):=by
 have e:=Cb hk;rw [XM,h1,h2,YN (by rw [CX];exact hk) (by rw [e];exact hm),e]
theorem Vb {m:Int} {gs:List Good} {ms:List AB} {cs:List AF} {F:List Sl} {pl:List PS} {k:Nat} (h1:I9 pl=D5 m gs ms cs ((A5 F).take k)) (hk:k<F.length) (hm:¬(((F.getD k Sl.z).2).length:Int)≤m):I9 pl=D5 m gs ms cs ((A5 F).take (k+1)):=by
 rw [h1,YO (by rw [CX];exact hk) (by rw [Cb hk];exact hm)]
theorem MF {G:RP→Int} {al:List PS} {ts:List RP} {k:Nat} (e:I9 al=ts) (hk:k<al.length):(ts.take (k+1)).map G=(ts.take k).map G++[G ((al.getD k PS.z).f.2,(al.getD k PS.z).y.2,(al.getD k PS.z).l.2)]:=by
 subst e;rw [Cv ([],[],[]) (by rw [Gm];exact hk),List.map_append,Tm hk];rfl
end Go.Ns
namespace Go.Ns
open Go.Conc
theorem Kk:∀{ss:List (Int×Int)} {kn x:List Int},x ∈ Bu ss kn↔∃r,x=kn++r∧r.length=ss.length∧∀i,i<ss.length→(ss.getD i (0,0)).1≤r.getD i 0∧r.getD i 0≤(ss.getD i (0,0)).2
 | [],kn,x=>by
  unfold Bu;rw [List.mem_singleton];constructor
  ·rintro rfl;exact ⟨[],by simp,rfl,fun i hi=>by cases hi⟩
  ·rintro ⟨r,rfl,hl,_⟩;rw [List.eq_nil_of_length_eq_zero hl,List.append_nil]
 | s ::ss,kn,x=>by
  unfold Bu;rw [List.mem_flatMap];constructor
  ·rintro ⟨n,hn,hx⟩;obtain ⟨r,rfl,hl,hr⟩:=Kk.1 hx;refine ⟨n ::r,by simp,by simp [hl],fun i hi=>?_⟩;cases i with
   | zero=>exact FV.1 hn
   | succ i=>exact hr i (by simpa using hi)
  ·rintro ⟨r,rfl,hl,hr⟩;cases r with
   | nil=>cases hl
   | cons n r=>
    refine ⟨n,FV.2 (hr 0 (by simp)),Kk.2 ⟨r,by simp,by simpa using hl,fun i hi=>?_⟩⟩;exact hr (i+1) (by simpa using hi)
theorem OY {ss:List (Int×Int)} {x:List Int}:x ∈ Bu ss []↔x.length=ss.length∧∀i,i<ss.length→(ss.getD i (0,0)).1≤x.getD i 0∧x.getD i 0≤(ss.getD i (0,0)).2:=by
 rw [Kk];constructor
 ·rintro ⟨r,rfl,h⟩;exact h
 ·intro h;exact ⟨x,rfl,h⟩
theorem Iw {gs:List Good} {f:List Int}:f ∈ Bu (Bt gs) []↔f.length=gs.length∧∀i,i<gs.length→(gs.getD i Good.z).low≤f.getD i 0∧f.getD i 0≤(gs.getD i Good.z).high:=by
 rw [OY,show (Bt gs).length=gs.length by simp [Bt]];have e:∀i,i<gs.length→(Bt gs).getD i (0,0)=((gs.getD i Good.z).low,(gs.getD i Good.z).high):=fun i hi=>by
  unfold Bt;rw [Bi _ (by simpa using hi),List.getElem_map,Bi Good.z hi]
 constructor
 ·rintro ⟨h1,h2⟩;exact ⟨h1,fun i hi=>by have:=h2 i hi;rw [e i hi] at this;exact this⟩
 ·rintro ⟨h1,h2⟩;exact ⟨h1,fun i hi=>by rw [e i hi];exact h2 i hi⟩
theorem Jp {ms:List AB} {f:List Int}:f ∈ Bu (CW ms) []↔f.length=ms.length∧∀i,i<ms.length→(ms.getD i AB.z).low≤f.getD i 0∧f.getD i 0≤(ms.getD i AB.z).high:=by
 rw [OY,show (CW ms).length=ms.length by simp [CW]];have e:∀i,i<ms.length→(CW ms).getD i (0,0)=((ms.getD i AB.z).low,(ms.getD i AB.z).high):=fun i hi=>by
  unfold CW;rw [Bi _ (by simpa using hi),List.getElem_map,Bi AB.z hi]
 constructor
 ·rintro ⟨h1,h2⟩;exact ⟨h1,fun i hi=>by have:=h2 i hi;rw [e i hi] at this;exact this⟩
 ·rintro ⟨h1,h2⟩;exact ⟨h1,fun i hi=>by rw [e i hi];exact h2 i hi⟩
theorem QO {gs:List Good} {ms:List AB} {cs:List AF} {l:List Int} {t:RP}:t ∈ KK gs ms cs l↔t.2.2=l∧t.1 ∈ Bu (Bt gs) []∧t.2.1 ∈ Bu (CW ms) []∧Dv ms cs t.1 t.2.1 l=true:=by
 unfold KK GX;rw [List.mem_flatMap];constructor
 ·rintro ⟨f,hf,h⟩;obtain ⟨h1,h2⟩:=List.mem_filter.1 h;obtain ⟨y,hy,rfl⟩:=List.mem_map.1 h1;exact ⟨rfl,hf,hy,h2⟩
 ·obtain ⟨f,y,l'⟩:=t;rintro ⟨rfl,hf,hy,h⟩;exact ⟨f,hf,List.mem_filter.2 ⟨List.mem_map.2 ⟨y,hy,rfl⟩,h⟩⟩
theorem MG {m:Int} {gs:List Good} {ms:List AB} {cs:List AF} {t:RP}:t ∈ Al m gs ms cs↔t.2.2 ∈ Bm (CS ms ms.length)∧(t.2.2.length:Int)≤m∧t.1 ∈ Bu (Bt gs) []∧t.2.1 ∈ Bu (CW ms) []∧Dv ms cs t.1 t.2.1 t.2.2=true:=by
 unfold Al D5;rw [List.mem_flatMap];constructor
 ·rintro ⟨l,hl,h⟩;split at h
  ·rename_i q
   obtain ⟨rfl,h1,h2,h3⟩:=QO.1 h;exact ⟨hl,q,h1,h2,h3⟩
  ·cases h
 ·rintro ⟨hl,q,h1,h2,h3⟩;exact ⟨_,hl,by rw [if_pos q];exact QO.2 ⟨rfl,h1,h2,h3⟩⟩
theorem Ts {d m:Int} {gs:List Good} {ms:List AB} {cs:List AF} (b:Az d m gs ms cs) (k:Nat):0≤((Bt gs).getD k (0,0)).1∧((Bt gs).getD k (0,0)).2≤99:=by
 unfold Bt;by_cases hk:k<gs.length
 ·have:=b.gfew k
  rw [Bi _ (by simpa using hk),List.getElem_map];rw [Bi Good.z hk] at this;exact ⟨this.1,this.2.2.1⟩
 ·rw [CB (by simpa using hk)];decide
theorem Vc {d m:Int} {gs:List Good} {ms:List AB} {cs:List AF} (b:Az d m gs ms cs) (k:Nat):0≤((CW ms).getD k (0,0)).1∧((CW ms).getD k (0,0)).2≤99:=by
 unfold CW;by_cases hk:k<ms.length
 ·have:=b.few k
  rw [Bi _ (by simpa using hk),List.getElem_map];rw [Bi AB.z hk] at this;exact ⟨this.1,this.2.2.1⟩
 ·rw [CB (by simpa using hk)];decide
def Di (t:RP):AV:=⟨fun i=>t.1.getD i 0,fun i=>t.2.1.getD i 0,fun i=>decide ((i:Int) ∈ t.2.2)⟩
theorem OZ (t:RP) (a b:Nat):UY (Di t) t.1 t.2.1 t.2.2 a b:=⟨fun _ _=>rfl,fun _ _=>rfl,fun _ _=>rfl⟩
theorem Oa {ms:List AB} {x:Int} (h:x ∈ CS ms ms.length):0≤x∧x<ms.length∧(ms.getD x.toNat AB.z).kind=0:=by
 obtain ⟨i,hi,rfl⟩:=List.mem_map.1 h;obtain ⟨h1,h2⟩:=List.mem_filter.1 hi
 have:=List.mem_range.1 h1
 exact ⟨by omega,by omega,by rw [Int.toNat_natCast];exact of_decide_eq_true h2⟩
structure MH (gs:List Good) (ms:List AB) (t:RP):Prop where
 fl:t.1.length=gs.length
 yl:t.2.1.length=ms.length
 fr:∀i,0≤t.1.getD i 0∧t.1.getD i 0≤99
 yr:∀i,0≤t.2.1.getD i 0∧t.2.1.getD i 0≤99
 ln:∀x ∈ t.2.2,0≤x∧x<ms.length∧(ms.getD x.toNat AB.z).kind=0
section
variable {d m:Int} {gs:List Good} {ms:List AB} {cs:List AF}
theorem past_is (b:Az d m gs ms cs) {t:RP} (h1:t.1 ∈ Bu (Bt gs) []) (h2:t.2.1 ∈ Bu (CW ms) []) (h3:t.2.2 ∈ Bm (CS ms ms.length)):MH gs ms t:=by
 obtain ⟨a1,a2⟩:=Iw.1 h1;obtain ⟨b1,b2⟩:=Jp.1 h2;refine ⟨a1,b1,fun i=>?_,fun i=>?_,fun x hx=>Oa ((OV h3).mem hx)⟩
 ·by_cases hi:i<gs.length
  ·have:=a2 i hi;have:=b.gfew i;omega
  ·rw [CB (by omega)];omega
 ·by_cases hi:i<ms.length
  ·have:=b2 i hi;have:=b.few i;omega
  ·rw [CB (by omega)];omega
theorem Ob (b:Az d m gs ms cs) {t:RP} (h:t ∈ Al m gs ms cs):MH gs ms t:=by
 obtain ⟨h1,_,h3,h4,_⟩:=MG.1 h;exact past_is b h3 h4 h1
theorem Vd (ms:List AB) (k:Nat):(CS ms k).Nodup:=by
 unfold CS;exact List.pairwise_map.2 ((List.nodup_range.filter _).imp fun q e=>q (by omega))
theorem Km (b:Az d m gs ms cs) {t:RP} (h:t ∈ Al m gs ms cs):Di t ∈ AR d gs ms cs m:=by
 have P:=Ob b h;obtain ⟨h1,h2,h3,h4,h5⟩:=MG.1 h;have I:=OZ t gs.length ms.length;have hk:=fun k=>(b.kind k).1;unfold Dv at h5;rw [Bool.and_eq_true,decide_eq_true_iff,decide_eq_true_iff] at h5;refine (QL b.mlen b.most.1).2 ⟨⟨fun i hi=>(Iw.1 h3).2 i hi,fun i hi=>(Jp.1 h4).2 i hi,fun i hi hq=>?_,?_⟩,b.agrees_iff2.2 ⟨fun i hi=>(P.fr i).1,fun k hkk=>?_,fun x hx=>?_⟩,?_⟩
 ·have hq2:(i:Int) ∈ t.2.2:=of_decide_eq_true hq
  have:=(P.ln _ hq2).2.2
  rw [Int.toNat_natCast] at this;exact (OM hi).2 this
 ·rw [←HM];have h6:=SG (l:=((List.range ms.length).filter (Di t).lies).map fun (i:Nat)=>(i:Int)) (l1:=t.2.2)
   (List.pairwise_map.2 ((List.nodup_range.filter _).imp fun q e=>q (by omega))) fun x hx=>by
    obtain ⟨i,hi,rfl⟩:=List.mem_map.1 hx;exact of_decide_eq_true (List.mem_filter.1 hi).2
  rw [List.length_map] at h6;omega
 ·rw [←I.stock b.up hk (by have:=(b.move' hkk).2.1;omega)];have:=h5.2 k hkk;omega
 ·obtain ⟨k,hkc,rfl⟩:=IF AF.z hx;have hg:=b.cgood' _ (CR (d:=AF.z) hkc);rw [←I.stock b.up hk (by omega)];exact h5.1 k hkc
 ·unfold IE Di;congr 1
  ·funext k;split
   ·rfl
   ·exact (CB (by have:=P.fl;omega)).symm
  ·funext k;split
   ·rfl
   ·exact (CB (by have:=P.yl;omega)).symm
  ·funext k;split
   ·rfl
   ·exact (decide_eq_false fun e=>by have:=P.ln _ e;omega).symm
def MI (gs:List Good) (ms:List AB) (q:AV):RP:=((List.range gs.length).map q.first,(List.range ms.length).map q.many,(CS ms ms.length).filter fun x=>q.lies x.toNat)
theorem AAZ (gs:List Good) (ms:List AB) {q:AV} (hn:∀i,i<ms.length→q.lies i=true→(ms.getD i AB.z).kind=0):UY q (MI gs ms q).1 (MI gs ms q).2.1 (MI gs ms q).2.2 gs.length ms.length:=by
 refine ⟨fun i hi=>?_,fun i hi=>?_,fun i hi=>?_⟩
 ·simp [MI,List.getD_eq_getElem?_getD,hi]
 ·simp [MI,List.getD_eq_getElem?_getD,hi]
 ·cases hq:q.lies i with
  | true=>exact (decide_eq_true (List.mem_filter.2 ⟨VR hi (hn i hi hq),by rw [Int.toNat_natCast];exact hq⟩)).symm
  | false=>exact (decide_eq_false fun e=>by have:=(List.mem_filter.1 e).2;rw [Int.toNat_natCast,hq] at this;cases this).symm
theorem YS (b:Az d m gs ms cs) {q:AV} (h:q ∈ AR d gs ms cs m):MI gs ms q ∈ Al m gs ms cs∧Di (MI gs ms q)=q:=by
 obtain ⟨L,ha,hp⟩:=(QL b.mlen b.most.1).1 h;have hn:∀i,i<ms.length→q.lies i=true→(ms.getD i AB.z).kind=0:=fun i hi hq=>(OM hi).1 (L.note i hi hq);have I:=AAZ gs ms hn;have hk:=fun k=>(b.kind k).1;obtain ⟨a1,a2,a3⟩:=b.agrees_iff2.1 ha;have hcur:Di (MI gs ms q)=q:=by
  refine Eq.trans ?_ hp;unfold Di IE;congr 1
  ·funext k;split
   ·rename_i hk2;exact (I.first k hk2).symm
   ·exact CB (by simp [MI];omega)
  ·funext k;split
   ·rename_i hk2;exact (I.many k hk2).symm
   ·exact CB (by simp [MI];omega)
  ·funext k;split
   ·rename_i hk2;exact (I.lies k hk2).symm
   ·exact decide_eq_false fun e=>by have:=Oa (List.mem_filter.1 e).1;omega
 refine ⟨MG.2 ⟨VX (List.filter_sublist),?_,Iw.2 ⟨by simp [MI],fun i hi=>by rw [←I.first i hi];exact L.first i hi⟩,Jp.2 ⟨by simp [MI],fun i hi=>by rw [←I.many i hi];exact L.many i hi⟩,?_⟩,hcur⟩
 ·have h6:=SG (l:=(MI gs ms q).2.2) (l1:=((List.range ms.length).filter q.lies).map fun (i:Nat)=>(i:Int)) ((Vd ms _).filter _) fun x hx=>by
   obtain ⟨h1,h2⟩:=List.mem_filter.1 hx
   have:=Oa h1
   exact List.mem_map.2 ⟨x.toNat,List.mem_filter.2 ⟨List.mem_range.2 (by omega),h2⟩,by omega⟩
  rw [List.length_map,HM] at h6
  have:=L.few;omega
 ·unfold Dv;rw [Bool.and_eq_true,decide_eq_true_iff,decide_eq_true_iff];refine ⟨fun k hkc=>?_,fun k hkk=>?_⟩
  ·have hg:=b.cgood' _ (CR (d:=AF.z) hkc);rw [I.stock b.up hk (by omega)];exact a3 _ (CR hkc)
  ·rw [I.stock b.up hk (by have:=(b.move' hkk).2.1;omega)];have:=a2 k hkk;omega
theorem Lo (b:Az d m gs ms cs) {q:AV}:q ∈ AR d gs ms cs m↔∃t ∈ Al m gs ms cs,Di t=q:=
 ⟨fun h=>⟨_,YS b h⟩,fun ⟨t,h,e⟩=>e▸Km b h⟩
theorem Jq (b:Az d m gs ms cs):(Al m gs ms cs).length=0↔(AR d gs ms cs m).length=0:=by
 rw [List.length_eq_zero_iff,List.length_eq_zero_iff];constructor
 ·intro h;rw [List.eq_nil_iff_forall_not_mem];intro q hq;obtain ⟨t,ht,_⟩:=(Lo b).1 hq;rw [h] at ht;cases ht
 ·intro h;rw [List.eq_nil_iff_forall_not_mem];intro t ht
  have:=Km b ht
  rw [h] at this;cases this
end
def Eu (l:List Int):Nat→Int
 | 0=>l.getD 0 0
 | k+1=>min (Eu l k) (l.getD (k+1) 0)
def Ev (l:List Int):Nat→Int
 | 0=>l.getD 0 0
 | k+1=>max (Ev l k) (l.getD (k+1) 0)
theorem XN (l:List Int):∀k,(∃i,i≤k∧Eu l k=l.getD i 0)∧∀i,i≤k→Eu l k≤l.getD i 0
 | 0=>⟨⟨0,Nat.le_refl _,rfl⟩,fun i hi=>by rw [Nat.le_zero.1 hi];exact Int.le_refl _⟩
 | k+1=>by
  obtain ⟨⟨j,hj,e⟩,h⟩:=XN l k;unfold Eu;constructor
  ·by_cases q:Eu l k≤l.getD (k+1) 0
   ·exact ⟨j,by omega,by rw [Int.min_eq_left q];exact e⟩
   ·exact ⟨k+1,Nat.le_refl _,Int.min_eq_right (by omega)⟩
  ·intro i hi;by_cases q:i=k+1
   ·subst q;omega
   ·have:=h i (by omega);omega
theorem XO (l:List Int):∀k,(∃i,i≤k∧Ev l k=l.getD i 0)∧∀i,i≤k→l.getD i 0≤Ev l k
 | 0=>⟨⟨0,Nat.le_refl _,rfl⟩,fun i hi=>by rw [Nat.le_zero.1 hi];exact Int.le_refl _⟩
 | k+1=>by
  obtain ⟨⟨j,hj,e⟩,h⟩:=XO l k;unfold Ev;constructor
  ·by_cases q:l.getD (k+1) 0≤Ev l k
   ·exact ⟨j,by omega,by rw [Int.max_eq_left q];exact e⟩
   ·exact ⟨k+1,Nat.le_refl _,Int.max_eq_right (by omega)⟩
  ·intro i hi;by_cases q:i=k+1
   ·subst q;omega
   ·have:=h i (by omega);omega
theorem SM {ts:List RP} {hs:List AV} {G:RP→Int} {F:AV→Int} (h1:∀t ∈ ts,Di t ∈ hs∧G t=F (Di t)) (h2:∀q ∈ hs,∃t ∈ ts,Di t=q) (hn:0<ts.length) :
  Eu (ts.map G) (ts.length-1)=BB (CK hs.length fun (i:Nat)=>F (hs.getD ((i:Int)).toNat AV.zero))∧Ev (ts.map G) (ts.length-1)=B5 (CK hs.length fun (i:Nat)=>F (hs.getD ((i:Int)).toNat AV.zero)):=by
 have hg:∀i,i<ts.length→(ts.map G).getD i 0=G (ts.getD i ([],[],[])):=fun i hi=>by
  rw [Bi _ (by simpa using hi),List.getElem_map,Bi _ hi]
 have hm:∀i,i<ts.length→ts.getD i ([],[],[]) ∈ ts:=fun i hi=>CR hi;have hh:0<hs.length:=List.length_pos_of_mem (h1 _ (hm 0 hn)).1;obtain ⟨e1,⟨i1,k1,f1⟩,i2,k2,f2⟩:=VS (fun (i:Nat)=>F (hs.getD ((i:Int)).toNat AV.zero)) hh;obtain ⟨⟨j1,l1,g1⟩,m1⟩:=XN (ts.map G) (ts.length-1);obtain ⟨⟨j2,l2,g2⟩,m2⟩:=XO (ts.map G) (ts.length-1);have up:∀q ∈ hs,∃i,i<ts.length∧(ts.map G).getD i 0=F q:=fun q hq=>by
  obtain ⟨t,ht,e⟩:=h2 q hq;obtain ⟨i,hi,rfl⟩:=IF ([],[],[]) ht;exact ⟨i,hi,by rw [hg i hi,(h1 _ ht).2,e]⟩
 have dn:∀i,i<ts.length→∃k,k<hs.length∧F (hs.getD ((k:Int)).toNat AV.zero)=(ts.map G).getD i 0:=fun i hi=>by
  obtain ⟨a1,a2⟩:=h1 _ (hm i hi);obtain ⟨k,hk,e⟩:=IF AV.zero a1;exact ⟨k,hk,by rw [Int.toNat_natCast,e,hg i hi,a2]⟩
 have hmem:∀k,k<hs.length→hs.getD ((k:Int)).toNat AV.zero ∈ hs:=fun k hk=>by rw [Int.toNat_natCast];exact CR hk
 refine ⟨Int.le_antisymm ?_ ?_,Int.le_antisymm ?_ ?_⟩
 ·obtain ⟨i,hi,e⟩:=up _ (hmem i1 k1);rw [←f1,←e];exact m1 i (by omega)
 ·obtain ⟨k,hk,e⟩:=dn j1 (by omega);rw [g1,←e];exact (e1 k hk).1
 ·obtain ⟨k,hk,e⟩:=dn j2 (by omega);rw [g2,←e];exact (e1 k hk).2
 ·obtain ⟨i,hi,e⟩:=up _ (hmem i2 k2);rw [←f2,←e];exact m2 i (by omega)
section
variable {d m:Int} {gs:List Good} {ms:List AB} {cs:List AF}
theorem Kn (b:Az d m gs ms cs) {G:RP→Int} {F:AV→Int} (hG:∀t,MH gs ms t→UY (Di t) t.1 t.2.1 t.2.2 gs.length ms.length→G t=F (Di t)):(∀t ∈ Al m gs ms cs,Di t ∈ AR d gs ms cs m∧G t=F (Di t))∧∀q ∈ AR d gs ms cs m,∃t ∈ Al m gs ms cs,Di t=q:=
 ⟨fun t ht=>⟨Km b ht,hG t (Ob b ht) (OZ t _ _)⟩,fun _ hq=>(Lo b).1 hq⟩
theorem YT (b:Az d m gs ms cs) (g x y:Int) (t:RP) (P:MH gs ms t) (I:UY (Di t) t.1 t.2.1 t.2.2 gs.length ms.length):CE ms t.2.1 g x y ms.length=CO ms (Di t) g x y ms.length:=
 I.lost (fun k hk hx=>by have:=(P.ln _ hx).2.2;rwa [Int.toNat_natCast] at this) g x y ms.length (Nat.le_refl _)
theorem Ve (b:Az d m gs ms cs) {g:Int} (hg:0≤g∧g<gs.length) (dy:Int) (t:RP) (_:MH gs ms t) (I:UY (Di t) t.1 t.2.1 t.2.2 gs.length ms.length):A3 ms t.1 t.2.1 t.2.2 g dy ms.length=(AP ms (Di t) g dy).1:=
 I.stock b.up (fun k=>(b.kind k).1) hg dy
theorem Vf (b:Az d m gs ms cs) (dy:Int) (t:RP) (_:MH gs ms t) (I:UY (Di t) t.1 t.2.1 t.2.2 gs.length ms.length):CM gs ms t.1 t.2.1 t.2.2 dy gs.length=CH gs ms (Di t) dy gs.length:=
 I.worth b.up (fun k=>(b.kind k).1) dy gs.length (Nat.le_refl _)
theorem Vg (b:Az d m gs ms cs) (g x y:Int) (hn:0<(Al m gs ms cs).length):Eu ((Al m gs ms cs).map fun t=>CE ms t.2.1 g x y ms.length) ((Al m gs ms cs).length-1)=BB (NF d m gs ms cs g x y)∧Ev ((Al m gs ms cs).map fun t=>CE ms t.2.1 g x y ms.length) ((Al m gs ms cs).length-1)=B5 (NF d m gs ms cs g x y):=by
 obtain ⟨h1,h2⟩:=Kn b (G:=fun t=>CE ms t.2.1 g x y ms.length) (F:=fun p=>CO ms p g x y ms.length) (YT b g x y);exact SM (G:=fun t=>CE ms t.2.1 g x y ms.length) (F:=fun p=>CO ms p g x y ms.length) h1 h2 hn
theorem Tt (b:Az d m gs ms cs) (dy:Int) (hn:0<(Al m gs ms cs).length):Eu ((Al m gs ms cs).map fun t=>CM gs ms t.1 t.2.1 t.2.2 dy gs.length) ((Al m gs ms cs).length-1)=BB (LU d m gs ms cs dy)∧Ev ((Al m gs ms cs).map fun t=>CM gs ms t.1 t.2.1 t.2.2 dy gs.length) ((Al m gs ms cs).length-1)=B5 (LU d m gs ms cs dy):=by
 obtain ⟨h1,h2⟩:=Kn b (G:=fun t=>CM gs ms t.1 t.2.1 t.2.2 dy gs.length) (F:=fun p=>CH gs ms p dy gs.length) (Vf b dy);exact SM (G:=fun t=>CM gs ms t.1 t.2.1 t.2.2 dy gs.length) (F:=fun p=>CH gs ms p dy gs.length) h1 h2 hn
theorem AAa (b:Az d m gs ms cs) {g:Int} (hg:0≤g∧g<gs.length) (hn:0<(Al m gs ms cs).length):Eu ((Al m gs ms cs).map fun t=>A3 ms t.1 t.2.1 t.2.2 g d ms.length) ((Al m gs ms cs).length-1)=BB (Ea d ms (AR d gs ms cs m) g)∧Ev ((Al m gs ms cs).map fun t=>A3 ms t.1 t.2.1 t.2.2 g d ms.length) ((Al m gs ms cs).length-1)=B5 (Ea d ms (AR d gs ms cs m) g):=by
 obtain ⟨h1,h2⟩:=Kn b (G:=fun t=>A3 ms t.1 t.2.1 t.2.2 g d ms.length) (F:=fun p=>(AP ms p g d).1) (Ve b hg d);exact SM (G:=fun t=>A3 ms t.1 t.2.1 t.2.2 g d ms.length) (F:=fun p=>(AP ms p g d).1) h1 h2 hn
theorem AAb (b:Az d m gs ms cs) {f:List Int} (h:f ∈ Bu (Bt gs) []):f.length=gs.length∧∀i,0≤f.getD i 0∧f.getD i 0≤99:=by
 obtain ⟨a1,a2⟩:=Iw.1 h;refine ⟨a1,fun i=>?_⟩;by_cases hi:i<gs.length
 ·have:=a2 i hi;have:=b.gfew i;omega
 ·rw [CB (by omega)];omega
theorem many_is (b:Az d m gs ms cs) {f:List Int} (h:f ∈ Bu (CW ms) []):f.length=ms.length∧∀i,0≤f.getD i 0∧f.getD i 0≤99:=by
 obtain ⟨a1,a2⟩:=Jp.1 h;refine ⟨a1,fun i=>?_⟩;by_cases hi:i<ms.length
 ·have:=a2 i hi;have:=b.few i;omega
 ·rw [CB (by omega)];omega
theorem XP {F:List Sl} {L:List (List Int)} (e:A5 F=L) {k:Nat} (hk:k<F.length):(F.getD k Sl.z).2 ∈ L:=by
 subst e;rw [←Cb hk];exact CR (by rw [CX];exact hk)
theorem AAc (b:Az d m gs ms cs) {f:List Int} (h:f.length=gs.length):∀k,k<cs.length→0≤(cs.getD k AF.z).good∧(cs.getD k AF.z).good<(f.length:Int):=fun k hk=>by
 have:=b.cgood' _ (CR (d:=AF.z) hk);omega
theorem AAd (b:Az d m gs ms cs) {f:List Int} (h:f.length=gs.length):∀k,k<ms.length→0≤(ms.getD k AB.z).good∧(ms.getD k AB.z).good<(f.length:Int):=fun k hk=>by
 have:=(b.move' hk).2.1;omega
theorem Hv (b:Az d m gs ms cs):(Bu (Bt gs) []).length≤729∧(Bu (CW ms) []).length≤729:=by
 have h1:=Hl (ss:=Bt gs) (kn:=[]) (Mt fun k=>(b.gfew k).2.2.2) (by have:=b.glen;unfold Bt;rw [List.length_map];omega) 0;have h2:=Hl (ss:=CW ms) (kn:=[]) (OS fun k=>(b.few k).2.2.2) (by have:=b.mlen;unfold CW;rw [List.length_map];omega) 0;exact ⟨h1,h2⟩
theorem YU (b:Az d m gs ms cs) {pl:List PS} {l:List Int} (e:I9 pl=KK gs ms cs l):pl.length≤532170:=by
 rw [←Gm,e];exact QN (Hv b).1 (Hv b).2
theorem Vh (b:Az d m gs ms cs) {pl:List PS} {l:List Int} {F Y:List Sl} {i k:Nat} (e:I9 pl=Dh ms cs l (A5 F) (A5 Y) i k) (e1:A5 F=Bu (Bt gs) []) (e2:A5 Y=Bu (CW ms) []):pl.length≤532170:=by
 rw [←Gm,e,e1,e2];exact OX (Hv b).1 (Hv b).2 _ _
theorem YV (b:Az d m gs ms cs) {pl:List PS} {F:List Sl} {k:Nat} (e:I9 pl=D5 m gs ms cs ((A5 F).take k)) (e1:A5 F=Bm (CS ms ms.length)):pl.length≤34058880:=by
 rw [←Gm,e,e1];have h6:=b.mlen;have hc:=HN ms ms.length;exact Mu (Hv b).1 (Hv b).2 (by have:=Gl (l:=CS ms ms.length) (by omega) (CS ms ms.length).length;rwa [List.take_length] at this) _
theorem Ko (b:Az d m gs ms cs):(Al m gs ms cs).length≤34058880:=by
 have h6:=b.mlen;have hc:=HN ms ms.length
 have:=Mu (m:=m) (gs:=gs) (ms:=ms) (cs:=cs) (C:=Bm (CS ms ms.length)) (Hv b).1 (Hv b).2 (by have:=Gl (l:=CS ms ms.length) (by omega) (CS ms ms.length).length;rwa [List.take_length] at this) (Bm (CS ms ms.length)).length
 rw [List.take_length] at this;exact this
def QP (d m:Int) (gs:List Good) (ms:List AB) (cs:List AF) (o:List Int):List RP:=if AW d m gs ms cs o=0 then Al m gs ms cs else []
theorem MJ {o:List Int} (h:¬AW d m gs ms cs o=0):I9 []=QP d m gs ms cs o:=by unfold QP;rw [if_neg h];rfl
theorem NJ {o:List Int} {al:List PS} (h:AW d m gs ms cs o=0) (e:I9 al=QP d m gs ms cs o):Az d m gs ms cs∧(∀k,k<o.length→o.getD k 0=0)∧0<al.length∧I9 al=Al m gs ms cs∧al.length=(Al m gs ms cs).length:=by
 obtain ⟨b,h1,h2⟩:=DC h;have e2:I9 al=Al m gs ms cs:=by rw [e];unfold QP;rw [if_pos h]
 have e3:al.length=(Al m gs ms cs).length:=by rw [←e2,Gm]
 refine ⟨b,h1,?_,e2,e3⟩
 have:=(Jq b (d:=d)).1
 rcases Nat.eq_zero_or_pos al.length with h0 | h0
 ·have:=(Jq b).1 (e3▸h0);omega
 ·exact h0
theorem SN (b:Az d m gs ms cs) {al:List PS} {k:Nat} (e:I9 al=Al m gs ms cs) (hk:k<al.length) :
  (al.getD k PS.z).f.2.length=gs.length∧(al.getD k PS.z).y.2.length=ms.length∧(∀i,0≤(al.getD k PS.z).f.2.getD i 0∧(al.getD k PS.z).f.2.getD i 0≤99)∧(∀i,0≤(al.getD k PS.z).y.2.getD i 0∧(al.getD k PS.z).y.2.getD i 0≤99):=by
 have h:(I9 al).getD k ([],[],[]) ∈ Al m gs ms cs:=by rw [←e];exact CR (by rw [Gm];exact hk)
 have P:=Ob b h;rw [Tm hk] at P;exact ⟨P.fl,P.yl,P.fr,P.yr⟩
def E3 (ms:List AB) (g x y:Int) (t:RP):Int:=CE ms t.2.1 g x y ms.length
def Dj (gs:List Good) (ms:List AB) (dy:Int) (t:RP):Int:=CM gs ms t.1 t.2.1 t.2.2 dy gs.length
def Dl (ms:List AB) (g dy:Int) (t:RP):Int:=A3 ms t.1 t.2.1 t.2.2 g dy ms.length
theorem JW {α β:Type} {G:α→β} {ts:List α} {k:Nat} (hk:ts.length≤k):(ts.take k).map G=ts.map G∧((ts.take k).map G).length=ts.length:=by
 rw [List.take_of_length_le hk];simp
theorem AAe (b:Az d m gs ms cs) {g x y:Int} {k:Nat} (h:CL d m gs ms cs g x y=0) (hn:0<(Al m gs ms cs).length) (hk:(Al m gs ms cs).length≤k) :
  Eu (((Al m gs ms cs).take k).map (E3 ms g x y)) ((((Al m gs ms cs).take k).map (E3 ms g x y)).length-1)=HF d m gs ms cs g x y∧Ev (((Al m gs ms cs).take k).map (E3 ms g x y)) ((((Al m gs ms cs).take k).map (E3 ms g x y)).length-1)=HG d m gs ms cs g x y:=by
 rw [(JW hk).2,(JW hk).1];unfold HF HG;rw [if_pos h,if_pos h];exact Vg b g x y hn
theorem YW (b:Az d m gs ms cs) {dy:Int} {k:Nat} (h:B0 d m gs ms cs dy=0) (hn:0<(Al m gs ms cs).length) (hk:(Al m gs ms cs).length≤k) :
  Eu (((Al m gs ms cs).take k).map (Dj gs ms dy)) ((((Al m gs ms cs).take k).map (Dj gs ms dy)).length-1)=Fi d m gs ms cs dy∧Ev (((Al m gs ms cs).take k).map (Dj gs ms dy)) ((((Al m gs ms cs).take k).map (Dj gs ms dy)).length-1)=Fj d m gs ms cs dy:=by
 rw [(JW hk).2,(JW hk).1];unfold Fi Fj;rw [if_pos h,if_pos h];exact Tt b dy hn
theorem SO (b:Az d m gs ms cs) {g:Int} (hg:0≤g∧g<gs.length) (hn:0<(Al m gs ms cs).length) :
  Eu ((Al m gs ms cs).map (Dl ms g d)) (((Al m gs ms cs).map (Dl ms g d)).length-1)=BB (Ea d ms (AR d gs ms cs m) g)∧Ev ((Al m gs ms cs).map (Dl ms g d)) (((Al m gs ms cs).map (Dl ms g d)).length-1)=B5 (Ea d ms (AR d gs ms cs m) g):=by
 rw [List.length_map];exact AAa b hg hn
end
end Go.Ns
namespace Go.Ns
open Go.Conc
def Kp (ls:List Int) (n:Int) (k:Nat) (ob:Int):Prop:=(¬(ls.length:Int)=n∧ob=2)∨((ls.length:Int)=n∧((ob=0∧∀j,j<k→0≤ls.getD j 0∧ls.getD j 0≤99)∨(ob=1∧∃j,j<ls.length∧¬(0≤ls.getD j 0∧ls.getD j 0≤99))))
theorem nums_s2 {ls:List Int} {n:Int} (h:¬(ls.length:Int)=n):Kp ls n 0 2:=.inl ⟨h,rfl⟩
theorem nums_s0 {ls:List Int} {n:Int} (h:(ls.length:Int)=n):Kp ls n 0 0:=.inr ⟨h,.inl ⟨rfl,fun j hj=>by omega⟩⟩
theorem YX {ls:List Int} {n:Int} {k:Nat} {ob:Int} (h:Kp ls n k ob) (hk:k<ls.length) (h0:ob=0):Kp ls n (k+1) (if (decide (0≤ls.getD k 0∧ls.getD k 0≤99)) then (0:Int) else 1):=by
 rcases h with ⟨_,e⟩ | ⟨hl,h⟩
 ·omega
 ·refine .inr ⟨hl,?_⟩;by_cases q:0≤ls.getD k 0∧ls.getD k 0≤99
  ·refine .inl ⟨by rw [if_pos (decide_eq_true q)],fun j hj=>?_⟩;rcases h with ⟨_,h⟩ | ⟨e,_⟩
   ·by_cases ej:j=k
    ·subst ej;exact q
    ·exact h j (by omega)
   ·omega
  ·exact .inr ⟨by rw [if_neg (by simpa using q)],k,hk,q⟩
theorem YY {ls:List Int} {n:Int} {k:Nat} {ob:Int} (h:Kp ls n k ob) (hk:¬(((k:Int)<((ls).length:Int))∧(ob=0))):ob=A8 ls n:=by
 rcases h with ⟨hl,rfl⟩ | ⟨hl,⟨rfl,h⟩ | ⟨rfl,j,hj,h⟩⟩
 ·unfold A8;rw [if_pos hl]
 ·rw [Ti hl];intro x hx;obtain ⟨j,hj,rfl⟩:=IF 0 hx;exact h j (by omega)
 ·unfold A8;rw [if_neg (by simpa using hl),if_pos];rw [List.any_eq_true];exact ⟨_,CR (d:=0) hj,decide_eq_true h⟩
theorem pack_lt {hv nd p:Int} {n:Nat} (hp:1≤p) (h:hv+(n:Int)*p<nd):(n:Int)+1≤(max 0 (nd-hv)+p-1) / p:=by
 refine Int.le_ediv_of_mul_le (by omega) ?_;rw [Int.add_mul,Int.one_mul];have h0:0≤(n:Int)*p:=Int.mul_nonneg (by omega) (by omega);omega
theorem pack_ge {hv nd p:Int} {n:Nat} (hp:1≤p) (h:¬hv+(n:Int)*p<nd):(max 0 (nd-hv)+p-1) / p≤(n:Int):=by
 have h0:0≤(n:Int)*p:=Int.mul_nonneg (by omega) (by omega)
 have:(max 0 (nd-hv)+p-1) / p<(n:Int)+1:=by
  refine Int.ediv_lt_of_lt_mul (by omega) ?_;rw [Int.add_mul,Int.one_mul];omega
 omega
theorem Tu {gs:List Good} {ms:List AB} {cs:List AF} (h:EN gs ms cs=false):gs.length≤1000:=by
 unfold EN at h;rw [Bool.or_eq_false_iff,Bool.or_eq_false_iff,Bool.or_eq_false_iff] at h
 have:=of_decide_eq_false h.1.1.1;omega
end Go.Ns
namespace Go.Ns
open Go.Conc
section
variable {P:Program} {Post:Value→World→Prop}
def XQ (P:Program) (Post:Value→World→Prop):Wk P:=⟨true,D6 P Post,J4⟩
theorem SP:OF (XQ P Post):=⟨Post,rfl⟩
theorem YZ {f:FuncId} {fn:Func} {c:Code} {args:Array Value} {h:GH} {R:Value→GH→Prop} (hf:P.funcs[f]? =some fn) (hb:fn.body=some c) (hsz:args.size≤fn.ntmps) (hin:P.inits.idxOf? f=none) (hpost:∀v h',R v h'→∀w,D3 w h'→Post v w)
  (x:Tr ⟨XQ P Post,f,none,fn.ntmps⟩ c (fun i=>args.getD i undef) [] h (fun e σ ds h'=>(e=.normal∨e=.ret)∧Gc P fn σ R ds h')):D6 P Post (G (Frame.enter P f args .normal) []) h:=by
 have e0:Frame.enter P f args .normal=Ce (Frame.enter P f args .normal) (args++Array.replicate (fn.ntmps-args.size) undef) [] [.code c]:=by
  simp [Frame.enter,Ce,hf,hb]
 rw [e0];let L:Lv:=fun j t ds h'=>(j=none∨j=some .ret)∧∃σ,Bj t fn.ntmps σ∧Gc P fn σ R ds h';have fin:∀σ ds h' t k,Bj t fn.ntmps σ→Gc P fn σ R ds h'→(XQ P Post).K (G (Dq (Frame.enter P f args .normal) t ds k) []) h':=by
  intro σ ds h' t k hs ho;refine Ma (W:=XQ P Post) (R:=R) hf (b:=Frame.enter P f args .normal) rfl (fun t k v h h' hr hrun=>?_) ds h' t k hs ho;refine Ub rfl fun w fw=>?_;obtain ⟨w',es,r1,r2⟩:=hrun w fw;refine ⟨v,w',seen P f es++ #[],h',?_,r2.sub (es':=seen P f es++ #[]) fun e he=>?_,hpost v h' hr w' r2.fits⟩
  ·rw [KP];unfold unwind;have hfn:(Dq (Frame.enter P f args .normal) t [] k).fn=f:=rfl;have hk:(Dq (Frame.enter P f args .normal) t [] k).kind=.normal:=rfl;have hm:(Dq (Frame.enter P f args .normal) t [] k).mode=.returning:=rfl;have hd:(Dq (Frame.enter P f args .normal) t [] k).defers=[]:=rfl;have ht:(Dq (Frame.enter P f args .normal) t [] k).tmps=t:=rfl;simp only [hd,hm,hfn,hf,ht,r1,GStep.after,doReturn,hk,hin];rfl
  ·rw [Array.append_empty] at he;exact mem_seen he
 refine x (Frame.enter P f args .normal) [] [] L _ rfl rfl ⟨?_,?_,?_⟩ ⟨by simp;omega,fun i=>?_⟩ ?_
 ·rintro t ds h' ⟨_,σ,hs,ho⟩;exact Wk.go (Dq (Frame.enter P f args .normal) t ds []) (fun w=>by rw [A6];simp [stepG.exec,Ce,Dq,G,Frame.enter]) (fin σ ds h' t [] hs ho)
 ·rintro t ds h' k ⟨_,σ,hs,ho⟩;exact Wk.go (Dq (Frame.enter P f args .normal) t ds (.code .ret ::k)) (fun w=>by rw [A6];simp [stepG.exec,Ce,Dq,G,Frame.enter]) (fin σ ds h' t _ hs ho)
 ·rintro id t ds h' k _ ⟨h1 | h1,_⟩ <;> cases h1
 ·by_cases hi:i<args.size
  ·simp [Array.getD_eq_getD_getElem?,Array.getElem?_append_left hi]
  ·simp only [Array.getD_eq_getD_getElem?];rw [Array.getElem?_append_right (by omega),Array.getElem?_eq_none (show args.size≤i by omega),Array.getElem?_replicate];split <;> rfl
 ·rintro e σ ds h' ⟨he,ho⟩ t' ht';rcases he with rfl | rfl
  ·exact Wk.go (Dq (Frame.enter P f args .normal) t' ds []) (fun w=>by rw [A6];simp [stepG.exec,Ce,Dq,G,Frame.enter]) (fin σ ds h' t' [] ht' ho)
  ·exact ⟨.inr rfl,σ,ht',ho⟩
def GH.of (W:World):GH:=fun b=>(W.heap[b]?).map fun o=>(false,o)
theorem GH.of_some {W:World} {b:Nat} {o:Obj} (h:W.heap[b]? =some o):GH.of W b=some (false,o):=by unfold GH.of;rw [h];rfl
theorem fits_of (W:World):D3 W (GH.of W):=fun b p o h=>by
 unfold GH.of at h;cases e:W.heap[b]? with
 | none=>rw [e] at h;cases h
 | some x=>rw [e] at h;cases h;rfl
theorem kept_of {W w:World} {h:GH} (l:(GH.of W).Le h) (f:D3 w h) {b:Nat} {o:Obj} (hb:W.heap[b]? =some o):w.heap[b]? =some o:=f b _ _ (l.keep (GH.of_some hb) rfl)
theorem Vi {g:Goroutine} {W:World} (hg:D6 P Post g (GH.of W)):Bf P (IR Post W.os W.output) (solo g W) #[]:=by
 have hno:∀k a,touchAt (#[]:Trace) k=some a→False:=fun k a h=>by
  obtain ⟨op,h1,_⟩:=touch_of h;simp at h1
 refine hg #[g] W none (fun _=>0) #[] ⟨rfl,?_,fits_of W,?_,?_,fun k a b hk=>(hno k a hk).elim,?_,fun k a hk=>(hno k a hk).elim,fun b p o k a _ _ hk=>(hno k a hk).elim⟩
 ·intro j x hj hx;rw [Array.getElem?_eq_none (by simp;omega)] at hx;cases hx
 ·intro op hop;simp at hop
 ·rintro said ⟨i,j,hij,⟨a,b,ha,_⟩,_⟩;exact hno i a ha
 ·intro op hop;simp at hop
end
end Go.Ns
namespace Go.Ns
open Go.Conc Go.ChangeShapes Go.WideShapes Go.ChangeAt Go.RowKit
section
variable {P:Program} {W:World}
theorem Vj {b off n:Nat} {cs:List Value} (h:W.cells? 0 ⟨b,off,none⟩ n=some cs) (hn:0<n):Ab (GH.of W) b off n cs.toArray:=by
 obtain ⟨_,hl,hc⟩:=World.cells?_some h;have hcell:∀i,i<n→W.cell? ⟨b,off+i,none⟩=cs[i]? :=fun i hi=>by
  have:=hc i hi
  unfold Addr.add at this;split at this
  ·rename_i e;subst e;exact this
  ·exact this
 have h0:=hcell 0 hn;unfold World.cell? at h0;cases hb:W.heap[b]? with
 | none=>simp [hb,List.getElem?_eq_getElem (show 0<cs.length by omega)] at h0
 | some o=>
  cases o with
  | cells c t f=>
   have hall:∀i,i<n→c[off+i]? =cs[i]? :=fun i hi=>by
    have:=hcell i hi
    unfold World.cell? at this;simpa [hb] using this
   have hlast:=hall (n-1) (by omega);rw [List.getElem?_eq_getElem (show n-1<cs.length by omega)] at hlast;have hsz:=(Array.getElem?_eq_some_iff.1 hlast).1;refine ⟨false,c,t,f,GH.of_some hb,by omega,?_⟩;apply Array.ext
   ·simp;omega
   ·intro i h1 h2;have hi:i<n:=by simp at h2;omega
    have:=hall i hi
    rw [Array.getElem?_eq_getElem (by omega),List.getElem?_eq_getElem (by omega)] at this;simpa using this
  | _=>simp [hb,List.getElem?_eq_getElem (show 0<cs.length by omega)] at h0
def Tv (P:Program) (e:TypeId) {α:Type} (enc:α→Array Value) (good:α→Prop):Prop:=
 ∀{H:Type} (en:TypeId×Value→H) (W:World) (base:Nat) (sp:Nat→Bool) (held:Bool) (fuel:Nat) (cs:List Value) (x:DataW H×List MemPlace),DataW.trod en P W base sp held fuel e cs=some x→∃a:α,cs=(enc a).toList∧good a
theorem NK {H:Type} {en:TypeId×Value→H} {sp:Nat→Bool} {held:Bool} {fuel:Nat} {t e:TypeId} {n:Nat} {α:Type} {enc:α→Array Value} {good:α→Prop} {v:Value} {d:DataW H} {ps:List MemPlace} (ht:P.underlying t=some (.slice e)) (hc:P.cellsOf e=n) (hn:0<n)
  (ho:Tv P e enc good) (h:DataW.trod en P W 0 sp held fuel t [v]=some (d,ps)) (hw:∀es rs,d=.slice es rs→es.length≤140737488355328):∃xs:List α,AJ (GH.of W) v n enc xs∧∀x ∈ xs,good x:=by
 rcases DataW.trod_slice ht h with ⟨h1,_⟩ | ⟨a,len,cap,elems,rest,m,rfl,h1,h2,_,hl,_,hlen,hel,_,_⟩
 ·simp at h1;subst h1;exact ⟨[],AJ.nil _ _ _,fun x hx=>by cases hx⟩
 ·simp only [List.cons.injEq,and_true] at h1;subst h1;simp only [Prod.mk.injEq] at h2;have hlim:len≤140737488355328:=by
   have:=hw _ _ h2.1
   simpa [hlen] using this
  have each:∀i,i<len→∃x:α,∃b off,a=⟨b,off,none⟩∧Ab (GH.of W) b (off+i*n) n (enc x)∧good x:=fun i hi=>by
   have:=hel i hi
   rw [List.getElem?_eq_getElem (by omega),hc] at this;simp only [Option.bind_eq_some_iff] at this;obtain ⟨cs,hcs,hx⟩:=this;obtain ⟨x,e1,e2⟩:=ho _ _ _ _ _ _ _ _ hx;have hc0:=(World.cells?_some hcs).2.2 0 hn;have hlen2:=(World.cells?_some hcs).2.1;rw [List.getElem?_eq_getElem (show 0<cs.length by omega)] at hc0;have hsp:=World.cell?_spot hc0;obtain ⟨b,off,spot⟩:=a;have hspot:spot=none∨i≠0:=by
    by_cases e0:i=0
    ·subst e0;left;simpa [Addr.add] using hsp
    ·exact .inr e0
   have hfirst:spot=none:=by
    rcases hspot with e | e
    ·exact e
    ·have h00:=hel 0 (by omega);rw [List.getElem?_eq_getElem (by omega),hc] at h00;simp only [Option.bind_eq_some_iff] at h00;obtain ⟨c0,hc00,_⟩:=h00;have z:=(World.cells?_some hc00).2.2 0 hn;have zl:=(World.cells?_some hc00).2.1;rw [List.getElem?_eq_getElem (show 0<c0.length by omega)] at z
     have:=World.cell?_spot z
     simpa [Addr.add] using this
   subst hfirst;refine ⟨x,b,off,rfl,?_,e2⟩;have ea:(Addr.add ⟨b,off,none⟩ (i*n))=⟨b,off+i*n,none⟩:=by
    unfold Addr.add;split
    ·rename_i e;rw [e];rfl
    ·rfl
   rw [ea] at hcs
   have:=Vj hcs hn
   rw [e1] at this;simpa using this
  by_cases hz:len=0
  ·subst hz;exact ⟨[],⟨some a,cap,rfl,Nat.zero_le _,Nat.zero_le _,fun i hi=>by simp at hi⟩,fun x hx=>by cases hx⟩
  ·have hch:∀i:Fin len,∃x:α,∃b off,a=⟨b,off,none⟩∧Ab (GH.of W) b (off+i.val*n) n (enc x)∧good x:=fun i=>each i.val i.isLt;refine ⟨List.ofFn fun i=>Classical.choose (hch i),⟨some a,cap,by rw [List.length_ofFn],by rw [List.length_ofFn];exact hl,by rw [List.length_ofFn];exact hlim,fun i hi=>?_⟩,fun x hx=>?_⟩
   ·rw [List.length_ofFn] at hi;obtain ⟨b,off,e1,e2,_⟩:=Classical.choose_spec (hch ⟨i,hi⟩);refine ⟨b,off,by rw [e1],?_⟩;rw [List.getElem_ofFn];exact e2
   ·obtain ⟨i,rfl⟩:=List.mem_ofFn.1 hx;obtain ⟨_,_,_,_,e3⟩:=Classical.choose_spec (hch i);exact e3
theorem F0 {H:Type} {en:TypeId×Value→H} {t:TypeId} (hl:laidOutB P=true) (hr:P.readableRec t=true) (hrow:t<P.types.size) {W':World} {v:Value} {d:DataW H} {ps:List MemPlace} (h:DataW.Trod en P W 0 (fun _=>true) true t v d ps)
  (hk:∀(b:Nat) (o:Obj),W.heap[b]? =some o→W'.heap[b]? =some o) (hlt:∀x ∈ ps,x.block<W.heap.size):DataW.Trod en P W' 0 (fun b=>decide (b<W.heap.size)) true t v d ps:=by
 let W2:World:={ W' with os:=W.os,tape:=W.tape,output:=W.output };have hsz:W.heap.size≤W'.heap.size:=by
  rcases Nat.lt_or_ge W'.heap.size W.heap.size with x | x
  ·have:=hk W'.heap.size _ (Array.getElem?_eq_getElem x)
   rw [Array.getElem?_eq_none (Nat.le_refl _)] at this;cases this
  ·exact x
 have hb:Below W.heap.size W W2:=⟨rfl,rfl,rfl,hsz,fun k hk'=>by
  show W'.heap[k]? =_;rw [Array.getElem?_eq_getElem hk'];exact hk k _ (Array.getElem?_eq_getElem hk')⟩
 exact DataW.Trod.of_heap (w:=W2) (w':=W') rfl (Below.trod hl hr hrow h hb hlt)
theorem AAf {W':World} (hk:∀(b:Nat) (o:Obj),W.heap[b]? =some o→W'.heap[b]? =some o) (ho:W'.os=W.os) (hp:W'.output=W.output) (may:MemPlace→Prop):W.keptBut W' may:=by
 refine ⟨ho,hp,fun i hi=>?_⟩;rw [hk i _ (Array.getElem?_eq_getElem hi),Array.getElem?_eq_getElem hi];split <;> simp_all
end
end Go.Ns
namespace Go.Ns
open Go.Conc
universe u
theorem Z {α:Sort u} {a:α}:a=a:=rfl
theorem Lr {h:GH}:GH.Le h h:=GH.Le.refl h
theorem Ln {h h':GH} (l:h.Le h') {r:Nat} (hr:h' r=none):h r=none:=l.nothing hr
theorem DF {h:GH} {b r:Nat} {p:Bool} {o:Obj} (hb:h b=some (p,o)) (hr:h r=none):b≠r:=GH.ne_of hb hr
theorem Nb {a b:Nat} (h:Nat.ble a b=true):a≤b:=Nat.le_of_ble_eq_true h
theorem Dn {p:Prop} [Decidable p] (h:¬¬p):p:=Decidable.not_not.1 h
theorem Et {α:Sort u} {a b c:α} (x:a=b) (y:b=c):a=c:=x.trans y
theorem Kl {h0 h:GH} (k:D9 (fun b=>h0 b=none) h0 h):h0.Le h:=k.leOf
theorem Bx {h:GH} {b:Nat} {p:Bool} {c:Array Value} {t:TypeId} {f:Nat×Nat} (hb:h b=some (p,.cells c t f)) {n:Nat} (hn:c.size=n):Ab h b 0 n c:=Ab.box hb hn
abbrev lE (v:Value):H6:=fun _ u _=>u=v
abbrev lF (v:Value):PK:=fun u _=>u=v
abbrev zP:Array Value:=#[.int .i64 0,.int .i64 0,.slice none 0 0,.slice none 0 0,.slice none 0 0,.slice none 0 0,.map none]
section
variable {P:Program} {E:GY P} {σ:Nat→Value} {ds:List Deferred} {h:GH} {Q:Post} {T:(Nat→Value)→List Deferred→GH→Prop}
variable {dst:Option Nat} {ty:TypeId} {pos:String} {af:Array Edge} {ops:Array Oper} {o:Oper} {l:List Oper}
theorem Sq {x y:Code} (a:Tr E x σ ds h (fun e σ' ds' h'=>match e with | .normal=>Tr E y σ' ds' h' Q | e=>Q e σ' ds' h')):Tr E (.seq x y) σ ds h Q:=Zc a
theorem Rg {id:Nat} {l:List Oper} (a:EK E l.toArray l σ ds h Q):Tr E (.region id l.toArray false) σ ds h Q:=XW a
theorem Nl (q:Q .normal σ ds h):EK E ops [] σ ds h Q:=trL_nil q
abbrev Rt:=@tr_ret
abbrev Bk:=@Zd
abbrev Sk:=@tr_skip
abbrev Xt:=@tr_exit
def AAg (N:Nat) (o:Oper):Bool:=o.guard.isNone && !EL o.op && Ee o.dst N
theorem Pl (hp:AAg E.N o=true) (x:Be E o σ ds h fun σ' ds' h'=>EK E ops l σ' ds' h' Q):EK E ops (o ::l) σ ds h Q:=by
 simp only [AAg,Bool.and_eq_true,Option.isNone_iff_eq_none,Bool.not_eq_true'] at hp;exact Fu hp.1.1 hp.1.2 hp.2 x
theorem Mv {x:Operand} (v:Value) (hp:Ee dst E.N=true) (hx:AU σ x=v) (k:EK E ops l (putS σ dst v) ds h Q):EK E ops (⟨dst,.move x,ty,pos,af,none⟩ ::l) σ ds h Q:=Fu rfl rfl hp (AA hx k)
theorem As {x:Operand} (v:Value) (hp:Ee dst E.N=true) (hx:AU σ x=v) (k:EK E ops l (putS σ dst v) ds h Q):EK E ops (⟨dst,.assign x,ty,pos,af,none⟩ ::l) σ ds h Q:=Fu rfl rfl hp (FT hx k)
theorem Ld {t:TypeId} {x:Operand} {b off:Nat} (v:Value) (hp:Ee dst E.N=true) (hx:AU σ x=.pointer (some ⟨b,off,none⟩)) (hr:Rd P h t b off v) (k:EK E ops l (putS σ dst v) ds h Q):EK E ops (⟨dst,.load t x,ty,pos,af,none⟩ ::l) σ ds h Q:=
 Fu rfl rfl hp (AE hx hr k)
theorem Fa {s:TypeId} {x:Operand} {f o b off:Nat} (hf:DN P s f=some o) (hp:Ee dst E.N=true) (hx:AU σ x=.pointer (some ⟨b,off,none⟩)) (k:EK E ops l (putS σ dst (.pointer (some ⟨b,off+o,none⟩))) ds h Q) :
  EK E ops (⟨dst,.fieldAddr s x f,ty,pos,af,none⟩ ::l) σ ds h Q:=Fu rfl rfl hp (AL hf hx k)
theorem Pk {c a b:Operand} (t:Bool) (v:Value) (hp:Ee dst E.N=true) (hc:AU σ c=.bool t) (hv:(if t then AU σ a else AU σ b)=v) (k:EK E ops l (putS σ dst v) ds h Q):EK E ops (⟨dst,.pick c a b,ty,pos,af,none⟩ ::l) σ ds h Q:=
 Fu rfl rfl hp (Br hc hv k)
theorem Ad {xt yt:TypeId} {x y:Operand} (a b:Int) (hp:Ee dst E.N=true) (hx:AU σ x=.int .i64 a) (hy:AU σ y=.int .i64 b) (hr: -9223372036854775808≤a+b∧a+b≤9223372036854775807) (k:EK E ops l (putS σ dst (.int .i64 (a+b))) ds h Q) :
  EK E ops (⟨dst,.binOp .add xt x y yt,ty,pos,af,none⟩ ::l) σ ds h Q:=Fu rfl rfl hp (C5 hx hy hr k)
def skipB (N:Nat) (ops:Array Oper) (o:Oper) (j d:Nat) (is:Bool):Bool:=(match o.guard with
 | some (i,w)=>i==j && w !=is
 | none=>false) && (match ops[j]? with
 | some oj=>(match oj.dst with
  | some e=>e==d
  | none=>false)
 | none=>false) && Nat.blt d N && Ee o.dst N
theorem Gs (j d:Nat) {is:Bool} (hv:σ d=.bool is) (hs:skipB E.N ops o j d is=true) (x:EK E ops l (putS σ o.dst undef) ds h Q):EK E ops (o ::l) σ ds h Q:=by
 simp only [skipB,Bool.and_eq_true] at hs;obtain ⟨⟨⟨h1,h2⟩,h3⟩,h4⟩:=hs;cases hg:o.guard with
 | none=>rw [hg] at h1;cases h1
 | some q=>
  obtain ⟨i,w⟩:=q;rw [hg] at h1;simp only [Bool.and_eq_true,beq_iff_eq,bne_iff_ne,ne_eq] at h1;obtain ⟨rfl,hne⟩:=h1;cases hj:ops[i]? with
  | none=>rw [hj] at h2;cases h2
  | some oj=>
   cases hd:oj.dst with
   | none=>simp [hj,hd] at h2
   | some e=>
    obtain rfl:e=d:=by simpa [hj,hd] using h2
    exact NP hg hj hd hv h3 hne h4 x
def goB (N:Nat) (ops:Array Oper) (o:Oper) (j d:Nat) (is:Bool):Bool:=(match o.guard with
 | some (i,w)=>i==j && w==is
 | none=>false) && (match ops[j]? with
 | some oj=>(match oj.dst with
  | some e=>e==d
  | none=>false)
 | none=>false) && Nat.blt d N && !EL o.op && Ee o.dst N
theorem Gg (j d:Nat) {is:Bool} (hv:σ d=.bool is) (hs:goB E.N ops o j d is=true) (x:Be E o σ ds h fun σ' ds' h'=>EK E ops l σ' ds' h' Q):EK E ops (o ::l) σ ds h Q:=by
 simp only [goB,Bool.and_eq_true,Bool.not_eq_true'] at hs;obtain ⟨⟨⟨⟨h1,h2⟩,h3⟩,h5⟩,h4⟩:=hs;cases hg:o.guard with
 | none=>rw [hg] at h1;cases h1
 | some q=>
  obtain ⟨i,w⟩:=q;rw [hg] at h1;simp only [Bool.and_eq_true,beq_iff_eq] at h1;obtain ⟨rfl,rfl⟩:=h1;cases hj:ops[i]? with
  | none=>rw [hj] at h2;cases h2
  | some oj=>
   cases hd:oj.dst with
   | none=>simp [hj,hd] at h2
   | some e=>
    obtain rfl:e=d:=by simpa [hj,hd] using h2
    exact trL_opg hg hj hd hv h3 (.inr h5) h4 x
end
section
variable {S:Nat→Prop} {Pre:Nat→GH→Prop} {Φ:List H6} {cl:List Nat} {k d:Nat} {h h':GH} {σ:Nat→Value} {ds:List Deferred} {v:Value}
theorem fS (p:Fy Φ k (putS σ (some d) v) v h):ds=ds∧St (D9 S) Pre Φ cl k h h∧∃w,putS σ (some d) v=putS σ (some d) w∧Fy Φ k (putS σ (some d) v) w h∧((some d:Option Nat)=none→w=undef):=
 ⟨rfl,St.same,_,rfl,p,fun e=>by cases e⟩
theorem fT (l:h.Le h') (m:D4 GH.Le Φ) (p:Fy Φ k (putS σ (some d) v) v h'):ds=ds∧St (D9 S) (fun _ _=>True) Φ cl k h h'∧∃w,putS σ (some d) v=putS σ (some d) w∧Fy Φ k (putS σ (some d) v) w h'∧((some d:Option Nat)=none→w=undef):=
 ⟨rfl,St.ofLe l m (fun _ _ _ _ _=>trivial),_,rfl,p,fun e=>by cases e⟩
theorem fL {Φ:List PK} (p:LF Φ k v h):ds=ds∧GH.Le h h∧∃w,putS σ (some d) v=putS σ (some d) w∧LF Φ k w h:=⟨rfl,GH.Le.refl _,_,rfl,p⟩
theorem L1 {R:GH→GH→Prop} {a:Value} (x:D4 R Φ):D4 R (lE a ::Φ):=⟨fun _ _ _ _ _ y=>y,x⟩
theorem L2 {R:GH→GH→Prop} {a b:Value} (x:D4 R Φ):D4 R (lE a ::lE b ::Φ):=L1 (L1 x)
theorem L4 {R:GH→GH→Prop} {a b c d:Value} (x:D4 R Φ):D4 R (lE a ::lE b ::lE c ::lE d ::Φ):=L2 (L2 x)
theorem L8 {R:GH→GH→Prop} {a b c d a' b' c' d':Value} (x:D4 R Φ):D4 R (lE a ::lE b ::lE c ::lE d ::lE a' ::lE b' ::lE c' ::lE d' ::Φ):=L4 (L4 x)
theorem K1 {R:GH→GH→Prop} {Φ:List PK} {a:Value} (x:FM R Φ):FM R (lF a ::Φ):=⟨fun _ _ _ _ y=>y,x⟩
theorem K2 {R:GH→GH→Prop} {Φ:List PK} {a b:Value} (x:FM R Φ):FM R (lF a ::lF b ::Φ):=K1 (K1 x)
theorem K4 {R:GH→GH→Prop} {Φ:List PK} {a b c d:Value} (x:FM R Φ):FM R (lF a ::lF b ::lF c ::lF d ::Φ):=K2 (K2 x)
theorem K8 {R:GH→GH→Prop} {Φ:List PK} {a b c d a' b' c' d':Value} (x:FM R Φ):FM R (lF a ::lF b ::lF c ::lF d ::lF a' ::lF b' ::lF c' ::lF d' ::Φ):=K4 (K4 x)
end
theorem Dk {P:Program} {E:GY P} {S:Nat→Prop} {id:Nat} {l:List Oper} {σ:Nat→Value} {ds:List Deferred} {h:GH} {Q:Post} {Φ:List H6} (_:D4 GH.Le Φ) (n:Nat) (cls:List (List Nat)) (Pre:Nat→GH→Prop)
  (hm:P.follows .mixedOrders=true) (ok:FD E.N l n cls=true) (p0:∀k,k<n→Pre k h) (ind:Rs l n cls Φ) (x:JH (D9 S) Pre E l n Φ σ ds h Q n 0 l cls):Tr E (.region id l.toArray true) σ ds h Q:=
 Xf n cls Φ Pre hm ok p0 ind x
end Go.Ns
namespace Go.Ns
open Go.Conc
abbrev J (x:Int):Value:=.int .i64 x
abbrev Pt (b:Nat):Value:=.pointer (some ⟨b,0,none⟩)
abbrev Sc (b:Nat) (n c:Nat):Value:=.slice (some ⟨b,0,none⟩) n c
abbrev Q0 (a:List Good) (b:Nat):=decide (((¬(0≤((a.getD b Good.z).cost)∧((a.getD b Good.z).cost)≤999))∨(¬(1≤((a.getD b Good.z).pack)∧((a.getD b Good.z).pack)≤20)))∨(¬(E2 ((a.getD b Good.z).low) ((a.getD b Good.z).high))))
abbrev Q1 (a:Int) (b:Int) (c:List Good) (d:List AB) (e:List AF) (f:Int) (g:Int) (h:Int):=AW a b c d e [if (decide (0≤f∧f≤(c.length:Int)-1)) then (0:Int) else 6,if (decide (1≤g∧g≤a)) then (0:Int) else 1,if (decide (g≤h∧h≤a)) then (0:Int) else 1]
abbrev Q2 (a:Int) (b:List Good) (c:List AB) (d:List AF) (e:Int) (f:Nat):=(AR a b c d e).getD ((f:Int)).toNat AV.zero
abbrev Q3:Array Value:=#[J 0,J 0,J 0,J 0,J 0,J 0,J 0,J 0,J 0,.bool false,.bool false,.bool false,.bool false,.bool false,.bool false]
abbrev Q4 (a:Int) (b:List AB):=decide ((0≤a∧a≤(b.length:Int)-1)∧(b.getD a.toNat AB.z).kind=0)
abbrev Q5 (a:Int) (b:Int) (c:List Good) (d:List AB) (e:List AF) (f:Int) (g:Int):=AW a b c d e [if (decide (0≤f∧f≤(c.length:Int)-1)) then (0:Int) else 6,if (decide (1≤g∧g≤99)) then (0:Int) else 1]
abbrev Q6 (a:Int) (b:Int) (c:List Good) (d:List AB) (e:List AF) (f:Int) (g:Int):=AW a b c d e [if (decide (0≤f∧f≤(c.length:Int)-1)) then (0:Int) else 6,if (decide (0≤g∧g≤a)) then (0:Int) else 1]
abbrev Q7 (a:List Good) (b:Nat):Array Value:=#[.string ((a.getD b Good.z).name),J ((a.getD b Good.z).cost),J ((a.getD b Good.z).pack),J ((a.getD b Good.z).low),J ((a.getD b Good.z).high)]
abbrev Q8 (a:Int):=J2 (J2 a (ET a 13)) ((J2 a (ET a 13)) / 128)
abbrev Q9 (a:List AB) (b:Nat):Array Value:=#[J ((a.getD b AB.z).kind),J ((a.getD b AB.z).good),J ((a.getD b AB.z).day),J ((a.getD b AB.z).low),J ((a.getD b AB.z).high)]
abbrev Qa (a:Int) (b:Int) (c:List Good) (d:List AB) (e:List AF) (f:Int):=AW a b c d e [if (decide (0≤f∧f≤(d.length:Int)-1)) then (0:Int) else 6]
abbrev Qb (a:List AB) (b:Nat):=(a.getD b AB.z).day
abbrev Qc (a:List AF) (b:Nat):Array Value:=#[J ((a.getD b AF.z).good),J ((a.getD b AF.z).day),J ((a.getD b AF.z).low),J ((a.getD b AF.z).high)]
abbrev Qd:Value:=.slice none 0 0
abbrev Qe (a:Int) (b:List Good):=decide (0≤a∧a≤(b.length:Int)-1)
abbrev Qf (a:Int) (b:Int) (c:List Good) (d:List AB) (e:List AF) (f:Int) (g:Int):Array Value:=#[J (GB a b c d e f g),J (GC a b c d e f g)]
abbrev Qg (a:Int) (b:Int) (c:List Good) (d:List AB) (e:List AF) (f:Int):=AW a b c d e [if (decide (0≤f∧f≤a)) then (0:Int) else 1]
abbrev Qh (a:Int) (b:Int) (c:List Good) (d:List AB) (e:List AF) (f:Int) (g:Int):=AW a b c d e [f,if (decide (0≤g∧g≤99)) then (0:Int) else 1]
abbrev Qi (a:Int) (b:Int) (c:List Good) (d:List AB) (e:List AF) (f:Int) (g:Int) (h:Int):Array Value:=#[J (HF a b c d e f g h),J (HG a b c d e f g h)]
abbrev Qj (a:Int) (b:Int) (c:List Good) (d:List AB) (e:List AF) (f:Int):Array Value:=#[J (Fi a b c d e f),J (Fj a b c d e f)]
abbrev Qk (a:List Good) (b:Nat):=E2 ((a.getD b Good.z).low) ((a.getD b Good.z).high)
abbrev Ql (a:List AV) (b:Int):=a.getD (b.toNat) AV.zero
abbrev Qm (a:List AB) (b:Nat):=(a.getD b AB.z).kind
abbrev Qn (a:List Good) (b:Nat):=(a.getD b Good.z).pack
abbrev Qo (a:List Int) (b:List Int):=decide (((a.length:Int)<(b.length:Int))∨(((a.length:Int)=(b.length:Int))∧((PT a b)<0)))
abbrev Qp (a:Int) (b:Int):=decide (((0≤a∧a≤b)∧b≤99)∧((b-a)<3))
abbrev Qq (a:Array Int) (b:Nat) (c:Nat):=(a.setIfInBounds b (a[c]!)).setIfInBounds c (a[b]!)
abbrev Qr (a:List Good) (b:Nat):Array Value:=#[J ((a.getD b Good.z).low),J ((a.getD b Good.z).high)]
abbrev Qs (a:List Good) (b:Nat):=(a.getD b Good.z).cost
abbrev Qt (a:ByteArray) (b:Nat):=decide ((¬(E7 ((bytesOf a).getD b 0)))∧(((b:Int)=0)∨(¬(FF ((bytesOf a).getD b 0)))))
abbrev Qu (a:List AB) (b:Nat):=(a.getD b AB.z).good
abbrev Qv (a:List Int) (b:List Int):=(AV.zero.setFirsts a).setManys b
abbrev Qw (a:Int) (b:Int) (c:Value) (d:Value) (e:Value):Value:=.agg #[J a,J b,c,d,e]
abbrev Qx (a:Int) (b:Int) (c:Int) (d:Int):=decide (((a≤b)∧(b≤c))∧(c≤d))
abbrev Qy (a:Int) (b:Int):Value:=.bool (decide (a≤b))
abbrev Qz (a:Int) (b:Int):=decide ((¬(1≤a∧a≤99))∨(¬(0≤b∧b≤2)))
abbrev UZ (a:List Good) (b:Nat):=(a.getD b Good.z).name
abbrev Q11 (a:List AB) (b:Nat):=(a.getD (((b:Int)-1).toNat) AB.z).day
abbrev Ya (a:List AB) (b:AV) (c:AF):=(AP a b c.good c.day).1
abbrev Q13 (a:Int) (b:List AB) (c:List Good) (d:List AF) (e:Int) (f:Int) (g:Int):Array Value:=#[J ((BB (Ea a b (AR a c b d e) f)).tdiv g),J ((B5 (Ea a b (AR a c b d e) f)).tdiv g)]
abbrev Lp (a:List Int) (b:Nat):=J (a.getD b 0)
abbrev Q15 (a:Nat) (b:Nat) (c:Array Int) (d:Nat):=decide (((a:Int)≤(b:Int))∧(¬((c[b]!)<(c[d]!))))
abbrev Q16 (a:List AB) (b:Nat):Array Value:=#[J ((a.getD b AB.z).low),J ((a.getD b AB.z).high)]
abbrev Q17 (a:List AB) (b:List Int) (c:List Int) (d:List Int) (e:List AF) (f:Nat):=A3 a b c d ((e.getD f AF.z).good) ((e.getD f AF.z).day) a.length
abbrev ZW (a:Int) (b:Int):=decide (0≤a∧a≤b)
abbrev Q19 (a:List Good) (b:List AB) (c:List AF):=decide (((20<(a.length:Int))∨(20<(b.length:Int)))∨(20<(c.length:Int)))
abbrev Q1a (a:AF) (b:Int):=decide ((¬(0≤a.day∧a.day≤b))∨(¬((0≤a.low∧a.low≤a.high)∧a.high≤999)))
abbrev Q1b (a:List Int):=a.getD (((a.length:Int)-1).toNat) 0
abbrev Q1c (a:Int) (b:List AB):=decide (0≤a∧a≤(b.length:Int)-1)
abbrev ZX (a:ByteArray) (b:Nat):=(bytesOf a).getD b 0
abbrev Q1e:=Am AV.zero
abbrev Q1f (a:Int):=J2 a (ET a 13)
abbrev Q1g (a:Nat) (b:Int) (c:Array Int) (d:Nat):=decide (((((2*(a:Int))+1)+1)<b)∧((c[(d+((2*a)+1))]!)<(c[((d+((2*a)+1))+1)]!)))
abbrev Q1h:Array Value:=#[.func (.func 194) #[] #[],.func (.func 195) #[] #[],.func (.func 196) #[] #[],.func (.func 197) #[] #[]]
abbrev QQ (a:Int) (b:Int) (c:List Good) (d:List AB) (e:List AF):=J (Ag a b c d e)
abbrev XR (a:List AF) (b:Nat):=a.getD b AF.z
abbrev Q1k (a:List Int):=decide (20<(a.length:Int))
abbrev Q1l (a:Int) (b:Int) (c:Int):=decide ((a≤b)∧(b≤c))
abbrev Q1m (a:Array Int) (b:Nat) (c:Nat):=a.setIfInBounds b (a[c]!)
abbrev ZY (a:Nat):=J ((a:Int)+1)
abbrev Q1o (a:AF):Array Value:=#[J a.good,J a.day,J a.low,J a.high]
abbrev Q1p (a:Nat) (b:Nat):=J ((a:Int)-(b:Int))
abbrev Q1q (a:Nat) (b:Nat) (c:Array Int):=decide (((a:Int)<(b:Int))∧((c[b]!)<(c[((b:Int)-1).toNat]!)))
abbrev Q1r (a:Nat) (b:Array Int) (c:Nat):=decide ((0<(a:Int))∧(¬((b[((a:Int)-1).toNat]!)<(b[c]!))))
abbrev Q1s (a:List Int) (b:Nat) (c:List Int):=PR (a.getD b 0) (c.getD b 0)
abbrev Q1t (a:ByteArray):=decide (((a.size:Int)<1)∨(10<(a.size:Int)))
abbrev Q1u (a:Int):=decide ((97≤a)∧(a≤122))
abbrev Q1v (a:Array Int) (b:Nat) (c:Nat):=decide (¬((a[b]!)<(a[c]!)))
abbrev Q1w (a:Int):=decide ((48≤a)∧(a≤57))
abbrev Q1x (a:List Int) (b:List Good):=A8 a (b.length:Int)
abbrev Q1y (a:List Int) (b:List AB):=A8 a (b.length:Int)
abbrev Q1z (a:Int):=decide (¬(0≤a∧a≤99))
abbrev Q20 (a:Int) (b:Int):=decide (1≤a∧a≤b)
abbrev Q21 (a:Nat) (b:Nat):=decide ((a:Int)≤(b:Int))
abbrev Q4g (a:Int):=decide (¬(0≤a∧a≤2))
abbrev Q4h (a:List Good) (b:Nat):=BJ (a.getD b Good.z)
abbrev Q4i (a:List AB) (b:AV) (c:Nat) (d:Int):Array Value:=#[J ((AP a b (c:Int) d).1),J ((AP a b (c:Int) d).2)]
abbrev Q4j (a:List AF):=Cp a 0 a.length
abbrev Q4k (a:List AB) (b:Nat):=BD (a.getD b AB.z)
end Go.Ns
namespace Go.Ns
open Go.Conc Go.Proofs Go.Proofs.Tryz
theorem GD:H1 prog 102 102=some (27,1,24):=by kernel_rfl
theorem Pf:H1 prog 105 105=some (119,15,80):=by kernel_rfl
theorem KL:H1 prog 182 182=some (31,2,16):=by kernel_rfl
theorem fx_app22_22:H1 prog 22 22=some (99,5,48):=by kernel_rfl
theorem Tw:H1 prog 23 23=some (75,5,40):=by kernel_rfl
theorem Tx:H1 prog 24 24=some (79,4,32):=by kernel_rfl
theorem CT:H1 prog 27 27=some (3,1,8):=by kernel_rfl
theorem Mw:H1 prog 69 69=some (57,3,72):=by kernel_rfl
theorem Yb:W7 prog 117=some (6,false,1):=by kernel_rfl
theorem Yc:W7 prog 135=some (4,false,1):=by kernel_rfl
theorem MK:Mc prog 115=some (3,1):=by kernel_rfl
theorem ML:Mc prog 116=some (6,1):=by kernel_rfl
theorem Gz:Mc prog 117=some (6,1):=by kernel_rfl
theorem Yd:Mc prog 174=some (5,2):=by kernel_rfl
theorem Vk:AQ Tryz.f100=true:=by kernel_rfl
theorem Vl:AQ Tryz.f101=true:=by kernel_rfl
theorem Vm:AQ Tryz.f102=true:=by kernel_rfl
theorem Vn:AQ Tryz.f104=true:=by kernel_rfl
theorem Kq:AQ Tryz.f105=true:=by kernel_rfl
theorem Vo:AQ Tryz.f106=true:=by kernel_rfl
theorem Oc:AQ Tryz.f108=true:=by kernel_rfl
theorem Vp:AQ Tryz.f109=true:=by kernel_rfl
theorem Ix:AQ Tryz.f110=true:=by kernel_rfl
theorem Vq:AQ Tryz.f111=true:=by kernel_rfl
theorem fx_call112:AQ Tryz.f112=true:=by kernel_rfl
theorem fx_call113:AQ Tryz.f113=true:=by kernel_rfl
theorem Od:AQ Tryz.f114=true:=by kernel_rfl
theorem Kr:AQ Tryz.f115=true:=by kernel_rfl
theorem Vr:AQ Tryz.f116=true:=by kernel_rfl
theorem Oe:AQ Tryz.f117=true:=by kernel_rfl
theorem Vs:AQ Tryz.f118=true:=by kernel_rfl
theorem Vt:AQ Tryz.f119=true:=by kernel_rfl
theorem Ye:AQ Tryz.f12=true:=by kernel_rfl
theorem Ks:AQ Tryz.f120=true:=by kernel_rfl
theorem Vu:AQ Tryz.f121=true:=by kernel_rfl
theorem fx_call122:AQ Tryz.f122=true:=by kernel_rfl
theorem Vv:AQ Tryz.f124=true:=by kernel_rfl
theorem Vw:AQ Tryz.f125=true:=by kernel_rfl
theorem fx_call126:AQ Tryz.f126=true:=by kernel_rfl
theorem fx_call127:AQ Tryz.f127=true:=by kernel_rfl
theorem Of:AQ Tryz.f129=true:=by kernel_rfl
theorem QR:AQ Tryz.f13=true:=by kernel_rfl
theorem Vx:AQ Tryz.f136=true:=by kernel_rfl
theorem Vy:AQ Tryz.f137=true:=by kernel_rfl
theorem Vz:AQ Tryz.f138=true:=by kernel_rfl
theorem V0:AQ Tryz.f139=true:=by kernel_rfl
theorem QS:AQ Tryz.f14=true:=by kernel_rfl
theorem Og:AQ Tryz.f140=true:=by kernel_rfl
theorem V1:AQ Tryz.f142=true:=by kernel_rfl
theorem Oh:AQ Tryz.f143=true:=by kernel_rfl
theorem V2:AQ Tryz.f144=true:=by kernel_rfl
theorem V3:AQ Tryz.f145=true:=by kernel_rfl
theorem V4:AQ Tryz.f146=true:=by kernel_rfl
theorem Kt:AQ Tryz.f147=true:=by kernel_rfl
theorem Oi:AQ Tryz.f148=true:=by kernel_rfl
theorem Ku:AQ Tryz.f149=true:=by kernel_rfl
theorem Yf:AQ Tryz.f15=true:=by kernel_rfl
theorem Kv:AQ Tryz.f150=true:=by kernel_rfl
theorem fx_call151:AQ Tryz.f151=true:=by kernel_rfl
theorem fx_call152:AQ Tryz.f152=true:=by kernel_rfl
theorem Kw:AQ Tryz.f153=true:=by kernel_rfl
theorem Oj:AQ Tryz.f154=true:=by kernel_rfl
theorem V5:AQ Tryz.f155=true:=by kernel_rfl
theorem V6:AQ Tryz.f156=true:=by kernel_rfl
theorem V7:AQ Tryz.f157=true:=by kernel_rfl
theorem V8:AQ Tryz.f158=true:=by kernel_rfl
theorem V9:AQ Tryz.f159=true:=by kernel_rfl
theorem QT:AQ Tryz.f16=true:=by kernel_rfl
theorem WA:AQ Tryz.f160=true:=by kernel_rfl
theorem WB:AQ Tryz.f161=true:=by kernel_rfl
theorem WC:AQ Tryz.f162=true:=by kernel_rfl
theorem WD:AQ Tryz.f163=true:=by kernel_rfl
theorem WE:AQ Tryz.f164=true:=by kernel_rfl
theorem WF:AQ Tryz.f165=true:=by kernel_rfl
theorem Cc:AQ Tryz.f166=true:=by kernel_rfl
theorem WG:AQ Tryz.f167=true:=by kernel_rfl
theorem WH:AQ Tryz.f168=true:=by kernel_rfl
theorem Yg:AQ Tryz.f17=true:=by kernel_rfl
theorem WI:AQ Tryz.f170=true:=by kernel_rfl
theorem Kx:AQ Tryz.f171=true:=by kernel_rfl
theorem Ok:AQ Tryz.f172=true:=by kernel_rfl
theorem WJ:AQ Tryz.f173=true:=by kernel_rfl
theorem WK:AQ Tryz.f174=true:=by kernel_rfl
theorem Ky:AQ Tryz.f175=true:=by kernel_rfl
theorem Ol:AQ Tryz.f176=true:=by kernel_rfl
theorem Kz:AQ Tryz.f177=true:=by kernel_rfl
theorem QU:AQ Tryz.f18=true:=by kernel_rfl
theorem Yh:AQ Tryz.f19=true:=by kernel_rfl
theorem WL:AQ Tryz.f194=true:=by kernel_rfl
theorem WM:AQ Tryz.f195=true:=by kernel_rfl
theorem WN:AQ Tryz.f196=true:=by kernel_rfl
theorem WO:AQ Tryz.f197=true:=by kernel_rfl
theorem WP:AQ Tryz.f198=true:=by kernel_rfl
theorem WQ:AQ Tryz.f199=true:=by kernel_rfl
theorem QV:AQ Tryz.f20=true:=by kernel_rfl
theorem WR:AQ Tryz.f200=true:=by kernel_rfl
theorem Om:AQ Tryz.f201=true:=by kernel_rfl
theorem WS:AQ Tryz.f202=true:=by kernel_rfl
theorem On:AQ Tryz.f203=true:=by kernel_rfl
theorem K0:AQ Tryz.f204=true:=by kernel_rfl
theorem Yi:AQ Tryz.f21=true:=by kernel_rfl
theorem QW:AQ Tryz.f22=true:=by kernel_rfl
theorem Yj:AQ Tryz.f23=true:=by kernel_rfl
theorem G0:AQ Tryz.f25=true:=by kernel_rfl
theorem Yk:AQ Tryz.f26=true:=by kernel_rfl
theorem Yl:AQ Tryz.f29=true:=by kernel_rfl
theorem Ym:AQ Tryz.f31=true:=by kernel_rfl
theorem Yn:AQ Tryz.f33=true:=by kernel_rfl
theorem QX:AQ Tryz.f35=true:=by kernel_rfl
theorem Yo:AQ Tryz.f40=true:=by kernel_rfl
theorem Yp:AQ Tryz.f41=true:=by kernel_rfl
theorem Yq:AQ Tryz.f42=true:=by kernel_rfl
theorem Jr:AQ Tryz.f43=true:=by kernel_rfl
theorem Yr:AQ Tryz.f45=true:=by kernel_rfl
theorem Ys:AQ Tryz.f47=true:=by kernel_rfl
theorem Yt:AQ Tryz.f49=true:=by kernel_rfl
theorem Yu:AQ Tryz.f50=true:=by kernel_rfl
theorem Yv:AQ Tryz.f58=true:=by kernel_rfl
theorem DQ:AQ Tryz.f59=true:=by kernel_rfl
theorem EE:AQ Tryz.f60=true:=by kernel_rfl
theorem fx_call63:AQ Tryz.f63=true:=by kernel_rfl
theorem QY:AQ Tryz.f65=true:=by kernel_rfl
theorem Yw:AQ Tryz.f73=true:=by kernel_rfl
theorem Yx:AQ Tryz.f74=true:=by kernel_rfl
theorem Cw:AQ Tryz.f75=true:=by kernel_rfl
theorem IG:AQ Tryz.f76=true:=by kernel_rfl
theorem IH:AQ Tryz.f77=true:=by kernel_rfl
theorem F1:AQ Tryz.f78=true:=by kernel_rfl
theorem B7:AQ Tryz.f79=true:=by kernel_rfl
theorem MM:AQ Tryz.f80=true:=by kernel_rfl
theorem II:AQ Tryz.f81=true:=by kernel_rfl
theorem Yy:AQ Tryz.f82=true:=by kernel_rfl
theorem MN:AQ Tryz.f83=true:=by kernel_rfl
theorem Js:AQ Tryz.f84=true:=by kernel_rfl
theorem QZ:AQ Tryz.f85=true:=by kernel_rfl
theorem G1:AQ Tryz.f86=true:=by kernel_rfl
theorem Jt:AQ Tryz.f87=true:=by kernel_rfl
theorem Yz:AQ Tryz.f88=true:=by kernel_rfl
theorem Ju:AQ Tryz.f89=true:=by kernel_rfl
theorem RA:AQ Tryz.f90=true:=by kernel_rfl
theorem RB:AQ Tryz.f91=true:=by kernel_rfl
theorem RC:AQ Tryz.f92=true:=by kernel_rfl
theorem Y1:AQ Tryz.f93=true:=by kernel_rfl
theorem Y3:AQ Tryz.f94=true:=by kernel_rfl
theorem Jv:AQ Tryz.f95=true:=by kernel_rfl
theorem Y4:AQ Tryz.f98=true:=by kernel_rfl
theorem Y5:AQ Tryz.f99=true:=by kernel_rfl
theorem fx_eqg115:prog.eqGuardType prog.depth 115=false:=by kernel_rfl
theorem fx_eqg116:prog.eqGuardType prog.depth 116=false:=by kernel_rfl
theorem IJ:prog.eqGuardType prog.depth 31=false:=by kernel_rfl
theorem fx_eqg75:prog.eqGuardType prog.depth 75=false:=by kernel_rfl
theorem fx_eqg79:prog.eqGuardType prog.depth 79=false:=by kernel_rfl
theorem fx_eqg99:prog.eqGuardType prog.depth 99=false:=by kernel_rfl
theorem Dp:EI prog 102=some 1:=by kernel_rfl
theorem Jw:EI prog 105=some 15:=by kernel_rfl
theorem Jx:EI prog 165=some 1:=by kernel_rfl
theorem RD:EI prog 182=some 2:=by kernel_rfl
theorem DZ:EI prog 22=some 5:=by kernel_rfl
theorem Cr:EI prog 23=some 5:=by kernel_rfl
theorem Y6:EI prog 230=some 1:=by kernel_rfl
theorem JX:EI prog 24=some 4:=by kernel_rfl
theorem AS:EI prog 27=some 1:=by kernel_rfl
theorem fx_esz55:EI prog 55=some 1:=by kernel_rfl
theorem Oo:EI prog 69=some 3:=by kernel_rfl
theorem Ay:DN prog 104 0=some 0:=by kernel_rfl
theorem Hm:DN prog 108 0=some 0:=by kernel_rfl
theorem Cz:DN prog 108 1=some 5:=by kernel_rfl
theorem Mx:DN prog 108 2=some 6:=by kernel_rfl
theorem JY:DN prog 119 0=some 0:=by kernel_rfl
theorem JZ:DN prog 119 1=some 3:=by kernel_rfl
theorem Ei:DN prog 119 2=some 9:=by kernel_rfl
theorem Tz:DN prog 173 1=some 1:=by kernel_rfl
theorem CF:DN prog 26 0=some 0:=by kernel_rfl
theorem F2:DN prog 26 1=some 1:=by kernel_rfl
theorem BC:DN prog 26 2=some 2:=by kernel_rfl
theorem A7:DN prog 26 3=some 3:=by kernel_rfl
theorem Cs:DN prog 26 4=some 4:=by kernel_rfl
theorem Ct:DN prog 31 0=some 0:=by kernel_rfl
theorem Cu:DN prog 31 1=some 1:=by kernel_rfl
theorem WT:DN prog 57 0=some 0:=by kernel_rfl
theorem Oq:DN prog 57 1=some 1:=by kernel_rfl
theorem WU:DN prog 57 2=some 2:=by kernel_rfl
theorem EO:DN prog 75 0=some 0:=by kernel_rfl
theorem FO:DN prog 75 1=some 1:=by kernel_rfl
theorem Cd:DN prog 75 2=some 2:=by kernel_rfl
theorem F3:DN prog 75 3=some 3:=by kernel_rfl
theorem Iy:DN prog 79 0=some 0:=by kernel_rfl
theorem Iz:DN prog 79 1=some 1:=by kernel_rfl
theorem F4:DN prog 79 2=some 2:=by kernel_rfl
theorem FP:DN prog 99 0=some 0:=by kernel_rfl
theorem F5:DN prog 99 1=some 1:=by kernel_rfl
theorem FQ:DN prog 99 2=some 2:=by kernel_rfl
theorem HQ:DN prog 99 3=some 3:=by kernel_rfl
theorem Y7:(prog.info? 27).isSome=true:=by kernel_rfl
theorem RE:(prog.info? 27).map (·.zero)=some (some (.slice none 0 0)):=by kernel_rfl
theorem Or:L3 prog 188=some .u64:=by kernel_rfl
theorem WV:L3 prog 204=some .u64:=by kernel_rfl
theorem Ej:L3 prog 3=some .i64:=by kernel_rfl
theorem GP:L3 prog 5=some .u8:=by kernel_rfl
theorem RF:J6 prog 106=some (168,3):=by kernel_rfl
theorem MO:J6 prog 159=some (3,3):=by kernel_rfl
theorem RG:∀a:Key,Zt prog 3 168 (J1 a)=true:=by intros;kernel_rfl
theorem MP:∀a:Int,Zt prog 3 3 (EZ a)=true:=by intros;kernel_rfl
theorem MQ:∀a b:Int,PH prog 3 3 (EZ a) (EZ b)=some (a==b):=by intros;kernel_rfl
theorem RH:∀a b:Key,PH prog 3 168 (J1 a) (J1 b)=some (a.1==b.1 && (a.2.1==b.2.1 && (a.2.2==b.2.2 && true))):=by intros;kernel_rfl
theorem Af:prog.follows .mixedOrders=true:=by kernel_rfl
theorem AAh:(prog.info? 3).bind (·.zero)=some (.int .i64 0):=by kernel_rfl
theorem T0:(prog.info? 3).bind (·.zero)=some (.int .i64 0):=by kernel_rfl
theorem Dw:EQ prog 104=some [(0,5)]:=by kernel_rfl
theorem GQ:EQ prog 108=some [(0,5),(5,1),(6,1)]:=by kernel_rfl
theorem IK:EQ prog 119=some [(0,3),(3,6),(9,6)]:=by kernel_rfl
theorem AAi:EQ prog 168=some [(0,1),(1,1),(2,1)]:=by kernel_rfl
theorem fx_pl26:EQ prog 26=some [(0,1),(1,1),(2,1),(3,1),(4,1)]:=by kernel_rfl
theorem Ew:EQ prog 31=some [(0,1),(1,1)]:=by kernel_rfl
theorem fx_pl57:EQ prog 57=some [(0,1),(1,1),(2,1)]:=by kernel_rfl
theorem NL:EQ prog 75=some [(0,1),(1,1),(2,1),(3,2)]:=by kernel_rfl
theorem XS:EQ prog 79=some [(0,1),(1,1),(2,2)]:=by kernel_rfl
theorem XT:EQ prog 99=some [(0,1),(1,1),(2,1),(3,2)]:=by kernel_rfl
theorem T1:Zr prog 9 230=some 5:=by kernel_rfl
theorem F6:Dr prog 102=some (1,#[.slice none 0 0],27):=by kernel_rfl
theorem Y8:Dr prog 105=some (15,#[.int .i64 0,.int .i64 0,.int .i64 0,.int .i64 0,.int .i64 0,.int .i64 0,.int .i64 0,.int .i64 0,.int .i64 0,.bool false,.bool false,.bool false,.bool false,.bool false,.bool false],119):=by kernel_rfl
theorem EF:Dr prog 165=some (1,#[.int .i64 0],32):=by kernel_rfl
theorem RI:Dr prog 182=some (2,#[.int .i64 0,.int .i64 0],31):=by kernel_rfl
theorem AAj:Dr prog 22=some (5,#[.string ⟨#[]⟩,.int .i64 0,.int .i64 0,.int .i64 0,.int .i64 0],99):=by kernel_rfl
theorem T3:Dr prog 23=some (5,#[.int .i64 0,.int .i64 0,.int .i64 0,.int .i64 0,.int .i64 0],75):=by kernel_rfl
theorem T4:Dr prog 24=some (4,#[.int .i64 0,.int .i64 0,.int .i64 0,.int .i64 0],79):=by kernel_rfl
theorem B8:Dr prog 27=some (1,#[.int .i64 0],3):=by kernel_rfl
theorem AAk:Dr prog 69=some (3,#[.slice none 0 0,.slice none 0 0,.slice none 0 0],57):=by kernel_rfl
theorem Fm:JE prog 102=true:=by kernel_rfl
theorem GR:JE prog 105=true:=by kernel_rfl
theorem Ot:JE prog 165=true:=by kernel_rfl
theorem AAl:JE prog 182=true:=by kernel_rfl
theorem Cf:JE prog 22=true:=by kernel_rfl
theorem DG:JE prog 23=true:=by kernel_rfl
theorem AAm:JE prog 230=true:=by kernel_rfl
theorem Gn:JE prog 24=true:=by kernel_rfl
theorem CN:JE prog 27=true:=by kernel_rfl
theorem fx_sl55:JE prog 55=true:=by kernel_rfl
theorem NM:JE prog 69=true:=by kernel_rfl
theorem EP:NX prog 9=true:=by kernel_rfl
theorem Ja:CV prog 102=some (false,1):=by kernel_rfl
theorem Bv:CV prog 104=some (true,5):=by kernel_rfl
theorem Da:CV prog 105=some (false,1):=by kernel_rfl
theorem T5:CV prog 106=some (false,1):=by kernel_rfl
theorem BH:CV prog 108=some (true,7):=by kernel_rfl
theorem fx_ty115:CV prog 115=some (true,3):=by kernel_rfl
theorem fx_ty116:CV prog 116=some (true,6):=by kernel_rfl
theorem AAn:CV prog 117=some (true,6):=by kernel_rfl
theorem Bg:CV prog 119=some (true,15):=by kernel_rfl
theorem AAo:CV prog 120=some (false,1):=by kernel_rfl
theorem AAp:CV prog 135=some (true,4):=by kernel_rfl
theorem AAq:CV prog 138=some (false,1):=by kernel_rfl
theorem Lq:CV prog 147=some (false,1):=by kernel_rfl
theorem Ou:CV prog 168=some (true,3):=by kernel_rfl
theorem fx_ty179:CV prog 179=some (false,1):=by kernel_rfl
theorem HR:CV prog 181=some (false,1):=by kernel_rfl
theorem Ek:CV prog 204=some (false,1):=by kernel_rfl
theorem B1:CV prog 22=some (false,1):=by kernel_rfl
theorem Bn:CV prog 23=some (false,1):=by kernel_rfl
theorem Ec:CV prog 24=some (false,1):=by kernel_rfl
theorem Au:CV prog 26=some (true,5):=by kernel_rfl
theorem Dd:CV prog 27=some (false,1):=by kernel_rfl
theorem AM:CV prog 3=some (false,1):=by kernel_rfl
theorem A1:CV prog 31=some (true,2):=by kernel_rfl
theorem NN:CV prog 32=some (false,1):=by kernel_rfl
theorem Hw:CV prog 4=some (false,1):=by kernel_rfl
theorem fx_ty5:CV prog 5=some (false,1):=by kernel_rfl
theorem GE:CV prog 57=some (true,3):=by kernel_rfl
theorem Gp:CV prog 73=some (false,1):=by kernel_rfl
theorem GF:CV prog 75=some (true,5):=by kernel_rfl
theorem Gq:CV prog 79=some (true,4):=by kernel_rfl
theorem K3:CV prog 9=some (false,1):=by kernel_rfl
theorem Gr:CV prog 99=some (true,5):=by kernel_rfl
theorem fx_und179:(prog.underlying 179).isSome=true:=by kernel_rfl
theorem Y9:(prog.underlying 188).isSome=true:=by kernel_rfl
theorem Fc:(prog.underlying 203).isSome=true:=by kernel_rfl
theorem SQ:(prog.underlying 3).isSome=true:=by kernel_rfl
theorem GG:(prog.underlying 5).isSome=true:=by kernel_rfl
theorem HT:prog.underlying 147=some (.chan .both 27):=by kernel_rfl
theorem WW:CD prog 102=some #[.slice none 0 0]:=by kernel_rfl
theorem By:CD prog 104=some #[.int .i64 0,.int .i64 0,.slice none 0 0,.slice none 0 0,.slice none 0 0]:=by kernel_rfl
theorem WX:CD prog 105=some #[.slice none 0 0]:=by kernel_rfl
theorem BR:CD prog 108=some #[.int .i64 0,.int .i64 0,.slice none 0 0,.slice none 0 0,.slice none 0 0,.slice none 0 0,.map none]:=by kernel_rfl
theorem Db:CD prog 119=some #[.int .i64 0,.int .i64 0,.int .i64 0,.int .i64 0,.int .i64 0,.int .i64 0,.int .i64 0,.int .i64 0,.int .i64 0,.bool false,.bool false,.bool false,.bool false,.bool false,.bool false]:=by kernel_rfl
theorem WY:CD prog 147=some #[.chan none]:=by kernel_rfl
theorem Ov:CD prog 168=some #[.int .i64 0,.int .i64 0,.int .i64 0]:=by kernel_rfl
theorem Ow:CD prog 181=some #[.nilFunc]:=by kernel_rfl
theorem WZ:CD prog 204=some #[.int .u64 0]:=by kernel_rfl
theorem MR:CD prog 26=some #[.int .i64 0,.int .i64 0,.slice none 0 0,.slice none 0 0,.slice none 0 0]:=by kernel_rfl
theorem ZA:CD prog 27=some #[.slice none 0 0]:=by kernel_rfl
theorem AAr:CD prog 3=some #[.int .i64 0]:=by kernel_rfl
theorem BU:CD prog 31=some #[.int .i64 0,.int .i64 0]:=by kernel_rfl
theorem fx_zero32:CD prog 32=some #[.int .i64 0]:=by kernel_rfl
theorem AAs:CD prog 4=some #[.bool false]:=by kernel_rfl
theorem RJ:CD prog 57=some #[.slice none 0 0,.slice none 0 0,.slice none 0 0]:=by kernel_rfl
theorem Ex:CD prog 75=some #[.int .i64 0,.int .i64 0,.int .i64 0,.int .i64 0,.int .i64 0]:=by kernel_rfl
theorem IL:CD prog 79=some #[.int .i64 0,.int .i64 0,.int .i64 0,.int .i64 0]:=by kernel_rfl
theorem G2:CD prog 99=some #[.string ⟨#[]⟩,.int .i64 0,.int .i64 0,.int .i64 0,.int .i64 0]:=by kernel_rfl
end Go.Ns
namespace Go.Ns
open Go.Conc Go.Proofs Go.Proofs.Tryz
attribute [local irreducible] Be EK Tr Ac Cg CC
theorem BW {W:Wk prog} {h:GH} (n:Int) (lo:Int) (hi:Int):Ac W 79 #[J n,J lo,J hi] h (fun v h'=>v=(.bool (decide (lo≤n∧n≤hi)):Value)∧h=h'):=by
 refine AK func79 Z (Nb Z) (Sq (Rg (As (.bool false) Z Z (Nl (A9 (fun σ' ds' h'=>ds'=[]∧h=h'∧σ' 6=.bool (Q1l lo n hi)) ?_ ?_)))))
 ·refine Rg (Mv (J lo) Z Z (Mv (J n) Z Z (Pl Z (DS (a:=lo) (b:=n) Z Z (Mv (Qy lo n) Z Z (BN (p:=lo≤n) ?_ ?_))))))
  ·intro aa;exact Gg 3 10 (AD Z aa) Z (AA (v:=J n) Z (Gg 3 10 (AD Z aa) Z (AA (v:=J hi) Z (Gg 3 10 (AD Z aa) Z (DS (a:=n) (b:=hi) Z Z (Pk true (Qy n hi) Z (AD Z aa) Z (As (Qy n hi) Z Z (Nl (⟨Z,Z,Et (b:=(.bool (decide (n≤hi)):Value)) Z (congrArg Value.bool (by (simp [aa];done):decide (n≤hi)=(Q1l lo n hi)))⟩)))))))))
  ·intro aa;exact Gs 3 10 (AC Z aa) Z (Gs 3 10 (AC Z aa) Z (Gs 3 10 (AC Z aa) Z (Pk false (.bool false) Z (AC Z aa) Z (As (.bool false) Z Z (Nl (⟨Z,Z,Et (b:=(.bool false:Value)) Z (congrArg Value.bool (by (simp [aa];done):false=(Q1l lo n hi)))⟩))))))
 ·rintro _ _ _ ⟨ac,ab,ad⟩;subst ac;subst ab;exact Rt (⟨.inr Z,Ae Z (v:=.bool (Q1l lo n hi)) ad (⟨(by rfl),Z⟩)⟩)
theorem Ox {W:Wk prog} {h:GH} (xl:Int) (xh:Int) (lo:Int) (hi:Int):Ac W 129 #[.agg #[J xl,J xh],J lo,J hi] h (fun v h'=>v=(.bool (decide ((lo≤xl∧xl≤xh)∧xh≤hi)):Value)∧h.Le h'):=by
 refine AK func129 Z (Nb Z) (Sq (Rg (Pl Z (An (v:=.agg #[J xl,J xh]) (c:=#[J xl,J xh]) Z Z fun _ h2 _ ae ad _=>As (.bool false) Z Z (Nl (A9 (fun σ' ds' h'=>ds'=[]∧h2=h'∧σ' 6=.bool (Qx lo xl xh hi)) ?_ ?_))))))
 ·refine Rg (Mv (J lo) Z Z (Fa Ct Z Z (Ld (J xl) Z Z (Rd.one AM ad Z) (Pl Z (DS (a:=lo) (b:=xl) Z Z (Mv (Qy lo xl) Z Z (BN (p:=lo≤xl) ?_ ?_)))))))
  ·intro aa;refine Gg 4 11 (AD Z aa) Z (AL Ct Z (Gg 4 11 (AD Z aa) Z (AE (v:=J xl) Z (Rd.one AM ad Z) (Gg 4 11 (AD Z aa) Z (AL Cu Z (Gg 4 11 (AD Z aa) Z (AE (v:=J xh) Z (Rd.one AM ad Z) (Gg 4 11 (AD Z aa) Z (DS (a:=xl) (b:=xh) Z Z (Pk true (Qy xl xh) Z (AD Z aa) Z (Mv (Qy xl xh) Z Z (BN (p:=xl≤xh) ?_ ?_))))))))))))
   ·intro ab;exact Gg 11 18 (AD Z ab) Z (AL Cu Z (Gg 11 18 (AD Z ab) Z (AE (v:=J xh) Z (Rd.one AM ad Z) (Gg 11 18 (AD Z ab) Z (AA (v:=J hi) Z (Gg 11 18 (AD Z ab) Z (DS (a:=xh) (b:=hi) Z Z (Pk true (Qy xh hi) Z (AD Z ab) Z (As (Qy xh hi) Z Z (Nl (⟨Z,Z,Et (b:=(.bool (decide (xh≤hi)):Value)) Z (congrArg Value.bool (by (simp [aa,ab];done):decide (xh≤hi)=(Qx lo xl xh hi)))⟩)))))))))))
   ·intro ab;exact Gs 11 18 (AC Z ab) Z (Gs 11 18 (AC Z ab) Z (Gs 11 18 (AC Z ab) Z (Gs 11 18 (AC Z ab) Z (Pk false (.bool false) Z (AC Z ab) Z (As (.bool false) Z Z (Nl (⟨Z,Z,Et (b:=(.bool false:Value)) Z (congrArg Value.bool (by (simp [aa,ab];done):false=(Qx lo xl xh hi)))⟩)))))))
  ·intro aa;exact Gs 4 11 (AC Z aa) Z (Gs 4 11 (AC Z aa) Z (Gs 4 11 (AC Z aa) Z (Gs 4 11 (AC Z aa) Z (Gs 4 11 (AC Z aa) Z (Pk false (.bool false) Z (AC Z aa) Z (Mv (.bool false) Z Z (Gs 11 18 Z Z (Gs 11 18 Z Z (Gs 11 18 Z Z (Gs 11 18 Z Z (Pk false (.bool false) Z Z Z (As (.bool false) Z Z (Nl (⟨Z,Z,Et (b:=(.bool false:Value)) Z (congrArg Value.bool (by (simp [aa];done):false=(Qx lo xl xh hi)))⟩))))))))))))))
 ·rintro _ _ _ ⟨af,ac,ag⟩;subst af;subst ac;exact Rt (⟨.inr Z,Ae Z (v:=.bool (Qx lo xl xh hi)) ag (⟨(by rfl),ae⟩)⟩)
theorem T6 {W:Wk prog} {h:GH} (xl:Int) (xh:Int):Ac W 201 #[.agg #[J xl,J xh]] h (fun v h'=>v=(.bool (decide (E2 xl xh)):Value)∧h.Le h'):=by
 refine AK func201 Z (Nb Z) (Sq (Rg (Pl Z (An (v:=.agg #[J xl,J xh]) (c:=#[J xl,J xh]) Z Z fun _ h2 _ ae ah _=>As (.bool false) Z Z (Nl (A9 (fun σ' ds' h'=>ds'=[]∧GH.Le h2 h'∧σ' 2=.bool (Qp xl xh)) ?_ ?_))))))
 ·refine Rg (Ld (.agg #[J xl,J xh]) Z Z (AN A1 (Bx ah Z)) (Pl Z (Ap func129 Of Z Z Z ((Ox xl xh 0 99 ).mono fun _ _ ai=>?_))));obtain ⟨rfl,ab⟩:=ai;refine Mv (.bool (decide ((0≤xl∧xl≤xh)∧xh≤99))) Z Z (BN (p:=(0≤xl∧xl≤xh)∧xh≤99) ?_ ?_)
  ·intro aa;exact Gg 2 5 (AD Z aa) Z (AL Cu Z (have ac:=ab.keep ah Z;Gg 2 5 (AD Z aa) Z (AE (v:=J xh) Z (Rd.one AM ac Z) (Gg 2 5 (AD Z aa) Z (AL Ct Z (Gg 2 5 (AD Z aa) Z (AE (v:=J xl) Z (Rd.one AM ac Z) (Gg 2 5 (AD Z aa) Z (BL (a:=xh) (b:=xl) Z Z (by omega) (Gg 2 5 (AD Z aa) Z (Ax (a:=xh-xl) (b:=3) Z Z (Pk true (.bool (decide ((xh-xl)<3))) Z (AD Z aa) Z (As (.bool (decide ((xh-xl)<3))) Z Z (Nl (⟨Z,ab,Et (b:=(.bool (decide ((xh-xl)<3)):Value)) Z (congrArg Value.bool (by (simp [aa];done):decide ((xh-xl)<3)=(Qp xl xh)))⟩)))))))))))))))
  ·intro aa;exact Gs 2 5 (AC Z aa) Z (Gs 2 5 (AC Z aa) Z (Gs 2 5 (AC Z aa) Z (Gs 2 5 (AC Z aa) Z (Gs 2 5 (AC Z aa) Z (Gs 2 5 (AC Z aa) Z (Pk false (.bool false) Z (AC Z aa) Z (As (.bool false) Z Z (Nl (⟨Z,ab,Et (b:=(.bool false:Value)) Z (congrArg Value.bool (by (simp [aa];done):false=(Qp xl xh)))⟩)))))))))
 ·rintro _ _ _ ⟨af,ad,ag⟩;subst af;exact Rt (⟨.inr Z,Ae Z (v:=.bool (Qp xl xh)) ag (⟨(by rfl),(ae.trans ad)⟩)⟩)
theorem Fo {W:Wk prog} {h:GH} (b:Bool):Ac W 76 #[.bool b] h (fun v h'=>v=(J (if b then (0:Int) else 6):Value)∧h=h'):=by
 refine AK func76 Z (Nb Z) (Sq (Rg (As (J 0) Z Z (Nl (Sq (Sq (Rg (Mv (.bool b) Z Z (Pl Z (FK (b:=b) Z (Nl (C8 (t:= !b) Z (fun aa=>?_) (fun aa=>?_)))))))))))))
 ·have hc1_:b=false:=by simpa using aa
  exact Sq (Rg (As (J 6) Z Z (Nl (Rt (⟨.inr Z,Ae Z (v:=J 6) Z (⟨(by simp_all),Z⟩)⟩)))))
 ·have hc1_:b=true:=by simpa using aa
  exact Sk (Sq (Rg (As (J 0) Z Z (Nl (Rt (⟨.inr Z,Ae Z (v:=J 0) Z (⟨(by simp_all),Z⟩)⟩))))))
theorem FR {W:Wk prog} {h:GH} (b:Bool):Ac W 78 #[.bool b] h (fun v h'=>v=(J (if b then (0:Int) else 1):Value)∧h=h'):=by
 refine AK func78 Z (Nb Z) (Sq (Rg (As (J 0) Z Z (Nl (Sq (Sq (Rg (Mv (.bool b) Z Z (Pl Z (FK (b:=b) Z (Nl (C8 (t:= !b) Z (fun aa=>?_) (fun aa=>?_)))))))))))))
 ·have hc1_:b=false:=by simpa using aa
  exact Sq (Rg (As (J 1) Z Z (Nl (Rt (⟨.inr Z,Ae Z (v:=J 1) Z (⟨(by simp_all),Z⟩)⟩)))))
 ·have hc1_:b=true:=by simpa using aa
  exact Sk (Sq (Rg (As (J 0) Z Z (Nl (Rt (⟨.inr Z,Ae Z (v:=J 0) Z (⟨(by simp_all),Z⟩)⟩))))))
theorem GS {W:Wk prog} {h:GH} (d:Int) (m:Int) (gs:List Good) (gsv:Value) (ms:List AB) (msv:Value) (cs:List AF) (csv:Value) (n:Int) (hgs:AJ h gsv 5 BJ gs) (hms:AJ h msv 5 BD ms) (hcs:AJ h csv 4 A2 cs):Ac W 77 #[.agg #[J d,J m,gsv,msv,csv],J n] h (fun v h'=>v=(.bool (decide (0≤n∧n≤(gs.length:Int)-1)):Value)∧h.Le h'):=by
 have ab:=hgs.len;have ac:=hms.len;have ad:=hcs.len;refine AK func77 Z (Nb Z) (Sq (Rg (Pl Z (An (v:=.agg #[J d,J m,gsv,msv,csv]) (c:=#[J d,J m,gsv,msv,csv]) Z Z fun _ _ _ aa af _=>As (.bool false) Z Z (Nl (Sq (Rg (Mv (J n) Z Z (Fa Ay Z Z (Fa BC Z Z (Ld gsv Z Z (Rd.one B1 af Z) (Pl Z (AY Cf (hgs.le aa) Z (Pl Z (BL (a:=(gs.length:Int)) (b:=1) Z Z (by omega) (Pl Z (Ap func79 B7 Z Z Z ((BW n 0 ((gs.length:Int)-1) ).mono fun _ _ ae=>?_))))))))))))))))));obtain ⟨rfl,rfl⟩:=ae;exact As (.bool (decide (0≤n∧n≤((gs.length:Int)-1)))) Z Z (Nl (Rt (⟨.inr Z,Ae Z (v:=.bool (decide (0≤n∧n≤((gs.length:Int)-1)))) Z (⟨(by rfl),aa⟩)⟩)))
theorem My {W:Wk prog} {h:GH} (d:Int) (m:Int) (gs:List Good) (gsv:Value) (ms:List AB) (msv:Value) (cs:List AF) (csv:Value) (n:Int) (hgs:AJ h gsv 5 BJ gs) (hms:AJ h msv 5 BD ms) (hcs:AJ h csv 4 A2 cs):Ac W 108 #[.agg #[J d,J m,gsv,msv,csv],J n] h (fun v h'=>v=(.bool (decide (0≤n∧n≤(ms.length:Int)-1)):Value)∧h.Le h'):=by
 have ab:=hgs.len;have ac:=hms.len;have ad:=hcs.len;refine AK func108 Z (Nb Z) (Sq (Rg (Pl Z (An (v:=.agg #[J d,J m,gsv,msv,csv]) (c:=#[J d,J m,gsv,msv,csv]) Z Z fun _ _ _ aa af _=>As (.bool false) Z Z (Nl (Sq (Rg (Mv (J n) Z Z (Fa Ay Z Z (Fa A7 Z Z (Ld msv Z Z (Rd.one Bn af Z) (Pl Z (AY DG (hms.le aa) Z (Pl Z (BL (a:=(ms.length:Int)) (b:=1) Z Z (by omega) (Pl Z (Ap func79 B7 Z Z Z ((BW n 0 ((ms.length:Int)-1) ).mono fun _ _ ae=>?_))))))))))))))))));obtain ⟨rfl,rfl⟩:=ae;exact As (.bool (decide (0≤n∧n≤((ms.length:Int)-1)))) Z Z (Nl (Rt (⟨.inr Z,Ae Z (v:=.bool (decide (0≤n∧n≤((ms.length:Int)-1)))) Z (⟨(by rfl),aa⟩)⟩)))
theorem MS {W:Wk prog} {h:GH} (p:AV) (i:Int) (hi0:0≤i) (hi1:i<6):Ac W 83 #[.agg (Am p),J i] h (fun v h'=>v=(J (CQ p ((i).toNat)):Value)∧h.Le h'):=by
 refine AK func83 Z (Nb Z) (Sq (Rg (Pl Z (An (v:=.agg (Am p)) (c:=Am p) Z Z fun _ _ _ aa ad _=>As (J 0) Z Z (Nl (Sq (Sq (Rg (Mv (J i) Z Z (Fa Ei Z Z ?_))))))))));have ae:(0:Int)≤i:=by omega
 have af:i<((6:Nat):Int):=by omega
 refine Pl Z (C9 Gz Z Z ae af (Ld (.bool (p.lies (i.toNat))) Z Z (Rd.one Hw ad (KW (i:=i.toNat) (by omega))) (Nl (C8 (t:=p.lies (i.toNat)) Z (fun ag=>?_) (fun ag=>?_)))))
 ·exact Sq (Rg (As (J 0) Z Z (Nl (Rt (⟨.inr Z,Ae Z (v:=J 0) Z (⟨(by simp_all [CQ]),aa⟩)⟩)))))
 ·refine Sk (Sq (Rg (Mv (J i) Z Z (Fa JZ Z Z ?_))));have ab:(0:Int)≤i:=by omega
  have ac:i<((6:Nat):Int):=by omega
  exact Pl Z (C9 ML Z Z ab ac (Ld (J (p.many (i.toNat))) Z Z (Rd.one AM ad (Um (i:=i.toNat) (by omega))) (As (J (p.many (i.toNat))) Z Z (Nl (Rt (⟨.inr Z,Ae Z (v:=J (p.many (i.toNat))) Z (⟨(by simp_all [CQ]),aa⟩)⟩))))))
theorem Wa {W:Wk prog} {h:GH} (p:AV):Ac W 101 #[.agg (Am p)] h (fun v h'=>v=(J (Av p 6:Int):Value)∧h.Le h'):=by
 refine AK func101 Z (Nb Z) (Sq (Rg (Pl Z (An (v:=.agg (Am p)) (c:=Am p) Z Z fun _ h2 _ ab al _=>As (J 0) Z Z (Nl (Sq (Rg (As (J 0) Z Z (Nl (Sq (Sq (Rg (Fa Ei Z Z (Ld (.agg #[.bool (p.lies 0),.bool (p.lies 1),.bool (p.lies 2),.bool (p.lies 3),.bool (p.lies 4),.bool (p.lies 5)]) Z Z (GU (o:=9) (ws:=#[.bool (p.lies 0),.bool (p.lies 1),.bool (p.lies 2),.bool (p.lies 3),.bool (p.lies 4),.bool (p.lies 5)]) AAn (Bx al Z) (Nb Z) Z) (Mv (J 0) Z Z (Nl (Bk (Ak (fun nn σ' ds' h'=>∃(k:Nat),nn=6-k∧(k≤6)∧ds'=[]∧GH.Le h2 h'∧σ' 2=J 0∧σ' 7=.agg #[.bool (p.lies 0),.bool (p.lies 1),.bool (p.lies 2),.bool (p.lies 3),.bool (p.lies 4),.bool (p.lies 5)]∧σ' 3=J (Av p k:Int)∧σ' 8=J k) ⟨0,Z,(by omega),Z,Lr,Z,Z,Z,Z⟩ (fun nn _ _ _ ac=>?_)))))))))))))))))));obtain ⟨k,rfl,hk,am,ad,ak,ae,af,aa⟩:=ac;subst am;have hly:=Nt p k;refine Sq (Rg (Pl Z (Ax (a:=(k:Int)) (b:=6) aa Z (Nl (Sq (AX (p:=(k:Int)<6) Z (fun ag=>?_) (fun ag=>?_)))))))
 ·refine Sk (Sq (Bk (Sq (Rg ?_))));have ah:(0:Int)≤(k:Int):=by omega
  have ai:(k:Int)<((6:Nat):Int):=by omega
  refine Pl Z (Pw Yb ae aa ah ai (S6 (by omega)) (As (.bool (p.lies k)) Z Z (Nl (Sq (Rg (Mv (.bool (p.lies k)) Z Z (Nl (C8 (t:=p.lies k) Z (fun aj=>?_) (fun aj=>?_)))))))))
  ·exact Rg (Mv (J (Av p k:Int)) Z af (Ad (Av p k:Int) 1 Z Z Z (by omega) (As (J ((Av p k:Int)+1)) Z Z (Nl (Rg (Ad (k:Int) 1 Z aa Z (by omega) (Mv (J ((k:Int)+1)) Z Z (Nl (⟨_,by omega,k+1,Z,(by omega),Z,ad,ak,ae,(Et (b:=(J ((Av p k:Int)+1):Value)) Z (by congr 1;simp_all [Av])),Z⟩)))))))))
  ·exact Sk (Rg (Ad (k:Int) 1 Z aa Z (by omega) (Mv (J ((k:Int)+1)) Z Z (Nl (⟨_,by omega,k+1,Z,(by omega),Z,ad,ak,ae,(Et (b:=(J (Av p k:Int):Value)) af (by congr 1;simp_all [Av])),Z⟩)))))
 ·exact Xt (Sq (Rg (Mv (J (Av p k:Int)) Z af (As (J (Av p k:Int)) Z Z (Nl (Rt (⟨.inr Z,Ae Z (v:=J (Av p k:Int)) Z (⟨(by obtain rfl:k=6:=(by omega);rfl),(ab.trans ad)⟩)⟩)))))))
theorem KM {W:Wk prog} {h:GH} (a:List Int) (av:Value) (b:List Int) (bv:Value) (ha:AJ h av 1 eI a) (hb:AJ h bv 1 eI b):Ac W 22 #[av,bv] h (fun v h'=>v=(.bool (decide (a=b)):Value)∧h.Le h'):=by
 have ad:=ha.len;have ae:=hb.len;refine AK func22 Z (Nb Z) (Sq (Rg (As (.bool false) Z Z (Nl (Sq (Sq (Rg (Mv av Z Z (Pl Z (AY CN ha Z (Mv bv Z Z (Pl Z (AY CN hb Z (Pl Z (BE (a:=(a.length:Int)) (b:=(b.length:Int)) Z Z (Nl (AX (p:=¬(a.length:Int)=(b.length:Int)) Z (fun ar=>?_) (fun ar=>?_))))))))))))))))))
 ·exact Sq (Rg (As (.bool false) Z Z (Nl (Rt (⟨.inr Z,Ae Z (v:=.bool false) Z (⟨(by (rw [decide_eq_false (ne_len (by omega))];done)),Lr⟩)⟩)))))
 ·refine Sk (Sq (Sq (Rg (As (J 0) Z Z (Nl (Bk (Ak (fun nn σ' ds' h'=>∃(k:Nat),nn=a.length-k∧(k≤a.length)∧(a.take k=b.take k)∧ds'=[]∧GH.Le h h'∧σ' 0=av∧σ' 1=bv∧σ' 5=J k) ⟨0,Z,(by omega),(by rfl),Z,Lr,Z,Z,Z⟩ (fun nn _ _ _ au=>?_))))))));obtain ⟨k,rfl,hk,hs,x8,x9,af,aq,ac⟩:=au;subst x8;refine Sq (Sq (Rg (Mv (J k) Z ac (Mv av Z af (Pl Z (AY CN (ha.le x9) Z (Pl Z (Ax (a:=(k:Int)) (b:=(a.length:Int)) Z Z (Nl (AX (p:=(k:Int)<(a.length:Int)) Z (fun ag=>?_) (fun ag=>?_)))))))))))
  ·refine Sk (Sq (Bk (Sq (BG 8 false [1,6,10,16,21,26,30,36] Af (by kernel_rfl) (tR Z Z (AA (v:=av) af vz) (tR Z Z (AA (v:=J k) ac vz) ?_))))));have ah:(0:Int)≤(k:Int):=by omega
   have ai:(k:Int)<((a.length:Nat):Int):=by omega
   refine tI Z Z AS ha Z Z ah ai fun aw aa aj=>have ak:Ab _ aw aa 1 (eI (a.getD k 0)):=Ab.getD 0 aj;tR Z Z (AE (v:=J (a.getD k 0)) Z (BX AM (ak.le x9) Z) vz) (tR Z Z (AA (v:=bv) aq vz) (tR Z Z (AA (v:=J k) ac vz) ?_));have al:(0:Int)≤(k:Int):=by omega
   have am:(k:Int)<((b.length:Nat):Int):=by omega
   refine tI Z Z AS hb Z Z al am fun ax ab an=>have ao:Ab _ ax ab 1 (eI (b.getD k 0)):=Ab.getD 0 an;tR Z Z (AE (v:=J (b.getD k 0)) Z (BX AM (ao.le x9) Z) vz) (tN (Pl Z (BE (a:=a.getD k 0) (b:=b.getD k 0) Z Z (Nl (AX (p:=¬(a.getD k 0)=(b.getD k 0)) Z (fun ap=>?_) (fun ap=>?_))))))
   ·exact Sq (Rg (As (.bool false) Z Z (Nl (Rt (⟨.inr Z,Ae Z (v:=.bool false) Z (⟨(by (rw [decide_eq_false (ne_getD (k:=k) (d:=0) ‹_›)])),x9⟩)⟩)))))
   ·exact Sk (Rg (Mv (J k) Z ac (Ad (k:Int) 1 Z Z Z (by omega) (As (J ((k:Int)+1)) Z Z (Nl (⟨_,by omega,k+1,Z,(by omega),(by exact Nu 0 hs (by omega) (by omega) (by simp_all)),Z,x9,af,aq,Z⟩))))))
  ·exact Xt (Sq (Rg (As (.bool true) Z Z (Nl (Rt (⟨.inr Z,Ae Z (v:=.bool true) Z (⟨(by (rw [decide_eq_true (Ri hs hk ‹_› (by omega))];done)),x9⟩)⟩))))))
theorem AAt {W:Wk prog} {h:GH} (a:List Int) (av:Value) (n:Int) (ha:AJ h av 1 eI a):Ac W 42 #[av,J n] h (fun v h'=>v=(.bool (decide (n ∈ a)):Value)∧h.Le h'):=by
 have ab:=ha.len;refine AK func42 Z (Nb Z) (Sq (Rg (As (.bool false) Z Z (Nl (Sq (Sq (Rg (As (J 0) Z Z (Nl (Bk (Ak (fun nn σ' ds' h'=>∃(k:Nat),nn=a.length-k∧(k≤a.length)∧(¬n ∈ a.take k)∧ds'=[]∧GH.Le h h'∧σ' 0=av∧σ' 1=J n∧σ' 5=J k) ⟨0,Z,(by omega),(by simp),Z,Lr,Z,Z,Z⟩ (fun nn _ _ _ aj=>?_))))))))))));obtain ⟨k,rfl,hk,hs,x6,x7,x8,x9,ac⟩:=aj;subst x6;refine Sq (Sq (Rg (Mv (J k) Z ac (Mv av Z x8 (Pl Z (AY CN (ha.le x7) Z (Pl Z (Ax (a:=(k:Int)) (b:=(a.length:Int)) Z Z (Nl (AX (p:=(k:Int)<(a.length:Int)) Z (fun ad=>?_) (fun ad=>?_)))))))))))
 ·refine Sk (Sq (Bk (Sq (Rg (Mv av Z x8 (Mv (J k) Z ac ?_))))));have ae:(0:Int)≤(k:Int):=by omega
  have af:(k:Int)<((a.length:Nat):Int):=by omega
  refine Pl Z (At AS ha Z Z ae af fun ak aa ag=>have ah:Ab _ ak aa 1 (eI (a.getD k 0)):=Ab.getD 0 ag;Ld (Lp a k) Z Z (BX AM (ah.le x7) Z) (Mv (J n) Z x9 (Pl Z (CG (a:=a.getD k 0) (b:=n) Z Z (Nl (AX (p:=(a.getD k 0)=n) Z (fun ai=>?_) (fun ai=>?_)))))))
  ·exact Sq (Rg (As (.bool true) Z Z (Nl (Rt (⟨.inr Z,Ae Z (v:=.bool true) Z (⟨(by (rw [decide_eq_true (has_hit (k:=k) ‹_› ‹_›)];done)),x7⟩)⟩)))))
  ·exact Sk (Rg (Mv (J k) Z ac (Ad (k:Int) 1 Z Z Z (by omega) (As (J ((k:Int)+1)) Z Z (Nl (⟨_,by omega,k+1,Z,(by omega),(by exact Zx ‹_› hs ‹_›),Z,x7,x8,x9,Z⟩))))))
 ·exact Xt (Sq (Rg (As (.bool false) Z Z (Nl (Rt (⟨.inr Z,Ae Z (v:=.bool false) Z (⟨(by (rw [decide_eq_false (has_end (k:=k) ‹_› hs)])),x7⟩)⟩))))))
theorem Ey {W:Wk prog} {h:GH} (n:Int) (lo:Int) (hi:Int):Ac W 59 #[J n,J lo,J hi] h (fun v h'=>v=(.bool (decide (lo≤n∧n≤hi)):Value)∧h=h'):=by
 refine AK func59 Z (Nb Z) (Sq (Rg (As (.bool false) Z Z (Nl (A9 (fun σ' ds' h'=>ds'=[]∧h=h'∧σ' 6=.bool (Q1l lo n hi)) ?_ ?_)))))
 ·refine Rg (Mv (J n) Z Z (Mv (J lo) Z Z (Pl Z (C0 (a:=n) (b:=lo) Z Z (Mv (Qy lo n) Z Z (BN (p:=lo≤n) ?_ ?_))))))
  ·intro aa;exact Gg 3 10 (AD Z aa) Z (AA (v:=J n) Z (Gg 3 10 (AD Z aa) Z (AA (v:=J hi) Z (Gg 3 10 (AD Z aa) Z (DS (a:=n) (b:=hi) Z Z (Pk true (Qy n hi) Z (AD Z aa) Z (As (Qy n hi) Z Z (Nl (⟨Z,Z,Et (b:=(.bool (decide (n≤hi)):Value)) Z (congrArg Value.bool (by (simp [aa];done):decide (n≤hi)=(Q1l lo n hi)))⟩)))))))))
  ·intro aa;exact Gs 3 10 (AC Z aa) Z (Gs 3 10 (AC Z aa) Z (Gs 3 10 (AC Z aa) Z (Pk false (.bool false) Z (AC Z aa) Z (As (.bool false) Z Z (Nl (⟨Z,Z,Et (b:=(.bool false:Value)) Z (congrArg Value.bool (by (simp [aa];done):false=(Q1l lo n hi)))⟩))))))
 ·rintro _ _ _ ⟨ac,ab,ad⟩;subst ac;subst ab;exact Rt (⟨.inr Z,Ae Z (v:=.bool (Q1l lo n hi)) ad (⟨(by rfl),Z⟩)⟩)
theorem Mz {W:Wk prog} {h:GH} (xl:Int) (xh:Int) (lo:Int) (hi:Int):Ac W 65 #[.agg #[J xl,J xh],J lo,J hi] h (fun v h'=>v=(.bool (decide ((lo≤xl∧xl≤xh)∧xh≤hi)):Value)∧h.Le h'):=by
 refine AK func65 Z (Nb Z) (Sq (Rg (Pl Z (An (v:=.agg #[J xl,J xh]) (c:=#[J xl,J xh]) Z Z fun _ h2 _ ae ad _=>As (.bool false) Z Z (Nl (A9 (fun σ' ds' h'=>ds'=[]∧h2=h'∧σ' 6=.bool (Qx lo xl xh hi)) ?_ ?_))))))
 ·refine Rg (Fa Ct Z Z (Ld (J xl) Z Z (Rd.one AM ad Z) (Mv (J lo) Z Z (Pl Z (C0 (a:=xl) (b:=lo) Z Z (Mv (Qy lo xl) Z Z (BN (p:=lo≤xl) ?_ ?_)))))))
  ·intro aa;refine Gg 4 11 (AD Z aa) Z (AL Cu Z (Gg 4 11 (AD Z aa) Z (AE (v:=J xh) Z (Rd.one AM ad Z) (Gg 4 11 (AD Z aa) Z (AL Ct Z (Gg 4 11 (AD Z aa) Z (AE (v:=J xl) Z (Rd.one AM ad Z) (Gg 4 11 (AD Z aa) Z (C0 (a:=xh) (b:=xl) Z Z (Pk true (Qy xl xh) Z (AD Z aa) Z (Mv (Qy xl xh) Z Z (BN (p:=xl≤xh) ?_ ?_))))))))))))
   ·intro ab;exact Gg 11 18 (AD Z ab) Z (AL Cu Z (Gg 11 18 (AD Z ab) Z (AE (v:=J xh) Z (Rd.one AM ad Z) (Gg 11 18 (AD Z ab) Z (AA (v:=J hi) Z (Gg 11 18 (AD Z ab) Z (DS (a:=xh) (b:=hi) Z Z (Pk true (Qy xh hi) Z (AD Z ab) Z (As (Qy xh hi) Z Z (Nl (⟨Z,Z,Et (b:=(.bool (decide (xh≤hi)):Value)) Z (congrArg Value.bool (by (simp [aa,ab];done):decide (xh≤hi)=(Qx lo xl xh hi)))⟩)))))))))))
   ·intro ab;exact Gs 11 18 (AC Z ab) Z (Gs 11 18 (AC Z ab) Z (Gs 11 18 (AC Z ab) Z (Gs 11 18 (AC Z ab) Z (Pk false (.bool false) Z (AC Z ab) Z (As (.bool false) Z Z (Nl (⟨Z,Z,Et (b:=(.bool false:Value)) Z (congrArg Value.bool (by (simp [aa,ab];done):false=(Qx lo xl xh hi)))⟩)))))))
  ·intro aa;exact Gs 4 11 (AC Z aa) Z (Gs 4 11 (AC Z aa) Z (Gs 4 11 (AC Z aa) Z (Gs 4 11 (AC Z aa) Z (Gs 4 11 (AC Z aa) Z (Pk false (.bool false) Z (AC Z aa) Z (Mv (.bool false) Z Z (Gs 11 18 Z Z (Gs 11 18 Z Z (Gs 11 18 Z Z (Gs 11 18 Z Z (Pk false (.bool false) Z Z Z (As (.bool false) Z Z (Nl (⟨Z,Z,Et (b:=(.bool false:Value)) Z (congrArg Value.bool (by (simp [aa];done):false=(Qx lo xl xh hi)))⟩))))))))))))))
 ·rintro _ _ _ ⟨af,ac,ag⟩;subst af;subst ac;exact Rt (⟨.inr Z,Ae Z (v:=.bool (Qx lo xl xh hi)) ag (⟨(by rfl),ae⟩)⟩)
theorem Oy {W:Wk prog} {h:GH} (xl:Int) (xh:Int):Ac W 143 #[.agg #[J xl,J xh]] h (fun v h'=>v=(.bool (decide (E2 xl xh)):Value)∧h.Le h'):=by
 refine AK func143 Z (Nb Z) (Sq (Rg (Pl Z (An (v:=.agg #[J xl,J xh]) (c:=#[J xl,J xh]) Z Z fun _ h2 _ ae ah _=>As (.bool false) Z Z (Nl (A9 (fun σ' ds' h'=>ds'=[]∧GH.Le h2 h'∧σ' 2=.bool (Qp xl xh)) ?_ ?_))))))
 ·refine Rg (Ld (.agg #[J xl,J xh]) Z Z (AN A1 (Bx ah Z)) (Pl Z (Ap func65 QY Z Z Z ((Mz xl xh 0 99 ).mono fun _ _ ai=>?_))));obtain ⟨rfl,ab⟩:=ai;refine Mv (.bool (decide ((0≤xl∧xl≤xh)∧xh≤99))) Z Z (BN (p:=(0≤xl∧xl≤xh)∧xh≤99) ?_ ?_)
  ·intro aa;exact Gg 2 5 (AD Z aa) Z (AL Cu Z (have ac:=ab.keep ah Z;Gg 2 5 (AD Z aa) Z (AE (v:=J xh) Z (Rd.one AM ac Z) (Gg 2 5 (AD Z aa) Z (AL Ct Z (Gg 2 5 (AD Z aa) Z (AE (v:=J xl) Z (Rd.one AM ac Z) (Gg 2 5 (AD Z aa) Z (BL (a:=xh) (b:=xl) Z Z (by omega) (Gg 2 5 (AD Z aa) Z (Ax (a:=xh-xl) (b:=3) Z Z (Pk true (.bool (decide ((xh-xl)<3))) Z (AD Z aa) Z (As (.bool (decide ((xh-xl)<3))) Z Z (Nl (⟨Z,ab,Et (b:=(.bool (decide ((xh-xl)<3)):Value)) Z (congrArg Value.bool (by (simp [aa];done):decide ((xh-xl)<3)=(Qp xl xh)))⟩)))))))))))))))
  ·intro aa;exact Gs 2 5 (AC Z aa) Z (Gs 2 5 (AC Z aa) Z (Gs 2 5 (AC Z aa) Z (Gs 2 5 (AC Z aa) Z (Gs 2 5 (AC Z aa) Z (Gs 2 5 (AC Z aa) Z (Pk false (.bool false) Z (AC Z aa) Z (As (.bool false) Z Z (Nl (⟨Z,ab,Et (b:=(.bool false:Value)) Z (congrArg Value.bool (by (simp [aa];done):false=(Qp xl xh)))⟩)))))))))
 ·rintro _ _ _ ⟨af,ad,ag⟩;subst af;exact Rt (⟨.inr Z,Ae Z (v:=.bool (Qp xl xh)) ag (⟨(by rfl),(ae.trans ad)⟩)⟩)
theorem T7 {W:Wk prog} {h:GH} (c:Int):Ac W 156 #[.int .u8 c] h (fun v h'=>v=(.bool (decide (E7 c)):Value)∧h=h'):=by
 refine AK func156 Z (Nb Z) (Sq (Rg (As (.bool false) Z Z (Nl (A9 (fun σ' ds' h'=>ds'=[]∧h=h'∧σ' 2=.bool (Q1u c)) ?_ ?_)))))
 ·refine Rg (Mv (.int .u8 c) Z Z (Pl Z (C0 (a:=c) (b:=97) Z Z (Mv (.bool (decide (97≤c))) Z Z (BN (p:=97≤c) ?_ ?_)))))
  ·intro aa;exact Gg 2 5 (AD Z aa) Z (AA (v:=.int .u8 c) Z (Gg 2 5 (AD Z aa) Z (DS (a:=c) (b:=122) Z Z (Pk true (.bool (decide (c≤122))) Z (AD Z aa) Z (As (.bool (decide (c≤122))) Z Z (Nl (⟨Z,Z,Et (b:=(.bool (decide (c≤122)):Value)) Z (congrArg Value.bool (by (simp [aa];done):decide (c≤122)=(Q1u c)))⟩)))))))
  ·intro aa;exact Gs 2 5 (AC Z aa) Z (Gs 2 5 (AC Z aa) Z (Pk false (.bool false) Z (AC Z aa) Z (As (.bool false) Z Z (Nl (⟨Z,Z,Et (b:=(.bool false:Value)) Z (congrArg Value.bool (by (simp [aa];done):false=(Q1u c)))⟩)))))
 ·rintro _ _ _ ⟨ac,ab,ad⟩;subst ac;subst ab;exact Rt (⟨.inr Z,Ae Z (v:=.bool (Q1u c)) ad (⟨(by rfl),Z⟩)⟩)
theorem Wb {W:Wk prog} {h:GH} (c:Int):Ac W 157 #[.int .u8 c] h (fun v h'=>v=(.bool (decide (FF c)):Value)∧h=h'):=by
 refine AK func157 Z (Nb Z) (Sq (Rg (As (.bool false) Z Z (Nl (A9 (fun σ' ds' h'=>ds'=[]∧h=h'∧σ' 2=.bool (Q1w c)) ?_ ?_)))))
 ·refine Rg (Mv (.int .u8 c) Z Z (Pl Z (C0 (a:=c) (b:=48) Z Z (Mv (.bool (decide (48≤c))) Z Z (BN (p:=48≤c) ?_ ?_)))))
  ·intro aa;exact Gg 2 5 (AD Z aa) Z (AA (v:=.int .u8 c) Z (Gg 2 5 (AD Z aa) Z (DS (a:=c) (b:=57) Z Z (Pk true (.bool (decide (c≤57))) Z (AD Z aa) Z (As (.bool (decide (c≤57))) Z Z (Nl (⟨Z,Z,Et (b:=(.bool (decide (c≤57)):Value)) Z (congrArg Value.bool (by (simp [aa];done):decide (c≤57)=(Q1w c)))⟩)))))))
  ·intro aa;exact Gs 2 5 (AC Z aa) Z (Gs 2 5 (AC Z aa) Z (Pk false (.bool false) Z (AC Z aa) Z (As (.bool false) Z Z (Nl (⟨Z,Z,Et (b:=(.bool false:Value)) Z (congrArg Value.bool (by (simp [aa];done):false=(Q1w c)))⟩)))))
 ·rintro _ _ _ ⟨ac,ab,ad⟩;subst ac;subst ab;exact Rt (⟨.inr Z,Ae Z (v:=.bool (Q1w c)) ad (⟨(by rfl),Z⟩)⟩)
theorem Fp {W:Wk prog} {h:GH} (a:Int) (b:Int):Ac W 60 #[J a,J b] h (fun v h'=>v=(.agg #[J a,J b]:Value)∧h.Le h'):=by
 exact AK func60 Z (Nb Z) (Sq (Rg (Pl Z (Ai BU fun _ _ ab aa ac _=>Nl (Sq (Rg (Mv (J a) Z Z (Mv (J b) Z Z (Pl Z (A4 (cells:=#[J a,J b]) Ew BU (by kernel_rfl) (Pl Z (AI (v:=.agg #[J a,J b]) (c':=#[J a,J b]) A1 Z Z ac Z Z (by simp) Z fun _ ad ae=>Nl (Rt (⟨.inr Z,KR Z (v:=.agg #[J a,J b]) Z (AN A1 (Bx ad Z)) (⟨Z,(aa.upd (Ln Lr ab) ae)⟩)⟩))))))))))))))
theorem Hn {W:Wk prog} {h:GH} (d:Int) (m:Int) (gs:List Good) (gsv:Value) (ms:List AB) (msv:Value) (cs:List AF) (csv:Value) (n:Int) (hgs:AJ h gsv 5 BJ gs) (hms:AJ h msv 5 BD ms) (hcs:AJ h csv 4 A2 cs):Ac W 110 #[.agg #[J d,J m,gsv,msv,csv],J n] h (fun v h'=>v=(.bool (decide ((0≤n∧n≤(ms.length:Int)-1)∧(ms.getD (n).toNat AB.z).kind=0)):Value)∧h.Le h'):=by
 have af:=hgs.len;have ag:=hms.len;have ah:=hcs.len;refine AK func110 Z (Nb Z) (Sq (Rg (Pl Z (An (v:=.agg #[J d,J m,gsv,msv,csv]) (c:=#[J d,J m,gsv,msv,csv]) Z Z fun _ h5 _ ac ap _=>As (.bool false) Z Z (Nl (A9 (fun σ' ds' h'=>ds'=[]∧GH.Le h5 h'∧σ' 4=.bool (decide ((0≤n∧n≤(ms.length:Int)-1)∧(((ms.getD (n.toNat) AB.z).kind)=0)))) ?_ ?_))))))
 ·refine Rg (Ld (.agg #[J d,J m,gsv,msv,csv]) Z Z (AN Bv (Bx ap Z)) (Mv (J n) Z Z (Pl Z (AZ func108 Oc Z Z ((My d m gs gsv ms msv cs csv n (hgs.le ac) (hms.le ac) (hcs.le ac) ).mono fun _ _ ai=>?_)))));obtain ⟨rfl,ab⟩:=ai;refine Mv (.bool (decide (0≤n∧n≤(ms.length:Int)-1))) Z Z (BN (p:=0≤n∧n≤(ms.length:Int)-1) ?_ ?_)
  ·intro aa;refine Gg 3 8 (AD Z aa) Z (AL Ay Z (Gg 3 8 (AD Z aa) Z (AL A7 Z (Gg 3 8 (AD Z aa) Z (AE (v:=msv) Z (Rd.one Bn (ab.keep ap Z) Z) (Gg 3 8 (AD Z aa) Z (AA (v:=J n) Z ?_)))))));have aj:(0:Int)≤n:=by omega
   have ak:n<((ms.length:Nat):Int):=by omega
   exact Gg 3 8 (AD Z aa) Z (At Cr hms Z Z aj ak fun aq ad al=>have am:Ab _ aq ad 5 (BD (ms.getD (n.toNat) AB.z)):=Ab.getD AB.z al;Gg 3 8 (AD Z aa) Z (AL EO Z (Gg 3 8 (AD Z aa) Z (AE (v:=J ((ms.getD (n.toNat) AB.z).kind)) Z (BX Gp (am.le (ac.trans ab)) Z) (Gg 3 8 (AD Z aa) Z (CG (a:=(ms.getD (n.toNat) AB.z).kind) (b:=0) Z Z (Pk true (.bool (decide (((ms.getD (n.toNat) AB.z).kind)=0))) Z (AD Z aa) Z (As (.bool (decide (((ms.getD (n.toNat) AB.z).kind)=0))) Z Z (Nl (⟨Z,ab,Et (b:=(.bool (decide (((ms.getD (n.toNat) AB.z).kind)=0)):Value)) Z (congrArg Value.bool (by (simp [aa];done):decide (((ms.getD (n.toNat) AB.z).kind)=0)=(decide ((0≤n∧n≤(ms.length:Int)-1)∧(((ms.getD (n.toNat) AB.z).kind)=0)))))⟩))))))))))
  ·intro aa;exact Gs 3 8 (AC Z aa) Z (Gs 3 8 (AC Z aa) Z (Gs 3 8 (AC Z aa) Z (Gs 3 8 (AC Z aa) Z (Gs 3 8 (AC Z aa) Z (Gs 3 8 (AC Z aa) Z (Gs 3 8 (AC Z aa) Z (Gs 3 8 (AC Z aa) Z (Pk false (.bool false) Z (AC Z aa) Z (As (.bool false) Z Z (Nl (⟨Z,ab,Et (b:=(.bool false:Value)) Z (congrArg Value.bool (by (simp [aa];done):false=(decide ((0≤n∧n≤(ms.length:Int)-1)∧(((ms.getD (n.toNat) AB.z).kind)=0)))))⟩)))))))))))
 ·rintro _ _ _ ⟨an,ae,ao⟩;subst an;exact Rt (⟨.inr Z,Ae Z (v:=.bool (decide ((0≤n∧n≤(ms.length:Int)-1)∧(((ms.getD (n.toNat) AB.z).kind)=0)))) ao (⟨(by rfl),(ac.trans ae)⟩)⟩)
theorem ZB {W:Wk prog} {h:GH} (d:Int) (m:Int) (gs:List Good) (gsv:Value) (ms:List AB) (msv:Value) (cs:List AF) (csv:Value) (hgs:AJ h gsv 5 BJ gs) (hms:AJ h msv 5 BD ms) (hcs:AJ h csv 4 A2 cs):Ac W 194 #[.agg #[J d,J m,gsv,msv,csv]] h (fun v h'=>v=(J (E8 d m):Value)∧h.Le h'):=by
 have ad:=hgs.len;have ae:=hms.len;have af:=hcs.len;refine AK func194 Z (Nb Z) (Sq (Rg (Pl Z (An (v:=.agg #[J d,J m,gsv,msv,csv]) (c:=#[J d,J m,gsv,msv,csv]) Z Z fun _ h5 _ ab al _=>As (J 0) Z Z (Nl (Sq (A9 (fun σ' ds' h'=>ds'=[]∧h5=h'∧σ' 2=J 0∧σ' 14=.bool (Qz d m)) ?_ ?_)))))))
 ·refine Rg (Fa Ay Z Z (Fa CF Z Z (Ld (J d) Z Z (Rd.one AM al Z) (Pl Z (Ap func79 B7 Z Z Z ((BW d 1 99 ).mono fun _ _ ag=>?_))))));obtain ⟨rfl,rfl⟩:=ag;refine Pl Z (BM (p:=1≤d∧d≤99) Z (Mv (.bool (decide (¬(1≤d∧d≤99)))) Z Z (BN (p:=¬(1≤d∧d≤99)) ?_ ?_)))
  ·intro aa;exact Gs 5 8 (AD Z aa) Z (Gs 5 8 (AD Z aa) Z (Gs 5 8 (AD Z aa) Z (Gs 5 8 (AD Z aa) Z (Gs 5 8 (AD Z aa) Z (Pk true (.bool true) Z (AD Z aa) Z (Nl (⟨Z,Z,Z,Et (b:=(.bool true:Value)) Z (congrArg Value.bool (by (simp [aa];done):true=(Qz d m)))⟩)))))))
  ·intro aa;refine Gg 5 8 (AC Z aa) Z (AL Ay Z (Gg 5 8 (AC Z aa) Z (AL F2 Z (Gg 5 8 (AC Z aa) Z (AE (v:=J m) Z (Rd.one AM al Z) (Gg 5 8 (AC Z aa) Z (Ap func79 B7 Z Z Z ((BW m 0 2 ).mono fun _ _ ah=>?_))))))));obtain ⟨rfl,rfl⟩:=ah;exact Gg 5 8 (AC Z aa) Z (BM (p:=0≤m∧m≤2) Z (Pk false (.bool (Q4g m)) Z (AC Z aa) Z (Nl (⟨Z,Z,Z,Et (b:=(.bool (Q4g m):Value)) Z (congrArg Value.bool (by (simp [aa];done):decide (¬(0≤m∧m≤2))=(Qz d m)))⟩))))
 ·rintro _ _ _ ⟨ai,ac,am,aj⟩;subst ai;subst ac;refine AX (p:=(¬(1≤d∧d≤99))∨(¬(0≤m∧m≤2))) aj (fun ak=>?_) (fun ak=>?_)
  ·exact Sq (Rg (As (J 1) Z Z (Nl (Rt (⟨.inr Z,Ae Z (v:=J 1) Z (⟨(by simp_all [E8]),ab⟩)⟩)))))
  ·exact Sk (Sq (Rg (As (J 0) Z Z (Nl (Rt (⟨.inr Z,Ae Z (v:=J 0) Z (⟨(by simp_all [E8]),ab⟩)⟩))))))
theorem Pg {W:Wk prog} {h:GH} (xs:List Int) (xsv:Value) (fv:Value) (p:Int→Bool) (hxs:AJ h xsv 1 eI xs) (hf:∀x ∈ xs,∀h1,h.Le h1→Cg W fv #[J x] h1 fun v h2=>v=.bool (p x)∧h1.Le h2):Ac W 139 #[xsv,fv] h (fun v h'=>v=(J (idxOf p xs):Value)∧h.Le h'):=by
 have ac:=hxs.len;refine AK func139 Z (Nb Z) (Sq (Rg (As (J 0) Z Z (Nl (Sq (Sq (Rg (Mv xsv Z Z (Pl Z (AY CN hxs Z (Mv (J 0) Z Z (Nl (Bk (Ak (fun nn σ' ds' h'=>∃(k:Nat),nn=xs.length-k∧(k≤xs.length)∧((xs.take k).any p=false)∧ds'=[]∧GH.Le h h'∧σ' 0=xsv∧σ' 1=fv∧σ' 7=J (xs.length:Int)∧σ' 8=J k) ⟨0,Z,(by omega),(by simp),Z,Lr,Z,Z,Z,Z⟩ (fun nn _ _ _ am=>?_)))))))))))))));obtain ⟨k,rfl,hk,hs,x6,x7,x8,x9,al,ad⟩:=am;subst x6;refine Sq (Rg (Pl Z (Ax (a:=(k:Int)) (b:=(xs.length:Int)) ad al (Nl (Sq (AX (p:=(k:Int)<(xs.length:Int)) Z (fun ae=>?_) (fun ae=>?_)))))))
 ·refine Sk (Sq (Bk (Sq (Rg (Mv (J k) Z ad (As (J k) Z Z (Nl (Sq (Rg (Mv fv Z x9 (Mv xsv Z x8 (Mv (J k) Z Z ?_))))))))))));have af:(0:Int)≤(k:Int):=by omega
  have ag:(k:Int)<((xs.length:Nat):Int):=by omega
  refine Pl Z (At AS hxs Z Z af ag fun an ab ah=>have ai:Ab _ an ab 1 (eI (xs.getD k 0)):=Ab.getD 0 ah;Ld (Lp xs k) Z Z (BX AM (ai.le x7) Z) (Pl Z (IY Z (vs:=#[J (xs.getD k 0)]) (by simp only [List.map_toArray,List.map_cons,List.map_nil,AU] <;> rfl) ((hf (xs.getD k 0) (CR (by omega)) _ x7).mono fun _ _ aj=>?_))));obtain ⟨rfl,aa⟩:=aj;refine Nl (C8 (t:=p (xs.getD k 0)) Z (fun ak=>?_) (fun ak=>?_))
  ·exact Sq (Rg (Mv (J k) Z Z (As (J k) Z Z (Nl (Rt (⟨.inr Z,Ae Z (v:=J k) Z (⟨(by (rw [L7 (k:=k) (by omega) hs ‹_›];done)),(x7.trans aa)⟩)⟩))))))
  ·exact Sk (Rg (Ad (k:Int) 1 Z ad Z (by omega) (Mv (J ((k:Int)+1)) Z Z (Nl (⟨_,by omega,k+1,Z,(by omega),(by exact LK (d:=0) (by omega) hs ‹_›),Z,(x7.trans aa),x8,x9,al,Z⟩)))))
 ·exact Xt (Sq (Rg (As (J (-1)) Z Z (Nl (Rt (⟨.inr Z,Ae Z (v:=J (-1)) Z (⟨(by (rw [KX (k:=k) (by omega) hs])),x7⟩)⟩))))))
theorem IM {W:Wk prog} {h:GH} (xs:List Int) (xsv:Value) (fv:Value) (p:Int→Bool) (hxs:AJ h xsv 1 eI xs) (hf:∀x ∈ xs,∀h1,h.Le h1→Cg W fv #[J x] h1 fun v h2=>v=.bool (p x)∧h1.Le h2):Ac W 92 #[xsv,fv] h (fun v h'=>v=(.bool (xs.any p):Value)∧h.Le h'):=by
 have aa:=hxs.len;refine AK func92 Z (Nb Z) (Sq (Rg (As (.bool false) Z Z (Nl (Sq (Rg (Mv xsv Z Z (Mv fv Z Z (Pl Z (AZ func139 V0 Z Z ((Pg xs xsv fv p hxs (fun x hx h1 l1=>hf x hx h1 (GH.Le.trans Lr l1))).mono fun _ _ ac=>?_)))))))))));obtain ⟨rfl,ab⟩:=ac;exact Pl Z (C0 (a:=idxOf p xs) (b:=0) Z Z (As (.bool (decide (0≤(idxOf p xs)))) Z Z (Nl (Rt (⟨.inr Z,Ae Z (v:=.bool (decide (0≤(idxOf p xs)))) Z (⟨(by rw [show decide (0≤idxOf p xs)=xs.any p from by rw [Bool.eq_iff_iff];simp [H5]]),ab⟩)⟩)))))
theorem M9 {W:Wk prog} {h:GH} (xs:List AF) (xsv:Value) (fv:Value) (p:AF→Bool) (hxs:AJ h xsv 4 A2 xs) (hf:∀x ∈ xs,∀h1,h.Le h1→Cg W fv #[.agg #[J x.good,J x.day,J x.low,J x.high]] h1 fun v h2=>v=.bool (p x)∧h1.Le h2):Ac W 158 #[xsv,fv] h (fun v h'=>v=(J (idxOf p xs):Value)∧h.Le h'):=by
 have ac:=hxs.len;refine AK func158 Z (Nb Z) (Sq (Rg (As (J 0) Z Z (Nl (Sq (Sq (Rg (Mv xsv Z Z (Pl Z (AY Gn hxs Z (Mv (J 0) Z Z (Nl (Bk (Ak (fun nn σ' ds' h'=>∃(k:Nat),nn=xs.length-k∧(k≤xs.length)∧((xs.take k).any p=false)∧ds'=[]∧GH.Le h h'∧σ' 0=xsv∧σ' 1=fv∧σ' 7=J (xs.length:Int)∧σ' 8=J k) ⟨0,Z,(by omega),(by simp),Z,Lr,Z,Z,Z,Z⟩ (fun nn _ _ _ am=>?_)))))))))))))));obtain ⟨k,rfl,hk,hs,x6,x7,x8,x9,al,ad⟩:=am;subst x6;refine Sq (Rg (Pl Z (Ax (a:=(k:Int)) (b:=(xs.length:Int)) ad al (Nl (Sq (AX (p:=(k:Int)<(xs.length:Int)) Z (fun ae=>?_) (fun ae=>?_)))))))
 ·refine Sk (Sq (Bk (Sq (Rg (Mv (J k) Z ad (As (J k) Z Z (Nl (Sq (Rg (Mv fv Z x9 (Mv xsv Z x8 (Mv (J k) Z Z ?_))))))))))));have af:(0:Int)≤(k:Int):=by omega
  have ag:(k:Int)<((xs.length:Nat):Int):=by omega
  refine Pl Z (At JX hxs Z Z af ag fun an ab ah=>have ai:Ab _ an ab 4 (A2 (XR xs k)):=Ab.getD AF.z ah;Ld (.agg (Qc xs k)) Z Z (AN Gq (ai.le x7)) (Pl Z (IY Z (vs:=#[.agg (Qc xs k)]) (by simp only [List.map_toArray,List.map_cons,List.map_nil,AU] <;> rfl) ((hf (XR xs k) (CR (by omega)) _ x7).mono fun _ _ aj=>?_))));obtain ⟨rfl,aa⟩:=aj;refine Nl (C8 (t:=p (XR xs k)) Z (fun ak=>?_) (fun ak=>?_))
  ·exact Sq (Rg (Mv (J k) Z Z (As (J k) Z Z (Nl (Rt (⟨.inr Z,Ae Z (v:=J k) Z (⟨(by (rw [L7 (k:=k) (by omega) hs ‹_›];done)),(x7.trans aa)⟩)⟩))))))
  ·exact Sk (Rg (Ad (k:Int) 1 Z ad Z (by omega) (Mv (J ((k:Int)+1)) Z Z (Nl (⟨_,by omega,k+1,Z,(by omega),(by exact LK (d:=AF.z) (by omega) hs ‹_›),Z,(x7.trans aa),x8,x9,al,Z⟩)))))
 ·exact Xt (Sq (Rg (As (J (-1)) Z Z (Nl (Rt (⟨.inr Z,Ae Z (v:=J (-1)) Z (⟨(by (rw [KX (k:=k) (by omega) hs])),x7⟩)⟩))))))
theorem K5 {W:Wk prog} {h:GH} (xs:List AF) (xsv:Value) (fv:Value) (p:AF→Bool) (hxs:AJ h xsv 4 A2 xs) (hf:∀x ∈ xs,∀h1,h.Le h1→Cg W fv #[.agg #[J x.good,J x.day,J x.low,J x.high]] h1 fun v h2=>v=.bool (p x)∧h1.Le h2):Ac W 144 #[xsv,fv] h (fun v h'=>v=(.bool (xs.any p):Value)∧h.Le h'):=by
 have aa:=hxs.len;refine AK func144 Z (Nb Z) (Sq (Rg (As (.bool false) Z Z (Nl (Sq (Rg (Mv xsv Z Z (Mv fv Z Z (Pl Z (AZ func158 V8 Z Z ((M9 xs xsv fv p hxs (fun x hx h1 l1=>hf x hx h1 (GH.Le.trans Lr l1))).mono fun _ _ ac=>?_)))))))))));obtain ⟨rfl,ab⟩:=ac;exact Pl Z (C0 (a:=idxOf p xs) (b:=0) Z Z (As (.bool (decide (0≤(idxOf p xs)))) Z Z (Nl (Rt (⟨.inr Z,Ae Z (v:=.bool (decide (0≤(idxOf p xs)))) Z (⟨(by rw [show decide (0≤idxOf p xs)=xs.any p from by rw [Bool.eq_iff_iff];simp [H5]]),ab⟩)⟩)))))
theorem Oz {W:Wk prog} {h:GH} (xs:List Good) (xsv:Value) (fv:Value) (p:Good→Bool) (hxs:AJ h xsv 5 BJ xs) (hf:∀x ∈ xs,∀h1,h.Le h1→Cg W fv #[.agg #[.string x.name,J x.cost,J x.pack,J x.low,J x.high]] h1 fun v h2=>v=.bool (p x)∧h1.Le h2):Ac W 202 #[xsv,fv] h (fun v h'=>v=(J (idxOf p xs):Value)∧h.Le h'):=by
 have ac:=hxs.len;refine AK func202 Z (Nb Z) (Sq (Rg (As (J 0) Z Z (Nl (Sq (Sq (Rg (Mv xsv Z Z (Pl Z (AY Cf hxs Z (Mv (J 0) Z Z (Nl (Bk (Ak (fun nn σ' ds' h'=>∃(k:Nat),nn=xs.length-k∧(k≤xs.length)∧((xs.take k).any p=false)∧ds'=[]∧GH.Le h h'∧σ' 0=xsv∧σ' 1=fv∧σ' 7=J (xs.length:Int)∧σ' 8=J k) ⟨0,Z,(by omega),(by simp),Z,Lr,Z,Z,Z,Z⟩ (fun nn _ _ _ am=>?_)))))))))))))));obtain ⟨k,rfl,hk,hs,x6,x7,x8,x9,al,ad⟩:=am;subst x6;refine Sq (Rg (Pl Z (Ax (a:=(k:Int)) (b:=(xs.length:Int)) ad al (Nl (Sq (AX (p:=(k:Int)<(xs.length:Int)) Z (fun ae=>?_) (fun ae=>?_)))))))
 ·refine Sk (Sq (Bk (Sq (Rg (Mv (J k) Z ad (As (J k) Z Z (Nl (Sq (Rg (Mv fv Z x9 (Mv xsv Z x8 (Mv (J k) Z Z ?_))))))))))));have af:(0:Int)≤(k:Int):=by omega
  have ag:(k:Int)<((xs.length:Nat):Int):=by omega
  refine Pl Z (At DZ hxs Z Z af ag fun an ab ah=>have ai:Ab _ an ab 5 (Q4h xs k):=Ab.getD Good.z ah;Ld (.agg (Q7 xs k)) Z Z (AN Gr (ai.le x7)) (Pl Z (IY Z (vs:=#[.agg (Q7 xs k)]) (by simp only [List.map_toArray,List.map_cons,List.map_nil,AU] <;> rfl) ((hf (xs.getD k Good.z) (CR (by omega)) _ x7).mono fun _ _ aj=>?_))));obtain ⟨rfl,aa⟩:=aj;refine Nl (C8 (t:=p (xs.getD k Good.z)) Z (fun ak=>?_) (fun ak=>?_))
  ·exact Sq (Rg (Mv (J k) Z Z (As (J k) Z Z (Nl (Rt (⟨.inr Z,Ae Z (v:=J k) Z (⟨(by (rw [L7 (k:=k) (by omega) hs ‹_›];done)),(x7.trans aa)⟩)⟩))))))
  ·exact Sk (Rg (Ad (k:Int) 1 Z ad Z (by omega) (Mv (J ((k:Int)+1)) Z Z (Nl (⟨_,by omega,k+1,Z,(by omega),(by exact LK (d:=Good.z) (by omega) hs ‹_›),Z,(x7.trans aa),x8,x9,al,Z⟩)))))
 ·exact Xt (Sq (Rg (As (J (-1)) Z Z (Nl (Rt (⟨.inr Z,Ae Z (v:=J (-1)) Z (⟨(by (rw [KX (k:=k) (by omega) hs])),x7⟩)⟩))))))
theorem Ls {W:Wk prog} {h:GH} (xs:List Good) (xsv:Value) (fv:Value) (p:Good→Bool) (hxs:AJ h xsv 5 BJ xs) (hf:∀x ∈ xs,∀h1,h.Le h1→Cg W fv #[.agg #[.string x.name,J x.cost,J x.pack,J x.low,J x.high]] h1 fun v h2=>v=.bool (p x)∧h1.Le h2):Ac W 199 #[xsv,fv] h (fun v h'=>v=(.bool (xs.any p):Value)∧h.Le h'):=by
 have aa:=hxs.len;refine AK func199 Z (Nb Z) (Sq (Rg (As (.bool false) Z Z (Nl (Sq (Rg (Mv xsv Z Z (Mv fv Z Z (Pl Z (AZ func202 WS Z Z ((Oz xs xsv fv p hxs (fun x hx h1 l1=>hf x hx h1 (GH.Le.trans Lr l1))).mono fun _ _ ac=>?_)))))))))));obtain ⟨rfl,ab⟩:=ac;exact Pl Z (C0 (a:=idxOf p xs) (b:=0) Z Z (As (.bool (decide (0≤(idxOf p xs)))) Z Z (Nl (Rt (⟨.inr Z,Ae Z (v:=.bool (decide (0≤(idxOf p xs)))) Z (⟨(by rw [show decide (0≤idxOf p xs)=xs.any p from by rw [Bool.eq_iff_iff];simp [H5]]),ab⟩)⟩)))))
theorem Ph {W:Wk prog} {h:GH} (n:Int):Ac W 155 #[J n] h (fun v h'=>v=(.bool (decide (¬(0≤n∧n≤99))):Value)∧h=h'):=by
 refine AK func155 Z (Nb Z) (Sq (Rg (As (.bool false) Z Z (Nl (Sq (Rg (Mv (J n) Z Z (Pl Z (Ap func79 B7 Z Z Z ((BW n 0 99 ).mono fun _ _ aa=>?_))))))))));obtain ⟨rfl,rfl⟩:=aa;exact Pl Z (BM (p:=0≤n∧n≤99) Z (As (.bool (Q1z n)) Z Z (Nl (Rt (⟨.inr Z,Ae Z (v:=.bool (Q1z n)) Z (⟨Z,Z⟩)⟩)))))
theorem Lt {W:Wk prog} {h:GH} (l:List Int) (lv:Value) (m:Int) (hl:AJ h lv 1 eI l):Ac W 140 #[lv,J m] h (fun v h'=>v=(J (A8 l m):Value)∧h.Le h'):=by
 have ab:=hl.len;refine AK func140 Z (Nb Z) (Sq (Rg (As (J 0) Z Z (Nl (Sq (Bk (Sq (Rg (Mv lv Z Z (Pl Z (AY CN hl Z (Mv (J m) Z Z (Pl Z (BE (a:=(l.length:Int)) (b:=m) Z Z (As (.bool (decide (¬(l.length:Int)=m))) Z Z (Nl (AX (p:=¬(l.length:Int)=m) Z (fun ac=>?_) (fun ac=>?_))))))))))))))))))
 ·exact Sq (Rg (As (J 2) Z Z (Nl (Rt (⟨.inr Z,Ae Z (v:=J 2) Z (⟨(by simp_all [A8]),Lr⟩)⟩)))))
 ·refine Sq (Rg (Mv lv Z Z ?_));have ad:∀x ∈ l,∀h1,GH.Le h h1→Cg W (.func (.func 155) #[] #[]) #[J x] h1 fun v h2=>v=.bool ((fun x=>decide (¬(0≤x∧x≤99))) x)∧h1.Le h2:=by
   intro x hx h1 _;exact CJ func155 V5 Z ((Ph x ).mono fun v h2 hp=>⟨hp.1,by rw [←hp.2];exact GH.Le.refl _⟩)
  refine Pl Z (AZ func92 RC Z Z ((IM l lv (.func (.func 155) #[] #[]) (fun x=>decide (¬(0≤x∧x≤99))) hl ad).mono fun _ _ ae=>?_));obtain ⟨rfl,aa⟩:=ae;refine As (.bool (l.any (fun x=>decide (¬(0≤x∧x≤99))))) Z Z (Nl (C8 (t:=l.any (fun x=>decide (¬(0≤x∧x≤99)))) Z (fun af=>?_) (fun af=>?_)))
  ·exact Sq (Rg (As (J 1) Z Z (Nl (Rt (⟨.inr Z,Ae Z (v:=J 1) Z (⟨(by simp_all [A8]),aa⟩)⟩)))))
  ·exact Sk (Sq (Rg (As (J 0) Z Z (Nl (Rt (⟨.inr Z,Ae Z (v:=J 0) Z (⟨(by simp_all [A8]),aa⟩)⟩))))))
end Go.Ns
namespace Go.Ns
open Go.Conc Go.Proofs Go.Proofs.Tryz
attribute [local irreducible] Be EK Tr Ac Cg CC
theorem Wc {W:Wk prog} {h:GH} (d:Int) (m:Int) (gs:List Good) (gsv:Value) (ms:List AB) (msv:Value) (cs:List AF) (csv:Value) (hgs:AJ h gsv 5 BJ gs) (hms:AJ h msv 5 BD ms) (hcs:AJ h csv 4 A2 cs):Ac W 196 #[.agg #[J d,J m,gsv,msv,csv]] h (fun v h'=>v=(J (BT d gs ms):Value)∧h.Le h'):=by
 have av:=hgs.len;have aw:=hms.len;have ax:=hcs.len;refine AK func196 Z (Nb Z) (Sq (Rg (Pl Z (An (v:=.agg #[J d,J m,gsv,msv,csv]) (c:=#[J d,J m,gsv,msv,csv]) Z Z fun r4 h5 _ af ay _=>As (J 0) Z Z (Nl (Sq (Sq (Rg (Fa Ay Z Z (Fa A7 Z Z (Ld msv Z Z (Rd.one Bn ay Z) (have ak:=hms.le af;Pl Z (AY DG ak Z (Pl Z (Dy (a:=(ms.length:Int)) (b:=6) Z Z (Nl (AX (p:=6<(ms.length:Int)) Z (fun az=>?_) (fun az=>?_))))))))))))))))))
 ·exact Sq (Rg (As (J 2) Z Z (Nl (Rt (⟨.inr Z,Ae Z (v:=J 2) Z (⟨(by (symm;congr 1;rw [BT,if_pos ‹_›];done)),af⟩)⟩)))))
 ·refine Sk (Sq (Rg (As (J 0) Z Z (Nl (Sq (Sq (Rg (Fa Ay Z Z (Fa A7 Z Z (Ld msv Z Z (Rd.one Bn ay Z) (Pl Z (AY DG ak Z (Mv (J 0) Z Z (Nl (Bk (Ak (fun nn σ' ds' h'=>∃(k:Nat),nn=ms.length-k∧(k≤ms.length)∧(∀j,j<k→DU d gs ms j=0)∧ds'=[]∧GH.Le h5 h'∧σ' 1=Pt r4∧σ' 13=msv∧σ' 14=J (ms.length:Int)∧σ' 3=J (Ds ms k)∧σ' 15=J k) ⟨0,Z,(by omega),(by (intro j hj;omega)),Z,Lr,Z,Z,Z,Z,Z⟩ (fun nn _ _ _ a0=>?_)))))))))))))))));obtain ⟨k,rfl,hk,hs,bi,al,a1,bg,bh,bj,a2⟩:=a0;subst bi;refine Sq (Rg (Pl Z (Ax (a:=(k:Int)) (b:=(ms.length:Int)) a2 bh (Nl (Sq (AX (p:=(k:Int)<(ms.length:Int)) Z (fun a3=>?_) (fun a3=>?_)))))))
  ·refine Sk (Sq (Bk (Sq (Rg ?_))));have a4:(0:Int)≤(k:Int):=by omega
   have a5:(k:Int)<((ms.length:Nat):Int):=by omega
   refine Pl Z (At Cr hms bg a2 a4 a5 fun bk am a6=>have a7:Ab _ bk am 5 (BD (ms.getD k AB.z)):=Ab.getD AB.z a6;have ad:=af.trans al;Ld (.agg #[J ((ms.getD k AB.z).kind),J ((ms.getD k AB.z).good),J ((ms.getD k AB.z).day),J ((ms.getD k AB.z).low),J ((ms.getD k AB.z).high)]) Z Z (AN GF (a7.le ad)) (have an:=al.keep ay Z;Pl Z (Ai Ex fun bl _ ag ac a8 _=>have a9:r4≠bl:=DF an ag;Pl Z (AI (v:=.agg #[J ((ms.getD k AB.z).kind),J ((ms.getD k AB.z).good),J ((ms.getD k AB.z).day),J ((ms.getD k AB.z).low),J ((ms.getD k AB.z).high)]) (c':=#[J ((ms.getD k AB.z).kind),J ((ms.getD k AB.z).good),J ((ms.getD k AB.z).day),J ((ms.getD k AB.z).low),J ((ms.getD k AB.z).high)]) GF Z Z a8 Z Z (by simp) Z fun _ aj ah=>Nl (Sq (Bk (Sq (Rg (Fa EO Z Z (Ld (J ((ms.getD k AB.z).kind)) Z Z (Rd.one Gp aj Z) (Pl Z (Ap func79 B7 Z Z Z ((BW ((ms.getD k AB.z).kind) 0 4 ).mono fun _ _ ba=>?_)))))))))))));obtain ⟨rfl,rfl⟩:=ba;refine Pl Z (BM (p:=0≤((ms.getD k AB.z).kind)∧((ms.getD k AB.z).kind)≤4) Z (As (.bool (decide (¬(0≤((ms.getD k AB.z).kind)∧((ms.getD k AB.z).kind)≤4)))) Z Z (Nl (AX (p:=¬(0≤((ms.getD k AB.z).kind)∧((ms.getD k AB.z).kind)≤4)) Z (fun ao=>?_) (fun ao=>?_)))))
   ·exact Sq (Rg (As (J 1) Z Z (Nl (Rt (⟨.inr Z,Ae Z (v:=J 1) Z (⟨(by (symm;congr 1;rw [BT,if_neg ‹_›];exact BS (k:=k) hs (by omega) (by unfold DU;(simp only [*,not_true_eq_false,not_false_eq_true,if_true,if_false,true_or,or_true,reduceCtorEq,Bool.false_eq_true];done)) (by decide))),((ad.trans ac).upd (Ln ad ag) ah)⟩)⟩)))))
   ·have hc48_:=Dn ao;refine Sq (Rg (have ap:=(ah _ a9).trans (ac.keep an Z);Ld (.agg #[J d,J m,gsv,msv,csv]) Z a1 (AN Bv (Bx ap Z)) (Fa FO Z Z (Ld (J ((ms.getD k AB.z).good)) Z Z (Rd.one AM aj Z) (have ab:=(ad.trans ac).upd (Ln ad ag) ah;Pl Z (AZ func77 IH Z Z ((GS d m gs gsv ms msv cs csv ((ms.getD k AB.z).good) (hgs.le ab) (hms.le ab) (hcs.le ab) ).mono fun _ _ bb=>?_)))))));obtain ⟨rfl,aa⟩:=bb;refine Pl Z (BM (p:=0≤((ms.getD k AB.z).good)∧((ms.getD k AB.z).good)≤(gs.length:Int)-1) Z (As (.bool (decide (¬(0≤((ms.getD k AB.z).good)∧((ms.getD k AB.z).good)≤(gs.length:Int)-1)))) Z Z (Nl (AX (p:=¬(0≤((ms.getD k AB.z).good)∧((ms.getD k AB.z).good)≤(gs.length:Int)-1)) Z (fun aq=>?_) (fun aq=>?_)))))
    ·exact Sq (Rg (As (J 6) Z Z (Nl (Rt (⟨.inr Z,Ae Z (v:=J 6) Z (⟨(by (symm;congr 1;rw [BT,if_neg ‹_›];exact BS (k:=k) hs (by omega) (by unfold DU;(clear hs;simp_all;done)) (by decide))),(ab.trans aa)⟩)⟩)))))
    ·have hc59_:=Dn aq;refine Sq (Rg (Fa Cd Z Z (have ai:=aa.keep aj Z;Ld (J ((ms.getD k AB.z).day)) Z Z (Rd.one AM ai Z) (Fa Ay Z a1 (Fa CF Z Z (Ld (J d) Z Z (Rd.one AM (aa.keep ap Z) Z) (Pl Z (Ap func79 B7 Z Z Z ((BW ((ms.getD k AB.z).day) 1 d ).mono fun _ _ bc=>?_)))))))));obtain ⟨rfl,rfl⟩:=bc;refine Pl Z (BM (p:=1≤((ms.getD k AB.z).day)∧((ms.getD k AB.z).day)≤d) Z (As (.bool (decide (¬(1≤((ms.getD k AB.z).day)∧((ms.getD k AB.z).day)≤d)))) Z Z (Nl (AX (p:=¬(1≤((ms.getD k AB.z).day)∧((ms.getD k AB.z).day)≤d)) Z (fun ar=>?_) (fun ar=>?_)))))
     ·exact Sq (Rg (As (J 1) Z Z (Nl (Rt (⟨.inr Z,Ae Z (v:=J 1) Z (⟨(by (symm;congr 1;rw [BT,if_neg ‹_›];exact BS (k:=k) hs (by omega) (by unfold DU;(clear hs;simp_all;done)) (by decide))),(ab.trans aa)⟩)⟩)))))
     ·have hc67_:=Dn ar;refine Sq (Rg (Fa Cd Z Z (Ld (J ((ms.getD k AB.z).day)) Z Z (Rd.one AM ai Z) (Mv (J (Ds ms k)) Z bj (Pl Z (Ax (a:=(ms.getD k AB.z).day) (b:=Ds ms k) Z Z (As (.bool (decide (((ms.getD k AB.z).day)<(Ds ms k)))) Z Z (Nl (AX (p:=((ms.getD k AB.z).day)<(Ds ms k)) Z (fun bd=>?_) (fun bd=>?_))))))))))
      ·exact Sq (Rg (As (J 7) Z Z (Nl (Rt (⟨.inr Z,Ae Z (v:=J 7) Z (⟨(by (symm;congr 1;rw [BT,if_neg ‹_›];exact BS (k:=k) hs (by omega) (by unfold DU;(clear hs;simp_all;done)) (by decide))),(ab.trans aa)⟩)⟩)))))
      ·refine Sq (Rg (Fa F3 Z Z (Ld (.agg #[J ((ms.getD k AB.z).low),J ((ms.getD k AB.z).high)]) Z Z (GU (o:=3) (ws:=#[J ((ms.getD k AB.z).low),J ((ms.getD k AB.z).high)]) A1 (Bx ai Z) (Nb Z) Z) (Pl Z (Ar func201 Om Z ((T6 ((ms.getD k AB.z).low) ((ms.getD k AB.z).high) ).mono fun _ _ be=>?_))))));obtain ⟨rfl,ae⟩:=be;refine Pl Z (BM (p:=E2 ((ms.getD k AB.z).low) ((ms.getD k AB.z).high)) Z (As (.bool (decide (¬(E2 ((ms.getD k AB.z).low) ((ms.getD k AB.z).high))))) Z Z (Nl (AX (p:=¬(E2 ((ms.getD k AB.z).low) ((ms.getD k AB.z).high))) Z (fun au=>?_) (fun au=>?_)))))
       ·exact Sq (Rg (As (J 1) Z Z (Nl (Rt (⟨.inr Z,Ae Z (v:=J 1) Z (⟨(by (symm;congr 1;rw [BT,if_neg ‹_›];exact BS (k:=k) hs (by omega) (by unfold DU;(clear hs;simp_all;done)) (by decide))),((ab.trans aa).trans ae)⟩)⟩)))))
       ·have hc75_:=Dn au;exact Sk (Rg (Fa Cd Z Z (Ld (J ((ms.getD k AB.z).day)) Z Z (Rd.one AM (ae.keep ai Z) Z) (As (J ((ms.getD k AB.z).day)) Z Z (Nl (Rg (Ad (k:Int) 1 Z a2 Z (by omega) (Mv (J ((k:Int)+1)) Z Z (Nl (have bf:=(((al.trans ac).upd (Ln al ag) ah).trans aa).trans ae;⟨_,by omega,k+1,Z,(by omega),(by exact DP hs (by unfold DU;(clear hs;simp_all;done))),Z,bf,a1,bg,bh,(Et (b:=(J ((ms.getD k AB.z).day):Value)) Z (by simp [Ds])),Z⟩))))))))))
  ·exact Xt (Sq (Rg (As (J 0) Z Z (Nl (Rt (⟨.inr Z,Ae Z (v:=J 0) Z (⟨(by (symm;congr 1;rw [BT,if_neg ‹_›];exact Cl (k:=k) hs (by omega))),(af.trans al)⟩)⟩))))))
theorem T8 {W:Wk prog} {h:GH} (d:Int) (m:Int) (gs:List Good) (gsv:Value) (ms:List AB) (msv:Value) (cs:List AF) (csv:Value) (hgs:AJ h gsv 5 BJ gs) (hms:AJ h msv 5 BD ms) (hcs:AJ h csv 4 A2 cs):Ac W 197 #[.agg #[J d,J m,gsv,msv,csv]] h (fun v h'=>v=(J (CZ d gs cs):Value)∧h.Le h'):=by
 have aw:=hgs.len;have ax:=hms.len;have ay:=hcs.len;refine AK func197 Z (Nb Z) (Sq (Rg (Pl Z (An (v:=.agg #[J d,J m,gsv,msv,csv]) (c:=#[J d,J m,gsv,msv,csv]) Z Z fun r4 h5 _ ae az _=>As (J 0) Z Z (Nl (Sq (Sq (Rg (Fa Ay Z Z (Fa Cs Z Z (Ld csv Z Z (Rd.one Ec az Z) (have aj:=hcs.le ae;Pl Z (AY Gn aj Z (Pl Z (Dy (a:=(cs.length:Int)) (b:=4) Z Z (Nl (AX (p:=4<(cs.length:Int)) Z (fun a0=>?_) (fun a0=>?_))))))))))))))))))
 ·exact Sq (Rg (As (J 2) Z Z (Nl (Rt (⟨.inr Z,Ae Z (v:=J 2) Z (⟨(by (symm;congr 1;rw [CZ,if_pos ‹_›];done)),ae⟩)⟩)))))
 ·refine Sk (Sq (Sq (Rg (Fa Ay Z Z (Fa Cs Z Z (Ld csv Z Z (Rd.one Ec az Z) (Pl Z (AY Gn aj Z (Mv (J 0) Z Z (Nl (Bk (Ak (fun nn σ' ds' h'=>∃(k:Nat),nn=cs.length-k∧(k≤cs.length)∧(∀j,j<k→FG d gs cs j=0)∧ds'=[]∧GH.Le h5 h'∧σ' 1=Pt r4∧σ' 12=csv∧σ' 13=J (cs.length:Int)∧σ' 14=J k) ⟨0,Z,(by omega),(by (intro j hj;omega)),Z,Lr,Z,Z,Z,Z⟩ (fun nn _ _ _ a1=>?_)))))))))))));obtain ⟨k,rfl,hk,hs,bm,ak,au,a2,a3,av⟩:=a1;subst bm;refine Sq (Rg (Pl Z (Ax (a:=(k:Int)) (b:=(cs.length:Int)) av a3 (Nl (Sq (AX (p:=(k:Int)<(cs.length:Int)) Z (fun a4=>?_) (fun a4=>?_)))))))
  ·refine Sk (Sq (Bk (Sq (Rg ?_))));have a5:(0:Int)≤(k:Int):=by omega
   have a6:(k:Int)<((cs.length:Nat):Int):=by omega
   refine Pl Z (At JX hcs a2 av a5 a6 fun bn al a7=>have a8:Ab _ bn al 4 (A2 (cs.getD k AF.z)):=Ab.getD AF.z a7;have ag:=ae.trans ak;Ld (.agg #[J ((cs.getD k AF.z).good),J ((cs.getD k AF.z).day),J ((cs.getD k AF.z).low),J ((cs.getD k AF.z).high)]) Z Z (AN Gq (a8.le ag)) (have am:=ak.keep az Z;Pl Z (Ai IL fun bo _ ah ac a9 _=>have ba:r4≠bo:=DF am ah;Pl Z (AI (v:=.agg #[J ((cs.getD k AF.z).good),J ((cs.getD k AF.z).day),J ((cs.getD k AF.z).low),J ((cs.getD k AF.z).high)]) (c':=#[J ((cs.getD k AF.z).good),J ((cs.getD k AF.z).day),J ((cs.getD k AF.z).low),J ((cs.getD k AF.z).high)]) Gq Z Z a9 Z Z (by simp) Z fun _ an ai=>Nl (Bk (Sq (Rg (have ao:=(ai _ ba).trans (ac.keep am Z);Ld (.agg #[J d,J m,gsv,msv,csv]) Z au (AN Bv (Bx ao Z)) (Fa Iy Z Z (Ld (J ((cs.getD k AF.z).good)) Z Z (Rd.one AM an Z) (have ad:=(ag.trans ac).upd (Ln ag ah) ai;Pl Z (AZ func77 IH Z Z ((GS d m gs gsv ms msv cs csv ((cs.getD k AF.z).good) (hgs.le ad) (hms.le ad) (hcs.le ad) ).mono fun _ bp bb=>?_)))))))))))));obtain ⟨rfl,ab⟩:=bb;refine Pl Z (BM (p:=0≤((cs.getD k AF.z).good)∧((cs.getD k AF.z).good)≤(gs.length:Int)-1) Z (As (.bool (decide (¬(0≤((cs.getD k AF.z).good)∧((cs.getD k AF.z).good)≤(gs.length:Int)-1)))) Z Z (Nl (AX (p:=¬(0≤((cs.getD k AF.z).good)∧((cs.getD k AF.z).good)≤(gs.length:Int)-1)) Z (fun ap=>?_) (fun ap=>?_)))))
   ·exact Sq (Rg (As (J 6) Z Z (Nl (Rt (⟨.inr Z,Ae Z (v:=J 6) Z (⟨(by (symm;congr 1;rw [CZ,if_neg ‹_›];exact BS (k:=k) hs (by omega) (by unfold FG;(simp only [*,not_true_eq_false,not_false_eq_true,if_true,if_false,true_or,or_true,reduceCtorEq,Bool.false_eq_true];done)) (by decide))),(ad.trans ab)⟩)⟩)))))
   ·have hc52_:=Dn ap;refine A9 (fun σ' ds' h'=>ds'=[]∧GH.Le bp h'∧σ' 1=Pt r4∧σ' 12=csv∧σ' 13=J (cs.length:Int)∧σ' 14=J k∧σ' 24=.bool (decide ((¬(0≤((cs.getD k AF.z).day)∧((cs.getD k AF.z).day)≤d))∨(¬((0≤((cs.getD k AF.z).low)∧((cs.getD k AF.z).low)≤((cs.getD k AF.z).high))∧((cs.getD k AF.z).high)≤999))))) ?_ ?_
    ·refine Rg (Fa Iz Z Z (have aq:=ab.keep an Z;Ld (J ((cs.getD k AF.z).day)) Z Z (Rd.one AM aq Z) (Fa Ay Z au (Fa CF Z Z (Ld (J d) Z Z (Rd.one AM (ab.keep ao Z) Z) (Pl Z (Ap func79 B7 Z Z Z ((BW ((cs.getD k AF.z).day) 0 d ).mono fun _ _ bc=>?_))))))));obtain ⟨rfl,rfl⟩:=bc;refine Pl Z (BM (p:=0≤((cs.getD k AF.z).day)∧((cs.getD k AF.z).day)≤d) Z (Mv (.bool (decide (¬(0≤((cs.getD k AF.z).day)∧((cs.getD k AF.z).day)≤d)))) Z Z (BN (p:=¬(0≤((cs.getD k AF.z).day)∧((cs.getD k AF.z).day)≤d)) ?_ ?_)))
     ·intro aa;exact Gs 7 32 (AD Z aa) Z (Gs 7 32 (AD Z aa) Z (Gs 7 32 (AD Z aa) Z (Gs 7 32 (AD Z aa) Z (Pk true (.bool true) Z (AD Z aa) Z (As (.bool true) Z Z (Nl (⟨Z,Lr,au,a2,a3,av,Et (b:=(.bool true:Value)) Z (congrArg Value.bool (by grind:true=(decide ((¬(0≤((cs.getD k AF.z).day)∧((cs.getD k AF.z).day)≤d))∨(¬((0≤((cs.getD k AF.z).low)∧((cs.getD k AF.z).low)≤((cs.getD k AF.z).high))∧((cs.getD k AF.z).high)≤999))))))⟩)))))))
     ·intro aa;refine Gg 7 32 (AC Z aa) Z (AL F4 Z (Gg 7 32 (AC Z aa) Z (AE (v:=.agg #[J ((cs.getD k AF.z).low),J ((cs.getD k AF.z).high)]) Z (GU (o:=2) (ws:=#[J ((cs.getD k AF.z).low),J ((cs.getD k AF.z).high)]) A1 (Bx aq Z) (Nb Z) Z) (Gg 7 32 (AC Z aa) Z (Ap func129 Of Z Z Z ((Ox ((cs.getD k AF.z).low) ((cs.getD k AF.z).high) 0 999 ).mono fun _ _ bd=>?_))))));obtain ⟨rfl,ar⟩:=bd;exact Gg 7 32 (AC Z aa) Z (BM (p:=(0≤((cs.getD k AF.z).low)∧((cs.getD k AF.z).low)≤((cs.getD k AF.z).high))∧((cs.getD k AF.z).high)≤999) Z (Pk false (.bool (decide (¬((0≤((cs.getD k AF.z).low)∧((cs.getD k AF.z).low)≤((cs.getD k AF.z).high))∧((cs.getD k AF.z).high)≤999)))) Z (AC Z aa) Z (As (.bool (decide (¬((0≤((cs.getD k AF.z).low)∧((cs.getD k AF.z).low)≤((cs.getD k AF.z).high))∧((cs.getD k AF.z).high)≤999)))) Z Z (Nl (⟨Z,ar,au,a2,a3,av,Et (b:=(.bool (decide (¬((0≤((cs.getD k AF.z).low)∧((cs.getD k AF.z).low)≤((cs.getD k AF.z).high))∧((cs.getD k AF.z).high)≤999))):Value)) Z (congrArg Value.bool (by grind:decide (¬((0≤((cs.getD k AF.z).low)∧((cs.getD k AF.z).low)≤((cs.getD k AF.z).high))∧((cs.getD k AF.z).high)≤999))=(decide ((¬(0≤((cs.getD k AF.z).day)∧((cs.getD k AF.z).day)≤d))∨(¬((0≤((cs.getD k AF.z).low)∧((cs.getD k AF.z).low)≤((cs.getD k AF.z).high))∧((cs.getD k AF.z).high)≤999))))))⟩)))))
    ·rintro _ _ _ ⟨be,af,bf,bg,bh,bi,bj⟩;subst be;refine AX (p:=(¬(0≤((cs.getD k AF.z).day)∧((cs.getD k AF.z).day)≤d))∨(¬((0≤((cs.getD k AF.z).low)∧((cs.getD k AF.z).low)≤((cs.getD k AF.z).high))∧((cs.getD k AF.z).high)≤999))) bj (fun bk=>?_) (fun bk=>?_)
     ·exact Sq (Rg (As (J 1) Z Z (Nl (Rt (⟨.inr Z,Ae Z (v:=J 1) Z (⟨(by (symm;congr 1;rw [CZ,if_neg ‹_›];exact BS (k:=k) hs (by omega) (by unfold FG;(clear hs;simp_all;done)) (by decide))),((ad.trans ab).trans af)⟩)⟩)))))
     ·exact Sk (Rg (Ad (k:Int) 1 Z bi Z (by omega) (Mv (J ((k:Int)+1)) Z Z (Nl (have bl:=(((ak.trans ac).upd (Ln ak ah) ai).trans ab).trans af;⟨_,by omega,k+1,Z,(by omega),(by exact DP hs (by unfold FG;(clear hs;simp_all;done))),Z,bl,bf,bg,bh,Z⟩)))))
  ·exact Xt (Sq (Rg (As (J 0) Z Z (Nl (Rt (⟨.inr Z,Ae Z (v:=J 0) Z (⟨(by (symm;congr 1;rw [CZ,if_neg ‹_›];exact Cl (k:=k) hs (by omega))),(ae.trans ak)⟩)⟩))))))
theorem T9 {W:Wk prog} {h:GH} (s:ByteArray) (hsz:s.size≤1000):Ac W 198 #[.string s] h (fun v h'=>v=(.bool (Dz s):Value)∧h.Le h'):=by
 have hbl:=Cj s;refine AK func198 Z (Nb Z) (Sq (Rg (As (.bool false) Z Z (Nl (Sq (Sq (Rg (Mv (.string s) Z Z (Pl Z (Zs T1 Z (by omega) fun a1 h2 ad a2=>Pl Z (AY AAm a2 Z (Mv (J 0) Z Z (Nl (Bk (Ak (fun nn σ' ds' h'=>∃(k:Nat),nn=(bytesOf s).length-k∧(k≤(bytesOf s).length)∧(∀j,j<k→Hq s j=0)∧ds'=[]∧GH.Le h2 h'∧σ' 0=.string s∧σ' 6=a1∧σ' 7=J ((bytesOf s).length:Int)∧σ' 8=J k) ⟨0,Z,(by omega),(by (intro j hj;omega)),Z,Lr,Z,Z,Z,Z⟩ (fun nn _ _ h7 a3=>?_))))))))))))))));obtain ⟨k,rfl,hk,hs,x9,ag,ah,ai,aj,ac⟩:=a3;subst x9;have hby:=J8 s k;refine Sq (Rg (Pl Z (Ax (a:=(k:Int)) (b:=((bytesOf s).length:Int)) ac aj (Nl (Sq (AX (p:=(k:Int)<((bytesOf s).length:Int)) Z (fun ak=>?_) (fun ak=>?_)))))))
 ·refine Sk (Sq (Bk (Sq (Rg (Mv (J k) Z ac ?_)))));have al:(0:Int)≤(k:Int):=by omega
  have am:(k:Int)<(((bytesOf s).length:Nat):Int):=by omega
  refine Pl Z (At Y6 a2 ai ac al am fun a4 ae an=>have ao:Ab _ a4 ae 1 (eB ((bytesOf s).getD k 0)):=Ab.getD 0 an;Ld (.int .u8 ((bytesOf s).getD k 0)) Z Z (BX fx_ty5 (ao.le ag) Z) (As (J k) Z Z (As (.int .u8 ((bytesOf s).getD k 0)) Z Z (Nl (A9 (fun σ' ds' h'=>ds'=[]∧h7=h'∧σ' 0=.string s∧σ' 6=a1∧σ' 7=J ((bytesOf s).length:Int)∧σ' 8=J k∧σ' 26=.bool (decide ((¬(97≤((bytesOf s).getD k 0)∧((bytesOf s).getD k 0)≤122))∧(((k:Int)=0)∨(¬(48≤((bytesOf s).getD k 0)∧((bytesOf s).getD k 0)≤57)))))) ?_ ?_)))))
  ·refine Rg (Mv (.int .u8 ((bytesOf s).getD k 0)) Z Z (Pl Z (Bp (r:=(bytesOf s).getD k 0) GG Ej Z (by rw [IntWalk.i64_in _ (by omega)]) (Pl Z (Ap func79 B7 Z Z Z ((BW ((bytesOf s).getD k 0) 97 122 ).mono fun _ _ ap=>?_))))));obtain ⟨rfl,rfl⟩:=ap;refine Pl Z (BM (p:=97≤((bytesOf s).getD k 0)∧((bytesOf s).getD k 0)≤122) Z (Mv (.bool (decide (¬(97≤((bytesOf s).getD k 0)∧((bytesOf s).getD k 0)≤122)))) Z Z (BN (p:=¬(97≤((bytesOf s).getD k 0)∧((bytesOf s).getD k 0)≤122)) ?_ ?_)))
   ·intro aa;refine Gg 4 17 (AD Z aa) Z (AA (v:=J k) Z (Gg 4 17 (AD Z aa) Z (CG (a:=(k:Int)) (b:=0) Z Z (Gg 4 17 (AD Z aa) Z (AA (v:=.bool (decide ((k:Int)=0))) Z (BN (p:=(k:Int)=0) ?_ ?_))))))
    ·intro ab;exact Gs 7 20 (AD Z ab) Z (Gs 7 20 (AD Z ab) Z (Gs 7 20 (AD Z ab) Z (Gs 7 20 (AD Z ab) Z (Gg 4 17 (AD Z aa) Z (Br (t:=true) (v:=.bool true) (AD Z ab) Z (Pk true (.bool true) Z (AD Z aa) Z (Nl (⟨Z,Z,ah,ai,aj,ac,Et (b:=(.bool true:Value)) Z (congrArg Value.bool (by grind:true=(decide ((¬(97≤((bytesOf s).getD k 0)∧((bytesOf s).getD k 0)≤122))∧(((k:Int)=0)∨(¬(48≤((bytesOf s).getD k 0)∧((bytesOf s).getD k 0)≤57)))))))⟩))))))))
    ·intro ab;refine Gg 7 20 (AC Z ab) Z (AA (v:=.int .u8 ((bytesOf s).getD k 0)) Z (Gg 7 20 (AC Z ab) Z (Bp (r:=(bytesOf s).getD k 0) GG Ej Z (by rw [IntWalk.i64_in _ (by omega)]) (Gg 7 20 (AC Z ab) Z (Ap func79 B7 Z Z Z ((BW ((bytesOf s).getD k 0) 48 57 ).mono fun _ _ aq=>?_))))));obtain ⟨rfl,rfl⟩:=aq;exact Gg 7 20 (AC Z ab) Z (BM (p:=48≤((bytesOf s).getD k 0)∧((bytesOf s).getD k 0)≤57) Z (Gg 4 17 (AD Z aa) Z (Br (t:=false) (v:=.bool (decide (¬(48≤((bytesOf s).getD k 0)∧((bytesOf s).getD k 0)≤57)))) (AC Z ab) Z (Pk true (.bool (decide (¬(48≤((bytesOf s).getD k 0)∧((bytesOf s).getD k 0)≤57)))) Z (AD Z aa) Z (Nl (⟨Z,Z,ah,ai,aj,ac,Et (b:=(.bool (decide (¬(48≤((bytesOf s).getD k 0)∧((bytesOf s).getD k 0)≤57))):Value)) Z (congrArg Value.bool (by grind:decide (¬(48≤((bytesOf s).getD k 0)∧((bytesOf s).getD k 0)≤57))=(decide ((¬(97≤((bytesOf s).getD k 0)∧((bytesOf s).getD k 0)≤122))∧(((k:Int)=0)∨(¬(48≤((bytesOf s).getD k 0)∧((bytesOf s).getD k 0)≤57)))))))⟩))))))
   ·intro aa;exact Gs 4 17 (AC Z aa) Z (Gs 4 17 (AC Z aa) Z (Gs 4 17 (AC Z aa) Z (B4 (j:=7) (d:=20) Z Z Z Z Z Z (B4 (j:=7) (d:=20) Z Z Z Z Z Z (B4 (j:=7) (d:=20) Z Z Z Z Z Z (B4 (j:=7) (d:=20) Z Z Z Z Z Z (Gs 4 17 (AC Z aa) Z (Pk false (.bool false) Z (AC Z aa) Z (Nl (⟨Z,Z,ah,ai,aj,ac,Et (b:=(.bool false:Value)) Z (congrArg Value.bool (by grind:false=(decide ((¬(97≤((bytesOf s).getD k 0)∧((bytesOf s).getD k 0)≤122))∧(((k:Int)=0)∨(¬(48≤((bytesOf s).getD k 0)∧((bytesOf s).getD k 0)≤57)))))))⟩))))))))))
  ·rintro _ _ _ ⟨ar,af,au,av,aw,ax,ay⟩;subst ar;subst af;refine AX (p:=(¬(97≤((bytesOf s).getD k 0)∧((bytesOf s).getD k 0)≤122))∧(((k:Int)=0)∨(¬(48≤((bytesOf s).getD k 0)∧((bytesOf s).getD k 0)≤57)))) ay (fun az=>?_) (fun az=>?_)
   ·exact Sq (Rg (As (.bool false) Z Z (Nl (Rt (⟨.inr Z,Ae Z (v:=.bool false) Z (⟨(by (symm;congr 1;exact Nx hs (by omega) (by unfold Hq;simp only [E7,FF, *,not_true_eq_false,not_false_eq_true,if_true,if_false,or_self,or_true,true_or,and_self,and_true,true_and];simp_all;done))),(ad.trans ag)⟩)⟩)))))
   ·exact Sk (Rg (Ad (k:Int) 1 Z ax Z (by omega) (Mv (J ((k:Int)+1)) Z Z (Nl (⟨_,by omega,k+1,Z,(by omega),(by exact DP hs (by unfold Hq;simp only [E7,FF];simp_all;done)),Z,ag,au,av,aw,Z⟩)))))
 ·refine Xt (Sq (Rg (Mv (.string s) Z ah (Pl Z (LE EP Z (Pl Z (Ap func79 B7 Z Z Z ((BW (s.size:Int) 1 10 ).mono fun _ _ a0=>?_))))))));obtain ⟨rfl,rfl⟩:=a0;exact As (.bool (decide (1≤(s.size:Int)∧(s.size:Int)≤10))) Z Z (Nl (Rt (⟨.inr Z,Ae Z (v:=.bool (decide (1≤(s.size:Int)∧(s.size:Int)≤10))) Z (⟨(by (symm;congr 1;exact Ny hs (by omega))),(ad.trans ag)⟩)⟩)))
theorem UA {W:Wk prog} {h:GH} (o:Good) (x:Good) (rx:Nat) (hrx:Ab h rx 0 5 #[.string x.name,J x.cost,J x.pack,J x.low,J x.high]):Ac W 200 #[.agg #[.string o.name,J o.cost,J o.pack,J o.low,J o.high],Pt rx] h (fun v h'=>v=(.bool ((o.name).toList==(x.name).toList):Value)∧h.Le h'):=by
 exact AK func200 Z (Nb Z) (Sq (Rg (Pl Z (An (v:=.agg #[.string o.name,J o.cost,J o.pack,J o.low,J o.high]) (c:=#[.string o.name,J o.cost,J o.pack,J o.low,J o.high]) Z Z fun _ _ _ aa ab _=>As (.bool false) Z Z (Nl (Sq (Rg (Fa FP Z Z (Ld (.string o.name) Z Z (Rd.one K3 ab Z) (Fa FP Z Z (Ld (.string x.name) Z Z (Bq (o:=0) K3 (hrx.le aa) Z) (Pl Z (W3 (a:=o.name) (b:=x.name) Z Z (As (.bool ((o.name).toList==(x.name).toList)) Z Z (Nl (Rt (⟨.inr Z,Ae Z (v:=.bool ((o.name).toList==(x.name).toList)) Z (⟨Z,aa⟩)⟩)))))))))))))))))
theorem Wd {W:Wk prog} {h:GH} (d:Int) (m:Int) (gs:List Good) (gsv:Value) (ms:List AB) (msv:Value) (cs:List AF) (csv:Value) (hgs:AJ h gsv 5 BJ gs) (hms:AJ h msv 5 BD ms) (hcs:AJ h csv 4 A2 cs) (hnm:∀k,(gs.getD k Good.z).name.size≤1000):Ac W 195 #[.agg #[J d,J m,gsv,msv,csv]] h (fun v h'=>v=(J (Bb gs):Value)∧h.Le h'):=by
 have a2:=hgs.len;have a3:=hms.len;have a4:=hcs.len;refine AK func195 Z (Nb Z) (Sq (Rg (Pl Z (An (v:=.agg #[J d,J m,gsv,msv,csv]) (c:=#[J d,J m,gsv,msv,csv]) Z Z fun r4 h5 _ ag a5 _=>As (J 0) Z Z (Nl (Sq (Sq (Rg (Fa Ay Z Z (Fa BC Z Z (Ld gsv Z Z (Rd.one B1 a5 Z) (have ap:=hgs.le ag;Pl Z (AY Cf ap Z (Pl Z (Ap func79 B7 Z Z Z ((BW (gs.length:Int) 1 3 ).mono fun _ _ a6=>?_))))))))))))))));obtain ⟨rfl,rfl⟩:=a6;refine Pl Z (BM (p:=1≤(gs.length:Int)∧(gs.length:Int)≤3) Z (Nl (AX (p:=¬(1≤(gs.length:Int)∧(gs.length:Int)≤3)) Z (fun aq=>?_) (fun aq=>?_))))
 ·exact Sq (Rg (As (J 2) Z Z (Nl (Rt (⟨.inr Z,Ae Z (v:=J 2) Z (⟨(by (symm;congr 1;rw [Bb,if_pos ‹_›];done)),ag⟩)⟩)))))
 ·have hc16_:=Dn aq;refine Sk (Sq (Sq (Rg (Fa Ay Z Z (Fa BC Z Z (Ld gsv Z Z (Rd.one B1 a5 Z) (Pl Z (AY Cf ap Z (Mv (J 0) Z Z (Nl (Bk (Ak (fun nn σ' ds' h'=>∃(k:Nat),nn=gs.length-k∧(k≤gs.length)∧(∀j,j<k→FN gs j=0)∧ds'=[]∧GH.Le h5 h'∧σ' 1=Pt r4∧σ' 13=gsv∧σ' 14=J (gs.length:Int)∧σ' 15=J k) ⟨0,Z,(by omega),(by (intro j hj;omega)),Z,Lr,Z,Z,Z,Z⟩ (fun nn _ _ _ a7=>?_)))))))))))));obtain ⟨k,rfl,hk,hs,bx,ar,ay,az,a0,ao⟩:=a7;subst bx;have hnk:=hnm k;refine Sq (Rg (Pl Z (Ax (a:=(k:Int)) (b:=(gs.length:Int)) ao a0 (Nl (Sq (AX (p:=(k:Int)<(gs.length:Int)) Z (fun a8=>?_) (fun a8=>?_)))))))
  ·refine Sk (Sq (Bk (Sq (Rg (Mv (J k) Z ao ?_)))));have a9:(0:Int)≤(k:Int):=by omega
   have ba:(k:Int)<((gs.length:Nat):Int):=by omega
   refine Pl Z (At DZ hgs az ao a9 ba fun bz au bb=>have bc:Ab _ bz au 5 (Q4h gs k):=Ab.getD Good.z bb;have af:=ag.trans ar;Ld (.agg (Q7 gs k)) Z Z (AN Gr (bc.le af)) (have av:=ar.keep a5 Z;Pl Z (Ai G2 fun a1 _ ah ad bd _=>have be:r4≠a1:=DF av ah;As (J k) Z Z (Pl Z (AI (v:=.agg (Q7 gs k)) (c':=(Q7 gs k)) Gr Z Z bd Z Z (by simp) Z fun _ ak ai=>Nl (Bk (Sq (Rg (Fa FP Z Z (Ld (.string (UZ gs k)) Z Z (Rd.one K3 ak Z) (Pl Z (Ar func198 WP Z ((T9 (UZ gs k) (by omega)).mono fun _ bw bf=>?_)))))))))))));obtain ⟨rfl,ac⟩:=bf;refine Pl Z (FK (b:=Dz (UZ gs k)) Z (As (.bool (!(Dz (UZ gs k)))) Z Z (Nl (C8 (t:= !(Dz (UZ gs k))) Z (fun al=>?_) (fun al=>?_)))))
   ·have hc51_:(Dz (UZ gs k))=false:=by simpa using al
    exact Sq (Rg (As (J 4) Z Z (Nl (Rt (⟨.inr Z,Ae Z (v:=J 4) Z (⟨(by (symm;congr 1;rw [Bb,if_neg ‹_›];exact BS (k:=k) hs (by omega) (by unfold FN;(simp only [*,not_true_eq_false,not_false_eq_true,if_true,if_false,true_or,or_true,reduceCtorEq,Bool.false_eq_true];done)) (by decide))),(((af.trans ad).upd (Ln af ah) ai).trans ac)⟩)⟩)))))
   ·have hc51_:(Dz (UZ gs k))=true:=by simpa using al
    refine Sq (Rg (Fa Ay Z ay (Fa BC Z Z (Ld gsv Z Z (Rd.one B1 (ac.keep ((ai _ be).trans (ad.keep av Z)) Z) Z) (Mv (J k) Z Z (have am:=((af.trans ad).upd (Ln af ah) ai).trans ac;Pl Z (Zq (0) k DZ (hgs.le am) Z Z (⟨_,Z⟩) (by omega) (by omega) fun aw bg=>?_)))))));have bh:AJ bw aw 5 BJ (gs.take k):=by simpa using bg
    refine Pl Z (RY Z ?_);have bi:∀x ∈ (gs.take k),∀h1,GH.Le bw h1→Cg W (.func (.func 200) #[] #[Pt a1]) #[.agg #[.string x.name,J x.cost,J x.pack,J x.low,J x.high]] h1 fun v h2=>v=.bool ((fun x=>(x.name).toList==((gs.getD k Good.z).name).toList) x)∧h1.Le h2:=by
     intro x hx h1 l1;exact CJ func200 WR Z ((UA x (gs.getD k Good.z) a1 (Bx (l1.keep (ac.keep ak Z) Z) Z) ).mono fun v h2 hp=>⟨hp.1,hp.2⟩)
    refine Pl Z (AZ func199 WQ Z Z ((Ls (gs.take k) aw (.func (.func 200) #[] #[Pt a1]) (fun x=>(x.name).toList==((gs.getD k Good.z).name).toList) bh bi).mono fun _ b0 bj=>?_));obtain ⟨rfl,ae⟩:=bj;refine As (.bool ((gs.take k).any (fun x=>(x.name).toList==((gs.getD k Good.z).name).toList))) Z Z (Nl (C8 (t:=(gs.take k).any (fun x=>(x.name).toList==((gs.getD k Good.z).name).toList)) Z (fun bk=>?_) (fun bk=>?_)))
    ·exact Sq (Rg (As (J 5) Z Z (Nl (Rt (⟨.inr Z,Ae Z (v:=J 5) Z (⟨(by (symm;congr 1;rw [Bb,if_neg ‹_›];exact BS (k:=k) hs (by omega) (by unfold FN;(simp only [*,not_true_eq_false,not_false_eq_true,if_true,if_false,true_or,or_true,reduceCtorEq,Bool.false_eq_true];done)) (by decide))),(am.trans ae)⟩)⟩)))))
    ·refine A9 (fun σ' ds' h'=>ds'=[]∧GH.Le b0 h'∧σ' 1=Pt r4∧σ' 13=gsv∧σ' 14=J (gs.length:Int)∧σ' 15=J k∧σ' 33=.bool (Q0 gs k)) ?_ ?_
     ·refine Rg (Fa F5 Z Z (have an:=ae.keep (ac.keep ak Z) Z;Ld (J (Qs gs k)) Z Z (Rd.one AM an Z) (Pl Z (Ap func79 B7 Z Z Z ((BW (Qs gs k) 0 999 ).mono fun _ _ bl=>?_)))));obtain ⟨rfl,rfl⟩:=bl;refine Pl Z (BM (p:=0≤(Qs gs k)∧(Qs gs k)≤999) Z (Mv (.bool (decide (¬(0≤(Qs gs k)∧(Qs gs k)≤999)))) Z Z (BN (p:=¬(0≤(Qs gs k)∧(Qs gs k)≤999)) ?_ ?_)))
      ·intro aa;exact Gs 4 38 (AD Z aa) Z (Gs 4 38 (AD Z aa) Z (Gs 4 38 (AD Z aa) Z (Gs 4 38 (AD Z aa) Z (Pk true (.bool true) Z (AD Z aa) Z (Mv (.bool true) Z Z (Gs 10 44 Z Z (Gs 10 44 Z Z (Gs 10 44 Z Z (Gs 10 44 Z Z (Pk true (.bool true) Z Z Z (As (.bool true) Z Z (Nl (⟨Z,Lr,ay,az,a0,ao,Et (b:=(.bool true:Value)) Z (congrArg Value.bool (by grind:true=(Q0 gs k)))⟩)))))))))))))
      ·intro aa;refine Gg 4 38 (AC Z aa) Z (AL FQ Z (Gg 4 38 (AC Z aa) Z (AE (v:=J (Qn gs k)) Z (Rd.one AM an Z) (Gg 4 38 (AC Z aa) Z (Ap func79 B7 Z Z Z ((BW (Qn gs k) 1 20 ).mono fun _ _ bm=>?_))))));obtain ⟨rfl,rfl⟩:=bm;refine Gg 4 38 (AC Z aa) Z (BM (p:=1≤(Qn gs k)∧(Qn gs k)≤20) Z (Pk false (.bool (decide (¬(1≤(Qn gs k)∧(Qn gs k)≤20)))) Z (AC Z aa) Z (Mv (.bool (decide (¬(1≤(Qn gs k)∧(Qn gs k)≤20)))) Z Z (BN (p:=¬(1≤(Qn gs k)∧(Qn gs k)≤20)) ?_ ?_))))
       ·intro ab;exact Gs 10 44 (AD Z ab) Z (Gs 10 44 (AD Z ab) Z (Gs 10 44 (AD Z ab) Z (Gs 10 44 (AD Z ab) Z (Pk true (.bool true) Z (AD Z ab) Z (As (.bool true) Z Z (Nl (⟨Z,Lr,ay,az,a0,ao,Et (b:=(.bool true:Value)) Z (congrArg Value.bool (by grind:true=(Q0 gs k)))⟩)))))))
       ·intro ab;refine Gg 10 44 (AC Z ab) Z (AL HQ Z (Gg 10 44 (AC Z ab) Z (AE (v:=.agg (Qr gs k)) Z (GU (o:=3) (ws:=(Qr gs k)) A1 (Bx an Z) (Nb Z) Z) (Gg 10 44 (AC Z ab) Z (Ar func201 Om Z ((T6 ((gs.getD k Good.z).low) ((gs.getD k Good.z).high) ).mono fun _ _ bn=>?_))))));obtain ⟨rfl,ax⟩:=bn;exact Gg 10 44 (AC Z ab) Z (BM (p:=E2 ((gs.getD k Good.z).low) ((gs.getD k Good.z).high)) Z (Pk false (.bool (decide (¬(Qk gs k)))) Z (AC Z ab) Z (As (.bool (decide (¬(Qk gs k)))) Z Z (Nl (⟨Z,ax,ay,az,a0,ao,Et (b:=(.bool (decide (¬(Qk gs k))):Value)) Z (congrArg Value.bool (by grind:decide (¬(Qk gs k))=(Q0 gs k)))⟩)))))
     ·rintro _ _ _ ⟨bo,aj,bp,bq,br,bs,bt⟩;subst bo;refine AX (p:=((¬(0≤(Qs gs k)∧(Qs gs k)≤999))∨(¬(1≤(Qn gs k)∧(Qn gs k)≤20)))∨(¬(Qk gs k))) bt (fun bu=>?_) (fun bu=>?_)
      ·exact Sq (Rg (As (J 1) Z Z (Nl (Rt (⟨.inr Z,Ae Z (v:=J 1) Z (⟨(by (symm;congr 1;rw [Bb,if_neg ‹_›];exact BS (k:=k) hs (by omega) (by unfold FN;(simp only [*,not_true_eq_false,not_false_eq_true,if_true,if_false,true_or,or_true,reduceCtorEq,Bool.false_eq_true];done)) (by decide))),((am.trans ae).trans aj)⟩)⟩)))))
      ·exact Sk (Rg (Ad (k:Int) 1 Z bs Z (by omega) (Mv (J ((k:Int)+1)) Z Z (Nl (have bv:=((((ar.trans ad).upd (Ln ar ah) ai).trans ac).trans ae).trans aj;⟨_,by omega,k+1,Z,(by omega),(by exact DP hs (by unfold FN;(simp only [*,not_true_eq_false,not_false_eq_true,if_true,if_false,or_self,reduceCtorEq,Bool.false_eq_true];done))),Z,bv,bp,bq,br,Z⟩)))))
  ·exact Xt (Sq (Rg (As (J 0) Z Z (Nl (Rt (⟨.inr Z,Ae Z (v:=J 0) Z (⟨(by (symm;congr 1;rw [Bb,if_neg ‹_›];exact Cl (k:=k) hs (by omega))),(ag.trans ar)⟩)⟩))))))
end Go.Ns
namespace Go.Ns
open Go.Conc Go.Proofs Go.Proofs.Tryz
attribute [local irreducible] Be EK Tr Ac Cg CC
def SR:Array Value:=#[.func (.func 194) #[] #[],.func (.func 195) #[] #[],.func (.func 196) #[] #[],.func (.func 197) #[] #[]]
def SS:Array Value:=#[.string ⟨#[99,97,109,101]⟩,.func (.func 203) #[] #[],.string ⟨#[115,111,108,100]⟩,.func (.func 204) #[] #[],.string ⟨#[108,111,115,116]⟩,.func (.func 204) #[] #[],.string ⟨#[103,105,118,101,110]⟩,.func (.func 204) #[] #[],.string ⟨#[98,97,99,107]⟩,.func (.func 203) #[] #[]]
def Dx (h:GH):Prop:=Ab h 0 0 4 SR∧Ab h 1 0 10 SS
theorem Dx.le {h h':GH} (g:Dx h) (l:h.Le h'):Dx h':=⟨g.1.le l,g.2.le l⟩
def NO (k:Nat):Value:=SR.getD k undef
def We (k:Nat):Value:=SS.getD (k*2+1) undef
theorem Wf {k:Nat} (h:k<4):(if false=true then some (Value.agg ((#[.func (.func 194) #[] #[],.func (.func 195) #[] #[],.func (.func 196) #[] #[],.func (.func 197) #[] #[]]:Array Value).extract (k*1) (k*1+1))) else (#[.func (.func 194) #[] #[],.func (.func 195) #[] #[],.func (.func 196) #[] #[],.func (.func 197) #[] #[]]:Array Value)[k*1]?)=some (NO k):=by
 match k,h with
 | 0,_=>rfl
 | 1,_=>rfl
 | 2,_=>rfl
 | 3,_=>rfl
theorem ZC {k:Nat} (h:k<5):SS[0+k*2+1]? =some (We k):=by
 match k,h with
 | 0,_=>rfl
 | 1,_=>rfl
 | 2,_=>rfl
 | 3,_=>rfl
 | 4,_=>rfl
theorem ST {W:Wk prog} {h:GH} (d m:Int) (gs:List Good) (gsv:Value) (ms:List AB) (msv:Value) (cs:List AF) (csv:Value) (hgs:AJ h gsv 5 BJ gs) (hms:AJ h msv 5 BD ms) (hcs:AJ h csv 4 A2 cs) (hnm:∀k,(gs.getD k Good.z).name.size≤1000) {k:Nat} (hk:k<4) :
  Cg W (NO k) #[.agg #[J d,J m,gsv,msv,csv]] h fun v h'=>v=J (D7 d m gs ms cs k)∧h.Le h':=by
 match k,hk with
 | 0,_=>exact CJ (first:=#[]) (cap:=#[]) func194 WL rfl (ZB (W:=W) (h:=h) d m gs gsv ms msv cs csv hgs hms hcs)
 | 1,_=>exact CJ (first:=#[]) (cap:=#[]) func195 WM rfl (Wd (W:=W) (h:=h) d m gs gsv ms msv cs csv hgs hms hcs hnm)
 | 2,_=>exact CJ (first:=#[]) (cap:=#[]) func196 WN rfl (Wc (W:=W) (h:=h) d m gs gsv ms msv cs csv hgs hms hcs)
 | 3,_=>exact CJ (first:=#[]) (cap:=#[]) func197 WO rfl (T8 (W:=W) (h:=h) d m gs gsv ms msv cs csv hgs hms hcs)
theorem RK {W:Wk prog} {h:GH} (n:Int):Ac W 203 #[J n] h (fun v h'=>v=(J n:Value)∧h=h'):=by
 exact AK func203 Z (Nb Z) (Sq (Rg (As (J 0) Z Z (Nl (Sq (Rg (Mv (J n) Z Z (As (J n) Z Z (Nl (Rt (⟨.inr Z,Ae Z (v:=J n) Z (⟨Z,Z⟩)⟩)))))))))))
theorem MT {W:Wk prog} {h:GH} (n:Int) (hn:0≤n∧n≤99):Ac W 204 #[J n] h (fun v h'=>v=(J (-n):Value)∧h=h'):=by
 exact AK func204 Z (Nb Z) (Sq (Rg (As (J 0) Z Z (Nl (Sq (Rg (Mv (J n) Z Z (Pl Z (ok_neg (a:=n) Z (by omega) (As (J (-n)) Z Z (Nl (Rt (⟨.inr Z,Ae Z (v:=J (-n)) Z (⟨Z,Z⟩)⟩)))))))))))))
theorem EG {W:Wk prog} {h:GH} (d:Int) (m:Int) (gs:List Good) (gsv:Value) (ms:List AB) (msv:Value) (cs:List AF) (csv:Value) (hgs:AJ h gsv 5 BJ gs) (hms:AJ h msv 5 BD ms) (hcs:AJ h csv 4 A2 cs) (hG:Dx h) (hnm:∀k,(gs.getD k Good.z).name.size≤1000):Ac W 25 #[.agg #[J d,J m,gsv,msv,csv]] h (fun v h'=>v=(J (Ag d m gs ms cs):Value)∧h.Le h'):=by
 have ae:=hgs.len;have af:=hms.len;have ag:=hcs.len;refine AK func25 Z (Nb Z) (Sq (Rg (Pl Z (An (v:=.agg #[J d,J m,gsv,msv,csv]) (c:=#[J d,J m,gsv,msv,csv]) Z Z fun r4 h5 _ ac aq _=>As (J 0) Z Z (Nl (Sq (Sq (Rg (Ld (.agg Q1h) Z Z (AN AAp (hG.le ac).1) (Mv (J 0) Z Z (Nl (Bk (Ak (fun nn σ' ds' h'=>∃(k:Nat),nn=4-k∧(k≤4)∧(∀j,j<k→D7 d m gs ms cs j=0)∧ds'=[]∧GH.Le h5 h'∧σ' 1=Pt r4∧σ' 6=.agg Q1h∧σ' 7=J k) ⟨0,Z,(by omega),(by (intro j hj;omega)),Z,Lr,Z,Z,Z⟩ (fun nn _ _ _ ah=>?_))))))))))))));obtain ⟨k,rfl,hk,hs,ar,ad,ao,ap,ai⟩:=ah;subst ar;refine Sq (Rg (Pl Z (Ax (a:=(k:Int)) (b:=4) ai Z (Nl (Sq (AX (p:=(k:Int)<4) Z (fun aj=>?_) (fun aj=>?_)))))))
 ·refine Sk (Sq (Bk (Sq (Rg ?_))));have ak:(0:Int)≤(k:Int):=by omega
  have al:(k:Int)<((4:Nat):Int):=by omega
  refine Pl Z (Pw Yc ap ai ak al (Wf (by omega)) (As (NO k) Z Z (Nl (Sq (Rg (Mv (NO k) Z Z (Ld (Qw d m gsv msv csv) Z ao (AN Au (Bx (ad.keep aq Z) Z)) (Pl Z (A4 (cells:=#[J d,J m,gsv,msv,csv]) Dw By (by kernel_rfl) (have aa:=ac.trans ad;Pl Z (Hd Z Z ((ST d m gs gsv ms msv cs csv (hgs.le aa) (hms.le aa) (hcs.le aa) hnm (k:=k) (by omega)).mono fun _ _ am=>?_))))))))))));obtain ⟨rfl,ab⟩:=am;refine As (J (D7 d m gs ms cs k)) Z Z (Nl (Sq (Rg (Mv (J (D7 d m gs ms cs k)) Z Z (Pl Z (BE (a:=D7 d m gs ms cs k) (b:=0) Z Z (Nl (AX (p:=¬(D7 d m gs ms cs k)=0) Z (fun an=>?_) (fun an=>?_)))))))))
  ·exact Sq (Rg (Mv (J (D7 d m gs ms cs k)) Z Z (As (J (D7 d m gs ms cs k)) Z Z (Nl (Rt (⟨.inr Z,Ae Z (v:=J (D7 d m gs ms cs k)) Z (⟨(by (symm;congr 1;exact BS (k:=k) hs (by omega) Z ‹_›)),(aa.trans ab)⟩)⟩))))))
  ·exact Sk (Rg (Ad (k:Int) 1 Z ai Z (by omega) (Mv (J ((k:Int)+1)) Z Z (Nl (⟨_,by omega,k+1,Z,(by omega),(by exact DP hs (Dn ‹_›)),Z,(ad.trans ab),ao,ap,Z⟩)))))
 ·exact Xt (Sq (Rg (As (J 0) Z Z (Nl (Rt (⟨.inr Z,Ae Z (v:=J 0) Z (⟨(by (symm;congr 1;exact Cl (k:=k) hs (by omega))),(ac.trans ad)⟩)⟩))))))
end Go.Ns
