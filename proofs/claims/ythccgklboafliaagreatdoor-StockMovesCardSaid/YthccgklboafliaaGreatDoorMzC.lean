/- Rules and walks, part 3 of 6. No conditions. -/
import Derived.Carry
import Derived.Conc.LeavingOf
import Derived.LaidMore
import Derived.OpenShut
import Derived.ProofKit
import Derived.Test.YthccgklboafliaaGreatDoorMzA
import Derived.Test.YthccgklboafliaaGreatDoorMzB
import Derived.Test.YthccgklboafliaaGreatDoorProg
set_option linter.unusedVariables false
set_option linter.unusedSimpArgs false
set_option linter.unnecessarySimpa false
set_option linter.unusedSectionVars false
namespace Go.Ns
open Go.Conc
section
variable {P:Program} {M:Type}
structure QT(P:Program)(M:Type) where
 W:Wk P
 Rep:Nat->M->Value->GH->Prop
 main:Bool
 fn:FuncId
 rd:Option Nat
 N:Nat
def QT.wk(F:QT P M):Option (Fh M)->Wk P
 | none=>F.W
 | some s=>⟨F.main,E9 P F.main (Iw P F.Rep F.W.K s F.main),Lq _ _⟩
abbrev QT.env(F:QT P M)(i:Option (Fh M)):Gy P:=⟨F.wk i,F.fn,F.rd,F.N⟩
abbrev UD(M:Type):=Option (Fh M)->Exit->(Nat->Value)->List Deferred->GH->Prop
def Ll(F:QT P M)(c:Code)(i:Option (Fh M))(O:Nat->Value)(ds:List Deferred)(h:GH)(Q:UD M):Prop:=
 ∀(b:Frame)(k:List Item)(cs:List Frame)(L:Option (Fh M)->Lv)(t:Array Value),b.fn=F.fn->b.roundOf=F.rd->(∀i,Lo (F.wk i) b cs (L i))->Bp t F.N O->
  (∀i e σ' ds' h',Q i e σ' ds' h'->∀t',Bp t' F.N σ'->C8 (F.wk i) (L i) b k cs e t' ds' h')->(F.wk i).K (G (Ck b t ds (.code c ::k)) cs) h
def MN(F:QT P M)(ops:Array Oper)(l:List Oper)(i:Option (Fh M))(O:Nat->Value)(ds:List Deferred)(h:GH)(Q:UD M):Prop:=
 ∀(n:Nat)(b:Frame)(k:List Item)(cs:List Frame)(L:Option (Fh M)->Lv)(t:Array Value),(∀j,l[j]? =ops[n+j]?)->b.fn=F.fn->b.roundOf=F.rd->(∀i,Lo (F.wk i) b cs (L i))->Bp t F.N O->
  (∀i e σ' ds' h',Q i e σ' ds' h'->∀t',Bp t' F.N σ'->C8 (F.wk i) (L i) b k cs e t' ds' h')->(F.wk i).K (G (Ck b t ds (.inRegion ops (List.range' n l.length) ::k)) cs) h
variable {F:QT P M} {i:Option (Fh M)} {O:Nat->Value} {ds:List Deferred} {h:GH} {Q:UD M}
theorem IZ{c:Code}(x:Tr (F.env i) c O ds h (Q i)):Ll F c i O ds h Q:=λb k cs L t hb hr hl hs hc=>x b k cs (L i) t hb hr (hl i) hs (hc i)
theorem MO{x y:Code}(a:Ll F x i O ds h (λi e σ' ds' h'=>match e with | .normal=>Ll F y i σ' ds' h' Q | e=>Q i e σ' ds' h')):Ll F (.seq x y) i O ds h Q:=by
 intro b k cs L t hb hr hl hs hc;refine Wk.go (Ck b t ds (.code x ::.code y ::k)) (λw=>by rw [A9];simp [stepG.exec,Ck,G]) ?_;refine a b (.code y ::k) cs L t hb hr hl hs λi e σ' ds' h' q t' ht'=>?_;cases e with
 | normal=>exact q b k cs L t' hb hr hl ht' hc
 | exit id=>exact C8.push rfl (by simp) (hc _ _ _ _ _ q t' ht')
 | ret=>exact C8.push rfl (by simp) (hc _ _ _ _ _ q t' ht')
 | goto l=>exact C8.push rfl (by simp) (hc _ _ _ _ _ q t' ht')
 | panic l=>exact C8.push rfl (by simp) (hc _ _ _ _ _ q t' ht')
 | outgrown=>exact C8.push rfl (by simp) (hc _ _ _ _ _ q t' ht')
theorem Cg{x y:Code}(a:Tr (F.env i) x O ds h (λe σ' ds' h'=>match e with | .normal=>Ll F y i σ' ds' h' Q | e=>Q i e σ' ds' h')):Ll F (.seq x y) i O ds h Q:=
 MO (IZ (Q:=λi e σ' ds' h'=>match e with | .normal=>Ll F y i σ' ds' h' Q | e=>Q i e σ' ds' h') a)
theorem UE{c:Operand}{x y:Code}{t:Bool}(hc:AT O c=.bool t)(a:Ll F (if t then x else y) i O ds h Q):Ll F (.cond c x y) i O ds h Q:=by
 intro b k cs L tm hb hr hl hs hq;refine Wk.go (Ck b tm ds (.code (if t then x else y) ::k)) (λw=>?_) (a b k cs L tm hb hr hl hs hq);have he:(Ck b tm ds (.code (.cond c x y) ::k)).eval c=.bool t:=by rw [Jn hs];exact hc
 simp only [Ck] at he;rw [A9];simp [stepG.exec,Ck,G,he]
theorem trI_true{c:Operand}{x y:Code}(hc:AT O c=.bool true)(a:Ll F x i O ds h Q):Ll F (.cond c x y) i O ds h Q:=UE hc a
theorem Yk{c:Operand}{x y:Code}(hc:AT O c=.bool false)(a:Ll F y i O ds h Q):Ll F (.cond c x y) i O ds h Q:=UE hc a
theorem trI_ifb{c:Operand}{x y:Code}{t:Bool}(hc:AT O c=.bool t)(a:t=true->Ll F x i O ds h Q)(a':t=false->Ll F y i O ds h Q):Ll F (.cond c x y) i O ds h Q:=by
 cases t with
 | true=>exact trI_true hc (a rfl)
 | false=>exact Yk hc (a' rfl)
theorem KO{id:Nat}{c:Code}(a:Ll F c i O ds h (λi e σ' ds' h'=>match e with | .normal=>Q i .normal σ' ds' h' | .exit id'=>if id'=id then Q i .normal σ' ds' h' else Q i (.exit id') σ' ds' h' | e=>Q i e σ' ds' h')) :
  Ll F (.block id c) i O ds h Q:=by
 intro b k cs L t hb hr hl hs hc;refine Wk.go (Ck b t ds (.code c ::.inBlock id ::k)) (λw=>by rw [A9];simp [stepG.exec,Ck,G]) ?_;refine a b (.inBlock id ::k) cs L t hb hr hl hs λi e σ' ds' h' q t' ht'=>?_;cases e with
 | normal=>exact Wk.go (Ck b t' ds' k) (λw=>by rw [A9];simp [stepG.exec,Ck,G]) (hc _ _ _ _ _ q t' ht')
 | exit id'=>
  by_cases hid:id'=id
  ·simp only [hid,if_true] at q
   have:=hc _ _ _ _ _ q t' ht'
   simp only [C8,exitTo,hid,beq_self_eq_true,if_true];exact this
  ·simp only [hid,if_false] at q
   have:=hc _ _ _ _ _ q t' ht'
   have hne:(id==id')=false:=by simp;exact λh=>hid h.symm
   simp only [C8,exitTo,hne] at this ⊢;exact this
 | ret=>exact hc _ _ _ _ _ q t' ht'
 | goto l=>exact hc _ _ _ _ _ q t' ht'
 | panic l=>exact hc _ _ _ _ _ q t' ht'
 | outgrown=>exact hc _ _ _ _ _ q t' ht'
theorem UF{c:Code}(I:Nat->Option (Fh M)->(Nat->Value)->List Deferred->GH->Prop){n:Nat}(i0:I n i O ds h)
  (round:∀n i O ds h,I n i O ds h->Ll F c i O ds h (λi e σ' ds' h'=>match e with | .normal=>∃m,m<n/\I m i σ' ds' h' | e=>Q i e σ' ds' h')):Ll F (.loop c) i O ds h Q:=by
 intro b k cs L t hb hr hl hs hc;refine Wk.go (Ck b t ds (.code c ::.inLoop c ::k)) (λw=>by rw [A9];simp [stepG.exec,Ck,G]) ?_;have key:∀n i O ds h t,I n i O ds h->Bp t F.N O->(F.wk i).K (G (Ck b t ds (.code c ::.inLoop c ::k)) cs) h:=by
  intro n
  induction n using Nat.strongRecOn with
  | ind n ih=>
   intro i O ds h t hi hs;refine round n i O ds h hi b (.inLoop c ::k) cs L t hb hr hl hs λi e σ' ds' h' q t' ht'=>?_;cases e with
   | normal=>
    obtain ⟨m,hm,hi'⟩:=q;exact Wk.go (Ck b t' ds' (.code c ::.inLoop c ::k)) (λw=>by rw [A9];simp [stepG.exec,Ck,G]) (ih m hm _ _ _ _ _ hi' ht')
   | exit id=>exact C8.push rfl (by simp) (hc _ _ _ _ _ q t' ht')
   | ret=>exact C8.push rfl (by simp) (hc _ _ _ _ _ q t' ht')
   | goto l=>exact C8.push rfl (by simp) (hc _ _ _ _ _ q t' ht')
   | panic l=>exact C8.push rfl (by simp) (hc _ _ _ _ _ q t' ht')
   | outgrown=>exact C8.push rfl (by simp) (hc _ _ _ _ _ q t' ht')
 exact key n i O ds h t i0 hs
theorem LK{id:Nat}{l:List Oper}(a:MN F l.toArray l i O ds h Q):Ll F (.region id l.toArray false) i O ds h Q:=by
 intro b k cs L t hb hr hl hs hc;refine Wk.go (Ck b t ds (.inRegion l.toArray (List.range' 0 l.length) ::k)) (λw=>?_) (a 0 b k cs L t (by simp) hb hr hl hs hc);rw [A9];simp [stepG.exec,Ck,G,List.range_eq_range']
theorem MP{ops:Array Oper}(q:Q i .normal O ds h):MN F ops [] i O ds h Q:=by
 intro n b k cs L t hi hb hr hl hs hc;exact Wk.go (Ck b t ds k) (λw=>by rw [A9];simp [stepG.exec,Ck,G]) (hc _ _ _ _ _ q t hs)
theorem Hi{ops:Array Oper}{o:Oper}{l:List Oper}(hg:o.guard=none)(hdf:F.rd=none\/EP o.op=false)(hd:Em o.dst F.N=true)
  (x:Bg (F.env i) o O ds h λσ' ds' h'=>MN F ops l i σ' ds' h' Q):MN F ops (o ::l) i O ds h Q:=by
 intro n b k cs L t hi hb hr hl hs hc;have ho:ops[n]? =some o:=by simpa using (hi 0).symm
 refine N5 (E:=F.env i) (rest:=List.range' (n+1) l.length) ho (by simp [Region.wanted,hg]) (hr▸hdf) hd hs x λσ' ds' h' y t' ht'=>?_;exact y (n+1) b k cs L t' (λj=>by have:=hi (j+1);simpa [Nat.add_assoc,Nat.add_comm 1 j] using this) hb hr hl ht' hc
theorem UG{main:Bool}{b:Frame}{t:Array Value}{ops:Array Oper}{n:Nat}{rest:List Nat}{k:List Item}{cs:List Frame}{o:Oper}{N:Nat}(hs:Bp t N O)(ho:ops[n]? =some o)(hw:Region.wanted o (yielded ops t)=true)
  (hdf:b.roundOf=none\/EP o.op=false) (w:World):stepG P main (G (Ck b t ds (.inRegion ops (n ::rest) ::k)) cs) w=stepG.apply P true (Ck b t ds (.inRegion ops (n ::rest) ::k)) cs none (execOp (AT O) o) w:=by
 have hev:=Jn (b:=b) (ds:=ds) (k:=.inRegion ops (n ::rest) ::k) hs;rw [<-hev];have hw':((ops[n]?).map (Region.wanted · (yielded ops t))).getD false=true:=by simp [ho,hw]
 rw [A9];unfold stepG.exec;simp only [Ck,hw',↓reduceIte];unfold stepG.oper;simp only [Frame.oper?,ho];rcases hdf with e | e
 ·simp only [e]
 ·cases hq:o.op <;> first | rfl | (rw [hq] at e;cases e;done) | (cases b.roundOf <;> rfl)
theorem X8{main:Bool}{b:Frame}{t:Array Value}{ops:Array Oper}{n:Nat}{rest:List Nat}{k:List Item}{cs:List Frame}{o:Oper}{N:Nat}{w:World}{cc:Array CommCase}{bl:Bool}{sh:CommShape}(hs:Bp t N O)(ho:ops[n]? =some o)(hw:Region.wanted o (yielded ops t)=true)
  (hdf:b.roundOf=none\/EP o.op=false) (hr:(execOp (AT O) o).runT P w #[]=(.ok (.comm cc bl sh) w,#[])) :
  stepG P main (G (Ck b t ds (.inRegion ops (n ::rest) ::k)) cs) w=.comm (G (Ck b t ds (.inRegion ops (n ::rest) ::k)) cs) cc bl sh w #[]:=by
 rw [UG hs ho hw hdf];simp only [stepG.apply,hr,if_true,ite_self,seen_none];rfl
theorem spawn_at{main:Bool}{b:Frame}{t:Array Value}{ops:Array Oper}{n:Nat}{rest:List Nat}{k:List Item}{cs:List Frame}{o:Oper}{N:Nat}{w:World}{f:Fn}{cap args:Array Value}(hs:Bp t N O)(ho:ops[n]? =some o)(hw:Region.wanted o (yielded ops t)=true)
  (hdf:b.roundOf=none\/EP o.op=false) (hr:(execOp (AT O) o).runT P w #[]=(.ok (.spawn { target:=.fn f cap,args:=args }) w,#[])) :
  stepG P main (G (Ck b t ds (.inRegion ops (n ::rest) ::k)) cs) w=.spawn (G ((Ck b t ds (.inRegion ops (n ::rest) ::k)).finish undef) cs) (born P { target:=.fn f cap,args:=args }) w #[]:=by
 rw [UG hs ho hw hdf];simp only [stepG.apply,hr,if_true,ite_self,seen_none];simp [GStep.after,G,born]
variable {ops:Array Oper} {o:Oper} {l:List Oper}
theorem LL(hl:l≠[]):MN F ops l (some .never) O ds h Q:=λn b k cs L t hi hb hr _ hs hc=>E9.stop rfl
theorem Yl{c:Nat}{m:M}{nx:Fh M}{v z:Value}{hm h1:GH}(hg:o.guard=none)(hdf:EP o.op=false)(hd:Em o.dst F.N=true)
  (hr:∀w,(execOp (AT O) o).runT P w #[]=(.ok (.comm #[scase c v z] true .send) w,#[])) (hsp:GH.Split h h1 hm) (hrep:F.Rep c m v hm) (hnx:¬nx.isDone)
  (x:MN F ops l (some nx) (putS O o.dst undef) ds h1 Q):MN F ops (o ::l) (some (.send c m nx)) O ds h Q:=by
 intro n b k cs L t hi hb hrd hl hs hc;have ho:ops[n]? =some o:=by simpa using (hi 0).symm
 refine E9.stop ⟨_,cs,v,z,hm,h1,rfl,⟨λw f=>?_,hsp,hrep,?_⟩⟩
 ·rw [List.length_cons,List.range'_succ];exact X8 hs ho (by simp [Region.wanted,hg]) (.inr hdf) (hr w)
 ·rw [HU hnx,List.length_cons,List.range'_succ,DR ho];exact x (n+1) b k cs L _ (λj=>by have:=hi (j+1);simpa [Nat.add_assoc,Nat.add_comm 1 j] using this) hb hrd hl (hs.putS hd undef) hc
theorem Q7{c:Nat}{f:Option M->Fh M}{z:Value}{ok:Bool}(hg:o.guard=none)(hdf:EP o.op=false)(hd:Em o.dst F.N=true)
  (hr:∀w,(execOp (AT O) o).runT P w #[]=(.ok (.comm #[rcase c z] true (.recv ok)) w,#[])) (hnx:∀o,¬(f o).isDone)
  (x:∀m v hm,F.Rep c m v hm->h.Compat hm->MN F ops l (some (f (some m))) (putS O o.dst (recvd ok v true)) ds (h.join hm) Q)
  (y:MN F ops l (some (f none)) (putS O o.dst (recvd ok z false)) ds h Q):MN F ops (o ::l) (some (.recv c f)) O ds h Q:=by
 intro n b k cs L t hi hb hrd hl hs hc;have ho:ops[n]? =some o:=by simpa using (hi 0).symm
 refine E9.stop ⟨_,cs,z,ok,rfl,⟨λw fw=>?_,λm v hm hrep hcp=>?_,?_⟩⟩
 ·rw [List.length_cons,List.range'_succ];exact X8 hs ho (by simp [Region.wanted,hg]) (.inr hdf) (hr w)
 ·show F4 P F.Rep F.W.K (f (some m)) F.main _ _;rw [HU (hnx _),List.length_cons,List.range'_succ,DR ho];exact x m v hm hrep hcp (n+1) b k cs L _ (λj=>by have:=hi (j+1);simpa [Nat.add_assoc,Nat.add_comm 1 j] using this) hb hrd hl (hs.putS hd _) hc
 ·show F4 P F.Rep F.W.K (f none) F.main _ _;rw [HU (hnx _),List.length_cons,List.range'_succ,DR ho];exact y (n+1) b k cs L _ (λj=>by have:=hi (j+1);simpa [Nat.add_assoc,Nat.add_comm 1 j] using this) hb hrd hl (hs.putS hd _) hc
theorem trLI_go{ch nx:Fh M}{f:Fn}{cap args:Array Value}{hc h1:GH}(hg:o.guard=none)(hdf:EP o.op=false)(hd:Em o.dst F.N=true)
  (hr:∀w,(execOp (AT O) o).runT P w #[]=(.ok (.spawn { target:=.fn f cap,args:=args }) w,#[])) (hsp:GH.Split h h1 hc) (hnx:¬nx.isDone)
  (child:F4 P F.Rep F.W.K ch false (born P { target:=.fn f cap,args:=args }) hc) (x:MN F ops l (some nx) (putS O o.dst undef) ds h1 Q):MN F ops (o ::l) (some (.spawn ch nx)) O ds h Q:=by
 intro n b k cs L t hi hb hrd hl hs hq;have ho:ops[n]? =some o:=by simpa using (hi 0).symm
 refine E9.stop ⟨_,cs,(Ck b t ds (.inRegion ops (List.range' n (o ::l).length) ::k)).finish undef,_,hc,h1,rfl,⟨λw fw=>?_,hsp,?_,child⟩⟩
 ·rw [List.length_cons,List.range'_succ];exact spawn_at hs ho (by simp [Region.wanted,hg]) (.inr hdf) (hr w)
 ·rw [HU hnx,List.length_cons,List.range'_succ,DR ho];exact x (n+1) b k cs L _ (λj=>by have:=hi (j+1);simpa [Nat.add_assoc,Nat.add_comm 1 j] using this) hb hrd hl (hs.putS hd undef) hq
def LM(tys:Array TypeId)(ty:TypeId)(cs:Array Bool)(c:Nat):Deferred:={ target:=.builtin .close tys ty cs,args:=#[.chan (some c)] }
theorem Sa{f:FuncId}{fn:Func}{args:Array Value}(hf:P.funcs[f]? =some fn)(hc:AP fn=true)(w:World):(callFunc f args).runT P w #[]=(.ok (.enter f args) w,#[]):=by
 unfold AP at hc;simp only [Bool.and_eq_true,Bool.not_eq_true'] at hc;unfold callFunc;show (match P.funcs[f]? with | none=>_ | some fn=>_:Sem Next).runT P w #[]=_;rw [hf];simp only [];rw [if_neg (by rw [hc.1];simp),if_neg (by cases hb:fn.body with | none=>rw [hb] at hc;simp at hc | some c=>simp)];rfl
theorem Vv{tys:Array TypeId}{ty:TypeId}{cs:Array Bool}{ch s r:Nat}{w:World}(hw:w.heap[ch]? =some (.chan 0 #[] false s r false)) :
  (invoke (.builtin .close tys ty cs) #[.chan (some ch)]).runT P w #[]=(.ok (.value (.tuple #[])) { w with heap:=w.heap.setIfInBounds ch (.chan 0 #[] true s r false) },#[⟨.obj ch,false,true⟩,⟨.obj ch,true,true⟩]):=by
 show ((do pure (.value (<-Builtin.close_ tys ty #[.chan (some ch)])):Sem Next)).runT P w #[]=_;show Sem.runT P (.getObj ch λo=>_) w #[]=_;unfold Sem.runT;rw [hw];show Sem.runT P (.setObj ch (.chan 0 #[] true s r false) _) w _=_;unfold Sem.runT;rw [hw];rfl
theorem Vw{fn:FuncId}{ch:Nat}:seen P fn #[⟨.obj ch,false,true⟩,⟨.obj ch,true,true⟩]=#[⟨.obj ch,false,true⟩,⟨.obj ch,true,true⟩]:=by
 rw [seen_def];simp [seenStep]
theorem Ym{fn:Func}{c:Code}{s:Fh M}{ars cap args:Array Value}(hm:F.main=false)(hrd:F.rd=none)(ha:ars++cap=args)(hf:P.funcs[F.fn]? =some fn)(hc:AP fn=true)(hb:fn.body=some c)(hN:F.N=fn.ntmps)(hres:fn.results=#[])(hsz:args.size<=fn.ntmps)(hs:¬s.isDone)
  (x:Ll F c (some s) (λi=>args.getD i undef) [] h λi e O ds h=>(e=.normal\/e=.ret)/\∃ch tys ty cs,i=some (.close ch .done)/\ds=[LM tys ty cs ch]):F4 P F.Rep F.W.K s false (born P { target:=.fn (.func F.fn) cap,args:=ars }) h:=by
 let bot:Frame:={ (default:Frame) with fn:=P.funcs.size,defers:=[],mode:=.panicking [goexitEntry] };have hwk:∀s,(F.wk (some s)).K=E9 P false (Iw P F.Rep F.W.K s false):=λs=>by show E9 P F.main (Iw P F.Rep F.W.K s F.main)=_;rw [hm]
 rw [HU hs];refine Lq _ _ _ _ rfl λw f=>⟨G (Frame.enter P F.fn args .deferred) [bot],w,#[],h,?_,Bh.refl f,?_⟩
 ·subst ha;have hi:(invoke (.fn (.func F.fn) cap) ars).runT P w #[]=(.ok (.enter F.fn (ars++cap)) w,#[]):=Sa hf hc w;show callDeferred P bot [] none { target:=.fn (.func F.fn) cap,args:=ars } w=_;unfold callDeferred;rw [if_neg (by simp)];simp only [hi,seen_none];rfl
 have e0:Frame.enter P F.fn args .deferred=Ck (Frame.enter P F.fn args .deferred) (args++Array.replicate (fn.ntmps-args.size) undef) [] [.code c]:=by simp [Frame.enter,Ck,hf,hb]
 rw [e0,<-hwk s];let L:Option (Fh M)->Lv:=λi j t ds h'=>(j=none\/j=some .ret)/\∃ch tys ty cs,i=some (.close ch .done)/\ds=[LM tys ty cs ch];have fin:∀ch tys ty cs h' t k,(F.wk (some (.close ch .done))).K (G (Dt (Frame.enter P F.fn args .deferred) t [LM tys ty cs ch] k) [bot]) h':=by
  intro ch tys ty cs h' t k;rw [hwk];refine E9.stop ⟨_,_,Dt (Frame.enter P F.fn args .deferred) t [] k,[bot],rfl,⟨λw s r _ hw=>?_,rfl,?_⟩⟩
  ·have hi:=Vv (P:=P) (tys:=tys) (ty:=ty) (cs:=cs) hw;show callDeferred P (Dt (Frame.enter P F.fn args .deferred) t [] k) [bot] none (LM tys ty cs ch) w=_;unfold callDeferred LM;rw [if_neg (by simp)];simp only [hi,Vw];rfl
  ·refine ⟨2,.inr ⟨rfl,G bot [],λw=>?_,.inr ⟨rfl,{ G bot [] with status:=.finished },λw=>?_,rfl⟩⟩⟩
   ·show unwind P false (Dt (Frame.enter P F.fn args .deferred) t [] k) [bot] none w=_;have hfn:(Dt (Frame.enter P F.fn args .deferred) t [] k).fn=F.fn:=rfl;have hk:(Dt (Frame.enter P F.fn args .deferred) t [] k).kind=.deferred:=rfl;have hmd:(Dt (Frame.enter P F.fn args .deferred) t [] k).mode=.returning:=rfl;have hd:(Dt (Frame.enter P F.fn args .deferred) t [] k).defers=[]:=rfl;have r1:∀t,(results fn t).runT P w #[]=(.ok (.tuple #[]) w,#[]):=λt=>by
     unfold results;rw [hres];simp only [Array.mapM_empty];rfl
    unfold unwind;simp only [hd,hmd,hfn,hf,r1,GStep.after,doReturn,hk,seen_none];rfl
   ·show unwind P false bot [] none w=_;have hcat:bot.catches P=false:=by
     unfold Frame.catches
     have:P.funcs[bot.fn]? =none:=Array.getElem?_eq_none (Nat.le_refl _)
     rw [this];rfl
    have hd:bot.defers=[]:=rfl;have hmd:bot.mode=.panicking [goexitEntry]:=rfl;unfold unwind;simp only [hd,hmd,hcat];rfl
 refine x (Frame.enter P F.fn args .deferred) [] [bot] L _ rfl hrd.symm (λi=>⟨?_,?_,?_⟩) ⟨by rw [hN];simp;omega,λi=>?_⟩ ?_
 ·rintro t ds h' ⟨_,ch,tys,ty,cs,rfl,rfl⟩;exact Wk.go (Dt (Frame.enter P F.fn args .deferred) t _ []) (λw=>by rw [A9];simp [stepG.exec,Ck,Dt,G,Frame.enter]) (fin ch tys ty cs h' t [])
 ·rintro t ds h' k ⟨_,ch,tys,ty,cs,rfl,rfl⟩;exact Wk.go (Dt (Frame.enter P F.fn args .deferred) t _ (.code .ret ::k)) (λw=>by rw [A9];simp [stepG.exec,Ck,Dt,G,Frame.enter]) (fin ch tys ty cs h' t _)
 ·rintro id t ds h' k _ ⟨h1 | h1,_⟩ <;> cases h1
 ·by_cases hi:i<args.size
  ·simp [Array.getD_eq_getD_getElem?,Array.getElem?_append_left hi]
  ·simp only [Array.getD_eq_getD_getElem?];rw [Array.getElem?_append_right (by omega),Array.getElem?_eq_none (show args.size<=i by omega),Array.getElem?_replicate];split <;> rfl
 ·rintro i e O ds h' ⟨he,ch,tys,ty,cs,rfl,rfl⟩ t' ht';rcases he with rfl | rfl
  ·exact Wk.go (Dt (Frame.enter P F.fn args .deferred) t' _ []) (λw=>by rw [A9];simp [stepG.exec,Ck,Dt,G,Frame.enter]) (fin ch tys ty cs h' t' [])
  ·exact ⟨.inr rfl,ch,tys,ty,cs,rfl,rfl⟩
end
section
variable {P:Program} {M:Type} {Post:Value->World->Prop}
def GH.Same(h h':GH):Prop:=∀b p o,h b=some (p,o)->∃p',h' b=some (p',o)
theorem IE.flags{g:Goroutine}{h h':GH}{gs:Array Goroutine}{w:World}{q:Nat->Nat}{t:Trace}(B:IE P g h gs w q t)(s:h'.Same h):IE P g h' gs w q t:=
 { B with
  fits:=λb p o hb=>by obtain ⟨p',x⟩:=s b p o hb;exact B.fits b p' o x
  chn:=λb p o k a hb=>by obtain ⟨p',x⟩:=s b p o hb;exact B.chn b p' o k a x }
theorem EC.flags{g:Goroutine}{h h':GH}(s:h'.Same h)(x:EC P Post g h'):EC P Post g h:=λgs w sl q t B=>x gs w sl q t (B.flags s)
def Vx(c:Nat)(s0:Fh M)(N:Ix M):Prop:=0<N.n/\N.s 0=s0/\(∀j,0<j->j<N.n->N.s j=.done/\N.kn 0 j)/\N.cl c=false
theorem QU{Rep:Nat->M->Value->GH->Prop}{g:Goroutine}{h:GH}{c:Nat}{s0:Fh M}(hc:h c=some (true,.chan 0 #[] false 0 0 false))(good:∀N:Ix M,Vx c s0 N->JZ (λx=>x=c) N)
  (d:F4 P Rep (EC P Post) s0 true g (h.delS λx=>x=c)):EC P Post g h:=by
 intro gs w sl q t B;have hsub:(h.delS λx=>x=c).Same h:=λb p o hb=>by
  by_cases e:b=c
  ·rw [GH.delS_in (X:=λx=>x=c) e] at hb;cases hb
  ·rw [GH.delS_ne (X:=λx=>x=c) e] at hb;exact ⟨p,hb⟩
 have B':=B.flags hsub;let N:Ix M:={ n:=gs.size,s:=λj=>if j=0 then s0 else .done,kn:=λi j=>i=0/\0<j,cl:=λ_=>false,ck:=λ_ _=>False };have hpos:0<gs.size:=B.lt;obtain ⟨r0,hsit⟩:=HV (cl:=N.cl) d;have hsits:∀i g',gs[i]? =some g'->Qi P Rep (EC P Post) (N.s i) N.cl (i==0) g' (only (h.delS λx=>x=c) i) (if i=0 then r0 else .leave (q i)):=by
  intro i g' hi;rcases Nat.eq_zero_or_pos i with rfl | hp
  ·have:=B.here;rw [hi] at this;cases this
   simpa [N,only] using hsit
  ·have h0:¬i=0:=by omega
   have hq:=B.old i g' hp hi;simp only [N,h0,if_false];exact .leave (q i) rfl hq
 have hparked:∀i (gi:Goroutine) cs sh,gs[i]? =some (parked gi cs sh)->i=0:=λi gi cs sh hi=>by
  rcases Nat.eq_zero_or_pos i with e | hp
  ·exact e
  ·rcases (B.old i _ hp hi).status with e | e <;> cases e
 refine net_runs (used:=λx=>x=c) (N:=N) (good N ⟨hpos,rfl,λj hj hjn=>⟨if_neg (by omega),rfl,hj⟩,rfl⟩) (λi=>if i=0 then r0 else .leave (q i)) gs w sl t (only (h.delS λx=>x=c))
  ⟨rfl,B'.HS,B'.TI,hsits,?_,?_,?_,?_,?_,?_⟩
 ·rintro c' rfl;exact ⟨0,B.fits _ _ _ hc⟩
 ·rintro c' i rfl hi;unfold only;split
  ·exact GH.delS_in rfl
  ·rfl
 ·rintro c' k a rfl hk hl;exact B.chn _ _ _ k a hc rfl hk hl
 ·intro i j gi gj c' v z sh z' sh' h1 h2;obtain rfl:=hparked i _ _ _ h1;obtain rfl:=hparked j _ _ _ h2;rw [h1] at h2;exact HG (Option.some.inj h2).symm
 ·rintro i j hi hj ⟨rfl,hjp⟩;refine ⟨if_neg (by omega),λk a hk _=>B.known k a hk⟩
 ·rintro c' rfl h1;cases h1
def O4(W:Wk P):Prop:=∃Post:Value->World->Prop,W.K=EC P Post
variable {F:QT P M} {i:Option (Fh M)} {O:Nat->Value} {ds:List Deferred} {h:GH} {Q:UD M}
theorem trI_net{c:Code}{s0:Fh M}{ch:Nat}(hm:F.main=true)(hW:O4 F.W)(hc:h ch=some (true,.chan 0 #[] false 0 0 false))(hs:¬s0.isDone)(good:∀N:Ix M,Vx ch s0 N->JZ (λx=>x=ch) N)
  (x:Ll F c (some s0) O ds (h.delS λx=>x=ch) Q):Ll F c none O ds h Q:=by
 intro b k cs L t hb hr hl ht hq
 have:=x b k cs L t hb hr hl ht hq
 obtain ⟨Post,hP⟩:=hW;show F.W.K _ _;rw [hP];refine QU (Rep:=F.Rep) hc good ?_;rw [HU hs];unfold QT.wk at this;simp only [hm,hP] at this;exact this
theorem trI_out{c:Code}{h0:GH}(hW:O4 F.W)(hs:h0.Same h)(x:Ll F c none O ds (h0.join h) Q):Ll F c (some .stop) O ds h Q:=by
 intro b k cs L t hb hr hl ht hq
 have:=x b k cs L t hb hr hl ht hq
 obtain ⟨Post,hP⟩:=hW;refine E9.stop ?_;show F.W.K _ _;have h2:F.W.K _ _:=this;rw [hP] at h2 ⊢;refine h2.flags λb p o hb=>?_;rcases hj:h0 b with _ | ⟨p0,o0⟩
 ·unfold GH.join at hb;rw [hj] at hb;exact ⟨p,hb⟩
 ·unfold GH.join at hb;rw [hj] at hb;cases hb;exact hs b p o hj
def GH.ro(h:GH):GH:=λb=>(h b).map λx=>(false,x.2)
theorem GH.ro_some{h:GH}{b:Nat}{p:Bool}{o:Obj}(hb:h b=some (p,o)):h.ro b=some (false,o):=by unfold GH.ro;rw [hb];rfl
theorem GH.ro_inv{h:GH}{b:Nat}{p:Bool}{o:Obj}(hb:h.ro b=some (p,o)):p=false/\∃p',h b=some (p',o):=by
 unfold GH.ro at hb;cases e:h b with
 | none=>rw [e] at hb;cases hb
 | some x=>rw [e] at hb;obtain ⟨p',o'⟩:=x;cases hb;exact ⟨rfl,p',rfl⟩
theorem GH.split_ro(h:GH):GH.Split h h.ro h.ro where
 left:=λb p o hb=>by obtain ⟨rfl,p',x⟩:=GH.ro_inv hb;exact ⟨p',x,λe=>by cases e⟩
 right:=λb p o hb=>by obtain ⟨rfl,p',x⟩:=GH.ro_inv hb;exact ⟨p',x,λe=>by cases e⟩
 one:=λr o x hb=>by cases (GH.ro_inv hb).1
 two:=λr o x hb=>by cases (GH.ro_inv hb).1
theorem GH.same_ro(h:GH):h.Same h.ro:=λ_ _ _ hb=>⟨false,GH.ro_some hb⟩
theorem GH.Same.trans{a b c:GH}(x:a.Same b)(y:b.Same c):a.Same c:=λr p o hr=>by obtain ⟨p',z⟩:=x r p o hr;exact y r p' o z
theorem GH.Le.same{a b:GH}(x:a.Le b):a.Same b:=λr p o hr=>⟨p,x.keep hr rfl⟩
theorem GH.le_join(a b:GH):a.Le (a.join b):=λr p o hr=>⟨o,by unfold GH.join;rw [hr],.inl rfl⟩
theorem GH.Same.join{a b:GH}(s:a.Same b):b.Same (a.join b):=λr p o hr=>by
 unfold GH.join;cases e:a r with
 | none=>exact ⟨p,hr⟩
 | some x=>obtain ⟨p0,o0⟩:=x;obtain ⟨p',y⟩:=s r p0 o0 e;rw [hr] at y;cases y;exact ⟨p0,rfl⟩
theorem Aa.flags{h h':GH}(s:h.Same h'){b off n:Nat}{vs:Array Value}(x:Aa h b off n vs):Aa h' b off n vs:=by
 obtain ⟨p,c,t,f,y,z⟩:=x;obtain ⟨p',y'⟩:=s _ _ _ y;exact ⟨p',c,t,f,y',z⟩
theorem AH.flags{U:Type}{h h':GH}(s:h.Same h'){v:Value}{n:Nat}{enc:U->Array Value}{xs:List U}(x:AH h v n enc xs):AH h' v n enc xs:=by
 obtain ⟨a,cap,hv,hc,hm,he⟩:=x;refine ⟨a,cap,hv,hc,hm,λi hi=>?_⟩;obtain ⟨b,off,h1,h2⟩:=he i hi;exact ⟨b,off,h1,h2.flags s⟩
end
section
variable {M:Type} [DecidableEq M]
def Ia(c:Nat):List M->Fh M
 | []=>.close c .done
 | m ::ms=>.send c m (Ia c ms)
def MQ:Option M->Fh M
 | none=>.stop
 | some _=>.never
def Gj(m:M)(nx:Fh M):Option M->Fh M
 | some m'=>if m'=m then nx else .never
 | none=>.never
def J3(c:Nat):List M->Fh M
 | []=>.recv c MQ
 | m ::ms=>.recv c (Gj m (J3 c ms))
structure TwoN(c k:Nat)(ms:List M)(N:Ix M):Prop where
 n:N.n=k+1
 pos:0<k
 main:N.s 0=J3 c ms
 child:N.s k=Ia c ms
 rest:∀j,0<j->j<k->N.s j=.done/\N.kn 0 j
 cl:N.cl c=false
theorem Yn{c k:Nat}:∀{ms:List M}{N:Ix M},TwoN c k ms N->JZ (λx=>x=c) N:=by
 intro ms
 induction ms with
 | nil=>
  intro N T;have hk:=T.pos;refine .step N (by rw [T.n];omega) ⟨_,.shut (i:=k) (c:=c) (nx:=.done) (by rw [T.n];omega) T.child⟩ (λi hi=>?_) (λN' st=>?_)
  ·rcases Nat.eq_zero_or_pos i with rfl | hp
   ·rw [T.main];rfl
   ·rcases Nat.lt_or_ge i k with hl | hl
    ·rw [(T.rest i hp hl).1];show i≠0;omega
    ·obtain rfl:i=k:=by have:=T.n;omega
     rw [T.child];exact ⟨rfl,T.cl⟩
  ·have key:∀i,i<N.n->i=0\/i=k\/N.s i=.done:=λi hi=>by
    rcases Nat.eq_zero_or_pos i with e | hp
    ·exact .inl e
    ·rcases Nat.lt_or_ge i k with hl | hl
     ·exact .inr (.inr (T.rest i hp hl).1)
     ·exact .inr (.inl (by have:=T.n;omega))
   have hm:N.s 0=.recv c MQ:=T.main;have hch:N.s k=.close c .done:=T.child;cases st with
   | hire hi hs=>rcases key _ hi with rfl | rfl | e <;> simp_all
   | meet hi hj hij hs hs'=>rcases key _ hi with rfl | rfl | e <;> simp_all
   | hear hj hs hcl=>
    rcases key _ hj with rfl | rfl | e
    ·rw [hm] at hs;cases hs;rw [T.cl] at hcl;cases hcl
    ·rw [hch] at hs;cases hs
    ·rw [e] at hs;cases hs
   | @shut i c' nx hi hs=>
    rcases key _ hi with rfl | rfl | e
    ·rw [hm] at hs;cases hs
    ·rw [hch] at hs;cases hs;refine .step _ (by show 0<N.n;rw [T.n];omega) ⟨_,.hear (j:=0) (c:=c) (f:=_) (by show 0<N.n;rw [T.n];omega) (by show (if 0=i then _ else N.s 0)=_;rw [if_neg (by omega)];exact hm) (by show (if c=c then true else _)=true;rw [if_pos rfl])⟩ (λj hj=>?_) (λN'' st=>?_)
     ·have hj:j<N.n:=hj;show OK _ _ j (if j=i then _ else N.s j);by_cases e:j=i
      ·rw [if_pos e];show j≠0;omega
      ·rw [if_neg e];rcases key j hj with rfl | rfl | e'
       ·rw [hm];rfl
       ·exact absurd rfl e
       ·rw [e'];show j≠0;rintro rfl;rw [hm] at e';cases e'
     ·have hs':∀j,j<N.n->j≠0->(N.shut i c .done).s j=.done:=λj hj hj0=>by
       show (if j=i then _ else N.s j)=_;by_cases e:j=i
       ·rw [if_pos e]
       ·rw [if_neg e];rcases key j hj with rfl | rfl | e'
        ·exact absurd rfl hj0
        ·exact absurd rfl e
        ·exact e'
      have hs0:(N.shut i c .done).s 0=.recv c MQ:=by show (if 0=i then _ else N.s 0)=_;rw [if_neg (by omega)];exact hm
      have key2:∀j,j<N.n->j=0\/(N.shut i c .done).s j=.done:=λj hj=>(Nat.eq_zero_or_pos j).imp id λhp=>hs' j hj (by omega);cases st with
      | hire hi hs=>rcases key2 _ hi with rfl | e <;> simp_all
      | meet hi hj hij hs hs'=>rcases key2 _ hi with rfl | e <;> simp_all
      | shut hi hs=>rcases key2 _ hi with rfl | e <;> simp_all
      | @hear j c' f hj hs hcl=>
       rcases key2 _ hj with rfl | e
       ·rw [hs0] at hs;cases hs;refine .stop _ (by show 0<N.n;rw [T.n];omega) (show (if 0=0 then MQ none else (N.shut i c .done).s 0)=Fh.stop from rfl) λj hj hjn=>⟨?_,?_⟩
        ·show (if j=0 then _ else (N.shut i c .done).s j)=_;rw [if_neg (by omega)];exact hs' j hjn (by omega)
        ·simp only [Ix.hear,Ix.shut,if_true];show N.kn 0 j\/N.kn i j\/(j=i/\True);rcases Nat.lt_or_ge j i with hl | hl
         ·exact .inl (T.rest j hj hl).2
         ·have hjn:j<N.n:=hjn;exact .inr (.inr ⟨by have:=T.n;omega,trivial⟩)
       ·rw [e] at hs;cases hs
    ·rw [e] at hs;cases hs
 | cons m ms ih=>
  intro N T;have hk:=T.pos;have hch:N.s k=.send c m (Ia c ms):=T.child;have hm:N.s 0=.recv c (Gj m (J3 c ms)):=T.main;have key:∀i,i<N.n->i=0\/i=k\/N.s i=.done:=λi hi=>by
   rcases Nat.eq_zero_or_pos i with e | hp
   ·exact .inl e
   ·rcases Nat.lt_or_ge i k with hl | hl
    ·exact .inr (.inr (T.rest i hp hl).1)
    ·exact .inr (.inl (by have:=T.n;omega))
  refine .step N (by rw [T.n];omega) ⟨_,.meet (i:=k) (j:=0) (by rw [T.n];omega) (by rw [T.n];omega) (by omega) hch hm⟩ (λi hi=>?_) (λN' st=>?_)
  ·rcases key i hi with rfl | rfl | e
   ·rw [hm];rfl
   ·rw [hch];exact ⟨rfl,T.cl⟩
   ·rw [e];show i≠0;rintro rfl;rw [hm] at e;cases e
  ·cases st with
   | hire hi hs=>rcases key _ hi with rfl | rfl | e <;> simp_all
   | shut hi hs=>rcases key _ hi with rfl | rfl | e <;> simp_all
   | hear hj hs hcl=>
    rcases key _ hj with rfl | rfl | e
    ·rw [hm] at hs;cases hs;rw [T.cl] at hcl;cases hcl
    ·rw [hch] at hs;cases hs
    ·rw [e] at hs;cases hs
   | @meet i j c' m' nx f hi hj hij hs hs'=>
    have hi':i=k:=by
     rcases key _ hi with rfl | rfl | e
     ·rw [hm] at hs;cases hs
     ·rfl
     ·rw [e] at hs;cases hs
    have hj':j=0:=by
     rcases key _ hj with rfl | rfl | e
     ·rfl
     ·rw [hch] at hs';cases hs'
     ·rw [e] at hs';cases hs'
    subst hi' hj';rw [hch] at hs;cases hs;rw [hm] at hs';cases hs';refine ih ⟨T.n,hk,?_,?_,λj hj hjk=>⟨?_,?_⟩,T.cl⟩
    ·show (if 0=i then _ else if 0=0 then _ else N.s 0)=_;rw [if_neg (by omega),if_pos rfl];show (if m=m then _ else _)=_;rw [if_pos rfl]
    ·show (if i=i then _ else _)=_;rw [if_pos rfl]
    ·show (if j=i then _ else if j=0 then _ else N.s j)=_;rw [if_neg (by omega),if_neg (by omega)];exact (T.rest j hj hjk).1
    ·simp only [Ix.meet,or_true,if_true];exact .inr (.inl (T.rest j hj hjk).2)
theorem Vy{c:Nat}{ms:List M}{N:Ix M}(S:Vx c (.spawn (Ia c ms) (J3 c ms)) N):JZ (λx=>x=c) N:=by
 obtain ⟨hn,h0,hr,hcl⟩:=S;have key:∀i,i<N.n->i=0\/N.s i=.done:=λi hi=>(Nat.eq_zero_or_pos i).imp id λhp=>(hr i hp hi).1;refine .step N hn ⟨_,.hire hn h0⟩ (λi hi=>?_) (λN' st=>?_)
 ·rcases key i hi with rfl | e
  ·rw [h0];trivial
  ·rw [e];show i≠0;rintro rfl;rw [h0] at e;cases e
 ·cases st with
  | meet hi hj hij hs hs'=>rcases key _ hi with rfl | e <;> simp_all
  | shut hi hs=>rcases key _ hi with rfl | e <;> simp_all
  | hear hj hs hcl=>rcases key _ hj with rfl | e <;> simp_all
  | @hire i ch nx hi hs=>
   rcases key _ hi with rfl | e
   ·rw [h0] at hs;cases hs;refine Yn (k:=N.n) (ms:=ms) ⟨rfl,hn,?_,?_,λj hj hjk=>⟨?_,?_⟩,hcl⟩
    ·show (if 0=N.n then _ else if 0=0 then _ else _)=_;rw [if_neg (by omega),if_pos rfl]
    ·show (if N.n=N.n then _ else _)=_;rw [if_pos rfl]
    ·show (if j=N.n then _ else if j=0 then _ else N.s j)=_;rw [if_neg (by omega),if_neg (by omega)];exact (hr j hj hjk).1
    ·show (if j=N.n then False else if 0=N.n then _ else N.kn 0 j);rw [if_neg (by omega),if_neg (by omega)];exact (hr j hj hjk).2
   ·rw [e] at hs;cases hs
omit [DecidableEq M] in
theorem Q8(c:Nat)(ms:List M):¬(Ia c ms).isDone:=by cases ms <;> exact id
theorem Q9(c:Nat)(ms:List M):¬(J3 c ms).isDone:=by cases ms <;> exact id
end
end Go.Ns
namespace Go.Ns
open Go.Conc
section
variable (d m:Int) (gs:List Good) (ms:List AB) (cs:List AF)
def MR(mask:Nat):Option (List Int):=if DL d gs ms (Cx cs (mask:Int) cs.length) m=true then none else some (BN (mask:Int) cs.length)
def DC(k f:Nat):List (List Int):=(List.range' k f).filterMap (MR d m gs ms cs)
def EH:List (List Int):=DC d m gs ms cs 0 (2 ^ cs.length)
def Eh:Int:=if Ae d m gs ms cs=0 then (if DL d gs ms cs m=true then 0 else if DL d gs ms (Cx cs 0 cs.length) m=true then 0 else 8) else Ae d m gs ms cs
def Fq:List Int:=if Ae d m gs ms cs=0/\DL d gs ms cs m=false/\DL d gs ms (Cx cs 0 cs.length) m=true then Jd ((EH d m gs ms cs).getD 0 []) ((EH d m gs ms cs).drop 1) else []
end
section
variable {d m:Int} {gs:List Good} {ms:List AB} {cs:List AF}
theorem O5{k f:Nat}(h:DL d gs ms (Cx cs (k:Int) cs.length) m=true):DC d m gs ms cs k (f+1)=DC d m gs ms cs (k+1) f:=by
 unfold DC MR;rw [List.range'_succ,List.filterMap_cons];simp [h]
theorem O6{k f:Nat}(h:DL d gs ms (Cx cs (k:Int) cs.length) m=false):DC d m gs ms cs k (f+1)=BN (k:Int) cs.length ::DC d m gs ms cs (k+1) f:=by
 unfold DC MR;rw [List.range'_succ,List.filterMap_cons];simp [h]
theorem Vz{n i:Nat}(hn:n<=4)(hi:i<n):Hc ((2 ^ n-1:Nat):Int) i=true:=by
 have h:∀n,n<=4->∀i,i<n->Hc ((2 ^ n-1:Nat):Int) i=true:=by decide
 exact h n hn i hi
theorem V0{U:Type}(l:List U)(z:U):(List.range l.length).map (λi=>l.getD i z)=l:=by
 apply List.ext_getElem
 ·simp
 ·intro i h1 h2;simp [List.getD_eq_getElem?_getD,List.getElem?_eq_getElem h2]
theorem V1(h:cs.length<=4):Cx cs ((2 ^ cs.length-1:Nat):Int) cs.length=cs:=by
 unfold Cx;rw [List.filter_eq_self.2 λi hi=>Vz h (List.mem_range.1 hi)];exact V0 cs AF.z
theorem UH(hcl:cs.length<=4)(h:DL d gs ms cs m=false):EH d m gs ms cs≠[]:=by
 intro e;unfold EH DC at e;rw [List.filterMap_eq_nil_iff] at e;have hp:0<2 ^ cs.length:=Nat.pow_pos (by decide)
 have:=e (2 ^ cs.length-1) (List.mem_range'.2 ⟨2 ^ cs.length-1,by omega,by omega⟩)
 unfold MR at this;rw [V1 hcl,if_neg (by rw [h];simp)] at this;cases this
theorem Sb(hcl:cs.length<=4):(EH d m gs ms cs).length<=16:=by
 unfold EH DC;refine Nat.le_trans (List.length_filterMap_le _ _) ?_;rw [List.length_range'];exact Nat.pow_le_pow_right (n:=2) (by decide) hcl
theorem QV(h:¬Ae d m gs ms cs=0):Eh d m gs ms cs=Ae d m gs ms cs:=by unfold Eh;rw [if_neg h]
theorem V2(h:¬Ae d m gs ms cs=0):Fq d m gs ms cs=[]:=by unfold Fq;rw [if_neg (λe=>h e.1)]
theorem O7(h:Ae d m gs ms cs=0)(h1:DL d gs ms cs m=true):Eh d m gs ms cs=0:=by unfold Eh;rw [if_pos h,if_pos h1]
theorem UI(h1:DL d gs ms cs m=true):Fq d m gs ms cs=[]:=by unfold Fq;rw [if_neg (λe=>by rw [h1] at e;cases e.2.1)]
theorem N2(h:Ae d m gs ms cs=0)(h1:DL d gs ms cs m=false)(h2:DL d gs ms (Cx cs 0 cs.length) m=false):Eh d m gs ms cs=8:=by
 unfold Eh;rw [if_pos h,if_neg (by rw [h1];simp),if_neg (by rw [h2];simp)]
theorem Sd(h2:DL d gs ms (Cx cs 0 cs.length) m=false):Fq d m gs ms cs=[]:=by unfold Fq;rw [if_neg (λe=>by rw [h2] at e;cases e.2.2)]
theorem Se(h:Ae d m gs ms cs=0)(h1:DL d gs ms cs m=false)(h2:DL d gs ms (Cx cs 0 cs.length) m=true):Eh d m gs ms cs=0:=by
 unfold Eh;rw [if_pos h,if_neg (by rw [h1];simp),if_pos h2]
theorem Yo{fl:List Sl}(h:Ae d m gs ms cs=0)(h1:DL d gs ms cs m=false)(h2:DL d gs ms (Cx cs 0 cs.length) m=true)(hcl:cs.length<=4)(hfl:A8 fl=EH d m gs ms cs) :
  0<fl.length/\Fq d m gs ms cs=Jd (fl.getD 0 Sl.z).2 (A8 (fl.drop 1)):=by
 have hne:=UH (d:=d) (gs:=gs) (ms:=ms) hcl h1;have hpos:0<fl.length:=by
  rw [<-DG,hfl];exact List.length_pos_iff.2 hne
 refine ⟨hpos,?_⟩;unfold Fq;rw [if_pos ⟨h,h1,h2⟩,<-hfl,Ch hpos];congr 1;unfold A8;rw [List.map_drop]
end
theorem Ax.pick{d m:Int}{gs:List Good}{ms:List AB}{cs:List AF}(b:Ax d m gs ms cs)(mask:Int):Ax d m gs ms (Cx cs mask cs.length):=
 { b with
  clen:=Nat.le_trans (Q0 cs mask _) b.clen
  count:=λk hk=>by
   have hm:=CI (d:=AF.z) hk;generalize hx:(Cx cs mask cs.length).getD k AF.z=x at hm;unfold Cx at hm;obtain ⟨i,hi,e⟩:=List.mem_map.1 hm;have hi2:=List.mem_range.1 (List.mem_filter.1 hi).1
   have:=b.count i hi2
   unfold FO at this ⊢;rw [hx,<-e];exact this }
theorem CB.flags{h h':GH}{l:List Sl}(s:h.Same h')(a:CB h l):CB h' l:=λk=>(a k).flags s
def RepL:Nat->List Int->Value->GH->Prop:=λ_ l v hm=>AH hm v 1 eI l
def GH.part(h:GH)(v:Value):GH:=λb=>if B0 v=some b then h b else none
def GH.rest(h:GH)(v:Value):GH:=λb=>if B0 v=some b then none else h b
theorem GH.split_part(h:GH)(v:Value):GH.Split h (h.rest v) (h.part v) where
 left:=λb p o hb=>by
  unfold GH.rest at hb;split at hb
  ·cases hb
  ·exact ⟨p,hb,id⟩
 right:=λb p o hb=>by
  unfold GH.part at hb;split at hb
  ·exact ⟨p,hb,id⟩
  ·cases hb
 one:=λr o x h1 h2=>by
  unfold GH.rest at h1;unfold GH.part at h2;split at h1
  ·cases h1
  ·rename_i e;rw [if_neg e] at h2;cases h2
 two:=λr o x h1 h2=>by
  unfold GH.rest at h2;unfold GH.part at h1;split at h2
  ·cases h2
  ·rename_i e;rw [if_neg e] at h1;cases h1
theorem AS.part{U:Type}{h0 h:GH}{v:Value}{t:TypeId}{n:Nat}{enc:U->Array Value}{xs:List U}(x:AS h0 h v t n enc xs):AH (h.part v) v n enc xs:=
 AS.sl (h0:=h0) (x.keep λb o hb ho=>by unfold GH.part;rw [if_pos hb];exact ho)
theorem AS.le_rest{U:Type}{h0 h hb:GH}{v:Value}{t:TypeId}{n:Nat}{enc:U->Array Value}{xs:List U}(x:AS h0 h v t n enc xs)(l:hb.Le h)(l0:hb.Le h0):hb.Le (h.rest v):=λb p o hbb=>by
 unfold GH.rest;rw [if_neg]
 ·exact l b p o hbb
 ·intro e;rcases x with ⟨rfl,_⟩ | ⟨b1,cap,c,rfl,f0,_⟩
  ·cases e
  ·have:b1=b:=by simpa [B0] using e
   subst this
   have:=l0.keep hbb rfl
   rw [f0] at this;cases this
theorem AH.join{U:Type}{h hm:GH}{v:Value}{n:Nat}{enc:U->Array Value}{xs:List U}(x:AH hm v n enc xs)(c:h.Compat hm):AH (h.join hm) v n enc xs:=x.flags λb p o hb=>by
 unfold GH.join;cases e:h b with
 | none=>exact ⟨p,hb⟩
 | some y=>obtain ⟨q,o'⟩:=y;obtain ⟨rfl,rfl,rfl⟩:=c b q o' p o e hb;exact ⟨false,rfl⟩
theorem GH.Compat.le{a h hm:GH}(l:a.Le h)(c:h.Compat hm):a.Compat hm:=λb p o q o' x y=>c b p o q o' (l.keep x rfl) y
theorem GH.Le.joins{a h hm:GH}(l:a.Le h)(c:h.Compat hm):(a.join hm).Le (h.join hm):=λb p o hb=>by
 unfold GH.join at hb ⊢;cases e:a b with
 | some x=>rw [e] at hb;cases hb;rw [l.keep e rfl];exact ⟨o,rfl,.inl rfl⟩
 | none=>
  rw [e] at hb;cases e2:h b with
  | none=>exact ⟨o,hb,.inl rfl⟩
  | some y=>obtain ⟨q,o'⟩:=y;obtain ⟨rfl,rfl,rfl⟩:=c b q o' p o e2 hb;exact ⟨_,rfl,.inl rfl⟩
theorem AS.joins{U:Type}{h0 h hm:GH}{v:Value}{t:TypeId}{n:Nat}{enc:U->Array Value}{xs:List U}(x:AS h0 h v t n enc xs)(c:h.Compat hm):AS (h0.join hm) (h.join hm) v t n enc xs:=by
 rcases x with x | ⟨b,cap,cc,rfl,f0,f1,f2⟩
 ·exact .inl x
 ·refine .inr ⟨b,cap,cc,rfl,?_,?_,f2⟩
  ·unfold GH.join;rw [f0];cases e:hm b with
   | none=>rfl
   | some y=>obtain ⟨q,o'⟩:=y;have:=(c b _ _ q o' f1 e).1;cases this
  ·unfold GH.join;rw [f1]
section
variable {P:Program} {M:Type} {F:QT P M} {i i':Option (Fh M)} {O:Nat->Value} {ds:List Deferred} {h:GH} {Q:UD M}
theorem trI_ix{c:Code}(e:i=i')(x:Ll F c i' O ds h Q):Ll F c i O ds h Q:=e▸x
theorem X9{ops:Array Oper}{l:List Oper}(e:i=i')(x:MN F ops l i' O ds h Q):MN F ops l i O ds h Q:=e▸x
theorem Yp{c:Code}{Q:Post}(x:Ll F c none O ds h λi e O ds h=>i=none/\Q e O ds h):Tr ⟨F.W,F.fn,F.rd,F.N⟩ c O ds h Q:=by
 intro b k cs L t hb hr hl hs hc;refine x b k cs (λi=>match i with | none=>L | some _=>λ_ _ _ _=>False) t hb hr (λi=>?_) hs λi e σ' ds' h' q t' ht'=>?_
 ·cases i with
  | none=>exact hl
  | some s=>exact ⟨λ_ _ _ x=>x.elim,λ_ _ _ _ x=>x.elim,λ_ _ _ _ _ _ x=>x.elim⟩
 ·obtain ⟨rfl,q⟩:=q;exact hc e σ' ds' h' q t' ht'
theorem trI_end{c:Code}{Q:Post}(x:Tr (F.env none) c O ds h Q):Ll F c none O ds h λi e O ds h=>i=none/\Q e O ds h:=
 IZ (N4 (λ_ _ _ _ q=>⟨rfl,q⟩) x)
variable {dst:Option Nat} {ty:TypeId} {pos:String} {af:Array Edge} {gd:Option (Nat×Bool)}
theorem run_send{a x:Operand}{c:Nat}{v:Value}(ha:AT O a=.chan (some c))(hx:AT O x=v)(w:World):(execOp (AT O) ⟨dst,.send a x,ty,pos,af,gd⟩).runT P w #[]=(.ok (.comm #[scase c v (.tuple #[])] true .send) w,#[]):=by
 subst hx;show (Result.ok (Next.comm #[{ chan:=AT O a,send:=some (AT O x),zero:=.tuple #[] }] true .send) w,#[])=_;rw [ha];rfl
theorem run_recv{a:Operand}{c:Nat}{t e:TypeId}{d:ChanDir}{ok:Bool}{z:Value}{inf:TypeInfo}(ht:P.underlying t=some (.chan d e))(hi:P.info? e=some inf)(hz:inf.zero=some z)(ha:AT O a=.chan (some c))(w:World) :
  (execOp (AT O) ⟨dst,.recv t a ok,ty,pos,af,gd⟩).runT P w #[]=(.ok (.comm #[rcase c z] true (.recv ok)) w,#[]):=by
 have h1:(zeroValue e).run P w=.ok z w:=by
  unfold zeroValue typeInfo;simp only [Sem.run_bind,program,hi];simp [Sem.run,hi,hz]
 have h2:(underlying t).run P w=.ok (.chan d e) w:=run_underlying ht w;rw [Sem.runT_eq];unfold execOp;simp [h1,h2,ha,rcase]
theorem RA{a:Operand}{c:Nat}{t e:TypeId}{d:ChanDir}{ok:Bool}{z:Value}(ht:P.underlying t=some (.chan d e))(hz:(P.info? e).map (·.zero)=some (some z))(ha:AT O a=.chan (some c))(w:World) :
  (execOp (AT O) ⟨dst,.recv t a ok,ty,pos,af,gd⟩).runT P w #[]=(.ok (.comm #[rcase c z] true (.recv ok)) w,#[]):=by
 obtain ⟨inf,hi,h2⟩:=Option.map_eq_some_iff.1 hz;exact run_recv ht hi h2 ha w
theorem run_go{x:Operand}{f:Fn}{cap:Array Value}{tys:Array TypeId}(hx:AT O x=.func f #[] cap)(w:World):(execOp (AT O) ⟨dst,.go ⟨.value x,#[],tys⟩,ty,pos,af,gd⟩).runT P w #[]=(.ok (.spawn { target:=.fn f cap,args:=#[] }) w,#[]):=by
 have e:resolve (AT O) ⟨.value x,#[],tys⟩ ty=(pure { target:=.fn f cap,args:=#[] }:Sem Deferred):=by
  unfold resolve;simp only [hx,Deferred.ofValue];simp
 unfold execOp;simp only [e];rfl
variable {E:Gy P} {T:(Nat->Value)->List Deferred->GH->Prop}
theorem UJ{t e:TypeId}{d:ChanDir}{n:Operand}(ht:P.underlying t=some (.chan d e))(hi0:(P.info? e).isSome=true)(hn:AT O n=.int .i64 0)
  (k:∀r h',h r=none->h.Le h'->h' r=some (true,.chan 0 #[] false 0 0 false)->(∀b,b≠r->h' b=h b)->T (putS O dst (.chan (some r))) ds h'):Bg E ⟨dst,.makeChan t n,ty,pos,af,gd⟩ O ds h T:=by
 unfold Bg execOp;refine Fi ?_;unfold Instr.makeChan;rw [hn];refine AI _ _ (A5 ?_);refine AI _ _ (At ht ?_);simp only [];obtain ⟨inf,hi⟩:=Option.isSome_iff_exists.1 hi0;refine AI _ _ (C5 hi ?_);rw [if_neg (by simp [IntKind.max];decide)];refine AI _ _ ?_;exact λr hr=>k r _ hr (GH.Le.new hr _ _) (GH.set_same _ _ _ _) λb hb=>GH.set_ne _ _ _ hb
theorem trL_def{ops:Array Oper}{l:List Oper}{o:Oper}{Q:Post}(hg:o.guard=none)(hrd:E.rd=none)(hd:Em o.dst E.N=true)(x:Bg E o O ds h λσ' ds' h'=>EM E ops l σ' ds' h' Q):EM E ops (o ::l) O ds h Q:=
 trL_op hg (.inl hrd) hd x
theorem QW{x:Operand}{c:Nat}{tys:Array TypeId}{bs:Array Bool}(hx:AT O x=.chan (some c))(hb:(#[x].map fun | .const _=>true | _=>false)=bs)(k:T (putS O dst undef) (LM tys ty bs c ::ds) h) :
  Bg E ⟨dst,.defer ⟨.builtin .close,#[x],tys⟩,ty,pos,af,gd⟩ O ds h T:=by
 unfold Bg execOp;simp only [];refine AI _ _ ?_;unfold resolve;simp only [];refine A5 (A5 ?_);have e:(#[x].map (AT O):Array Value)=#[.chan (some c)]:=by simp [hx]
 rw [e];subst hb;exact k
end
section
variable {d m:Int} {gs:List Good} {ms:List AB} {cs:List AF} {k c:Nat}
theorem V3(hk:k<2 ^ cs.length)(h:DL d gs ms (Cx cs (k:Int) cs.length) m=true) :
  some (Ia c (DC d m gs ms cs k (2 ^ cs.length-k)))=some (Ia c (DC d m gs ms cs (k+1) (2 ^ cs.length-(k+1)))):=by
 rw [show 2 ^ cs.length-k=(2 ^ cs.length-(k+1))+1 by omega,O5 h]
theorem V4(hk:k<2 ^ cs.length)(h:DL d gs ms (Cx cs (k:Int) cs.length) m=false) :
  some (Ia c (DC d m gs ms cs k (2 ^ cs.length-k)))=some (.send c (BN (k:Int) cs.length) (Ia c (DC d m gs ms cs (k+1) (2 ^ cs.length-(k+1))))):=by
 rw [show 2 ^ cs.length-k=(2 ^ cs.length-(k+1))+1 by omega,O6 h];rfl
theorem Yq(hk:2 ^ cs.length<=k):some (Ia c (DC d m gs ms cs k (2 ^ cs.length-k)))=some (.close c .done):=by
 rw [show 2 ^ cs.length-k=0 by omega];rfl
theorem UK(h:(k:Int)<(2:Int) ^ ((cs.length:Int)).toNat):k<2 ^ cs.length:=by
 have:=SZ cs.length
 rw [Int.toNat_natCast] at h;omega
theorem clash_ge(h:¬(k:Int)<(2:Int) ^ ((cs.length:Int)).toNat):2 ^ cs.length<=k:=by
 have:=SZ cs.length
 rw [Int.toNat_natCast] at h;omega
end
end Go.Ns
namespace Go.Ns
def Sf(ms:List AB)(p:AU)(g:Int)(k:Nat):Int:=if (ms.getD k AB.z).good=g then D2 (ms.getD k AB.z).kind.toNat (CL p k) else 0
def ES(ms:List AB)(p:AU)(g:Int)(k:Nat):Int×Int:=((ms.getD k AB.z).day,Sf ms p g k)
def Fs(ms:List AB)(p:AU)(g:Int):List (Int×Int):=(List.range ms.length).map (ES ms p g)
def runA(n low:Int):List (Int×Int)->Int×Int
 | []=>(n,low)
 | [x]=>(n+x.2,min (n+x.2) low)
 | x ::y ::t=>runA (n+x.2) (if x.1<y.1 then min (n+x.2) low else low) (y ::t)
def runB(c n low:Int):List (Int×Int)->Int×Int
 | []=>(n,min n low)
 | x ::t=>if c<x.1 then runB x.1 (n+x.2) (min n low) t else runB c (n+x.2) low t
def G1:Int->List (Int×Int)->Prop
 | _,[]=>True
 | c,x ::t=>c<=x.1/\G1 x.1 t
theorem runA_B:∀(t:List (Int×Int))(x:Int×Int)(n low:Int),G1 x.1 t->runA n low (x ::t)=runB x.1 (n+x.2) low t
 | [],x,n,low,_=>rfl
 | y ::t,x,n,low,h=>by
  show runA (n+x.2) _ (y ::t)=if x.1<y.1 then _ else _
  rw [runA_B t y _ _ h.2];by_cases e:x.1<y.1
  ·rw [if_pos e,if_pos e]
  ·rw [if_neg e,if_neg e,show x.1=y.1 from by have:=h.1;omega]
theorem runA_B0{n:Int}:∀{t:List (Int×Int)},(∀x ∈ t,1<=x.1)->G1 0 t->runA n n t=runB 0 n n t
 | [],_,_=>by simp [runA,runB,Int.min_self]
 | x ::t,h1,h=>by
  rw [runA_B t x n n h.2];show _=if 0<x.1 then _ else _
  rw [if_pos (by have:=h1 x (by simp);omega),Int.min_self]
theorem G1.weak{c c':Int}(hc:c'<=c):∀{t:List (Int×Int)},G1 c t->G1 c' t
 | [],_=>trivial
 | _ ::_,h=>⟨by have:=h.1;omega,h.2⟩
theorem Yr{c d n low:Int}(hcd:c<d):∀{t:List (Int×Int)},G1 d t->runB d n (min n low) t=runB c n low t
 | [],_=>by simp only [runB];congr 1;omega
 | y ::t,h=>by
  have h1:=h.1;show (if d<y.1 then _ else _)=if c<y.1 then _ else _
  rw [if_pos (show c<y.1 by omega)];by_cases e:d<y.1
  ·rw [if_pos e,show min n (min n low)=min n low by omega]
  ·rw [if_neg e,show d=y.1 by omega]
theorem H4{ι:Type}{f:ι->Int×Int}{q:ι->Bool}:∀{l:List ι}{c n low:Int},(∀i ∈ l,q i=false->(f i).2=0)->G1 c (l.map f)->runB c n low (l.map f)=runB c n low ((l.filter q).map f)
 | [],_,_,_,_,_=>rfl
 | i ::l,c,n,low,hz,hr=>by
  have hz':∀j ∈ l,q j=false->(f j).2=0:=λj hj=>hz j (by simp [hj]);cases hq:q i with
  | true=>
   rw [List.filter_cons_of_pos hq];show (if c<(f i).1 then _ else _)=if c<(f i).1 then _ else _
   split
   ·exact H4 hz' hr.2
   ·exact H4 hz' (G1.weak hr.1 hr.2)
  | false=>
   rw [List.filter_cons_of_neg (by simp [hq])];have h0:=hz i (by simp) hq;show (if c<(f i).1 then runB (f i).1 (n+(f i).2) _ _ else _)=_;rw [h0,Int.add_zero];have hr2:G1 (f i).1 (l.map f):=hr.2;rw [<-H4 hz' (G1.weak hr.1 hr2)];split
   ·rename_i e;exact Yr e hr2
   ·rfl
theorem O8{ms:List AB}{p:AU}{g dy:Int}(hd:∀k,k<ms.length->(ms.getD k AB.z).day<=dy):∀(f k:Nat)(n low:Int),k+f=ms.length->Cu ms p g dy f k n low=runA n low ((List.range' k f).map (ES ms p g))
 | 0,_,_,_,_=>rfl
 | f+1,k,n,low,e=>by
  have h1:¬dy<(ms.getD k AB.z).day:=by have:=hd k (by omega);omega
  unfold Cu;rw [if_neg h1,O8 hd f (k+1) _ _ (by omega),List.range'_succ,List.map_cons];have hn:Ge ms p g k n=n+(ES ms p g k).2:=by unfold Ge ES Sf;simp only [];split <;> omega
  cases f with
  | zero=>
   show (_,_)=(_,_);rw [hn];congr 1;unfold Fl;rw [if_pos (.inl (by omega)),Int.min_comm]
  | succ f=>
   rw [List.range'_succ,List.map_cons,hn];have hne:¬((k:Int)+1=ms.length):=by omega
   have hlow:Fl ms k low (n+(ES ms p g k).2)=if (ES ms p g k).1<(ES ms p g (k+1)).1 then min (n+(ES ms p g k).2) low else low:=by
    show (if (k:Int)+1=ms.length\/(ms.getD k AB.z).day<(ms.getD (k+1) AB.z).day then _ else _)=if (ms.getD k AB.z).day<(ms.getD (k+1) AB.z).day then _ else _
    by_cases e2:(ms.getD k AB.z).day<(ms.getD (k+1) AB.z).day
    ·rw [if_pos (.inr e2),if_pos e2,Int.min_comm]
    ·rw [if_neg (by simp only [e2,or_false];exact hne),if_neg e2]
   rw [hlow];rfl
theorem Ys{ms:List AB}{p:AU}{g dy:Int}(hd:∀k,k<ms.length->(ms.getD k AB.z).day<=dy):AM ms p g dy=runA (p.first g.toNat) (p.first g.toNat) (Fs ms p g):=by
 unfold AM Fs;rw [O8 hd ms.length 0 _ _ (by omega),List.range_eq_range']
theorem Nc{d m:Int}{gs:List Good}{ms:List AB}{cs:List AF}(b:Ax d m gs ms cs):Ae d m gs ms cs=0:=by
 unfold Ae;refine Fb λj _ hj=>?_
 have:j=0\/j=1\/j=2\/j=3:=by omega
 rcases this with rfl | rfl | rfl | rfl
 ·show Ea d m=0;unfold Ea;have:=b.days;have:=b.most;rw [if_neg (by omega)]
 ·show BZ gs=0;unfold BZ;have:=b.glen;rw [if_neg (by omega)];exact Fb λj _ hj=>b.good j (by omega)
 ·show BR d gs ms=0;unfold BR;have:=b.mlen;rw [if_neg (by omega)];exact Fb λj _ hj=>b.move j (by omega)
 ·show CM d gs cs=0;unfold CM;have:=b.clen;rw [if_neg (by omega)];exact Fb λj _ hj=>b.count j (by omega)
def J4(ms:List AB):Prop:=ms.Pairwise λa b=>a.day<=b.day
section
variable {d m:Int} {gs:List Good} {ms:List AB} {cs:List AF}
theorem Ax.up(b:Ax d m gs ms cs):J4 ms:=by
 have adj:∀k,k+1<ms.length->(ms.getD k AB.z).day<=(ms.getD (k+1) AB.z).day:=λk hk=>by
  have:=(b.move' hk).2.2.2.1
  unfold Dv at this;rw [if_neg (by omega)] at this;simpa using this
 have all:∀f k,k+f<ms.length->(ms.getD k AB.z).day<=(ms.getD (k+f) AB.z).day:=by
  intro f
  induction f with
  | zero=>intro k _;exact Int.le_refl _
  | succ f ih=>intro k hk;exact Int.le_trans (ih k (by omega)) (adj (k+f) (by omega))
 unfold J4;rw [List.pairwise_iff_getElem];intro i j hi hj hij
 have:=all (j-i) i (by omega)
 rw [show i+(j-i)=j by omega,BY AB.z hi,BY AB.z hj] at this;exact this
theorem RB{ι:Type}{f:ι->Int×Int}:∀{l:List ι}{c:Int},l.Pairwise (λi j=>(f i).1<=(f j).1)->(∀i ∈ l,c<=(f i).1)->G1 c (l.map f)
 | [],_,_,_=>trivial
 | i ::l,c,h,h1=>⟨h1 i (by simp),RB (List.pairwise_cons.1 h).2 λj hj=>(List.pairwise_cons.1 h).1 j hj⟩
theorem Ax.pairsUp(b:Ax d m gs ms cs)(p:AU)(g:Int){l:List Nat}(s:l.Sublist (List.range ms.length)):G1 0 (l.map (ES ms p g)):=by
 refine RB ?_ λi hi=>?_
 ·have h1:(List.range ms.length).Pairwise (λi j=>(ES ms p g i).1<=(ES ms p g j).1):=by
   rw [List.pairwise_iff_getElem];intro i j hi hj hij;simp only [List.getElem_range]
   have:=b.up
   unfold J4 at this;rw [List.pairwise_iff_getElem] at this;simp only [List.length_range] at hi hj
   have:=this i j hi hj hij
   rwa [<-BY AB.z,<-BY AB.z] at this
  exact h1.sublist s
 ·have:=List.mem_range.1 (s.subset hi)
  have:=(b.move' this).2.2.1
  show 0<=(ms.getD i AB.z).day;omega
theorem Ax.stock(b:Ax d m gs ms cs)(p:AU)(g:Int):AM ms p g d=runB 0 (p.first g.toNat) (p.first g.toNat) (Fs ms p g):=by
 rw [Ys λk hk=>(b.move' hk).2.2.1.2];refine runA_B0 (λx hx=>?_) (b.pairsUp p g (List.Sublist.refl _));obtain ⟨i,hi,rfl⟩:=List.mem_map.1 hx;exact (b.move' (List.mem_range.1 hi)).2.2.1.1
end
theorem UL{l:List Int}{n:Int}(h:(l.length:Int)=n)(h2:∀x ∈ l,0<=x/\x<=99):Av l n=0:=by
 unfold Av;rw [if_neg (by simpa using h),if_neg];rw [List.any_eq_true];rintro ⟨x,hx,e⟩;exact (of_decide_eq_true e) (h2 x hx)
section
variable {d m:Int} {gs:List Good} {ms:List AB} {cs:List AF} {picks:List Int} {bits:Int}
theorem UM(p:AU)(l:List Int)(i:Nat)(h0:∀x ∈ l,0<=x):(D3 p l l.length).lies i=(decide ((i:Int) ∈ l) || p.lies i):=by
 unfold D3;rw [List.take_length]
 induction l generalizing p with
 | nil=>simp
 | cons x l ih=>
  rw [List.foldl_cons,ih _ λy hy=>h0 y (by simp [hy])];have hx:=h0 x (by simp);show (decide ((i:Int) ∈ l) || if i=x.toNat then true else p.lies i)=_;by_cases e:i=x.toNat
  ·rw [if_pos e]
   have:(i:Int)=x:=by omega
   simp [this]
  ·rw [if_neg e]
   have:¬(i:Int)=x:=by omega
   simp [this]
theorem MS(p:AU)(l:List Int)(k:Nat):(D3 p l k).first=p.first/\(D3 p l k).many=p.many:=by
 unfold D3;generalize l.take k=t
 induction t generalizing p with
 | nil=>exact ⟨rfl,rfl⟩
 | cons x t ih=>exact ih (p.setLie x.toNat true)
theorem Sg{f y l:List Int}(h:Ac d m gs ms cs f y l=0){i:Nat}(hi:i<f.length):(BS d m gs ms cs f y l).first i=f.getD i 0:=by
 unfold BS GD;rw [if_pos h,(MS _ _ _).1];show (if i<f.length then f.getD i 0 else 0)=_;rw [if_pos hi]
theorem UN{f y l:List Int}(h:Ac d m gs ms cs f y l=0){i:Nat}(hi:i<y.length):(BS d m gs ms cs f y l).many i=y.getD i 0:=by
 unfold BS GD;rw [if_pos h,(MS _ _ _).2];show (if i<y.length then y.getD i 0 else 0)=_;rw [if_pos hi]
theorem Nd{f y l:List Int}(h:Ac d m gs ms cs f y l=0)(h0:∀x ∈ l,0<=x)(i:Nat):(BS d m gs ms cs f y l).lies i=decide ((i:Int) ∈ l):=by
 unfold BS GD;rw [if_pos h,UM _ _ _ h0];show (decide ((i:Int) ∈ l) || false)=_;simp
end
end Go.Ns
namespace Go.Ns
open Go.Conc
section
variable {P:Program} {E:Gy P} {O:Nat->Value} {ds:List Deferred} {h:GH} {T:(Nat->Value)->List Deferred->GH->Prop} {dst:Option Nat} {ty:TypeId} {pos:String} {af:Array Edge} {gd:Option (Nat×Bool)}
theorem V5{s:ByteArray}{i:Nat}(h:i<s.size):((s[i]'h).toNat:Int)=(bytesOf s).getD i 0:=by
 have h2:i<(bytesOf s).length:=by rw [Cr];exact h
 rw [BY 0 h2];exact (List.getElem_map (l:=s.data.toList) (f:=λb=>(b.toNat:Int)) (h:=h2)).symm
theorem O9{t:TypeId}{x ix:Operand}{s:ByteArray}{kd:IntKind}{i:Int}(ht:OR P t=true)(hx:AT O x=.string s)(hi:AT O ix=.int kd i)(h0:0<=i)(h1:i<s.size)(k:T (putS O dst (.int .u8 ((bytesOf s).getD i.toNat 0))) ds h) :
  Bg E ⟨dst,.index t x ix,ty,pos,af,gd⟩ O ds h T:=Qo ht hx hi h0 h1 (by rw [V5];exact k)
end
theorem UO{s:ByteArray}(h:¬(1<=(s.size:Int)/\(s.size:Int)<=10)):D1 s=false:=by unfold D1;rw [decide_eq_false h,Bool.and_false]
def Dx(d:Int)(gs:List Good)(c:AF):Int:=if¬(0<=c.good/\c.good<=(gs.length:Int)-1) then 6 else if¬(0<=c.day/\c.day<=d)\/¬((0<=c.low/\c.low<=c.high)/\c.high<=999) then 1 else 0
section
variable {d m:Int} {gs:List Good} {ms:List AB} {cs:List AF}
theorem H5:Ae d m gs ms cs=if Ea d m=0 then (if BZ gs=0 then (if BR d gs ms=0 then (if CM d gs cs=0 then 0 else CM d gs cs) else BR d gs ms) else BZ gs) else Ea d m:=rfl
theorem bb1(h:¬(1<=d/\d<=99)\/¬(0<=m/\m<=2)):Ae d m gs ms cs=1:=by
 have e:Ea d m=1:=if_pos h;rw [H5,e,if_neg (by decide)]
theorem head0(h:(1<=d/\d<=99)/\(0<=m/\m<=2)):Ea d m=0:=if_neg (by omega)
theorem bb2(h0:(1<=d/\d<=99)/\(0<=m/\m<=2))(h:¬BZ gs=0):Ae d m gs ms cs=BZ gs:=by rw [H5,if_pos (head0 h0),if_neg h]
theorem bb3(h0:(1<=d/\d<=99)/\(0<=m/\m<=2))(h:¬¬BZ gs=0)(h2:¬BR d gs ms=0):Ae d m gs ms cs=BR d gs ms:=by rw [H5,if_pos (head0 h0),if_pos (Decidable.not_not.1 h),if_neg h2]
theorem bb4(h0:(1<=d/\d<=99)/\(0<=m/\m<=2))(h:¬¬BZ gs=0)(h2:¬¬BR d gs ms=0){c:Int}(h3:CM d gs cs=c):Ae d m gs ms cs=c:=by
 rw [H5,if_pos (head0 h0),if_pos (Decidable.not_not.1 h),if_pos (Decidable.not_not.1 h2),h3];by_cases e:c=0
 ·rw [if_pos e,e]
 ·rw [if_neg e]
theorem V6(h:(4:Int)<cs.length):CM d gs cs=2:=if_pos h
theorem V7{k:Nat}(h:¬(4:Int)<cs.length)(hs:∀j,j<k->FO d gs cs j=0)(hk:k<cs.length)(e:¬Dx d gs (cs.getD k AF.z)=0):CM d gs cs=Dx d gs (cs.getD k AF.z):=by
 unfold CM;rw [if_neg h];exact BO hs hk rfl e
theorem V8{k:Nat}(h:¬(4:Int)<cs.length)(hs:∀j,j<k->FO d gs cs j=0)(hk:cs.length<=k):CM d gs cs=0:=by
 unfold CM;rw [if_neg h];exact Ce hs hk
theorem PA{k:Nat}(h:0<k):Dv ms k=(ms.getD ((k:Int)-1).toNat AB.z).day:=by
 unfold Dv;rw [if_neg (by omega),show ((k:Int)-1).toNat=k-1 by omega]
theorem mv1{k:Nat}(h:(ms.getD k AB.z).kind<0\/4<(ms.getD k AB.z).kind):Dd d gs ms k=1:=by unfold Dd;rw [if_pos (by omega)]
theorem mv2{k:Nat}(h0:¬((ms.getD k AB.z).kind<0\/4<(ms.getD k AB.z).kind))(h:¬(0<=(ms.getD k AB.z).good/\(ms.getD k AB.z).good<=(gs.length:Int)-1)):Dd d gs ms k=6:=by unfold Dd;rw [if_neg (by omega),if_pos h]
theorem mv3{k:Nat}(h0:¬((ms.getD k AB.z).kind<0\/4<(ms.getD k AB.z).kind))(h1:¬¬(0<=(ms.getD k AB.z).good/\(ms.getD k AB.z).good<=(gs.length:Int)-1))(h:¬(1<=(ms.getD k AB.z).day/\(ms.getD k AB.z).day<=d)):Dd d gs ms k=1:=by
 unfold Dd;rw [if_neg (by omega),if_neg h1,if_pos h]
theorem mv4{k:Nat}(h0:¬((ms.getD k AB.z).kind<0\/4<(ms.getD k AB.z).kind))(h1:¬¬(0<=(ms.getD k AB.z).good/\(ms.getD k AB.z).good<=(gs.length:Int)-1))(h2:¬¬(1<=(ms.getD k AB.z).day/\(ms.getD k AB.z).day<=d))(hk:(0:Int)<(k:Int))
  (h:(ms.getD k AB.z).day<(ms.getD ((k:Int)-1).toNat AB.z).day):Dd d gs ms k=7:=by
 unfold Dd;rw [if_neg (by omega),if_neg h1,if_neg h2,PA (by omega),if_pos h]
theorem mv5{k:Nat}(h0:¬((ms.getD k AB.z).kind<0\/4<(ms.getD k AB.z).kind))(h1:¬¬(0<=(ms.getD k AB.z).good/\(ms.getD k AB.z).good<=(gs.length:Int)-1))(h2:¬¬(1<=(ms.getD k AB.z).day/\(ms.getD k AB.z).day<=d)){c:Int}
  (h3:(0:Int)<(k:Int)->¬(ms.getD k AB.z).day<(ms.getD ((k:Int)-1).toNat AB.z).day) (h4:(if¬FB (ms.getD k AB.z).low (ms.getD k AB.z).high then (1:Int) else 0)=c):Dd d gs ms k=c:=by
 have e:¬(ms.getD k AB.z).day<Dv ms k:=by
  by_cases hk:0<k
  ·rw [PA hk];exact h3 (by omega)
  ·have:=Decidable.not_not.1 h2
   unfold Dv;rw [if_pos (by omega)];omega
 unfold Dd;rw [if_neg (by omega),if_neg h1,if_neg h2,if_neg e,h4]
theorem gd4{k:Nat}(h:D1 (gs.getD k Good.z).name=false):FV gs k=4:=by unfold FV;rw [if_pos h]
theorem gd5{k j:Nat}(h0:D1 (gs.getD k Good.z).name=true)(hj:(j:Int)<(k:Int))(hk:(k:Int)<gs.length)(h:((gs.getD j Good.z).name.toList==(gs.getD k Good.z).name.toList)=true):FV gs k=5:=by
 unfold FV;rw [if_neg (by rw [h0];decide),if_pos];rw [List.any_eq_true];refine ⟨gs.getD j Good.z,?_,h⟩;rw [BY Good.z (show j<gs.length by omega)];exact List.mem_take_iff_getElem.2 ⟨j,by omega,rfl⟩
theorem gd1{k j:Nat}(h0:D1 (gs.getD k Good.z).name=true)(hj:j<=k)(hj':¬(j:Int)<(k:Int))(h:(gs.take j).any (λx=>x.name.toList==(gs.getD k Good.z).name.toList)=false){c:Int}
  (hc:(if (¬(0<=(gs.getD k Good.z).cost/\(gs.getD k Good.z).cost<=999)\/¬(1<=(gs.getD k Good.z).pack/\(gs.getD k Good.z).pack<=20))\/¬FB (gs.getD k Good.z).low (gs.getD k Good.z).high then (1:Int) else 0)=c):FV gs k=c:=by
 obtain rfl:j=k:=by omega
 unfold FV;rw [if_neg (by rw [h0];decide),if_neg (by rw [h];decide),hc]
def Df(gs:List Good)(ms:List AB)(cs:List AF):Bool:=decide ((20:Int)<gs.length) || decide ((20:Int)<ms.length) || decide ((20:Int)<cs.length) || gs.any λx=>decide ((100:Int)<x.name.size)
theorem Yt(h:((20:Int)<gs.length\/(20:Int)<ms.length)\/(20:Int)<cs.length):Df gs ms cs=true:=by
 unfold Df;rcases h with (h | h) | h <;> simp [h]
theorem Yu{k:Nat}(hk:k<gs.length)(h:(100:Int)<(gs.getD k Good.z).name.size):Df gs ms cs=true:=by
 unfold Df;rw [Bool.or_eq_true];right;rw [List.any_eq_true];exact ⟨_,CI hk,decide_eq_true h⟩
theorem Yv{k:Nat}(h:¬(20:Int)<gs.length)(h2:¬(20:Int)<ms.length)(h3:¬(20:Int)<cs.length)(hk:gs.length<=k)(hs:∀j,j<k->¬(100:Int)<(gs.getD j Good.z).name.size):Df gs ms cs=false:=by
 unfold Df;rw [decide_eq_false h,decide_eq_false h2,decide_eq_false h3];simp only [Bool.false_or];rw [List.any_eq_false];intro x hx;obtain ⟨i,hi,rfl⟩:=List.getElem_of_mem hx
 have:=hs i (by omega)
 rw [BY Good.z hi] at this;simpa using this
theorem Nf(h:Df gs ms cs=false):∀k,(gs.getD k Good.z).name.size<=1000:=by
 unfold Df at h;rw [Bool.or_eq_false_iff] at h;intro k;by_cases hk:k<gs.length
 ·have:=List.any_eq_false.1 h.2 _ (CI (d:=Good.z) hk)
  have:=of_decide_eq_false (Bool.eq_false_iff.2 this)
  omega
 ·rw [CE (by omega)];decide
end
theorem CB.cons{h:GH}{l:List Sl}{v:Value}{xs:List Int}(a:AH h v 1 eI xs)(b:CB h l):CB h ((v,xs) ::l):=λk=>by
 cases k with
 | zero=>exact a
 | succ k=>exact b k
theorem V9{a b:List Sl}{k:Nat}(h:(A8 a).take k=(A8 b).take k)(ha:k<a.length)(hb:k<b.length)(e:(a.getD k Sl.z).2=(b.getD k Sl.z).2):(A8 a).take (k+1)=(A8 b).take (k+1):=
 Oh [] h (by rw [DG];exact ha) (by rw [DG];exact hb) (by rw [Ch ha,Ch hb,e])
theorem Yw{a b:List Sl}{k:Nat}(h:(A8 a).take k=(A8 b).take k)(hk:¬(k:Int)<a.length)(hl:(a.length:Int)=b.length):A8 a=A8 b:=by
 rw [List.take_of_length_le (by rw [DG];omega),List.take_of_length_le (by rw [DG];omega)] at h;exact h
theorem lists_ne{a b:List Sl}(h:¬(a.length:Int)=b.length):¬A8 a=A8 b:=λe=>h (by rw [<-DG,<-DG,e])
theorem WA{a b:List Sl}{k:Nat}(ha:k<a.length)(hb:k<b.length)(e:¬(a.getD k Sl.z).2=(b.getD k Sl.z).2):¬A8 a=A8 b:=λq=>e (by rw [<-Ch ha,<-Ch hb,q])
end Go.Ns
namespace Go.Ns
open Go.Conc
def DW:List Good:=[⟨⟨#[116,101,97]⟩,5,4,3,3⟩,⟨⟨#[114,105,99,101]⟩,2,10,5,6⟩]
def Dg:List AB:=[⟨0,0,2,4,4⟩,⟨1,0,3,2,3⟩,⟨2,1,4,0,1⟩,⟨0,1,5,10,10⟩]
def Dh:List AF:=[⟨0,10,4,5⟩,⟨1,10,5,5⟩]
theorem EI:∀k,(DW.getD k Good.z).name.size<=1000
 | 0=>by decide
 | 1=>by decide
 | k+2=>by rw [CE (by simp [DW])];decide
theorem fill_sl7{v0 v1 v2 v3 v4 v5 v6:Value}(h0:v0.cells=#[v0])(h1:v1.cells=#[v1])(h2:v2.cells=#[v2])(h3:v3.cells=#[v3])(h4:v4.cells=#[v4])(h5:v5.cells=#[v5])(h6:v6.cells=#[v6]):Instr.fill (λi=>some (i*1,1)) ((Array.range (7*1)).map (#[Value.slice none 0 0][·% #[Value.slice none 0 0].size]!)) [(0,v0),(1,v1),(2,v2),(3,v3),(4,v4),(5,v5),(6,v6)]=some #[v0,v1,v2,v3,v4,v5,v6]:=by
 have e:((Array.range (7*1)).map (#[Value.slice none 0 0][·% #[Value.slice none 0 0].size]!))=#[Value.slice none 0 0,Value.slice none 0 0,Value.slice none 0 0,Value.slice none 0 0,Value.slice none 0 0,Value.slice none 0 0,Value.slice none 0 0]:=by kernel_rfl
 rw [e];simp [Instr.fill,h0,h1,h2,h3,h4,h5,h6]
theorem AH.isSl{U:Type}{h:GH}{v:Value}{n:Nat}{enc:U->Array Value}{xs:List U}(x:AH h v n enc xs):∀k i,v≠.int k i:=by
 obtain ⟨a,cap,rfl,_⟩:=x;intro k i e;cases e
theorem AH.across{h h':GH}{v:Value}{xs:List Int}{r:Nat}{a b c:Value}{T:TypeId}(x:AH h v 1 eI xs)(hb:h r=some (true,.cells #[.int .i64 10,.int .i64 1,a,b,c] T (0,0)))(ho:∀y,y≠r->h' y=h y)
  (ha:∀k i,a≠.int k i) (hb':∀k i,b≠.int k i) (hc:∀k i,c≠.int k i) (hx:∀o,o<5->∃i:Fin xs.length,(o+i.val=0->xs[i.val]≠10)/\(o+i.val=1->xs[i.val]≠1)):AH h' v 1 eI xs:=by
 obtain ⟨ad,cap,hv,hcap,hm,he⟩:=x;refine ⟨ad,cap,hv,hcap,hm,λi hi=>?_⟩;obtain ⟨y,off,h1,h2⟩:=he i hi;refine ⟨y,off,h1,h2.same (ho y ?_)⟩;rintro rfl;have key:∀j (hj:j<xs.length),off+j<5/\(#[Value.int .i64 10,.int .i64 1,a,b,c]:Array Value).extract (off+j) (off+j+1)=eI xs[j]:=λj hj=>by
  obtain ⟨y2,off2,h3,h4⟩:=he j hj;rw [h1] at h3;simp only [Option.some.injEq,Addr.mk.injEq,and_true] at h3;obtain ⟨rfl,rfl⟩:=h3;obtain ⟨p,cc,t,f,q1,q2,q3⟩:=h4;rw [hb] at q1;simp only [Option.some.injEq,Prod.mk.injEq,Obj.cells.injEq] at q1;obtain ⟨_,rfl,_⟩:=q1;rw [Nat.mul_one] at q2 q3;exact ⟨by simp at q2;omega,q3⟩
 obtain ⟨⟨j,hj⟩,e0,e1⟩:=hx off (by have:=(key i hi).1;omega);obtain ⟨k1,k2⟩:=key j hj;simp only at e0 e1;generalize off+j=o at k1 k2 e0 e1;generalize xs[j]=z at k2 e0 e1
 have:o=0\/o=1\/o=2\/o=3\/o=4:=by omega
 rcases this with rfl | rfl | rfl | rfl | rfl
 ·have k3:(#[.int .i64 10]:Array Value)=#[.int .i64 z]:=k2;simp at k3;exact e0 rfl k3.symm
 ·have k3:(#[.int .i64 1]:Array Value)=#[.int .i64 z]:=k2;simp at k3;exact e1 rfl k3.symm
 ·have k3:(#[a]:Array Value)=#[.int .i64 z]:=k2;simp at k3;exact ha _ _ k3
 ·have k3:(#[b]:Array Value)=#[.int .i64 z]:=k2;simp at k3;exact hb' _ _ k3
 ·have k3:(#[c]:Array Value)=#[.int .i64 z]:=k2;simp at k3;exact hc _ _ k3
def Ft(d m:Int)(gs:List Good)(ms:List AB)(cs:List AF):Int:=if Ae d m gs ms cs=0 then ((AV d gs ms cs m).length:Int) else 0
end Go.Ns
namespace Go.Ns
open Go.Conc
section
variable {P:Program} {E:Gy P} {O:Nat->Value} {ds:List Deferred} {h:GH} {T:(Nat->Value)->List Deferred->GH->Prop} {dst:Option Nat} {ty:TypeId} {pos:String} {af:Array Edge} {gd:Option (Nat×Bool)}
end
section
variable {d m:Int} {gs:List Good} {ms:List AB} {cs:List AF} {f y l:List Int}
end
end Go.Ns
namespace Go.Ns
open Go.Conc
section
variable {P:Program} {E:Gy P} {O:Nat->Value} {ds:List Deferred} {h:GH} {T:(Nat->Value)->List Deferred->GH->Prop} {dst:Option Nat} {ty:TypeId} {pos:String} {af:Array Edge} {gd:Option (Nat×Bool)}
end
end Go.Ns
namespace Go.Ns
open Go.Conc Go Go.RowKit
section
variable {d m:Int} {gs:List Good} {ms:List AB} {cs:List AF}
end
section
variable {P:Program} {E:Gy P} {O:Nat->Value} {ds:List Deferred} {h:GH} {T:(Nat->Value)->List Deferred->GH->Prop} {dst:Option Nat} {ty:TypeId} {pos:String} {af:Array Edge} {gd:Option (Nat×Bool)}
theorem ok_neqB{xt yt:TypeId}{x y:Operand}{a b:Bool}(hx:AT O x=.bool a)(hy:AT O y=.bool b)(he:N6 P 1 xt (.bool a) (.bool b)=some (a==b))(k:T (putS O dst (.bool (a !=b))) ds h):Bg E ⟨dst,.binOp .neq xt x y yt,ty,pos,af,gd⟩ O ds h T:=by
 unfold Bg execOp;simp only [hx,hy];refine Fi (AI _ _ ?_);have hg:∀(Q:Unit->GH->Prop),Q () h->(eqGuard .neq xt x y (.bool a) (.bool b)).gh P h Q:=λQ q=>q;refine hg _ ?_;show Sem.gh P (do pure (Value.bool (!(<-Op.equal xt (.bool a) (.bool b)))):Sem Value) h _;refine AI _ _ ?_;exact I3 1 _ _ _ _ (a==b) h _ (by decide) he k
end
end Go.Ns
namespace Go.Ns
open Go.Conc Go Go.RowKit
theorem IJ{p q:AU}:∀{n:Nat},(∀k,k<n->p.lies k=q.lies k)->Ao p n=Ao q n
 | 0,_=>rfl
 | n+1,h=>by unfold Ao;rw [IJ λk hk=>h k (by omega),h n (by omega)]
theorem JN(p:AU):∀{i n:Nat},i<=n->Ao p i<=Ao p n
 | i,0,h=>by rw [show i=0 by omega];exact Nat.le_refl _
 | i,n+1,h=>by
  by_cases e:i=n+1
  ·rw [e];exact Nat.le_refl _
  ·have:=JN p (i:=i) (n:=n) (by omega)
   have h2:Ao p (n+1)=Ao p n+if p.lies n then 1 else 0:=rfl
   omega
theorem H6{p:AU}:∀{i n:Nat},(∀k,i<=k->k<n->p.lies k=false)->i<=n->Ao p n=Ao p i
 | i,0,_,h=>by rw [show i=0 by omega]
 | i,n+1,h0,h=>by
  by_cases e:i=n+1
  ·rw [e]
  ·have h2:Ao p (n+1)=Ao p n+if p.lies n then 1 else 0:=rfl
   rw [h2,h0 n (by omega) (by omega),H6 (λk hk hk'=>h0 k hk (by omega)) (by omega)];rfl
theorem Ng{p:AU}{i:Nat}{n:Int}(h:p.lies i=false):∀k,Ao (p.setMove i n true) k=Ao p k+if i<k then 1 else 0
 | 0=>rfl
 | k+1=>by
  have h1:Ao (p.setMove i n true) (k+1)=Ao (p.setMove i n true) k+if (p.setMove i n true).lies k then 1 else 0:=rfl
  have h2:Ao p (k+1)=Ao p k+if p.lies k then 1 else 0:=rfl
  have h3:(p.setMove i n true).lies k=if k=i then true else p.lies k:=rfl
  rw [h1,h2,h3,Ng h k];by_cases e:k=i
  ·subst e;have e3:¬k<k:=by omega
   have e4:k<k+1:=by omega
   simp [h,e3,e4]
  ·rw [if_neg e];by_cases e2:i<k
   ·have e4:i<k+1:=by omega
    simp only [e2,e4,if_true];omega
   ·have e4:¬i<k+1:=by omega
    simp only [e2,e4,if_false];omega
theorem Fu(p:AU):∀n,((List.range n).filter p.lies).length=Ao p n
 | 0=>rfl
 | n+1=>by
  rw [List.range_succ,List.filter_append,List.length_append,Fu p n];have h2:Ao p (n+1)=Ao p n+if p.lies n then 1 else 0:=rfl
  rw [h2];by_cases e:p.lies n=true
  ·simp [e]
  ·simp [e]
structure YA(gs:List Good)(ms:List AB)(mo:Int)(p:AU):Prop where
 first:∀i,i<gs.length->(gs.getD i Good.z).low<=p.first i/\p.first i<=(gs.getD i Good.z).high
 many:∀i,i<ms.length->(ms.getD i AB.z).low<=p.many i/\p.many i<=(ms.getD i AB.z).high
 note:∀i,i<ms.length->p.lies i=true->DF ms i=true
 few:(Ao p ms.length:Int)<=mo
theorem IK{ag:AU->Bool}{ms:List AB}{mo:Int}(h6:ms.length<=6):∀(f i:Nat)(p q:AU),i+f=ms.length->(∀k,i<=k->p.lies k=false)->(Ao p 6:Int)<=mo->q ∈ Ay ag ms mo f i p->
  ag q=true/\q.first=p.first/\(∀k,k<i->q.many k=p.many k/\q.lies k=p.lies k)/\(∀k,i<=k->k<ms.length->(ms.getD k AB.z).low<=q.many k/\q.many k<=(ms.getD k AB.z).high/\(q.lies k=true->DF ms k=true))/\(Ao q 6:Int)<=mo
 | 0,i,p,q,e,_,hl,h=>by
  unfold Ay at h;split at h
  ·rename_i ha
   rw [List.mem_singleton] at h;subst h;exact ⟨ha,rfl,λ_ _=>⟨rfl,rfl⟩,λk h1 h2=>by omega,hl⟩
  ·cases h
 | f+1,i,p,q,e,hz,hl,h=>by
  rw [Cc,List.mem_flatMap] at h;obtain ⟨n,hn,h⟩:=h;rw [Fc] at hn;have hlf:∀k,i+1<=k->(p.setMove i n false).lies k=false:=λk hk=>by
   show (if k=i then false else p.lies k)=false;split
   ·rfl
   ·exact hz k (by omega)
  have hcf:Ao (p.setMove i n false) 6=Ao p 6:=IJ λk _=>by
   show (if k=i then false else p.lies k)=p.lies k;split
   ·rename_i e2;rw [e2,hz i (Nat.le_refl _)]
   ·rfl
  unfold Ba at h;rw [List.mem_append] at h;rcases h with h | h
  ·obtain ⟨a1,a2,a3,a4,a5⟩:=IK h6 f (i+1) _ q (by omega) hlf (by rw [hcf];exact hl) h;refine ⟨a1,a2,λk hk=>?_,λk h1 h2=>?_,a5⟩
   ·have:=a3 k (by omega)
    rw [this.1,this.2];exact ⟨show (if k=i then n else p.many k)=_ from if_neg (by omega),show (if k=i then false else p.lies k)=_ from if_neg (by omega)⟩
   ·by_cases e2:k=i
    ·subst e2
     have:=a3 k (by omega)
     have g1:(p.setMove k n false).many k=n:=if_pos rfl;have g2:(p.setMove k n false).lies k=false:=if_pos rfl;rw [this.1,this.2,g1,g2];exact ⟨hn.1,hn.2,λq=>by cases q⟩
    ·exact a4 k (by omega) h2
  ·split at h
   ·rename_i hc
    rw [Bool.and_eq_true] at hc;have hlt:=of_decide_eq_true hc.2;have hct:Ao (p.setMove i n true) 6=Ao p 6+1:=by rw [Ng (hz i (Nat.le_refl _)),if_pos (by omega)]
    have hlt2:∀k,i+1<=k->(p.setMove i n true).lies k=false:=λk hk=>by
     show (if k=i then true else p.lies k)=false;rw [if_neg (by omega)];exact hz k (by omega)
    obtain ⟨a1,a2,a3,a4,a5⟩:=IK h6 f (i+1) _ q (by omega) hlt2 (by rw [hct];omega) h;refine ⟨a1,a2,λk hk=>?_,λk h1 h2=>?_,a5⟩
    ·have:=a3 k (by omega)
     rw [this.1,this.2];exact ⟨show (if k=i then n else p.many k)=_ from if_neg (by omega),show (if k=i then true else p.lies k)=_ from if_neg (by omega)⟩
    ·by_cases e2:k=i
     ·subst e2
      have:=a3 k (by omega)
      have g1:(p.setMove k n true).many k=n:=if_pos rfl;rw [this.1,g1];exact ⟨hn.1,hn.2,λ_=>hc.1⟩
     ·exact a4 k (by omega) h2
   ·cases h
theorem Kx{ag:AU->Bool}{gs:List Good}{ms:List AB}{mo:Int}(h6:ms.length<=6)(h0:0<=mo):∀(f i:Nat)(p q:AU),i+f=gs.length->(∀k,p.lies k=false)->q ∈ BI ag gs ms mo f i p->
  ag q=true/\(∀k,k<i->q.first k=p.first k)/\(∀k,i<=k->k<gs.length->(gs.getD k Good.z).low<=q.first k/\q.first k<=(gs.getD k Good.z).high)/\(∀k,k<ms.length->(ms.getD k AB.z).low<=q.many k/\q.many k<=(ms.getD k AB.z).high/\(q.lies k=true->DF ms k=true))/\(Ao q 6:Int)<=mo
 | 0,i,p,q,e,hz,h=>by
  have hl:(Ao p 6:Int)<=mo:=by
   rw [H6 (i:=0) (λk _ _=>hz k) (Nat.zero_le _)];exact h0
  obtain ⟨a1,a2,_,a4,a5⟩:=IK h6 ms.length 0 p q (by omega) (λk _=>hz k) hl h;exact ⟨a1,λk _=>by rw [a2],λk h1 h2=>by omega,λk hk=>a4 k (Nat.zero_le _) hk,a5⟩
 | f+1,i,p,q,e,hz,h=>by
  rw [Cv,List.mem_flatMap] at h;obtain ⟨n,hn,h⟩:=h;rw [Fc] at hn;obtain ⟨a1,a2,a3,a4,a5⟩:=Kx h6 h0 f (i+1) (p.setFirst i n) q (by omega) hz h;refine ⟨a1,λk hk=>?_,λk h1 h2=>?_,a4,a5⟩
  ·rw [a2 k (by omega)];exact if_neg (by omega)
  ·by_cases e2:k=i
   ·subst e2;rw [a2 k (by omega)];have g1:(p.setFirst k n).first k=n:=if_pos rfl;rw [g1];exact hn
   ·exact a3 k (by omega) h2
theorem RC{d:Int}{gs:List Good}{ms:List AB}{cs:List AF}{mo:Int}(h6:ms.length<=6)(h0:0<=mo){q:AU}(h:q ∈ AV d gs ms cs mo):YA gs ms mo q/\A6 d gs.length ms cs q=true:=by
 obtain ⟨a1,_,a3,a4,a5⟩:=Kx h6 h0 gs.length 0 AU.zero q (by omega) (λ_=>rfl) h;refine ⟨⟨λi hi=>a3 i (Nat.zero_le _) hi,λi hi=>⟨(a4 i hi).1,(a4 i hi).2.1⟩,λi hi=>(a4 i hi).2.2,?_⟩,a1⟩
 have:=JN q h6
 omega
def Ib(p:AU)(i j:Nat):AU:=⟨λk=>if k<i then p.first k else 0,λk=>if k<j then p.many k else 0,λk=>if k<j then p.lies k else false⟩
theorem RD(p:AU)(i j:Nat):(Ib p i j).setMove j (p.many j) (p.lies j)=Ib p i (j+1):=by
 unfold Ib AU.setMove AU.setMany AU.setLie;congr 1
 ·funext k;show (if k=j then p.many j else if k<j then p.many k else 0)=if k<j+1 then p.many k else 0
  by_cases e:k=j
  ·rw [if_pos e,e,if_pos (by omega)]
  ·rw [if_neg e];by_cases e2:k<j
   ·rw [if_pos e2,if_pos (by omega)]
   ·rw [if_neg e2,if_neg (by omega)]
 ·funext k;show (if k=j then p.lies j else if k<j then p.lies k else false)=if k<j+1 then p.lies k else false
  by_cases e:k=j
  ·rw [if_pos e,e,if_pos (by omega)]
  ·rw [if_neg e];by_cases e2:k<j
   ·rw [if_pos e2,if_pos (by omega)]
   ·rw [if_neg e2,if_neg (by omega)]
theorem WB(p:AU)(i:Nat):(Ib p i 0).setFirst i (p.first i)=Ib p (i+1) 0:=by
 unfold Ib AU.setFirst;congr 1;funext k;show (if k=i then p.first i else if k<i then p.first k else 0)=if k<i+1 then p.first k else 0
 by_cases e:k=i
 ·rw [if_pos e,e,if_pos (by omega)]
 ·rw [if_neg e];by_cases e2:k<i
  ·rw [if_pos e2,if_pos (by omega)]
  ·rw [if_neg e2,if_neg (by omega)]
theorem MT{ag:AU->Bool}{gs:List Good}{ms:List AB}{mo:Int}(h6:ms.length<=6){p:AU}(L:YA gs ms mo p)(ha:ag (Ib p gs.length ms.length)=true):∀(f i:Nat),i+f=ms.length->Ib p gs.length ms.length ∈ Ay ag ms mo f i (Ib p gs.length i)
 | 0,i,e=>by
  rw [show i=ms.length by omega];unfold Ay;rw [if_pos ha];exact List.mem_singleton.2 rfl
 | f+1,i,e=>by
  rw [Cc,List.mem_flatMap];refine ⟨p.many i,Fc.2 (L.many i (by omega)),?_⟩;have ih:=MT h6 L ha f (i+1) (by omega);unfold Ba;rw [List.mem_append];cases hli:p.lies i with
  | false=>
   left
   have:=RD p gs.length i
   rw [hli] at this;rw [this];exact ih
  | true=>
   right;have hlie:Ao ((Ib p gs.length i).setMove i (p.many i) false) 6=Ao p i:=by
    rw [H6 (i:=i) (λk h1 h2=>?_) (by omega)]
    ·refine IJ λk hk=>?_;show (if k=i then false else if k<i then p.lies k else false)=_;rw [if_neg (by omega),if_pos hk]
    ·show (if k=i then false else if k<i then p.lies k else false)=_;split
     ·rfl
     ·rw [if_neg (by omega)]
   have h1:Ao p (i+1)=Ao p i+1:=by
    show Ao p i+(if p.lies i then 1 else 0)=_;rw [hli];rfl
   have h2:=JN p (i:=i+1) (n:=ms.length) (by omega);have h3:=L.few;rw [if_pos (by rw [Bool.and_eq_true];exact ⟨L.note i (by omega) hli,decide_eq_true (by rw [hlie];omega)⟩)]
   have:=RD p gs.length i
   rw [hli] at this;rw [this];exact ih
theorem MU{ag:AU->Bool}{gs:List Good}{ms:List AB}{mo:Int}(h6:ms.length<=6){p:AU}(L:YA gs ms mo p)(ha:ag (Ib p gs.length ms.length)=true):∀(f i:Nat),i+f=gs.length->Ib p gs.length ms.length ∈ BI ag gs ms mo f i (Ib p i 0)
 | 0,i,e=>by
  rw [show i=gs.length by omega];exact MT h6 L ha ms.length 0 (by omega)
 | f+1,i,e=>by
  rw [Cv,List.mem_flatMap];refine ⟨p.first i,Fc.2 (L.first i (by omega)),?_⟩;rw [WB];exact MU h6 L ha f (i+1) (by omega)
end Go.Ns
namespace Go.Ns
open Go.Conc Go Go.RowKit
section
variable {d m:Int} {gs:List Good} {ms:List AB} {cs:List AF}
theorem PB{i:Nat}(hi:i<ms.length):DF ms (i:Int)=true↔(ms.getD i AB.z).kind=0:=by
 unfold DF;rw [decide_eq_true_eq,Int.toNat_natCast];exact ⟨λh=>h.2,λh=>⟨⟨by omega,by omega⟩,h⟩⟩
end
def H7(ms:List AB)(p:AU)(g dy:Int)(k:Nat):Int:=if (ms.getD k AB.z).day<=dy then Sf ms p g k else 0
theorem PC{F:Nat->Int}:∀{l:List Nat},(∀i ∈ l,F i=0)->(l.map F).sum=0
 | [],_=>rfl
 | i ::l,h=>by rw [List.map_cons,List.sum_cons,h i (by simp),PC λj hj=>h j (by simp [hj])];rfl
theorem PD{F:Nat->Int}{q:Nat->Bool}:∀{l:List Nat},(∀i ∈ l,q i=false->F i=0)->(l.map F).sum=((l.filter q).map F).sum
 | [],_=>rfl
 | i ::l,h=>by
  have ih:=PD (F:=F) (q:=q) (l:=l) λj hj=>h j (by simp [hj]);rw [List.map_cons,List.sum_cons,ih];cases e:q i with
  | true=>rw [List.filter_cons,if_pos e,List.map_cons,List.sum_cons]
  | false=>rw [List.filter_cons,if_neg (by rw [e];simp),h i (by simp) e];omega
theorem MV{ms:List AB}{p:AU}{g dy:Int}(up:∀i j,i<=j->j<ms.length->(ms.getD i AB.z).day<=(ms.getD j AB.z).day):∀(f k:Nat)(n low:Int),k+f=ms.length->(Cu ms p g dy f k n low).1=n+((List.range' k f).map (H7 ms p g dy)).sum
 | 0,_,n,_,_=>by simp [Cu]
 | f+1,k,n,low,e=>by
  unfold Cu;by_cases h:dy<(ms.getD k AB.z).day
  ·rw [if_pos h,PC λi hi=>?_]
   ·omega
   ·have:=List.mem_range'_1.1 hi
    have h2:=up k i this.1 (by omega);unfold H7;rw [if_neg (by omega)]
  ·rw [if_neg h,MV up f (k+1) _ _ (by omega),List.range'_succ,List.map_cons,List.sum_cons];have h1:H7 ms p g dy k=Sf ms p g k:=by unfold H7;rw [if_pos (by omega)]
   have hn:Ge ms p g k n=n+Sf ms p g k:=by unfold Ge Sf;split <;> omega
   rw [h1,hn];omega
theorem J4.le{ms:List AB}(h:J4 ms):∀i j,i<=j->j<ms.length->(ms.getD i AB.z).day<=(ms.getD j AB.z).day:=λi j hij hj=>by
 by_cases e:i=j
 ·rw [e];exact Int.le_refl _
 ·unfold J4 at h;rw [List.pairwise_iff_getElem] at h;rw [BY AB.z (by omega),BY AB.z hj];exact h i j (by omega) hj (by omega)
theorem Gk{ms:List AB}(up:J4 ms)(p:AU)(g dy:Int):(AM ms p g dy).1=p.first g.toNat+((List.range ms.length).map (H7 ms p g dy)).sum:=by
 unfold AM;rw [MV up.le _ _ _ _ (by omega),List.range_eq_range']
section
variable {d m:Int} {gs:List Good} {ms:List AB} {cs:List AF}
def B4(ms:List AB)(k:Nat):List Int:=((List.range k).filter λi=>decide ((ms.getD i AB.z).kind=0)).map λ(i:Nat)=>(i:Int)
theorem cameTo_t{k:Nat}(h:(ms.getD k AB.z).kind=0):B4 ms (k+1)=B4 ms k++[(k:Int)]:=by
 unfold B4;rw [List.range_succ,List.filter_append];simp only [List.filter_cons,h,List.filter_nil];simp
theorem cameTo_f{k:Nat}(h:¬(ms.getD k AB.z).kind=0):B4 ms (k+1)=B4 ms k:=by
 unfold B4;rw [List.range_succ,List.filter_append];simp only [List.filter_cons,h,List.filter_nil];simp
theorem Hj(ms:List AB)(k:Nat):(B4 ms k).length<=k:=by
 unfold B4;rw [List.length_map]
 have:=List.length_filter_le (λi:Nat=>decide ((ms.getD i AB.z).kind=0)) (List.range k)
 rwa [List.length_range] at this
theorem PE{k i:Nat}(hi:i<k)(h:(ms.getD i AB.z).kind=0):(i:Int) ∈ B4 ms k:=List.mem_map.2 ⟨i,List.mem_filter.2 ⟨List.mem_range.2 hi,decide_eq_true h⟩,rfl⟩
end
end Go.Ns
namespace Go.Ns
open Go.Conc
theorem J5{x:Int}:∀(l acc:List Int),x ∈ acc\/x ∈ l->x ∈ l.foldl Gz acc
 | [],acc,h=>h.elim id λh=>by cases h
 | y ::l,acc,h=>by
  refine J5 l _ ?_;unfold Gz;rcases h with h | h
  ·left;split
   ·exact h
   ·exact List.mem_append_left _ h
  ·rcases List.mem_cons.1 h with rfl | h
   ·left;split
    ·rename_i e;exact List.mem_of_getLast? e
    ·exact List.mem_append_right _ (List.mem_singleton.2 rfl)
   ·exact .inr h
theorem Jg:∀(l acc:List Int),l.Pairwise (·<=·)->acc.Pairwise (· < ·)->(∀a ∈ acc,∀x ∈ l,a<=x)->(l.foldl Gz acc).Pairwise (· < ·)
 | [],_,_,h,_=>h
 | y ::l,acc,hl,ha,hx=>by
  rw [List.pairwise_cons] at hl;refine Jg l _ hl.2 ?_ ?_
  ·unfold Gz;split
   ·exact ha
   ·rename_i hne
    rw [List.pairwise_append];refine ⟨ha,List.pairwise_singleton ..,λa ha' b hb=>?_⟩;rw [List.mem_singleton] at hb;subst hb;have h1:=hx a ha' b List.mem_cons_self;rcases Int.lt_or_eq_of_le h1 with h2 | h2
    ·exact h2
    ·subst h2;exfalso;obtain ⟨z,hz⟩:∃z,acc.getLast? =some z:=by
      cases hq:acc.getLast? with
      | none=>rw [List.getLast?_eq_none_iff] at hq;subst hq;cases ha'
      | some z=>exact ⟨z,rfl⟩
     have hzm:=List.mem_of_getLast? hz;have h3:=hx z hzm a List.mem_cons_self;have h4:a<=z:=by
      obtain ⟨l0,hl0⟩:∃l0,acc=l0++[z]:=by
       rcases List.eq_nil_or_concat acc with e | ⟨l0,y0,e⟩
       ·subst e;cases hz
       ·subst e;simp at hz;subst hz;exact ⟨l0,by simp⟩
      subst hl0;rcases List.mem_append.1 ha' with q | q
      ·rw [List.pairwise_append] at ha;exact Int.le_of_lt (ha.2.2 a q z (List.mem_singleton.2 rfl))
      ·rw [List.mem_singleton] at q;omega
     exact hne (by rw [hz,show z=a by omega])
  ·intro a ha' x hx';unfold Gz at ha';split at ha'
   ·exact hx a ha' x (List.mem_cons_of_mem _ hx')
   ·rcases List.mem_append.1 ha' with q | q
    ·exact hx a q x (List.mem_cons_of_mem _ hx')
    ·rw [List.mem_singleton] at q;subst q;exact hl.1 x hx'
theorem RE{n:Nat}{f:Nat->Int}{x:Int}:x ∈ CS n f↔∃i,i<n/\f i=x:=by
 refine ⟨Q4,λ⟨i,hi,e⟩=>J5 _ _ (.inr ?_)⟩;rw [Jw];exact List.mem_mergeSort.2 (List.mem_map.2 ⟨i,List.mem_range.2 hi,e⟩)
theorem RF(n:Nat)(f:Nat->Int):(CS n f).Pairwise (· < ·):=by
 refine Jg _ _ ?_ List.Pairwise.nil (λa ha=>by cases ha);rw [Jw]
 have:=List.pairwise_mergeSort (le:=λx y:Int=>decide (x<=y)) (λa b c h1 h2=>by simp at *;omega) (λa b=>by simp;omega) ((List.range n).map f)
 exact this.imp λh=>by simpa using h
theorem YB{l l':List Int}(h:l.Pairwise (· < ·))(h':l'.Pairwise (· < ·))(e:∀x,x ∈ l↔x ∈ l'):l=l':=by
 induction l generalizing l' with
 | nil=>
  cases l' with
  | nil=>rfl
  | cons y l'=>exact absurd ((e y).2 List.mem_cons_self) (by simp)
 | cons x l ih=>
  cases l' with
  | nil=>exact absurd ((e x).1 List.mem_cons_self) (by simp)
  | cons y l'=>
   rw [List.pairwise_cons] at h h';have hxy:x=y:=by
    rcases List.mem_cons.1 ((e x).1 List.mem_cons_self) with q | q
    ·exact q
    ·rcases List.mem_cons.1 ((e y).2 List.mem_cons_self) with q' | q'
     ·exact q'.symm
     ·have h1:=h.1 y q';have h2:=h'.1 x q;omega
   subst hxy;congr 1;refine ih h.2 h'.2 λz=>⟨λhz=>?_,λhz=>?_⟩
   ·rcases List.mem_cons.1 ((e z).1 (List.mem_cons_of_mem _ hz)) with rfl | q
    ·exact absurd (h.1 z hz) (by omega)
    ·exact q
   ·rcases List.mem_cons.1 ((e z).2 (List.mem_cons_of_mem _ hz)) with rfl | q
    ·exact absurd (h'.1 z hz) (by omega)
    ·exact q
section
variable {d m:Int} {gs:List Good} {ms:List AB} {cs:List AF}
end
end Go.Ns
namespace Go.Ns
open Go.Conc
section
variable {P:Program} {E:Gy P} {O:Nat->Value} {ds:List Deferred} {h:GH} {T:(Nat->Value)->List Deferred->GH->Prop}
variable {dst:Option Nat} {ty:TypeId} {pos:String} {af:Array Edge} {gd:Option (Nat×Bool)}
end
section
variable {d m:Int} {gs:List Good} {ms:List AB} {cs:List AF}
end
end Go.Ns
namespace Go.Ns
open Go.Conc
section
variable {d m:Int} {gs:List Good} {ms:List AB} {cs:List AF}
end
end Go.Ns
namespace Go.Ns
open Go.Conc
theorem Fv{ag:AU->Bool}{ms:List AB}{mo:Int}:∀(f i:Nat)(p q:AU),q ∈ Ay ag ms mo f i p->q.first=p.first/\∀k,k<i->q.many k=p.many k/\q.lies k=p.lies k
 | 0,i,p,q,h=>by
  unfold Ay at h;split at h
  ·rw [List.mem_singleton] at h;subst h;exact ⟨rfl,λ_ _=>⟨rfl,rfl⟩⟩
  ·cases h
 | f+1,i,p,q,h=>by
  rw [Cc,List.mem_flatMap] at h;obtain ⟨n,_,h⟩:=h;have key:∀b,q ∈ Ay ag ms mo f (i+1) (p.setMove i n b)->q.first=p.first/\∀k,k<i->q.many k=p.many k/\q.lies k=p.lies k:=λb hb=>by
   obtain ⟨a1,a2⟩:=Fv f (i+1) _ q hb;refine ⟨a1,λk hk=>?_⟩;obtain ⟨b1,b2⟩:=a2 k (by omega);exact ⟨b1.trans (if_neg (by omega)),b2.trans (if_neg (by omega))⟩
  unfold Ba at h;rcases List.mem_append.1 h with h | h
  ·exact key _ h
  ·split at h
   ·exact key _ h
   ·cases h
theorem PG(lo hi:Int):(FC lo hi).Pairwise (·≠·):=by
 unfold FC Bq;rw [List.pairwise_map];exact List.pairwise_lt_range.imp λh=>by omega
theorem Gx{ag:AU->Bool}{ms:List AB}{mo:Int}:∀(f i:Nat)(p:AU),(Ay ag ms mo f i p).Pairwise (·≠·)
 | 0,i,p=>by
  unfold Ay;split
  ·exact List.pairwise_singleton ..
  ·exact List.Pairwise.nil
 | f+1,i,p=>by
  rw [Cc,List.pairwise_flatMap];have at1:∀n b q,q ∈ Ay ag ms mo f (i+1) (p.setMove i n b)->q.many i=n/\q.lies i=b:=λn b q hq=>by
   obtain ⟨b1,b2⟩:=(Fv f (i+1) _ q hq).2 i (by omega);exact ⟨b1.trans (if_pos rfl),b2.trans (if_pos rfl)⟩
  have atR:∀n q,q ∈ Ba ag ms mo f i p n->q.many i=n:=λn q hq=>by
   unfold Ba at hq;rcases List.mem_append.1 hq with h | h
   ·exact (at1 _ _ _ h).1
   ·split at h
    ·exact (at1 _ _ _ h).1
    ·cases h
  refine ⟨λn _=>?_,(PG _ _).imp λhne x hx y hy e=>hne (by rw [<-atR _ x hx,<-atR _ y hy,e])⟩;unfold Ba;rw [List.pairwise_append];refine ⟨Gx f (i+1) _,?_,λx hx y hy e=>?_⟩
  ·split
   ·exact Gx f (i+1) _
   ·exact List.Pairwise.nil
  ·split at hy
   ·have h1:=(at1 _ _ _ hx).2;have h2:=(at1 _ _ _ hy).2;rw [e,h2] at h1;cases h1
   ·cases hy
theorem J6{ag:AU->Bool}{gs:List Good}{ms:List AB}{mo:Int}:∀(f i:Nat)(p q:AU),q ∈ BI ag gs ms mo f i p->∀k,k<i->q.first k=p.first k
 | 0,i,p,q,h,k,hk=>by rw [(Fv _ _ _ _ h).1]
 | f+1,i,p,q,h,k,hk=>by
  rw [Cv,List.mem_flatMap] at h;obtain ⟨n,_,h⟩:=h;exact (J6 f (i+1) _ q h k (by omega)).trans (if_neg (by omega))
theorem Jh{ag:AU->Bool}{gs:List Good}{ms:List AB}{mo:Int}:∀(f i:Nat)(p:AU),(BI ag gs ms mo f i p).Pairwise (·≠·)
 | 0,i,p=>Gx _ _ _
 | f+1,i,p=>by
  rw [Cv,List.pairwise_flatMap];have at1:∀n q,q ∈ BI ag gs ms mo f (i+1) (p.setFirst i n)->q.first i=n:=λn q hq=>(J6 f (i+1) _ q hq i (by omega)).trans (if_pos rfl);exact ⟨λn _=>Jh f (i+1) _,(PG _ _).imp λhne x hx y hy e=>hne (by rw [<-at1 _ x hx,<-at1 _ y hy,e])⟩
theorem UP(d:Int)(gs:List Good)(ms:List AB)(cs:List AF)(mo:Int):(AV d gs ms cs mo).Nodup:=Jh _ _ _
theorem Ky{ag:AU->Bool}{ms:List AB}{mo:Int}:∀(f i:Nat)(p q:AU),q ∈ Ay ag ms mo f i p->∀k,i+f<=k->q.many k=p.many k/\q.lies k=p.lies k
 | 0,i,p,q,h,k,_=>by
  unfold Ay at h;split at h
  ·rw [List.mem_singleton] at h;subst h;exact ⟨rfl,rfl⟩
  ·cases h
 | f+1,i,p,q,h,k,hk=>by
  rw [Cc,List.mem_flatMap] at h;obtain ⟨n,_,h⟩:=h;have key:∀b,q ∈ Ay ag ms mo f (i+1) (p.setMove i n b)->q.many k=p.many k/\q.lies k=p.lies k:=λb hb=>by
   obtain ⟨b1,b2⟩:=Ky f (i+1) _ q hb k (by omega);exact ⟨b1.trans (if_neg (by omega)),b2.trans (if_neg (by omega))⟩
  unfold Ba at h;rcases List.mem_append.1 h with h | h
  ·exact key _ h
  ·split at h
   ·exact key _ h
   ·cases h
theorem Kz{ag:AU->Bool}{gs:List Good}{ms:List AB}{mo:Int}:∀(f i:Nat)(p q:AU),q ∈ BI ag gs ms mo f i p->(∀k,i+f<=k->q.first k=p.first k)/\∀k,ms.length<=k->q.many k=p.many k/\q.lies k=p.lies k
 | 0,i,p,q,h=>⟨λk _=>by rw [(Fv _ _ _ _ h).1],λk hk=>Ky _ _ _ _ h k (by omega)⟩
 | f+1,i,p,q,h=>by
  rw [Cv,List.mem_flatMap] at h;obtain ⟨n,_,h⟩:=h;obtain ⟨a1,a2⟩:=Kz f (i+1) _ q h;exact ⟨λk hk=>(a1 k (by omega)).trans (if_neg (by omega)),a2⟩
theorem Yx{d:Int}{gs:List Good}{ms:List AB}{cs:List AF}{mo:Int}{q:AU}(h:q ∈ AV d gs ms cs mo):Ib q gs.length ms.length=q:=by
 obtain ⟨a1,a2⟩:=Kz _ _ _ _ h;cases q with
 | mk fi ma li=>
  simp only [Nat.zero_add] at a1 a2;unfold Ib;congr 1
  ·funext k;by_cases hk:k<gs.length
   ·exact if_pos hk
   ·exact (if_neg hk).trans (a1 k (by omega)).symm
  ·funext k;by_cases hk:k<ms.length
   ·exact if_pos hk
   ·exact (if_neg hk).trans (a2 k (by omega)).1.symm
  ·funext k;by_cases hk:k<ms.length
   ·exact if_pos hk
   ·exact (if_neg hk).trans (a2 k (by omega)).2.symm
theorem Yy(p:AU):Ib p 0 0=AU.zero:=by
 unfold Ib AU.zero;congr 1
theorem RG{d:Int}{gs:List Good}{ms:List AB}{cs:List AF}{mo:Int}{q:AU}(h6:ms.length<=6)(h0:0<=mo) :
  q ∈ AV d gs ms cs mo↔YA gs ms mo q/\A6 d gs.length ms cs q=true/\Ib q gs.length ms.length=q:=
 ⟨λh=>⟨(RC h6 h0 h).1,(RC h6 h0 h).2,Yx h⟩,λ⟨L,ha,e⟩=>by
  have h1:=MU (ag:=A6 d gs.length ms cs) h6 L (by rw [e];exact ha) gs.length 0 (by omega);rw [e,Yy] at h1;exact h1⟩
end Go.Ns
namespace Go.Ns
open Go.Conc
theorem Ax.cgood'{d m:Int}{gs:List Good}{ms:List AB}{cs:List AF}(b:Ax d m gs ms cs):∀x ∈ cs,0<=x.good/\x.good<(gs.length:Int):=λx hx=>by
 obtain ⟨i,hi,e2⟩:=List.getElem_of_mem hx;have hc:=b.count i hi;unfold FO at hc;rw [BY AF.z hi,e2] at hc;have hg:0<=x.good/\x.good<=(gs.length:Int)-1:=by
  apply Decidable.byContradiction;intro q;rw [if_pos q] at hc;cases hc
 omega
theorem eachL_at{hs:List AU}{F:AU->Int}{x:Int}:x ∈ CS hs.length (λ(i:Nat)=>F (hs.getD ((i:Int)).toNat AU.zero))↔∃p ∈ hs,F p=x:=by
 rw [RE];constructor
 ·rintro ⟨i,hi,e⟩;exact ⟨_,CI (show ((i:Int)).toNat<hs.length by omega),e⟩
 ·rintro ⟨p,hp,e⟩;obtain ⟨i,hi,e2⟩:=List.getElem_of_mem hp;refine ⟨i,hi,?_⟩;show F (hs.getD ((i:Int)).toNat AU.zero)=x;rw [show ((i:Int)).toNat=i by omega,BY AU.zero hi,e2,e]
section
variable {d m:Int} {gs:List Good} {ms:List AB} {cs:List AF} {t:Nat}
end
section
variable {d m:Int} {gs:List Good} {ms:List AB} {cs:List AF} {t:Nat}
end
section
variable {d m:Int} {gs:List Good} {ms:List AB} {cs:List AF} {t:Nat}
end
section
variable {d m:Int} {gs:List Good} {ms:List AB} {cs:List AF} {t:Nat}
end
end Go.Ns
namespace Go.Ns
open Go.Conc
theorem Hk{U:Type}{l:List U}{x:U}(z:U)(h:x ∈ l):∃k,k<l.length/\l.getD k z=x:=by
 obtain ⟨k,hk,e⟩:=List.getElem_of_mem h;exact ⟨k,hk,by rw [List.getD_eq_getElem?_getD,List.getElem?_eq_getElem hk];exact e⟩
def Fw(dy:Int)(t:List (Int×Int)):Int:=(t.map λx=>if x.1<=dy then x.2 else 0).sum
theorem LN(dy:Int)(x:Int×Int)(t:List (Int×Int)):Fw dy (x ::t)=(if x.1<=dy then x.2 else 0)+Fw dy t:=by
 unfold Fw;rw [List.map_cons,List.sum_cons]
theorem JO{dy:Int}:∀{t:List (Int×Int)},(∀x ∈ t,dy<x.1)->Fw dy t=0
 | [],_=>rfl
 | x ::t,h=>by rw [LN,if_neg (by have:=h x (by simp);omega),JO λy hy=>h y (by simp [hy])];rfl
theorem G1.all{c:Int}:∀{t:List (Int×Int)},G1 c t->∀x ∈ t,c<=x.1
 | [],_,_,hx=>by cases hx
 | y ::t,h,x,hx=>by
  rcases List.mem_cons.1 hx with rfl | hx
  ·exact h.1
  ·have:=h.2.all x hx;have:=h.1;omega
theorem MW:∀(t:List (Int×Int))(c n low:Int),G1 c t->(0<=(runB c n low t).2↔0<=low/\0<=n+Fw c t/\∀x ∈ t,0<=n+Fw x.1 t)
 | [],c,n,low,_=>by simp only [runB,Fw,List.map_nil,List.sum_nil];constructor <;> intro h <;> simp at * <;> omega
 | x ::t,c,n,low,h=>by
  have ha:=h.2.all;have hy:∀y ∈ t,Fw y.1 (x ::t)=x.2+Fw y.1 t:=λy hy=>by rw [LN,if_pos (ha y hy)]
  have hx:Fw x.1 (x ::t)=x.2+Fw x.1 t:=by rw [LN,if_pos (Int.le_refl _)]
  unfold runB;by_cases e:c<x.1
  ·rw [if_pos e,MW t x.1 (n+x.2) (min n low) h.2];have h0:Fw c (x ::t)=0:=JO λy hy=>by
    rcases List.mem_cons.1 hy with rfl | hy
    ·exact e
    ·have:=ha y hy;omega
   rw [h0];constructor
   ·rintro ⟨a1,a2,a3⟩;refine ⟨by omega,by omega,λy hyt=>?_⟩;rcases List.mem_cons.1 hyt with rfl | hyt
    ·rw [hx];omega
    ·rw [hy y hyt];have:=a3 y hyt;omega
   ·rintro ⟨a1,a2,a3⟩;refine ⟨by omega,?_,λy hyt=>?_⟩
    ·have:=a3 x (by simp);rw [hx] at this;omega
    ·have:=a3 y (by simp [hyt]);rw [hy y hyt] at this;omega
  ·have ec:c=x.1:=by have:=h.1;omega
   subst ec;rw [if_neg e,MW t x.1 (n+x.2) low h.2,hx];constructor
   ·rintro ⟨a1,a2,a3⟩;refine ⟨a1,by omega,λy hyt=>?_⟩;rcases List.mem_cons.1 hyt with rfl | hyt
    ·rw [hx];omega
    ·rw [hy y hyt];have:=a3 y hyt;omega
   ·rintro ⟨a1,a2,a3⟩;refine ⟨a1,by omega,λy hyt=>?_⟩
    have:=a3 y (by simp [hyt]);rw [hy y hyt] at this;omega
section
variable {d m:Int} {gs:List Good} {ms:List AB} {cs:List AF}
theorem UQ(ms:List AB)(p:AU)(g dy:Int):Fw dy (Fs ms p g)=((List.range ms.length).map (H7 ms p g dy)).sum:=by
 unfold Fw Fs;rw [List.map_map];rfl
theorem Ax.day0(b:Ax d m gs ms cs){k:Nat}(hk:k<ms.length):1<=(ms.getD k AB.z).day:=(b.move' hk).2.2.1.1
theorem Ax.low_iff2(b:Ax d m gs ms cs)(p:AU)(g:Int):0<=(AM ms p g d).2↔0<=p.first g.toNat/\∀k,k<ms.length->(ms.getD k AB.z).good=g->0<=(AM ms p g (ms.getD k AB.z).day).1:=by
 have hz:∀i ∈ List.range ms.length,decide ((ms.getD i AB.z).good=g)=false->(ES ms p g i).2=0:=λi _ e=>by
  unfold ES Sf;dsimp only;rw [if_neg (of_decide_eq_false e)]
 have hsub:((List.range ms.length).filter λi=>decide ((ms.getD i AB.z).good=g)).Sublist (List.range ms.length):=List.filter_sublist;have hr:=b.pairsUp p g hsub;rw [b.stock p g];unfold Fs;rw [H4 hz (b.pairsUp p g (List.Sublist.refl _)),MW _ _ _ _ hr];have hs:∀k,(AM ms p g (ms.getD k AB.z).day).1=p.first g.toNat+Fw (ms.getD k AB.z).day (((List.range ms.length).filter λi=>decide ((ms.getD i AB.z).good=g)).map (ES ms p g)):=λk=>by
  rw [Gk b.up];congr 1;unfold Fw;rw [List.map_map,PD (q:=λi=>decide ((ms.getD i AB.z).good=g)) (λi _ e=>by
   unfold H7 Sf;rw [if_neg (of_decide_eq_false e)];simp)]
  rfl
 have h0:Fw 0 (((List.range ms.length).filter λi=>decide ((ms.getD i AB.z).good=g)).map (ES ms p g))=0:=JO λx hx=>by
  obtain ⟨k,hk,rfl⟩:=List.mem_map.1 hx
  have:=b.day0 (List.mem_range.1 (List.mem_filter.1 hk).1);unfold ES;dsimp only;omega
 rw [h0];constructor
 ·rintro ⟨a1,_,a3⟩;exact ⟨a1,λk hk e=>by rw [hs];exact a3 _ (List.mem_map.2 ⟨k,List.mem_filter.2 ⟨List.mem_range.2 hk,decide_eq_true e⟩,rfl⟩)⟩
 ·rintro ⟨a1,a3⟩;refine ⟨a1,by omega,λx hx=>?_⟩;obtain ⟨k,hk,rfl⟩:=List.mem_map.1 hx;obtain ⟨hk1,hk2⟩:=List.mem_filter.1 hk
  have:=a3 k (List.mem_range.1 hk1) (of_decide_eq_true hk2)
  rw [hs] at this;exact this
theorem Sh{ng:Nat}{p:AU}:A6 d ng ms cs p=true↔(∀g,g<ng->0<=(AM ms p (g:Int) d).2)/\∀x ∈ cs,x.low<=(AM ms p x.good x.day).1/\(AM ms p x.good x.day).1<=x.high:=by
 unfold A6;rw [Bool.and_eq_true,decide_eq_true_iff,Bool.not_eq_true',List.any_eq_false];constructor
 ·rintro ⟨h1,h2⟩;exact ⟨λg hg=>by have:=h1 g hg;omega,λx hx=>by have:=h2 x hx;simpa using this⟩
 ·rintro ⟨h1,h2⟩;exact ⟨λg hg=>by have:=h1 g hg;omega,λx hx=>by have:=h2 x hx;simpa using this⟩
theorem Ax.agrees_iff2(b:Ax d m gs ms cs){p:AU}:A6 d gs.length ms cs p=true↔
  (∀g:Nat,g<gs.length->0<=p.first g)/\(∀k,k<ms.length->0<=(AM ms p (ms.getD k AB.z).good (ms.getD k AB.z).day).1)/\∀x ∈ cs,x.low<=(AM ms p x.good x.day).1/\(AM ms p x.good x.day).1<=x.high:=by
 rw [Sh]
 have:∀g:Nat,0<=(AM ms p (g:Int) d).2↔0<=p.first g/\∀k,k<ms.length->(ms.getD k AB.z).good=(g:Int)->0<=(AM ms p (g:Int) (ms.getD k AB.z).day).1:=λg=>by rw [b.low_iff2,Int.toNat_natCast]
 simp only [this];constructor
 ·rintro ⟨h1,h2⟩;refine ⟨λg hg=>(h1 g hg).1,λk hk=>?_,h2⟩;have hg:=(b.move' hk).2.1;obtain ⟨g,eg⟩:=Int.eq_ofNat_of_zero_le hg.1
  have:=(h1 g (by omega)).2 k hk eg
  rw [<-eg] at this;exact this
 ·rintro ⟨h1,h2,h3⟩;exact ⟨λg hg=>⟨h1 g hg,λk hk e=>by have:=h2 k hk;rw [e] at this;exact this⟩,h3⟩
end
end Go.Ns
namespace Go.Ns
open Go.Conc
def Gl(k:Int):Int:=if k=0\/k=4 then 1 else-1
def Cy(y l:List Int)(k:Int):Int:=if k ∈ l then 0 else y.getD k.toNat 0
def A1(ms:List AB)(f y l:List Int)(g dy:Int):Nat->Int
 | 0=>f.getD g.toNat 0
 | k+1=>A1 ms f y l g dy k+if (ms.getD k AB.z).good=g/\(ms.getD k AB.z).day<=dy then Gl (ms.getD k AB.z).kind*Cy y l (k:Int) else 0
theorem WC{ms:List AB}{f y l:List Int}{g dy:Int}{k:Nat}(h:(ms.getD k AB.z).good=g/\(ms.getD k AB.z).day<=dy):A1 ms f y l g dy (k+1)=A1 ms f y l g dy k+Gl (ms.getD k AB.z).kind*Cy y l (k:Int):=by
 show _+(if _ then _ else _)=_;rw [if_pos h]
theorem WD{ms:List AB}{f y l:List Int}{g dy:Int}{k:Nat}(h:¬((ms.getD k AB.z).good=g/\(ms.getD k AB.z).day<=dy)):A1 ms f y l g dy (k+1)=A1 ms f y l g dy k:=by
 show _+(if _ then _ else _)=_;rw [if_neg h];omega
theorem K0{y l:List Int}(hy:∀i,0<=y.getD i 0/\y.getD i 0<=99)(k:Int):0<=Cy y l k/\Cy y l k<=99:=by
 unfold Cy;split
 ·omega
 ·exact hy _
theorem Nh(k:Int):Gl k=1\/Gl k= -1:=by unfold Gl;split <;> simp
theorem PH{y l:List Int}(hy:∀i,0<=y.getD i 0/\y.getD i 0<=99)(s k:Int): -99<=Gl s*Cy y l k/\Gl s*Cy y l k<=99:=by
 have:=K0 (l:=l) hy k
 rcases Nh s with e | e <;> rw [e] <;> omega
theorem J7{ms:List AB}{f y l:List Int}(hf:∀i,0<=f.getD i 0/\f.getD i 0<=99)(hy:∀i,0<=y.getD i 0/\y.getD i 0<=99)(g dy:Int):∀k:Nat,-(99*(k:Int))<=A1 ms f y l g dy k/\A1 ms f y l g dy k<=99*(k:Int)+99
 | 0=>by have:=hf g.toNat;unfold A1;omega
 | k+1=>by
  have h1:=J7 (ms:=ms) (l:=l) hf hy g dy k;have h2:=PH (l:=l) hy (ms.getD k AB.z).kind (k:Int);unfold A1;split <;> omega
structure IsP(P:AU)(f y l:List Int)(ng nm:Nat):Prop where
 first:∀i,i<ng->P.first i=f.getD i 0
 many:∀i,i<nm->P.many i=y.getD i 0
 lies:∀i,i<nm->P.lies i=decide ((i:Int) ∈ l)
theorem IsP.real{P:AU}{f y l:List Int}{ng nm:Nat}(h:IsP P f y l ng nm){k:Nat}(hk:k<nm):CL P k=Cy y l (k:Int):=by
 unfold CL Cy;rw [h.lies k hk,h.many k hk,Int.toNat_natCast];by_cases e:(k:Int) ∈ l <;> simp [e]
theorem IsP.sum{P:AU}{f y l:List Int}{ng:Nat}{ms:List AB}(h:IsP P f y l ng ms.length)(hk:∀k,0<=(ms.getD k AB.z).kind){g dy:Int}(hg:0<=g/\g<ng):∀k,k<=ms.length->A1 ms f y l g dy k=P.first g.toNat+((List.range k).map (H7 ms P g dy)).sum
 | 0,_=>by rw [h.first _ (by omega)];simp [A1]
 | k+1,hl=>by
  rw [List.range_succ,List.map_append,List.sum_append,List.map_singleton,List.sum_singleton];have ih:=h.sum hk (dy:=dy) hg k (by omega);have e:H7 ms P g dy k=if (ms.getD k AB.z).good=g/\(ms.getD k AB.z).day<=dy then Gl (ms.getD k AB.z).kind*Cy y l (k:Int) else 0:=by
   unfold H7 Sf;rw [h.real (show k<ms.length by omega)];have hs:D2 (ms.getD k AB.z).kind.toNat (Cy y l (k:Int))=Gl (ms.getD k AB.z).kind*Cy y l (k:Int):=by
    unfold D2 Gl
    have:=hk k
    by_cases q:(ms.getD k AB.z).kind=0\/(ms.getD k AB.z).kind=4
    ·rw [if_pos (by omega),if_pos q];omega
    ·rw [if_neg (by omega),if_neg q];omega
   by_cases q1:(ms.getD k AB.z).day<=dy
   ·by_cases q2:(ms.getD k AB.z).good=g
    ·rw [if_pos q1,if_pos q2,if_pos ⟨q2,q1⟩,hs]
    ·rw [if_pos q1,if_neg q2,if_neg λq=>q2 q.1]
   ·rw [if_neg q1,if_neg λq=>q1 q.2]
  rw [e,A1,ih];omega
theorem IsP.stock{P:AU}{f y l:List Int}{ng:Nat}{ms:List AB}(h:IsP P f y l ng ms.length)(up:J4 ms)(hk:∀k,0<=(ms.getD k AB.z).kind){g:Int}(hg:0<=g/\g<ng)(dy:Int):A1 ms f y l g dy ms.length=(AM ms P g dy).1:=by
 rw [h.sum hk hg ms.length (Nat.le_refl _),Gk up]
end Go.Ns
namespace Go.Ns
open Go.Conc
theorem ba_refl(a:ByteArray):(a==a)=true:=by
 cases a with
 | mk d=>show (d==d)=true;simp
section
variable {d m:Int} {gs:List Good} {ms ms2:List AB} {cs cs2:List AF}
theorem MX{U:Type}:∀{l l1:List U},l.Nodup->(∀x ∈ l,x ∈ l1)->l.length<=l1.length
 | [],_,_,_=>Nat.zero_le _
 | a ::t,l1,hn,hs=>by
  obtain ⟨s,u,rfl⟩:=List.append_of_mem (hs a (List.mem_cons_self ..))
  have:=MX (l1:=s++u) (List.nodup_cons.1 hn).2 λx hx=>by
   have h1:=hs x (List.mem_cons_of_mem _ hx);rw [List.mem_append] at h1 ⊢;rcases h1 with h | h
   ·exact .inl h
   ·rcases List.mem_cons.1 h with rfl | h
    ·exact absurd hx (List.nodup_cons.1 hn).1
    ·exact .inr h
  simp only [List.length_append,List.length_cons] at this ⊢;omega
end
end Go.Ns
namespace Go.Ns
open Go.Conc
def CO(ms:List AB)(cs:List AF)(f y l:List Int):Bool:=decide (∀k,k<cs.length->(cs.getD k AF.z).low<=A1 ms f y l (cs.getD k AF.z).good (cs.getD k AF.z).day ms.length/\A1 ms f y l (cs.getD k AF.z).good (cs.getD k AF.z).day ms.length<=(cs.getD k AF.z).high) &&
 decide (∀k,k<ms.length->¬A1 ms f y l (ms.getD k AB.z).good (ms.getD k AB.z).day ms.length<0)
section
variable {ms:List AB} {cs:List AF} {f y l:List Int}
theorem Yz{k:Nat}(hk:k<cs.length)(h:¬((cs.getD k AF.z).low<=A1 ms f y l (cs.getD k AF.z).good (cs.getD k AF.z).day ms.length/\A1 ms f y l (cs.getD k AF.z).good (cs.getD k AF.z).day ms.length<=(cs.getD k AF.z).high)):CO ms cs f y l=false:=by
 unfold CO;rw [decide_eq_false (λq=>h (q k hk))];rfl
theorem Y1{k:Nat}(hk:k<ms.length)(h:A1 ms f y l (ms.getD k AB.z).good (ms.getD k AB.z).day ms.length<0):CO ms cs f y l=false:=by
 unfold CO;rw [Bool.and_eq_false_iff];exact .inr (decide_eq_false λq=>q k hk h)
theorem Y3{k k2:Nat}(h:∀j,j<k->(cs.getD j AF.z).low<=A1 ms f y l (cs.getD j AF.z).good (cs.getD j AF.z).day ms.length/\A1 ms f y l (cs.getD j AF.z).good (cs.getD j AF.z).day ms.length<=(cs.getD j AF.z).high)(hk:cs.length<=k)
  (h2:∀j,j<k2->¬A1 ms f y l (ms.getD j AB.z).good (ms.getD j AB.z).day ms.length<0) (hk2:ms.length<=k2):CO ms cs f y l=true:=by
 unfold CO;rw [decide_eq_true (λj hj=>h j (by omega)),decide_eq_true (λj hj=>h2 j (by omega))];rfl
end
section
variable {d m:Int} {gs:List Good} {ms:List AB} {cs:List AF}
end
end Go.Ns
namespace Go.Ns
open Go.Conc
section
variable {d m:Int} {gs:List Good} {ms:List AB} {cs:List AF} {kd g n:Int}
end
end Go.Ns
namespace Go.Ns
open Go.Conc
def M1(gs:List Good)(p:AU):Nat->AU
 | 0=>p
 | k+1=>(M1 gs p k).setFirst k (min (max (p.first k) (gs.getD k Good.z).low) (gs.getD k Good.z).high)
def M2(ms:List AB)(p q:AU):Nat->AU
 | 0=>q
 | k+1=>(M2 ms p q k).setMany k (min (max (p.many k) (ms.getD k AB.z).low) (ms.getD k AB.z).high)
def GK(gs:List Good)(ms:List AB)(p:AU):AU:=M2 ms p (M1 gs p gs.length) ms.length
def eq3(p q:AU):Bool:=(p.first 0==q.first 0) && ((p.first 1==q.first 1) && ((p.first 2==q.first 2) && true))
def eq6(p q:AU):Bool:=(p.many 0==q.many 0) && ((p.many 1==q.many 1) && ((p.many 2==q.many 2) && ((p.many 3==q.many 3) && ((p.many 4==q.many 4) && ((p.many 5==q.many 5) && true)))))
def Cz(d m:Int)(gs:List Good)(ms:List AB)(cs:List AF)(f y l:List Int):Bool:=
 decide (Ac d m gs ms cs f y l=0) && (eq3 (GK gs ms (BS d m gs ms cs f y l)) (BS d m gs ms cs f y l) && (eq6 (GK gs ms (BS d m gs ms cs f y l)) (BS d m gs ms cs f y l) && (decide ((Ao (BS d m gs ms cs f y l) 6:Int)<=m) && A6 d gs.length ms cs (BS d m gs ms cs f y l))))
section
variable {d m:Int} {gs:List Good} {ms:List AB} {cs:List AF}
end
end Go.Ns
namespace Go.Ns
open Go.Conc
def Ty(h:GH)(t:TypeId)(v:Value):Prop:=∀b,B0 v=some b->∃p c f,h b=some (p,.cells c t f)
def It(h:GH)(t:TypeId)(v:Value)(xs:List Int):Prop:=AH h v 1 eI xs/\Ty h t v
theorem It.le{h h':GH}{t:TypeId}{v:Value}{xs:List Int}(x:It h t v xs)(l:h.Le h'):It h' t v xs:=⟨x.1.le l,λb hb=>by
 obtain ⟨p,c,f,q⟩:=x.2 b hb;exact ⟨p,c,f,l.keep q rfl⟩⟩
theorem It.nil(h:GH)(t:TypeId):It h t (.slice none 0 0) []:=⟨AH.nil _ _ _,λb hb=>by cases hb⟩
theorem It.own{h0 h:GH}{t:TypeId}{v:Value}{xs:List Int}(o:AS h0 h v t 1 eI xs):It h t v xs:=⟨o.sl,λb hb=>by
 rcases o with ⟨rfl,_⟩ | ⟨b1,cap,c,rfl,_,h2,_⟩
 ·cases hb
 ·simp only [B0,Option.some.injEq] at hb;subst hb;exact ⟨_,_,_,h2⟩⟩
section
variable {U:Type} {h h' h0:GH} {v v':Value} {t t':TypeId} {n:Nat} {enc:U->Array Value} {ys:List U}
theorem It.grown(g:F6 h h' v v')(o:AS h0 h v t' n enc ys)(ne:t'≠t){w:Value}{xs:List Int}(x:It h t w xs):It h' t w xs:=by
 have key:∀b,B0 w=some b->h' b=h b:=λb hb=>by
  obtain ⟨p,c,f,q⟩:=x.2 b hb;rw [q];refine g.1 b _ q λe=>?_;rcases o with ⟨rfl,_⟩ | ⟨b1,cap,c1,rfl,_,h2,_⟩
  ·cases e
  ·simp only [B0,Option.some.injEq] at e;subst e;rw [q] at h2;cases h2;exact ne rfl
 refine ⟨?_,λb hb=>by rw [key b hb];exact x.2 b hb⟩;obtain ⟨a,cap,hv,hc,hm,he⟩:=x.1;refine ⟨a,cap,hv,hc,hm,λi hi=>?_⟩;obtain ⟨b,off,h1,h2⟩:=he i hi;exact ⟨b,off,h1,h2.same (key b (by rw [hv,h1];rfl))⟩
end
theorem LO{P:Program}{E:Gy P}{O:Nat->Value}{ds:List Deferred}{h:GH}{T:(Nat->Value)->List Deferred->GH->Prop}{dst:Option Nat}{ty:TypeId}{pos:String}{af:Array Edge}{gd:Option (Nat×Bool)}{U:Type}
  {s x:TypeId} {o1 o2:Operand} {h0:GH} {w:Value} {r e n bytes:Nat} {enc:U->Array Value} {ys:List U} (ht:IR P s x=some (e,n,bytes)) (h1:AT O o1=.slice (some ⟨r,0,none⟩) 0 0) (h2:AT O o2=w)
  (hv:AS h0 h (.slice (some ⟨r,0,none⟩) 0 0) e n enc ([]:List U)) (hw:AH h w n enc ys) (l0:∀q,h q=none->h0 q=none) (hb:(2*(([]:List U).length+ys.length)+512)*bytes<=2 ^ 48) (hfine:∀y ∈ ys,(enc y).toList.all (·.oneCell')=true)
  (k:∀v' h',AS h0 h' v' e n enc ys->F6 h h' (.slice (some ⟨r,0,none⟩) 0 0) v'->h.Le h'->T (putS O dst v') ds h'):Bg E ⟨dst,.call ⟨.builtin .append,#[o1,o2],#[s,x]⟩,ty,pos,af,gd⟩ O ds h T:=
 OX ht h1 h2 hv hw l0 hb hfine λv' h' o g1 g2 g3=>k v' h' o ⟨g1,g2⟩ (.of λb y hb=>by
  by_cases e:b=r
  ·subst e;rcases hv with ⟨q,_⟩ | ⟨b1,cap,c,q,_,q2,q3,_⟩
   ·cases q
   ·simp only [Value.slice.injEq,Option.some.injEq,Addr.mk.injEq,and_true] at q;obtain ⟨rfl,_,rfl⟩:=q;obtain ⟨c',q5,q6⟩:=g3 b c rfl q2;rw [q2] at hb;cases hb;rw [q5,Array.eq_empty_of_size_eq_zero (show c.size=0 by omega),Array.eq_empty_of_size_eq_zero (show c'.size=0 by omega)]
  ·exact g1 b y hb λq=>e (by simpa [B0] using q.symm))
def UR(hs:GH)(k0 ln:Nat)(c:Array Value)(t:TypeId)(k:Nat)(v:Value)(h:GH):Prop:=k=k0->∃r,v=.slice (some ⟨r,0,none⟩) ln ln/\hs r=none/\h r=some (true,.cells c t (0,0))
theorem UR.mono(hs:GH)(k0 ln:Nat)(c:Array Value)(t:TypeId):∀k v h1 h2,GH.Le h1 h2->UR hs k0 ln c t k v h1->UR hs k0 ln c t k v h2:=λ_ _ _ _ l x e=>by
 obtain ⟨r,q1,q2,q3⟩:=x e;exact ⟨r,q1,q2,l.keep q3 rfl⟩
theorem RH{P:Program}{E:Gy P}{O:Nat->Value}{ds:List Deferred}{hs hx:GH}{dst:Option Nat}{ty:TypeId}{pos:String}{af:Array Edge}{gd:Option (Nat×Bool)}{t:TypeId}{len n k0 k:Nat}{z cells:Array Value}{e:TypeId}{parts:Array (Nat×Operand)}
  (h0:Du P t=some (n,z,e)) (hl:len*n<=2 ^ 24) (hn:(len*n=0)=False) (hf:Instr.fill (λi=>some (i*n,n)) ((Array.range (len*n)).map (z[·%z.size]!)) (parts.map λ(i,x)=>(i,AT O x)).toList=some cells) (l:hs.Le hx) :
  Bg E ⟨dst,.buildSlice t len parts,ty,pos,af,gd⟩ O ds hx λσ' ds' h'=>ds'=ds/\∃v,σ'=putS O dst v/\hx.Le h'/\UR hs k0 len cells e k v h':=
 Ab h0 hl hn hf λr h' hr le bx _=>⟨rfl,_,rfl,le,λ_=>⟨r,rfl,GH.Le.nothing l hr,bx⟩⟩
theorem Si{v0 v1 v2:Value}(h0:v0.cells=#[v0])(h1:v1.cells=#[v1])(h2:v2.cells=#[v2]):Instr.fill (λx=>#[(0,1),(1,1),(2,1)][x]?) #[Value.slice none 0 0,Value.slice none 0 0,Value.slice none 0 0] [(0,v0),(1,v1),(2,v2)]=some #[v0,v1,v2]:=by
 simp [Instr.fill,h0,h1,h2]
def Ej(h:GH)(t:TypeId)(l:List Sl):Prop:=∀k,It h t (l.getD k Sl.z).1 (l.getD k Sl.z).2
theorem Ej.le{h h':GH}{t:TypeId}{l:List Sl}(x:Ej h t l)(e:h.Le h'):Ej h' t l:=λk=>(x k).le e
theorem Ej.nil(h:GH)(t:TypeId):Ej h t []:=λk=>by
 rw [CE (by simp)];exact It.nil _ _
theorem PI{U:Type}(z:U)(a b:List U)(k:Nat):(a++b).getD k z=if k<a.length then a.getD k z else b.getD (k-a.length) z:=by
 simp only [List.getD_eq_getElem?_getD,List.getElem?_append];split <;> rfl
theorem Ej.app{h:GH}{t:TypeId}{l l':List Sl}(a:Ej h t l)(b:Ej h t l'):Ej h t (l++l'):=λk=>by
 rw [PI];split
 ·exact a k
 ·exact b _
theorem Ej.one{h:GH}{t:TypeId}{x:Sl}(a:It h t x.1 x.2):Ej h t [x]:=λk=>by
 cases k with
 | zero=>exact a
 | succ k=>rw [CE (by simp)];exact It.nil _ _
theorem Ej.grown{U:Type}{h h' h0:GH}{v v':Value}{t t':TypeId}{n:Nat}{enc:U->Array Value}{ys:List U}(g:F6 h h' v v')(o:AS h0 h v t' n enc ys)(ne:t'≠t){l:List Sl}(x:Ej h t l):Ej h' t l:=λk=>(x k).grown g o ne
structure PS where
 f:Sl
 y:Sl
 l:Sl
def PS.z:PS:=⟨Sl.z,Sl.z,Sl.z⟩
def ePS(x:PS):Array Value:=#[x.f.1,x.y.1,x.l.1]
def ET(h:GH)(t:TypeId)(l:List PS):Prop:=∀k,It h t (l.getD k PS.z).f.1 (l.getD k PS.z).f.2/\It h t (l.getD k PS.z).y.1 (l.getD k PS.z).y.2/\It h t (l.getD k PS.z).l.1 (l.getD k PS.z).l.2
theorem ET.le{h h':GH}{t:TypeId}{l:List PS}(x:ET h t l)(e:h.Le h'):ET h' t l:=λk=>⟨(x k).1.le e,(x k).2.1.le e,(x k).2.2.le e⟩
theorem ET.nil(h:GH)(t:TypeId):ET h t []:=λk=>by
 rw [CE (by simp)];exact ⟨It.nil _ _,It.nil _ _,It.nil _ _⟩
theorem ET.app{h:GH}{t:TypeId}{l l':List PS}(a:ET h t l)(b:ET h t l'):ET h t (l++l'):=λk=>by
 rw [PI];split
 ·exact a k
 ·exact b _
theorem ET.one{h:GH}{t:TypeId}{x:PS}(a:It h t x.f.1 x.f.2)(b:It h t x.y.1 x.y.2)(c:It h t x.l.1 x.l.2):ET h t [x]:=λk=>by
 cases k with
 | zero=>exact ⟨a,b,c⟩
 | succ k=>rw [CE (by simp)];exact ⟨It.nil _ _,It.nil _ _,It.nil _ _⟩
theorem ET.grown{U:Type}{h h' h0:GH}{v v':Value}{t t':TypeId}{n:Nat}{enc:U->Array Value}{ys:List U}(g:F6 h h' v v')(o:AS h0 h v t' n enc ys)(ne:t'≠t){l:List PS}(x:ET h t l):ET h' t l:=λk=>⟨(x k).1.grown g o ne,(x k).2.1.grown g o ne,(x k).2.2.grown g o ne⟩
theorem It.fine{h:GH}{t:TypeId}{v:Value}{xs:List Int}(x:It h t v xs):v.oneCell'=true:=(AH.one x.1).2
theorem Ej.fine{h:GH}{t:TypeId}{l:List Sl}(a:Ej h t l):∀y ∈ l,(Is y).toList.all (·.oneCell')=true:=λy hy=>by
 obtain ⟨k,hk,rfl⟩:=Hk Sl.z hy;show (((l.getD k Sl.z).1.oneCell') && true)=true;rw [(a k).fine];rfl
theorem ET.fine{h:GH}{t:TypeId}{l:List PS}(a:ET h t l):∀y ∈ l,(ePS y).toList.all (·.oneCell')=true:=λy hy=>by
 obtain ⟨k,hk,rfl⟩:=Hk PS.z hy;show (((l.getD k PS.z).f.1.oneCell') && (((l.getD k PS.z).y.1.oneCell') && (((l.getD k PS.z).l.1.oneCell') && true)))=true;rw [(a k).1.fine,(a k).2.1.fine,(a k).2.2.fine];rfl
abbrev RP:=List Int×List Int×List Int
def Ic(l:List PS):List RP:=l.map λx=>(x.f.2,x.y.2,x.l.2)
theorem YC(a b:List PS):Ic (a++b)=Ic a++Ic b:=by simp [Ic]
theorem RI(a b:List Sl):A8 (a++b)=A8 a++A8 b:=by simp [A8]
theorem MY{l:List PS}{k:Nat}(hk:k<l.length):(Ic l).getD k ([],[],[])=((l.getD k PS.z).f.2,(l.getD k PS.z).y.2,(l.getD k PS.z).l.2):=by
 unfold Ic;rw [BY _ (by simpa using hk),BY PS.z hk];simp
def eSp(x:Int×Int):Array Value:=#[.int .i64 x.1,.int .i64 x.2]
def Bw(gs:List Good):List (Int×Int):=gs.map λg=>(g.low,g.high)
def CW(ms:List AB):List (Int×Int):=ms.map λg=>(g.low,g.high)
theorem Sj{gs:List Good}{k:Nat}(hk:k<gs.length):Bw (gs.take (k+1))=Bw (gs.take k)++[((gs.getD k Good.z).low,(gs.getD k Good.z).high)]:=by
 unfold Bw;rw [CP Good.z hk,List.map_append];rfl
theorem US{ms:List AB}{k:Nat}(hk:k<ms.length):CW (ms.take (k+1))=CW (ms.take k)++[((ms.getD k AB.z).low,(ms.getD k AB.z).high)]:=by
 unfold CW;rw [CP AB.z hk,List.map_append];rfl
theorem Ni{gs:List Good}(h:∀k,(gs.getD k Good.z).high-(gs.getD k Good.z).low<3)(k:Nat):((Bw gs).getD k (0,0)).2-((Bw gs).getD k (0,0)).1<3:=by
 unfold Bw;by_cases hk:k<gs.length
 ·have:=h k
  rw [BY _ (by simpa using hk),List.getElem_map];rw [BY Good.z hk] at this;exact this
 ·rw [CE (by simpa using hk)];decide
theorem PJ{ms:List AB}(h:∀k,(ms.getD k AB.z).high-(ms.getD k AB.z).low<3)(k:Nat):((CW ms).getD k (0,0)).2-((CW ms).getD k (0,0)).1<3:=by
 unfold CW;by_cases hk:k<ms.length
 ·have:=h k
  rw [BY _ (by simpa using hk),List.getElem_map];rw [BY AB.z hk] at this;exact this
 ·rw [CE (by simpa using hk)];decide
def Bs:List (Int×Int)->List Int->List (List Int)
 | [],k=>[k]
 | s ::ss,k=>(FC s.1 s.2).flatMap λn=>Bs ss (k++[n])
def H8(ss:List (Int×Int))(kn:List Int)(j:Nat):List (List Int):=(Bq (ss.getD kn.length (0,0)).1 j).flatMap λn=>Bs (ss.drop (kn.length+1)) (kn++[n])
theorem Sm(ss:List (Int×Int))(kn:List Int)(j:Nat):H8 ss kn (j+1)=H8 ss kn j++Bs (ss.drop (kn.length+1)) (kn++[(ss.getD kn.length (0,0)).1+(j:Int)]):=by
 unfold H8;exact H1
theorem WE{ss:List (Int×Int)}{kn:List Int}(h:kn.length=ss.length):Bs (ss.drop kn.length) kn=[kn]:=by
 rw [List.drop_eq_nil_of_le (by omega)];rfl
theorem Y4{ss:List (Int×Int)}{kn:List Int}(h:kn.length<ss.length){j:Nat}(hj:¬(ss.getD kn.length (0,0)).1+(j:Int)<=(ss.getD kn.length (0,0)).2)(hk:(j:Int)<=(ss.getD kn.length (0,0)).2-(ss.getD kn.length (0,0)).1+1\/j=0):Bs (ss.drop kn.length) kn=H8 ss kn j:=by
 have e:ss.drop kn.length=ss.getD kn.length (0,0) ::ss.drop (kn.length+1):=by
  rw [List.drop_eq_getElem_cons h,BY _ h]
 rw [e];unfold H8;rw [On hj hk];rfl
theorem Gm{U β:Type}{f:U->List β}{B:Nat}:∀{l:List U},(∀x ∈ l,(f x).length<=B)->(l.flatMap f).length<=l.length*B
 | [],_=>by simp
 | x ::l,h=>by
  rw [List.flatMap_cons,List.length_append,List.length_cons,Nat.succ_mul];have h1:=h x (by simp);have h2:=Gm (l:=l) λy hy=>h y (by simp [hy]);omega
theorem PK(lo:Int)(k:Nat):(Bq lo k).length=k:=by simp [Bq]
theorem PL:∀{ss:List (Int×Int)}{kn:List Int},(∀k,(ss.getD k (0,0)).2-(ss.getD k (0,0)).1<3)->(Bs ss kn).length<=3 ^ ss.length
 | [],kn,_=>by simp [Bs]
 | s ::ss,kn,h=>by
  unfold Bs;have h1:=h 0;have h2:(FC s.1 s.2).length<=3:=by unfold FC;rw [PK];have:s.2-s.1<3:=h1;omega
  have h3:=Gm (l:=FC s.1 s.2) (f:=λn=>Bs ss (kn++[n])) (B:=3 ^ ss.length) λn _=>PL λk=>h (k+1);rw [List.length_cons,Nat.pow_succ,Nat.mul_comm];exact Nat.le_trans h3 (Nat.mul_le_mul_right _ h2)
theorem drop_few{ss:List (Int×Int)}(h:∀k,(ss.getD k (0,0)).2-(ss.getD k (0,0)).1<3)(n:Nat)(k:Nat):((ss.drop n).getD k (0,0)).2-((ss.drop n).getD k (0,0)).1<3:=by
 have e:(ss.drop n).getD k (0,0)=ss.getD (n+k) (0,0):=by simp [List.getD_eq_getElem?_getD]
 rw [e];exact h _
theorem pow_le6{n:Nat}(h:n<=6):3 ^ n<=729:=Nat.pow_le_pow_right (by decide) h
theorem H9{ss:List (Int×Int)}{kn:List Int}(h:∀k,(ss.getD k (0,0)).2-(ss.getD k (0,0)).1<3)(hl:ss.length<=6)(n:Nat):(Bs (ss.drop n) kn).length<=729:=by
 have h1:=PL (kn:=kn) (drop_few h n);exact Nat.le_trans h1 (pow_le6 (by rw [List.length_drop];omega))
theorem Sn{ss:List (Int×Int)}{kn:List Int}(h:∀k,(ss.getD k (0,0)).2-(ss.getD k (0,0)).1<3)(hl:ss.length<=6)(j:Nat):(H8 ss kn j).length<=j*729:=by
 unfold H8
 have:=Gm (l:=Bq (ss.getD kn.length (0,0)).1 j) (f:=λn=>Bs (ss.drop (kn.length+1)) (kn++[n])) (B:=729) λn _=>H9 h hl _
 rwa [PK] at this
theorem CX(l:List Sl):(A8 l).length=l.length:=by simp [A8]
def BW(l:List Int):List (List Int):=l.foldl (λc x=>c++c.map (·++[x])) [[]]
def EJ(l:List Int)(k j:Nat):List (List Int):=BW (l.take k)++((BW (l.take k)).take j).map (·++[l.getD k 0])
theorem So{l:List Int}{k:Nat}(hk:k<l.length):BW (l.take (k+1))=BW (l.take k)++(BW (l.take k)).map (·++[l.getD k 0]):=by
 rw [CP 0 hk];unfold BW;rw [List.foldl_append];rfl
theorem WF(l:List Int)(k:Nat):EJ l k 0=BW (l.take k):=by simp [EJ]
theorem Sr{l:List Int}{k j:Nat}(hk:k<l.length)(hj:(BW (l.take k)).length<=j):EJ l k j=BW (l.take (k+1)):=by
 rw [So hk];unfold EJ;rw [List.take_of_length_le hj]
theorem QX{l:List Int}{k j:Nat}(hj:j<(BW (l.take k)).length):EJ l k (j+1)=EJ l k j++[(BW (l.take k)).getD j []++[l.getD k 0]]:=by
 unfold EJ;rw [CP [] hj,List.map_append,List.append_assoc];rfl
theorem UT:∀(l:List Int),(BW l).length=2 ^ l.length:=λl=>by
 have key:∀(l:List Int)(c:List (List Int)),(l.foldl (λc x=>c++c.map (·++[x])) c).length=c.length*2 ^ l.length:=by
  intro l
  induction l with
  | nil=>intro c;simp
  | cons x l ih=>intro c;rw [List.foldl_cons,ih,List.length_append,List.length_map,List.length_cons,Nat.pow_succ,Nat.mul_comm (2 ^ l.length) 2,<-Nat.mul_assoc];congr 1;omega
 unfold BW;rw [key];simp
theorem HC{l:List Int}(h:l.length<=6)(k:Nat):(BW (l.take k)).length<=64:=by
 rw [UT]
 have:2 ^ (l.take k).length<=2 ^ 6:=Nat.pow_le_pow_right (by decide) (by rw [List.length_take];omega)
 omega
theorem Hl{l:List Int}:∀{c:List Int},c ∈ BW l->c.Sublist l:=by
 have key:∀(l r:List Int)(cs:List (List Int)),(∀c ∈ cs,c.Sublist r)->∀c ∈ l.foldl (λc x=>c++c.map (·++[x])) cs,c.Sublist (r++l):=by
  intro l
  induction l with
  | nil=>intro r cs h c hc;rw [List.append_nil];exact h c hc
  | cons x l ih=>
   intro r cs h c hc
   have:=ih (r++[x]) (cs++cs.map (·++[x])) (λc hc=>by
    rcases List.mem_append.1 hc with hc | hc
    ·exact (h c hc).trans (List.sublist_append_left _ _)
    ·obtain ⟨c',hc',rfl⟩:=List.mem_map.1 hc;exact (h c' hc').append (List.Sublist.refl _)) c hc
   rwa [List.append_assoc] at this
 intro c hc
 have:=key l [] [[]] (λc hc=>by rw [List.mem_singleton.1 hc];exact List.Sublist.refl _) c hc
 simpa using this
theorem WG{l:List Int}{c:List Int}(h:c.Sublist l):c ∈ BW l:=by
 have keep:∀(l:List Int)(cs:List (List Int)) c,c ∈ cs->c ∈ l.foldl (λc x=>c++c.map (·++[x])) cs:=by
  intro l
  induction l with
  | nil=>intro cs c h;exact h
  | cons x l ih=>intro cs c h;exact ih _ _ (List.mem_append_left _ h)
 have key:∀(c l:List Int),c.Sublist l->∀(cs:List (List Int)) a,a ∈ cs->a++c ∈ l.foldl (λc x=>c++c.map (·++[x])) cs:=by
  intro c l h
  induction h with
  | slnil=>intro cs a ha;rw [List.append_nil];exact ha
  | cons x _ ih=>intro cs a ha;exact ih _ _ (List.mem_append_left _ ha)
  | cons_cons x _ ih=>
   intro cs a ha
   have:=ih (cs++cs.map (·++[x])) (a++[x]) (List.mem_append_right _ (List.mem_map.2 ⟨a,ha,rfl⟩))
   rwa [List.append_assoc] at this
 exact key c l h [[]] [] (by simp)
theorem Y5{l:List Int}{k:Nat}(h6:l.length<=6){x:List Int}(h:x ∈ BW (l.take k)):x.length<=6:=by
 have h1:=(Hl h).length_le;rw [List.length_take] at h1;omega
theorem Y6{l:List Int}{k j:Nat}{fl fl2:List Sl}(h6:l.length<=6)(h1:A8 fl=BW (l.take k))(h2:A8 fl2=EJ l k j)(hj:j<=fl.length) :
  fl2.length=fl.length+j/\(j<fl.length->(fl2.getD j Sl.z).2=(BW (l.take k)).getD j []/\(fl2.getD j Sl.z).2.length<=6):=by
 have e1:(BW (l.take k)).length=fl.length:=by rw [<-h1,CX]
 have e2:fl2.length=fl.length+j:=by
  rw [<-CX fl2,h2];unfold EJ;rw [List.length_append,List.length_map,List.length_take,e1];omega
 refine ⟨e2,λhj2=>?_⟩;have e3:(fl2.getD j Sl.z).2=(BW (l.take k)).getD j []:=by
  rw [<-Ch (by omega),h2];unfold EJ;rw [PI,if_pos (by omega)]
 exact ⟨e3,by rw [e3];exact Y5 h6 (CI (by omega))⟩
theorem UU{l:List Int}{k j:Nat}{fl fl2:List Sl}{w:Value}(h1:A8 fl=BW (l.take k))(h2:A8 fl2=EJ l k j)(e:(fl2.getD j Sl.z).2=(BW (l.take k)).getD j [])(hj:j<fl.length):A8 (fl2++[(w,(fl2.getD j Sl.z).2++[l.getD k 0])])=EJ l k (j+1):=by
 rw [RI,h2,QX (by rw [<-h1,CX];exact hj),e];rfl
def Fx(ms:List AB)(cs:List AF)(l f:List Int)(ys:List (List Int)):List RP:=(ys.map λy=>(f,y,l)).filter λx=>CO ms cs x.1 x.2.1 x.2.2
def Ji(gs:List Good)(ms:List AB)(cs:List AF)(l:List Int):List RP:=(Bs (Bw gs) []).flatMap λf=>Fx ms cs l f (Bs (CW ms) [])
def Dp(ms:List AB)(cs:List AF)(l:List Int)(F Y:List (List Int))(i k:Nat):List RP:=((F.take i).flatMap λf=>Fx ms cs l f Y)++Fx ms cs l (F.getD i []) (Y.take k)
theorem MZ(ms:List AB)(cs:List AF)(l:List Int)(F Y:List (List Int))(i:Nat):Dp ms cs l F Y i 0=(F.take i).flatMap λf=>Fx ms cs l f Y:=by simp [Dp,Fx]
theorem WH{ms:List AB}{cs:List AF}{l:List Int}{F Y:List (List Int)}{i k:Nat}(hi:i<F.length)(hk:Y.length<=k):Dp ms cs l F Y i k=(F.take (i+1)).flatMap λf=>Fx ms cs l f Y:=by
 unfold Dp;rw [CP [] hi,List.flatMap_append,List.take_of_length_le hk];simp
theorem withTo_t{ms:List AB}{cs:List AF}{l:List Int}{F Y:List (List Int)}{i k:Nat}(hk:k<Y.length)(h:CO ms cs (F.getD i []) (Y.getD k []) l=true):Dp ms cs l F Y i (k+1)=Dp ms cs l F Y i k++[(F.getD i [],Y.getD k [],l)]:=by
 unfold Dp Fx;rw [CP [] hk,List.map_append,List.filter_append,List.append_assoc];congr 1;congr 1;simp;exact h
theorem withTo_f{ms:List AB}{cs:List AF}{l:List Int}{F Y:List (List Int)}{i k:Nat}(hk:k<Y.length)(h:CO ms cs (F.getD i []) (Y.getD k []) l=false):Dp ms cs l F Y i (k+1)=Dp ms cs l F Y i k:=by
 unfold Dp Fx;rw [CP [] hk,List.map_append,List.filter_append];congr 1;simp;exact h
theorem PM(ms:List AB)(cs:List AF)(l f:List Int)(ys:List (List Int)):(Fx ms cs l f ys).length<=ys.length:=by
 unfold Fx;exact Nat.le_trans (List.length_filter_le _ _) (by simp)
theorem PN{ms:List AB}{cs:List AF}{l:List Int}{F Y:List (List Int)}(hF:F.length<=729)(hY:Y.length<=729)(i k:Nat):(Dp ms cs l F Y i k).length<=532170:=by
 unfold Dp;have h1:=Gm (l:=F.take i) (f:=λf=>Fx ms cs l f Y) (B:=729) λf _=>Nat.le_trans (PM ..) hY;have h2:=PM ms cs l (F.getD i []) (Y.take k);rw [List.length_take] at h2;have h3:(F.take i).length*729<=729*729:=Nat.mul_le_mul_right _ (by rw [List.length_take];omega);rw [List.length_append];omega
theorem RJ{gs:List Good}{ms:List AB}{cs:List AF}{l:List Int}(hF:(Bs (Bw gs) []).length<=729)(hY:(Bs (CW ms) []).length<=729):(Ji gs ms cs l).length<=532170:=by
 have:=PN (ms:=ms) (cs:=cs) (l:=l) hF hY (Bs (Bw gs) []).length 0
 rw [MZ,List.take_length] at this;exact this
def Dy(m:Int)(gs:List Good)(ms:List AB)(cs:List AF)(C:List (List Int)):List RP:=C.flatMap λl=>if (l.length:Int)<=m then Ji gs ms cs l else []
def BC(m:Int)(gs:List Good)(ms:List AB)(cs:List AF):List RP:=Dy m gs ms cs (BW (B4 ms ms.length))
theorem Y7{m:Int}{gs:List Good}{ms:List AB}{cs:List AF}{C:List (List Int)}{k:Nat}(hk:k<C.length)(h:((C.getD k []).length:Int)<=m):Dy m gs ms cs (C.take (k+1))=Dy m gs ms cs (C.take k)++Ji gs ms cs (C.getD k []):=by
 unfold Dy;rw [CP [] hk,List.flatMap_append,List.flatMap_singleton,if_pos h]
theorem Y8{m:Int}{gs:List Good}{ms:List AB}{cs:List AF}{C:List (List Int)}{k:Nat}(hk:k<C.length)(h:¬((C.getD k []).length:Int)<=m):Dy m gs ms cs (C.take (k+1))=Dy m gs ms cs (C.take k):=by
 unfold Dy;rw [CP [] hk,List.flatMap_append,List.flatMap_singleton,if_neg h,List.append_nil]
theorem Nj{m:Int}{gs:List Good}{ms:List AB}{cs:List AF}{C:List (List Int)}(hF:(Bs (Bw gs) []).length<=729)(hY:(Bs (CW ms) []).length<=729)(hC:C.length<=64)(k:Nat):(Dy m gs ms cs (C.take k)).length<=34058880:=by
 unfold Dy;have h1:=Gm (l:=C.take k) (f:=λl=>if (l.length:Int)<=m then Ji gs ms cs l else []) (B:=532170) λf _=>by
  split
  ·exact RJ hF hY
  ·simp
 have h3:(C.take k).length*532170<=64*532170:=Nat.mul_le_mul_right _ (by rw [List.length_take];omega);omega
theorem FP(l:List PS):(Ic l).length=l.length:=by simp [Ic]
theorem UV(gs:List Good)(k:Nat):(Bw (gs.take k)).length<=k:=by
 unfold Bw;rw [List.length_map,List.length_take];omega
theorem WI(ms:List AB)(k:Nat):(CW (ms.take k)).length<=k:=by
 unfold CW;rw [List.length_map,List.length_take];omega
theorem Y9{ms:List AB}{cs:List AF}{l:List Int}{F Y:List Sl}{pl:List PS}{i k:Nat}{fv yv lv:Value}(h:Ic pl=Dp ms cs l (A8 F) (A8 Y) i k)(hi:i<F.length)(hk:k<Y.length)(hp:CO ms cs (F.getD i Sl.z).2 (Y.getD k Sl.z).2 l=true) :
  Ic (pl++[(⟨(fv,(F.getD i Sl.z).2),(yv,(Y.getD k Sl.z).2),(lv,l)⟩:PS)])=Dp ms cs l (A8 F) (A8 Y) i (k+1):=by
 have e1:=Ch hi;have e2:=Ch hk;rw [YC,h,withTo_t (by rw [CX];exact hk) (by rw [e1,e2];exact hp),e1,e2];rfl
theorem ZA{ms:List AB}{cs:List AF}{l:List Int}{F Y:List Sl}{pl:List PS}{i k:Nat}(h:Ic pl=Dp ms cs l (A8 F) (A8 Y) i k)(hi:i<F.length)(hk:k<Y.length)(hp:CO ms cs (F.getD i Sl.z).2 (Y.getD k Sl.z).2 l=false) :
  Ic pl=Dp ms cs l (A8 F) (A8 Y) i (k+1):=by
 rw [h,withTo_f (by rw [CX];exact hk) (by rw [Ch hi,Ch hk];exact hp)]
theorem ZB{ms:List AB}{cs:List AF}{l:List Int}{F Y:List Sl}{pl:List PS}{i k:Nat}(h:Ic pl=Dp ms cs l (A8 F) (A8 Y) i k)(hi:i<F.length)(hk:Y.length<=k):Ic pl=Dp ms cs l (A8 F) (A8 Y) (i+1) 0:=by
 rw [h,WH (by rw [CX];exact hi) (by rw [CX];exact hk),MZ]
theorem with_all{gs:List Good}{ms:List AB}{cs:List AF}{l:List Int}{F Y:List Sl}{pl:List PS}{i:Nat}(h:Ic pl=Dp ms cs l (A8 F) (A8 Y) i 0)(hi:F.length<=i)(e1:A8 F=Bs (Bw gs) [])(e2:A8 Y=Bs (CW ms) []):Ic pl=Ji gs ms cs l:=by
 rw [h,MZ,List.take_of_length_le (by rw [CX];exact hi),e1,e2];rfl
theorem WJ{m:Int}{gs:List Good}{ms:List AB}{cs:List AF}{F:List Sl}{pl pl2:List PS}{k:Nat}(h1:Ic pl=Dy m gs ms cs ((A8 F).take k))(h2:Ic pl2=Ji gs ms cs (F.getD k Sl.z).2)(hk:k<F.length)(hm:(((F.getD k Sl.z).2).length:Int)<=m):Ic (pl++pl2)=Dy m gs ms cs ((A8 F).take (k+1)):=by
 have e:=Ch hk;rw [YC,h1,h2,Y7 (by rw [CX];exact hk) (by rw [e];exact hm),e]
theorem WK{m:Int}{gs:List Good}{ms:List AB}{cs:List AF}{F:List Sl}{pl:List PS}{k:Nat}(h1:Ic pl=Dy m gs ms cs ((A8 F).take k))(hk:k<F.length)(hm:¬(((F.getD k Sl.z).2).length:Int)<=m):Ic pl=Dy m gs ms cs ((A8 F).take (k+1)):=by
 rw [h1,Y8 (by rw [CX];exact hk) (by rw [Ch hk];exact hm)]
theorem RK{G:RP->Int}{al:List PS}{ts:List RP}{k:Nat}(e:Ic al=ts)(hk:k<al.length):(ts.take (k+1)).map G=(ts.take k).map G++[G ((al.getD k PS.z).f.2,(al.getD k PS.z).y.2,(al.getD k PS.z).l.2)]:=by
 subst e;rw [CP ([],[],[]) (by rw [FP];exact hk),List.map_append,MY hk];rfl
theorem UW{gs:List Good}{ms:List AB}{cs:List AF}(h:Df gs ms cs=false):gs.length<=1000:=by
 unfold Df at h;rw [Bool.or_eq_false_iff,Bool.or_eq_false_iff,Bool.or_eq_false_iff] at h
 have:=of_decide_eq_false h.1.1.1;omega
theorem UX{gs:List Good}{ms:List AB}{cs:List AF}(h:Df gs ms cs=false):ms.length<=1000:=by
 unfold Df at h;rw [Bool.or_eq_false_iff,Bool.or_eq_false_iff,Bool.or_eq_false_iff] at h
 have:=of_decide_eq_false h.1.1.2;omega
end Go.Ns
namespace Go.Ns
open Go.Conc
theorem Hm:∀{ss:List (Int×Int)}{kn x:List Int},x ∈ Bs ss kn↔∃r,x=kn++r/\r.length=ss.length/\∀i,i<ss.length->(ss.getD i (0,0)).1<=r.getD i 0/\r.getD i 0<=(ss.getD i (0,0)).2
 | [],kn,x=>by
  unfold Bs;rw [List.mem_singleton];constructor
  ·rintro rfl;exact ⟨[],by simp,rfl,λi hi=>by cases hi⟩
  ·rintro ⟨r,rfl,hl,_⟩;rw [List.eq_nil_of_length_eq_zero hl,List.append_nil]
 | s ::ss,kn,x=>by
  unfold Bs;rw [List.mem_flatMap];constructor
  ·rintro ⟨n,hn,hx⟩;obtain ⟨r,rfl,hl,hr⟩:=Hm.1 hx;refine ⟨n ::r,by simp,by simp [hl],λi hi=>?_⟩;cases i with
   | zero=>exact Fc.1 hn
   | succ i=>exact hr i (by simpa using hi)
  ·rintro ⟨r,rfl,hl,hr⟩;cases r with
   | nil=>cases hl
   | cons n r=>
    refine ⟨n,Fc.2 (hr 0 (by simp)),Hm.2 ⟨r,by simp,by simpa using hl,λi hi=>?_⟩⟩;exact hr (i+1) (by simpa using hi)
theorem PO{ss:List (Int×Int)}{x:List Int}:x ∈ Bs ss []↔x.length=ss.length/\∀i,i<ss.length->(ss.getD i (0,0)).1<=x.getD i 0/\x.getD i 0<=(ss.getD i (0,0)).2:=by
 rw [Hm];constructor
 ·rintro ⟨r,rfl,h⟩;exact h
 ·intro h;exact ⟨x,rfl,h⟩
theorem JP{gs:List Good}{f:List Int}:f ∈ Bs (Bw gs) []↔f.length=gs.length/\∀i,i<gs.length->(gs.getD i Good.z).low<=f.getD i 0/\f.getD i 0<=(gs.getD i Good.z).high:=by
 rw [PO,show (Bw gs).length=gs.length by simp [Bw]];have e:∀i,i<gs.length->(Bw gs).getD i (0,0)=((gs.getD i Good.z).low,(gs.getD i Good.z).high):=λi hi=>by
  unfold Bw;rw [BY _ (by simpa using hi),List.getElem_map,BY Good.z hi]
 constructor
 ·rintro ⟨h1,h2⟩;exact ⟨h1,λi hi=>by have:=h2 i hi;rw [e i hi] at this;exact this⟩
 ·rintro ⟨h1,h2⟩;exact ⟨h1,λi hi=>by rw [e i hi];exact h2 i hi⟩
theorem KP{ms:List AB}{f:List Int}:f ∈ Bs (CW ms) []↔f.length=ms.length/\∀i,i<ms.length->(ms.getD i AB.z).low<=f.getD i 0/\f.getD i 0<=(ms.getD i AB.z).high:=by
 rw [PO,show (CW ms).length=ms.length by simp [CW]];have e:∀i,i<ms.length->(CW ms).getD i (0,0)=((ms.getD i AB.z).low,(ms.getD i AB.z).high):=λi hi=>by
  unfold CW;rw [BY _ (by simpa using hi),List.getElem_map,BY AB.z hi]
 constructor
 ·rintro ⟨h1,h2⟩;exact ⟨h1,λi hi=>by have:=h2 i hi;rw [e i hi] at this;exact this⟩
 ·rintro ⟨h1,h2⟩;exact ⟨h1,λi hi=>by rw [e i hi];exact h2 i hi⟩
theorem KQ{gs:List Good}{ms:List AB}{cs:List AF}{l:List Int}{t:RP}:t ∈ Ji gs ms cs l↔t.2.2=l/\t.1 ∈ Bs (Bw gs) []/\t.2.1 ∈ Bs (CW ms) []/\CO ms cs t.1 t.2.1 l=true:=by
 unfold Ji Fx;rw [List.mem_flatMap];constructor
 ·rintro ⟨f,hf,h⟩;obtain ⟨h1,h2⟩:=List.mem_filter.1 h;obtain ⟨y,hy,rfl⟩:=List.mem_map.1 h1;exact ⟨rfl,hf,hy,h2⟩
 ·obtain ⟨f,y,l'⟩:=t;rintro ⟨rfl,hf,hy,h⟩;exact ⟨f,hf,List.mem_filter.2 ⟨List.mem_map.2 ⟨y,hy,rfl⟩,h⟩⟩
theorem Id{m:Int}{gs:List Good}{ms:List AB}{cs:List AF}{t:RP}:t ∈ BC m gs ms cs↔t.2.2 ∈ BW (B4 ms ms.length)/\(t.2.2.length:Int)<=m/\t.1 ∈ Bs (Bw gs) []/\t.2.1 ∈ Bs (CW ms) []/\CO ms cs t.1 t.2.1 t.2.2=true:=by
 unfold BC Dy;rw [List.mem_flatMap];constructor
 ·rintro ⟨l,hl,h⟩;split at h
  ·rename_i q
   obtain ⟨rfl,h1,h2,h3⟩:=KQ.1 h;exact ⟨hl,q,h1,h2,h3⟩
  ·cases h
 ·rintro ⟨hl,q,h1,h2,h3⟩;exact ⟨_,hl,by rw [if_pos q];exact KQ.2 ⟨rfl,h1,h2,h3⟩⟩
theorem UY{d m:Int}{gs:List Good}{ms:List AB}{cs:List AF}(b:Ax d m gs ms cs)(k:Nat):0<=((Bw gs).getD k (0,0)).1/\((Bw gs).getD k (0,0)).2<=99:=by
 unfold Bw;by_cases hk:k<gs.length
 ·have:=b.gfew k
  rw [BY _ (by simpa using hk),List.getElem_map];rw [BY Good.z hk] at this;exact ⟨this.1,this.2.2.1⟩
 ·rw [CE (by simpa using hk)];decide
theorem WL{d m:Int}{gs:List Good}{ms:List AB}{cs:List AF}(b:Ax d m gs ms cs)(k:Nat):0<=((CW ms).getD k (0,0)).1/\((CW ms).getD k (0,0)).2<=99:=by
 unfold CW;by_cases hk:k<ms.length
 ·have:=b.few k
  rw [BY _ (by simpa using hk),List.getElem_map];rw [BY AB.z hk] at this;exact ⟨this.1,this.2.2.1⟩
 ·rw [CE (by simpa using hk)];decide
def DX(t:RP):AU:=⟨λi=>t.1.getD i 0,λi=>t.2.1.getD i 0,λi=>decide ((i:Int) ∈ t.2.2)⟩
theorem PP(t:RP)(a b:Nat):IsP (DX t) t.1 t.2.1 t.2.2 a b:=⟨λ_ _=>rfl,λ_ _=>rfl,λ_ _=>rfl⟩
theorem Ma{ms:List AB}{x:Int}(h:x ∈ B4 ms ms.length):0<=x/\x<ms.length/\(ms.getD x.toNat AB.z).kind=0:=by
 obtain ⟨i,hi,rfl⟩:=List.mem_map.1 h;obtain ⟨h1,h2⟩:=List.mem_filter.1 hi
 have:=List.mem_range.1 h1
 exact ⟨by omega,by omega,by rw [Int.toNat_natCast];exact of_decide_eq_true h2⟩
structure Ss(gs:List Good)(ms:List AB)(t:RP):Prop where
 fl:t.1.length=gs.length
 yl:t.2.1.length=ms.length
 fr:∀i,0<=t.1.getD i 0/\t.1.getD i 0<=99
 yr:∀i,0<=t.2.1.getD i 0/\t.2.1.getD i 0<=99
 ln:∀x ∈ t.2.2,0<=x/\x<ms.length/\(ms.getD x.toNat AB.z).kind=0
section
variable {d m:Int} {gs:List Good} {ms:List AB} {cs:List AF}
theorem past_is(b:Ax d m gs ms cs){t:RP}(h1:t.1 ∈ Bs (Bw gs) [])(h2:t.2.1 ∈ Bs (CW ms) [])(h3:t.2.2 ∈ BW (B4 ms ms.length)):Ss gs ms t:=by
 obtain ⟨a1,a2⟩:=JP.1 h1;obtain ⟨b1,b2⟩:=KP.1 h2;refine ⟨a1,b1,λi=>?_,λi=>?_,λx hx=>Ma ((Hl h3).mem hx)⟩
 ·by_cases hi:i<gs.length
  ·have:=a2 i hi;have:=b.gfew i;omega
  ·rw [CE (by omega)];omega
 ·by_cases hi:i<ms.length
  ·have:=b2 i hi;have:=b.few i;omega
  ·rw [CE (by omega)];omega
theorem J8(b:Ax d m gs ms cs){t:RP}(h:t ∈ BC m gs ms cs):Ss gs ms t:=by
 obtain ⟨h1,_,h3,h4,_⟩:=Id.1 h;exact past_is b h3 h4 h1
theorem PQ(ms:List AB)(k:Nat):(B4 ms k).Nodup:=by
 unfold B4;exact List.pairwise_map.2 ((List.nodup_range.filter _).imp λq e=>q (by omega))
theorem LP(b:Ax d m gs ms cs){t:RP}(h:t ∈ BC m gs ms cs):DX t ∈ AV d gs ms cs m:=by
 have P:=J8 b h;obtain ⟨h1,h2,h3,h4,h5⟩:=Id.1 h;have I:=PP t gs.length ms.length;have hk:=λk=>(b.kind k).1;unfold CO at h5;rw [Bool.and_eq_true,decide_eq_true_iff,decide_eq_true_iff] at h5;refine (RG b.mlen b.most.1).2 ⟨⟨λi hi=>(JP.1 h3).2 i hi,λi hi=>(KP.1 h4).2 i hi,λi hi hq=>?_,?_⟩,b.agrees_iff2.2 ⟨λi hi=>(P.fr i).1,λk hkk=>?_,λx hx=>?_⟩,?_⟩
 ·have hq2:(i:Int) ∈ t.2.2:=of_decide_eq_true hq
  have:=(P.ln _ hq2).2.2
  rw [Int.toNat_natCast] at this;exact (PB hi).2 this
 ·rw [<-Fu];have h6:=MX (l:=((List.range ms.length).filter (DX t).lies).map λ(i:Nat)=>(i:Int)) (l1:=t.2.2)
   (List.pairwise_map.2 ((List.nodup_range.filter _).imp λq e=>q (by omega))) λx hx=>by
    obtain ⟨i,hi,rfl⟩:=List.mem_map.1 hx;exact of_decide_eq_true (List.mem_filter.1 hi).2
  rw [List.length_map] at h6;omega
 ·rw [<-I.stock b.up hk (by have:=(b.move' hkk).2.1;omega)];have:=h5.2 k hkk;omega
 ·obtain ⟨k,hkc,rfl⟩:=Hk AF.z hx;have hg:=b.cgood' _ (CI (d:=AF.z) hkc);rw [<-I.stock b.up hk (by omega)];exact h5.1 k hkc
 ·unfold Ib DX;congr 1
  ·funext k;split
   ·rfl
   ·exact (CE (by have:=P.fl;omega)).symm
  ·funext k;split
   ·rfl
   ·exact (CE (by have:=P.yl;omega)).symm
  ·funext k;split
   ·rfl
   ·exact (decide_eq_false λe=>by have:=P.ln _ e;omega).symm
def M3(gs:List Good)(ms:List AB)(q:AU):RP:=((List.range gs.length).map q.first,(List.range ms.length).map q.many,(B4 ms ms.length).filter λx=>q.lies x.toNat)
theorem rpOf_isP(gs:List Good)(ms:List AB){q:AU}(hn:∀i,i<ms.length->q.lies i=true->(ms.getD i AB.z).kind=0):IsP q (M3 gs ms q).1 (M3 gs ms q).2.1 (M3 gs ms q).2.2 gs.length ms.length:=by
 refine ⟨λi hi=>?_,λi hi=>?_,λi hi=>?_⟩
 ·simp [M3,List.getD_eq_getElem?_getD,hi]
 ·simp [M3,List.getD_eq_getElem?_getD,hi]
 ·cases hq:q.lies i with
  | true=>exact (decide_eq_true (List.mem_filter.2 ⟨PE hi (hn i hi hq),by rw [Int.toNat_natCast];exact hq⟩)).symm
  | false=>exact (decide_eq_false λe=>by have:=(List.mem_filter.1 e).2;rw [Int.toNat_natCast,hq] at this;cases this).symm
theorem ZC(b:Ax d m gs ms cs){q:AU}(h:q ∈ AV d gs ms cs m):M3 gs ms q ∈ BC m gs ms cs/\DX (M3 gs ms q)=q:=by
 obtain ⟨L,ha,hp⟩:=(RG b.mlen b.most.1).1 h;have hn:∀i,i<ms.length->q.lies i=true->(ms.getD i AB.z).kind=0:=λi hi hq=>(PB hi).1 (L.note i hi hq);have I:=rpOf_isP gs ms hn;have hk:=λk=>(b.kind k).1;obtain ⟨a1,a2,a3⟩:=b.agrees_iff2.1 ha;have hcur:DX (M3 gs ms q)=q:=by
  refine Eq.trans ?_ hp;unfold DX Ib;congr 1
  ·funext k;split
   ·rename_i hk2;exact (I.first k hk2).symm
   ·exact CE (by simp [M3];omega)
  ·funext k;split
   ·rename_i hk2;exact (I.many k hk2).symm
   ·exact CE (by simp [M3];omega)
  ·funext k;split
   ·rename_i hk2;exact (I.lies k hk2).symm
   ·exact decide_eq_false λe=>by have:=Ma (List.mem_filter.1 e).1;omega
 refine ⟨Id.2 ⟨WG (List.filter_sublist),?_,JP.2 ⟨by simp [M3],λi hi=>by rw [<-I.first i hi];exact L.first i hi⟩,KP.2 ⟨by simp [M3],λi hi=>by rw [<-I.many i hi];exact L.many i hi⟩,?_⟩,hcur⟩
 ·have h6:=MX (l:=(M3 gs ms q).2.2) (l1:=((List.range ms.length).filter q.lies).map λ(i:Nat)=>(i:Int)) ((PQ ms _).filter _) λx hx=>by
   obtain ⟨h1,h2⟩:=List.mem_filter.1 hx
   have:=Ma h1
   exact List.mem_map.2 ⟨x.toNat,List.mem_filter.2 ⟨List.mem_range.2 (by omega),h2⟩,by omega⟩
  rw [List.length_map,Fu] at h6
  have:=L.few;omega
 ·unfold CO;rw [Bool.and_eq_true,decide_eq_true_iff,decide_eq_true_iff];refine ⟨λk hkc=>?_,λk hkk=>?_⟩
  ·have hg:=b.cgood' _ (CI (d:=AF.z) hkc);rw [I.stock b.up hk (by omega)];exact a3 _ (CI hkc)
  ·rw [I.stock b.up hk (by have:=(b.move' hkk).2.1;omega)];have:=a2 k hkk;omega
theorem JQ(b:Ax d m gs ms cs){q:AU}:q ∈ AV d gs ms cs m↔∃t ∈ BC m gs ms cs,DX t=q:=
 ⟨λh=>⟨_,ZC b h⟩,λ⟨t,h,e⟩=>e▸LP b h⟩
theorem KR(b:Ax d m gs ms cs):(BC m gs ms cs).length=0↔(AV d gs ms cs m).length=0:=by
 rw [List.length_eq_zero_iff,List.length_eq_zero_iff];constructor
 ·intro h;rw [List.eq_nil_iff_forall_not_mem];intro q hq;obtain ⟨t,ht,_⟩:=(JQ b).1 hq;rw [h] at ht;cases ht
 ·intro h;rw [List.eq_nil_iff_forall_not_mem];intro t ht
  have:=LP b ht
  rw [h] at this;cases this
end
section
variable {d m:Int} {gs:List Good} {ms:List AB} {cs:List AF}
theorem PR(b:Ax d m gs ms cs){G:RP->Int}{F:AU->Int}(hG:∀t,Ss gs ms t->IsP (DX t) t.1 t.2.1 t.2.2 gs.length ms.length->G t=F (DX t)):(∀t ∈ BC m gs ms cs,DX t ∈ AV d gs ms cs m/\G t=F (DX t))/\∀q ∈ AV d gs ms cs m,∃t ∈ BC m gs ms cs,DX t=q:=
 ⟨λt ht=>⟨LP b ht,hG t (J8 b ht) (PP t _ _)⟩,λ_ hq=>(JQ b).1 hq⟩
theorem WM(b:Ax d m gs ms cs){g:Int}(hg:0<=g/\g<gs.length)(dy:Int)(t:RP)(_:Ss gs ms t)(I:IsP (DX t) t.1 t.2.1 t.2.2 gs.length ms.length):A1 ms t.1 t.2.1 t.2.2 g dy ms.length=(AM ms (DX t) g dy).1:=
 I.stock b.up (λk=>(b.kind k).1) hg dy
theorem first_is(b:Ax d m gs ms cs){f:List Int}(h:f ∈ Bs (Bw gs) []):f.length=gs.length/\∀i,0<=f.getD i 0/\f.getD i 0<=99:=by
 obtain ⟨a1,a2⟩:=JP.1 h;refine ⟨a1,λi=>?_⟩;by_cases hi:i<gs.length
 ·have:=a2 i hi;have:=b.gfew i;omega
 ·rw [CE (by omega)];omega
theorem many_is(b:Ax d m gs ms cs){f:List Int}(h:f ∈ Bs (CW ms) []):f.length=ms.length/\∀i,0<=f.getD i 0/\f.getD i 0<=99:=by
 obtain ⟨a1,a2⟩:=KP.1 h;refine ⟨a1,λi=>?_⟩;by_cases hi:i<ms.length
 ·have:=a2 i hi;have:=b.few i;omega
 ·rw [CE (by omega)];omega
theorem YD{F:List Sl}{L:List (List Int)}(e:A8 F=L){k:Nat}(hk:k<F.length):(F.getD k Sl.z).2 ∈ L:=by
 subst e;rw [<-Ch hk];exact CI (by rw [CX];exact hk)
theorem UZ(b:Ax d m gs ms cs){f:List Int}(h:f.length=gs.length):∀k,k<cs.length->0<=(cs.getD k AF.z).good/\(cs.getD k AF.z).good<(f.length:Int):=λk hk=>by
 have:=b.cgood' _ (CI (d:=AF.z) hk);omega
theorem Ua(b:Ax d m gs ms cs){f:List Int}(h:f.length=gs.length):∀k,k<ms.length->0<=(ms.getD k AB.z).good/\(ms.getD k AB.z).good<(f.length:Int):=λk hk=>by
 have:=(b.move' hk).2.1;omega
theorem IL(b:Ax d m gs ms cs):(Bs (Bw gs) []).length<=729/\(Bs (CW ms) []).length<=729:=by
 have h1:=H9 (ss:=Bw gs) (kn:=[]) (Ni λk=>(b.gfew k).2.2.2) (by have:=b.glen;unfold Bw;rw [List.length_map];omega) 0;have h2:=H9 (ss:=CW ms) (kn:=[]) (PJ λk=>(b.few k).2.2.2) (by have:=b.mlen;unfold CW;rw [List.length_map];omega) 0;exact ⟨h1,h2⟩
theorem ZD(b:Ax d m gs ms cs){pl:List PS}{l:List Int}(e:Ic pl=Ji gs ms cs l):pl.length<=532170:=by
 rw [<-FP,e];exact RJ (IL b).1 (IL b).2
theorem WN(b:Ax d m gs ms cs){pl:List PS}{l:List Int}{F Y:List Sl}{i k:Nat}(e:Ic pl=Dp ms cs l (A8 F) (A8 Y) i k)(e1:A8 F=Bs (Bw gs) [])(e2:A8 Y=Bs (CW ms) []):pl.length<=532170:=by
 rw [<-FP,e,e1,e2];exact PN (IL b).1 (IL b).2 _ _
theorem ZE(b:Ax d m gs ms cs){pl:List PS}{F:List Sl}{k:Nat}(e:Ic pl=Dy m gs ms cs ((A8 F).take k))(e1:A8 F=BW (B4 ms ms.length)):pl.length<=34058880:=by
 rw [<-FP,e,e1];have h6:=b.mlen;have hc:=Hj ms ms.length;exact Nj (IL b).1 (IL b).2 (by have:=HC (l:=B4 ms ms.length) (by omega) (B4 ms ms.length).length;rwa [List.take_length] at this) _
theorem FW(b:Ax d m gs ms cs):(BC m gs ms cs).length<=34058880:=by
 have h6:=b.mlen;have hc:=Hj ms ms.length
 have:=Nj (m:=m) (gs:=gs) (ms:=ms) (cs:=cs) (C:=BW (B4 ms ms.length)) (IL b).1 (IL b).2 (by have:=HC (l:=B4 ms ms.length) (by omega) (B4 ms ms.length).length;rwa [List.take_length] at this) (BW (B4 ms ms.length)).length
 rw [List.take_length] at this;exact this
def RL(d m:Int)(gs:List Good)(ms:List AB)(cs:List AF)(o:List Int):List RP:=if AZ d m gs ms cs o=0 then BC m gs ms cs else []
theorem M4{o:List Int}(h:¬AZ d m gs ms cs o=0):Ic []=RL d m gs ms cs o:=by unfold RL;rw [if_neg h];rfl
theorem Su{o:List Int}{al:List PS}(h:AZ d m gs ms cs o=0)(e:Ic al=RL d m gs ms cs o):Ax d m gs ms cs/\(∀k,k<o.length->o.getD k 0=0)/\0<al.length/\Ic al=BC m gs ms cs/\al.length=(BC m gs ms cs).length:=by
 obtain ⟨b,h1,h2⟩:=Da h;have e2:Ic al=BC m gs ms cs:=by rw [e];unfold RL;rw [if_pos h]
 have e3:al.length=(BC m gs ms cs).length:=by rw [<-e2,FP]
 refine ⟨b,h1,?_,e2,e3⟩
 have:=(KR b (d:=d)).1
 rcases Nat.eq_zero_or_pos al.length with h0 | h0
 ·have:=(KR b).1 (e3▸h0);omega
 ·exact h0
theorem YE(b:Ax d m gs ms cs){al:List PS}{k:Nat}(e:Ic al=BC m gs ms cs)(hk:k<al.length) :
  (al.getD k PS.z).f.2.length=gs.length/\(al.getD k PS.z).y.2.length=ms.length/\(∀i,0<=(al.getD k PS.z).f.2.getD i 0/\(al.getD k PS.z).f.2.getD i 0<=99)/\(∀i,0<=(al.getD k PS.z).y.2.getD i 0/\(al.getD k PS.z).y.2.getD i 0<=99):=by
 have h:(Ic al).getD k ([],[],[]) ∈ BC m gs ms cs:=by rw [<-e];exact CI (by rw [FP];exact hk)
 have P:=J8 b h;rw [MY hk] at P;exact ⟨P.fl,P.yl,P.fr,P.yr⟩
def Fy(ms:List AB)(g dy:Int)(t:RP):Int:=A1 ms t.1 t.2.1 t.2.2 g dy ms.length
theorem PT{U β:Type}{G:U->β}{ts:List U}{k:Nat}(hk:ts.length<=k):(ts.take k).map G=ts.map G/\((ts.take k).map G).length=ts.length:=by
 rw [List.take_of_length_le hk];simp
end
end Go.Ns
namespace Go.Ns
open Go.Conc
theorem Sv(l:List Int)(x:Int):BW (l++[x])=BW l++(BW l).map (·++[x]):=by
 unfold BW;rw [List.foldl_append];rfl
theorem QY:∀{l:List Int},l.Nodup->(BW l).Nodup:=by
 have key:∀(n:Nat)(l:List Int),l.length=n->l.Nodup->(BW l).Nodup:=by
  intro n
  induction n with
  | zero=>intro l hl _;rw [List.eq_nil_of_length_eq_zero hl];exact List.pairwise_singleton ..
  | succ n ih=>
   intro l hl hn;obtain ⟨l',x,rfl⟩:∃l' x,l=l'++[x]:=⟨l.dropLast,l.getLast (by intro e;rw [e] at hl;cases hl),(List.dropLast_concat_getLast _).symm⟩;have hn2:=List.pairwise_append.1 hn;have h1:=ih l' (by simpa using hl) hn2.1;rw [Sv];refine List.pairwise_append.2 ⟨h1,List.pairwise_map.2 (h1.imp λq e=>q (List.append_cancel_right e)),λa ha b hb e=>?_⟩;obtain ⟨c,_,rfl⟩:=List.mem_map.1 hb;have hx:x ∈ l':=(Hl ha).mem (by rw [e];simp);exact hn2.2.2 x hx x (by simp) rfl
 exact λ{l} h=>key l.length l rfl h
theorem JR:∀(ss:List (Int×Int))(kn:List Int),(Bs ss kn).Nodup
 | [],kn=>List.pairwise_singleton ..
 | s ::ss,kn=>by
  unfold Bs;refine List.pairwise_flatMap.2 ⟨λn _=>JR ss _,(PG _ _).imp λ{n m} hne x hx y hy e=>?_⟩;obtain ⟨r,rfl,_⟩:=Hm.1 hx;obtain ⟨r',e',_⟩:=Hm.1 hy;rw [e',List.append_assoc,List.append_assoc] at e
  have:=List.append_cancel_left e
  simp only [List.singleton_append,List.cons.injEq] at this;exact hne this.1
theorem Ub(gs:List Good)(ms:List AB)(cs:List AF)(l:List Int):(Ji gs ms cs l).Nodup:=by
 unfold Ji;refine List.pairwise_flatMap.2 ⟨λf _=>?_,(JR _ _).imp λ{f g} hne x hx y hy e=>?_⟩
 ·unfold Fx;exact (List.pairwise_map.2 ((JR _ _).imp λq e=>q (by simpa using e))).filter _
 ·unfold Fx at hx hy;obtain ⟨_,_,rfl⟩:=List.mem_map.1 (List.mem_filter.1 hx).1;obtain ⟨_,_,rfl⟩:=List.mem_map.1 (List.mem_filter.1 hy).1;simp only [Prod.mk.injEq] at e;exact hne e.1
theorem Sw(m:Int)(gs:List Good)(ms:List AB)(cs:List AF):(BC m gs ms cs).Nodup:=by
 unfold BC Dy;refine List.pairwise_flatMap.2 ⟨λl _=>?_,(QY (PQ ms _)).imp λ{l l'} hne x hx y hy e=>?_⟩
 ·split
  ·exact Ub ..
  ·exact List.Pairwise.nil
 ·split at hx
  ·split at hy
   ·have h1:=(KQ.1 hx).1;have h2:=(KQ.1 hy).1;rw [e,h2] at h1;exact hne h1.symm
   ·cases hy
  ·cases hx
theorem Uc(ms:List AB)(k:Nat):(B4 ms k).Pairwise (· < ·):=by
 unfold B4;exact List.pairwise_map.2 ((List.pairwise_lt_range.filter _).imp λq=>by omega)
theorem Ud{a b:List Int}(h:a.length=b.length)(e:∀i,a.getD i 0=b.getD i 0):a=b:=by
 refine List.ext_getElem h λi h1 h2=>?_
 have:=e i
 rw [BY 0 h1,BY 0 h2] at this;exact this
section
variable {d m:Int} {gs:List Good} {ms:List AB} {cs:List AF}
theorem WO(b:Ax d m gs ms cs){t t':RP}(h:t ∈ BC m gs ms cs)(h':t' ∈ BC m gs ms cs)(e:DX t=DX t'):t=t':=by
 have P:=J8 b h;have P':=J8 b h';have c:=Hl (Id.1 h).1;have c':=Hl (Id.1 h').1;unfold DX at e;simp only [AU.mk.injEq] at e;obtain ⟨e1,e2,e3⟩:=e;obtain ⟨f,y,l⟩:=t;obtain ⟨f',y',l'⟩:=t';have q1:f=f':=Ud (by rw [P.fl,P'.fl]) λi=>congrFun e1 i;have q2:y=y':=Ud (by rw [P.yl,P'.yl]) λi=>congrFun e2 i;have q3:l=l':=YB ((Uc ms _).sublist c) ((Uc ms _).sublist c') λx=>by
  constructor
  ·intro hx;have hx0:=P.ln x hx
   have:=congrFun e3 x.toNat
   rw [decide_eq_decide,Int.toNat_of_nonneg hx0.1] at this;exact this.1 hx
  ·intro hx;have hx0:=P'.ln x hx
   have:=congrFun e3 x.toNat
   rw [decide_eq_decide,Int.toNat_of_nonneg hx0.1] at this;exact this.2 hx
 rw [q1,q2,q3]
theorem PU(b:Ax d m gs ms cs):((BC m gs ms cs).map DX).Perm (AV d gs ms cs m):=by
 refine (List.perm_ext_iff_of_nodup ?_ (UP ..)).2 λq=>?_
 ·have hn:=Sw m gs ms cs
  have:∀{l:List RP},l.Nodup->(∀t ∈ l,t ∈ BC m gs ms cs)->(l.map DX).Nodup:=by
   intro l
   induction l with
   | nil=>intro _ _;exact List.Pairwise.nil
   | cons t l ih=>
    intro h1 h2;have h3:=List.nodup_cons.1 h1;rw [List.map_cons];refine List.nodup_cons.2 ⟨λhm=>?_,ih h3.2 λt' ht'=>h2 t' (by simp [ht'])⟩;obtain ⟨t',ht',e⟩:=List.mem_map.1 hm;exact h3.1 (WO b (h2 t' (by simp [ht'])) (h2 t (by simp)) e▸ht')
  exact this hn λ_ h=>h
 ·rw [JQ b,List.mem_map]
theorem ZF(b:Ax d m gs ms cs):(BC m gs ms cs).length=(AV d gs ms cs m).length:=by
 rw [<-(PU b).length_eq,List.length_map]
def IA(l:List Int):List Int:=DV (Je l)
theorem PV(l:List Int):IA l=CS l.length λi=>l.getD i 0:=by
 unfold IA CS;congr 2;refine List.ext_getElem (by simp) λi h1 h2=>?_;simp [List.getD_eq_getElem?_getD,h1]
theorem ZG(l:List Int):(IA l).Pairwise (· < ·):=by rw [PV];exact RF _ _
theorem ZH{l:List Int}{x:Int}:x ∈ IA l↔x ∈ l:=by
 rw [PV,RE];constructor
 ·rintro ⟨i,hi,rfl⟩;exact CI hi
 ·intro h;obtain ⟨i,hi,e⟩:=Hk 0 h;exact ⟨i,hi,e⟩
theorem Ue{l s:List Int}(h:s.Pairwise (· < ·))(e:∀x,x ∈ s↔x ∈ l):s=IA l:=YB h (ZG l) λx=>(e x).trans ZH.symm
theorem Uf{hs:List AU}{ts:List RP}{G:RP->Int}{F:AU->Int}(h1:∀t ∈ ts,DX t ∈ hs/\G t=F (DX t))(h2:∀q ∈ hs,∃t ∈ ts,DX t=q):CS hs.length (λ(i:Nat)=>F (hs.getD ((i:Int)).toNat AU.zero))=IA (ts.map G):=by
 refine Ue (RF _ _) λx=>?_;rw [eachL_at,List.mem_map];constructor
 ·rintro ⟨q,hq,e⟩;obtain ⟨t,ht,e2⟩:=h2 q hq;exact ⟨t,ht,by rw [(h1 t ht).2,e2];exact e⟩
 ·rintro ⟨t,ht,e⟩;exact ⟨DX t,(h1 t ht).1,by rw [<-(h1 t ht).2];exact e⟩
theorem ins_at{s l:List Int}{x:Int}{k i:Nat}(ha:s.Pairwise (· < ·))(hm:∀y,y ∈ s↔y ∈ l.take i)(hi:i<l.length)(hx:l.getD i 0=x)(hk:k<=s.length)(hge:∀j,k<=j->j<s.length->x<=s.getD j 0)(hlt:k=0\/s.getD (k-1) 0<x)(hne:¬(k<s.length/\s.getD k 0=x)) :
  (s.take k++[x]++s.drop k).Pairwise (· < ·)/\∀y,y ∈ s.take k++[x]++s.drop k↔y ∈ l.take (i+1):=by
 have hs:s=s.take k++s.drop k:=(List.take_append_drop k s).symm;have ha2:=ha;rw [hs] at ha2;obtain ⟨p1,p2,p3⟩:=List.pairwise_append.1 ha2;have mono:∀a b,a<b->b<s.length->s.getD a 0<s.getD b 0:=λa b hab hb=>by
  rw [BY 0 (by omega),BY 0 hb];exact List.pairwise_iff_getElem.1 ha a b (by omega) hb hab
 have lo:∀y ∈ s.take k,y<x:=λy hy=>by
  obtain ⟨j,hj,e⟩:=List.mem_take_iff_getElem.1 hy;have hj2:j<s.length:=by omega
  rcases hlt with rfl | hlt
  ·omega
  ·by_cases q:j=k-1
   ·rw [<-e,<-BY 0 hj2,q];exact hlt
   ·have:=mono j (k-1) (by omega) (by omega)
    rw [<-e,<-BY 0 hj2];omega
 have hi2:∀y ∈ s.drop k,x<y:=λy hy=>by
  obtain ⟨j,hj,e⟩:=List.mem_drop_iff_getElem.1 hy;have hkl:k<s.length:=by omega
  have h0:=hge k (Nat.le_refl _) hkl;have h1:s.getD k 0≠x:=λe=>hne ⟨hkl,e⟩;by_cases q:j=0
  ·subst q
   have:s.getD k 0=y:=by rw [BY 0 hkl,<-e];simp
   omega
  ·have h2:=mono k (k+j) (by omega) (by omega)
   have:s.getD (k+j) 0=y:=by rw [BY 0 (by omega),<-e]
   omega
 refine ⟨List.pairwise_append.2 ⟨List.pairwise_append.2 ⟨p1,List.pairwise_singleton ..,λa h b hb=>by rw [List.mem_singleton.1 hb];exact lo a h⟩,p2,λa h b hb=>?_⟩,λy=>?_⟩
 ·rcases List.mem_append.1 h with h | h
  ·exact p3 a h b hb
  ·rw [List.mem_singleton.1 h];exact hi2 b hb
 ·have e:y ∈ s↔y ∈ s.take k\/y ∈ s.drop k:=by rw [<-List.mem_append,<-hs]
  rw [CP 0 hi,hx];simp only [List.mem_append,List.mem_singleton,<-hm y,e];constructor
  ·rintro ((h | h) | h)
   ·exact .inl (.inl h)
   ·exact .inr h
   ·exact .inl (.inr h)
  ·rintro ((h | h) | h)
   ·exact .inl (.inl h)
   ·exact .inr h
   ·exact .inl (.inr h)
theorem ins_had{s l:List Int}{x:Int}{k i:Nat}(hm:∀y,y ∈ s↔y ∈ l.take i)(hi:i<l.length)(hx:l.getD i 0=x)(h:k<s.length/\s.getD k 0=x):∀y,y ∈ s↔y ∈ l.take (i+1):=λy=>by
 rw [CP 0 hi,hx,List.mem_append,List.mem_singleton,<-hm y];exact ⟨.inl,λq=>q.elim id λe=>by rw [e,<-h.2];exact CI h.1⟩
theorem ge_next{s:List Int}{x:Int}{k:Nat}(h:∀j,k<=j->j<s.length->x<=s.getD j 0)(hk:0<k)(hx:x<=s.getD ((k:Int)-1).toNat 0):∀j,k-1<=j->j<s.length->x<=s.getD j 0:=λj h1 h2=>by
 by_cases q:j=k-1
 ·rw [show ((k:Int)-1).toNat=k-1 by omega] at hx;rw [q];exact hx
 ·exact h j (by omega) h2
end
end Go.Ns
namespace Go.Ns
open Go.Conc
def J9(mv:Int)(t:RP):Int:=Cy t.2.1 t.2.2 mv
def numsR(ms:List AB)(ts:List RP)(mv:Int):List Int:=if 0<(ms.length:Int) then ts.map (J9 mv) else []
def Ek(ts:List RP)(mv:Int):Nat:=(ts.filter λt=>decide (mv ∈ t.2.2)).length
theorem liesR_t{al:List PS}{ts:List RP}{k:Nat}{mv:Int}(e:Ic al=ts)(hk:k<al.length)(h:mv ∈ (al.getD k PS.z).l.2):Ek (ts.take (k+1)) mv=Ek (ts.take k) mv+1:=by
 subst e;unfold Ek;rw [CP ([],[],[]) (by rw [FP];exact hk),List.filter_append,List.length_append,MY hk];congr 1;rw [List.filter_cons,if_pos (decide_eq_true h)];rfl
theorem liesR_f{al:List PS}{ts:List RP}{k:Nat}{mv:Int}(e:Ic al=ts)(hk:k<al.length)(h:¬mv ∈ (al.getD k PS.z).l.2):Ek (ts.take (k+1)) mv=Ek (ts.take k) mv:=by
 subst e;unfold Ek;rw [CP ([],[],[]) (by rw [FP];exact hk),List.filter_append,List.length_append,MY hk,List.filter_cons,if_neg (by simpa using h)];rfl
theorem liesR_le(ts:List RP)(mv:Int)(k:Nat):Ek (ts.take k) mv<=k:=by
 unfold Ek;have h1:=List.length_filter_le (λt:RP=>decide (mv ∈ t.2.2)) (ts.take k);rw [List.length_take] at h1;omega
section
variable {d m:Int} {gs:List Good} {ms:List AB} {cs:List AF}
theorem KT(b:Ax d m gs ms cs){al:List PS}(e:Ic al=BC m gs ms cs):Ft d m gs ms cs=(al.length:Int)/\al.length=(AV d gs ms cs m).length/\al.length=(BC m gs ms cs).length/\al.length<=34058880:=by
 have h1:al.length=(BC m gs ms cs).length:=by rw [<-e,FP]
 have h2:=ZF b;have h3:=FW b;refine ⟨?_,by omega,h1,by omega⟩;unfold Ft;rw [if_pos (Nc b)];omega
theorem WP(b:Ax d m gs ms cs){g dy:Int}{k:Nat}(hg:0<=g/\g<gs.length)(h:CJ d m gs ms cs g dy=0)(hk:(BC m gs ms cs).length<=k):Gi d m gs ms cs g dy=IA (((BC m gs ms cs).take k).map (Fy ms g dy)):=by
 rw [(PT hk).1];unfold Gi;rw [if_pos h];obtain ⟨h1,h2⟩:=PR b (G:=Fy ms g dy) (F:=λp=>(AM ms p g dy).1) (WM b hg dy);exact Uf (G:=Fy ms g dy) (F:=λp=>(AM ms p g dy).1) h1 h2
theorem WQ(b:Ax d m gs ms cs){mv:Int}{k:Nat}(hv:0<=mv/\mv<(ms.length:Int))(h:BT d m gs ms cs mv=0)(hk:(BC m gs ms cs).length<=k):DM d m gs ms cs mv=IA (numsR ms ((BC m gs ms cs).take k) mv):=by
 unfold numsR;rw [if_pos (by omega),(PT hk).1];unfold DM;rw [if_pos h];obtain ⟨h1,h2⟩:=PR b (G:=J9 mv) (F:=λp=>CL p mv.toNat) λt _ I=>by
  have:=I.real (k:=mv.toNat) (by omega)
  rw [Int.toNat_of_nonneg hv.1] at this;exact this.symm
 exact Uf (G:=J9 mv) (F:=λp=>CL p mv.toNat) h1 h2
theorem WR(b:Ax d m gs ms cs){mv:Int}{k:Nat}(hv:0<=mv)(hk:(BC m gs ms cs).length<=k):Ek ((BC m gs ms cs).take k) mv=GI (AV d gs ms cs m) mv.toNat:=by
 unfold Ek GI;rw [List.take_of_length_le hk,<-((PU b).filter λp=>p.lies mv.toNat).length_eq,List.filter_map,List.length_map];congr 1;refine List.filter_congr λt _=>?_;show decide (mv ∈ t.2.2)=decide (((mv.toNat:Nat):Int) ∈ t.2.2);rw [Int.toNat_of_nonneg hv]
theorem Ug(b:Ax d m gs ms cs){mv:Int}{k:Nat}(hv:0<=mv)(h:Bl d m gs ms cs mv=0)(h0:0<(AV d gs ms cs m).length)(hk:(BC m gs ms cs).length<=k) :
  B8 d m gs ms cs mv=if (Ek ((BC m gs ms cs).take k) mv:Int)=Ft d m gs ms cs then (1:Int) else if (Ek ((BC m gs ms cs).take k) mv:Int)=0 then 2 else 0:=by
 rw [WR b hv hk];unfold B8 Mz Ft;rw [if_pos h,if_pos (Nc b)];by_cases e1:GI (AV d gs ms cs m) mv.toNat=0
 ·rw [if_pos e1,if_neg (by omega),if_pos (by omega)]
 ·by_cases e2:GI (AV d gs ms cs m) mv.toNat=(AV d gs ms cs m).length
  ·rw [if_neg e1,if_pos e2,if_pos (by omega)]
  ·rw [if_neg e1,if_neg e2,if_neg (by omega),if_neg (by omega)]
end
end Go.Ns
namespace Go.Ns
open Go.Conc
theorem LQ(z:Int):∀(t:List (Int×Int))(c n low:Int),runB c (n-z) (low-z) t=((runB c n low t).1-z,(runB c n low t).2-z)
 | [],c,n,low=>by unfold runB;simp only [Prod.mk.injEq,true_and];omega
 | x ::t,c,n,low=>by
  unfold runB;by_cases h:c<x.1
  ·rw [if_pos h,if_pos h,show n-z+x.2=(n+x.2)-z by omega,show min (n-z) (low-z)=min n low-z by omega];exact LQ z t _ _ _
  ·rw [if_neg h,if_neg h,show n-z+x.2=(n+x.2)-z by omega];exact LQ z t _ _ _
def EU(ms:List AB)(f y l:List Int)(g:Int):Nat->Int
 | 0=>f.getD g.toNat 0
 | k+1=>min (EU ms f y l g k) (A1 ms f y l g ((k:Int)+1) ms.length)
theorem RM{ms:List AB}{f y l:List Int}{g z:Int}:∀{k:Nat},z<=EU ms f y l g k↔z<=f.getD g.toNat 0/\∀j:Nat,j<k->z<=A1 ms f y l g ((j:Int)+1) ms.length
 | 0=>⟨λh=>⟨h,λj hj=>by omega⟩,λh=>h.1⟩
 | k+1=>by
  unfold EU;rw [show (z<=min (EU ms f y l g k) (A1 ms f y l g ((k:Int)+1) ms.length))↔(z<=EU ms f y l g k/\z<=A1 ms f y l g ((k:Int)+1) ms.length) by omega,RM];constructor
  ·rintro ⟨⟨h1,h2⟩,h3⟩;refine ⟨h1,λj hj=>?_⟩;by_cases e:j=k
   ·subst e;exact h3
   ·exact h2 j (by omega)
  ·rintro ⟨h1,h2⟩;exact ⟨⟨h1,λj hj=>h2 j (by omega)⟩,h2 k (by omega)⟩
def G2(gs:List Good)(ms:List AB)(f y:List Int):Bool:=decide (∀k,k<gs.length->(gs.getD k Good.z).low<=f.getD k 0/\f.getD k 0<=(gs.getD k Good.z).high) && decide (∀k,k<ms.length->(ms.getD k AB.z).low<=y.getD k 0/\y.getD k 0<=(ms.getD k AB.z).high)
theorem spanB_g{gs:List Good}{ms:List AB}{f y:List Int}{k:Nat}(hk:k<gs.length)(h:¬((gs.getD k Good.z).low<=f.getD k 0/\f.getD k 0<=(gs.getD k Good.z).high)):G2 gs ms f y=false:=by
 unfold G2;rw [decide_eq_false (λq=>h (q k hk))];rfl
theorem spanB_m{gs:List Good}{ms:List AB}{f y:List Int}{k:Nat}(hk:k<ms.length)(h:¬((ms.getD k AB.z).low<=y.getD k 0/\y.getD k 0<=(ms.getD k AB.z).high)):G2 gs ms f y=false:=by
 unfold G2;rw [Bool.and_eq_false_iff];exact .inr (decide_eq_false λq=>h (q k hk))
theorem spanB_y{gs:List Good}{ms:List AB}{f y:List Int}{k k2:Nat}(h1:∀j,j<k->(gs.getD j Good.z).low<=f.getD j 0/\f.getD j 0<=(gs.getD j Good.z).high)(hk:gs.length<=k)(h2:∀j,j<k2->(ms.getD j AB.z).low<=y.getD j 0/\y.getD j 0<=(ms.getD j AB.z).high)(hk2:ms.length<=k2):G2 gs ms f y=true:=by
 unfold G2;rw [decide_eq_true (λj hj=>h1 j (by omega)),decide_eq_true (λj hj=>h2 j (by omega))];rfl
theorem M5(gs:List Good)(p:AU):∀n:Nat,(M1 gs p n).many=p.many/\∀k,(M1 gs p n).first k=if k<n then min (max (p.first k) (gs.getD k Good.z).low) (gs.getD k Good.z).high else p.first k
 | 0=>⟨rfl,λk=>by rw [if_neg (by omega)];rfl⟩
 | n+1=>by
  obtain ⟨h1,h2⟩:=M5 gs p n;refine ⟨h1,λk=>?_⟩;show (if k=n then _ else (M1 gs p n).first k)=_;by_cases e:k=n
  ·rw [if_pos e,if_pos (by omega),e]
  ·rw [if_neg e,h2 k];by_cases q:k<n
   ·rw [if_pos q,if_pos (by omega)]
   ·rw [if_neg q,if_neg (by omega)]
theorem M6(ms:List AB)(p q:AU):∀n:Nat,(M2 ms p q n).first=q.first/\∀k,(M2 ms p q n).many k=if k<n then min (max (p.many k) (ms.getD k AB.z).low) (ms.getD k AB.z).high else q.many k
 | 0=>⟨rfl,λk=>by rw [if_neg (by omega)];rfl⟩
 | n+1=>by
  obtain ⟨h1,h2⟩:=M6 ms p q n;refine ⟨h1,λk=>?_⟩;show (if k=n then _ else (M2 ms p q n).many k)=_;by_cases e:k=n
  ·rw [if_pos e,if_pos (by omega),e]
  ·rw [if_neg e,h2 k];by_cases q:k<n
   ·rw [if_pos q,if_pos (by omega)]
   ·rw [if_neg q,if_neg (by omega)]
section
variable {d m:Int} {gs:List Good} {ms:List AB} {cs:List AF} {f y l:List Int}
theorem GL(h:Ac d m gs ms cs f y l=0):Ax d m gs ms cs/\(f.length=gs.length/\∀i,0<=f.getD i 0/\f.getD i 0<=99)/\(y.length=ms.length/\∀i,0<=y.getD i 0/\y.getD i 0<=99)/\(∀x ∈ l,0<=x/\x<ms.length/\(ms.getD x.toNat AB.z).kind=0)/\l.Pairwise (· < ·):=by
 have h0:=h;unfold Ac at h;split at h <;> first | (rename_i q;exact absurd h q) | skip
 split at h <;> first | (rename_i q;exact absurd h q) | skip
 split at h <;> first | (rename_i q;exact absurd h q) | skip
 rename_i a1 a2 a3
 have b:=Gu (Decidable.not_not.1 a1);have b2:=Es (Decidable.not_not.1 a2);have b3:=Es (Decidable.not_not.1 a3);have hz:=λj (hj:j<l.length)=>Er (f:=F7 ms l) h j (Nat.zero_le _) (by omega);have hn:∀x ∈ l,DF ms x=true:=λx hx=>by
  obtain ⟨j,hj,rfl⟩:=Hk 0 hx
  have:=hz j hj
  unfold F7 at this;by_cases q:DF ms (l.getD j 0)=true
  ·exact q
  ·rw [if_pos q] at this;cases this
 refine ⟨b,⟨by have:=b2.1;omega,b2.2⟩,⟨by have:=b3.1;omega,b3.2⟩,λx hx=>?_,?_⟩
 ·have:=hn x hx
  unfold DF at this
  have:=of_decide_eq_true this
  exact ⟨this.1.1,by omega,this.2⟩
 ·rw [List.pairwise_iff_getElem];have step:∀j,j+1<l.length->l.getD j 0<l.getD (j+1) 0:=λj hj=>by
   have:=hz (j+1) hj
   unfold F7 at this;rw [if_neg (by rw [hn _ (CI hj)];simp)] at this;split at this
   ·cases this
   ·rename_i q
    unfold Fm at q;rw [if_neg (by omega)] at q;simp only [Nat.add_sub_cancel] at q;omega
  have all:∀e i,i+e+1<l.length->l.getD i 0<l.getD (i+e+1) 0:=by
   intro e
   induction e with
   | zero=>intro i hi;exact step i hi
   | succ e ih=>intro i hi;have:=ih i (by omega);have:=step (i+e+1) (by omega);show l.getD i 0<l.getD (i+e+1+1) 0;omega
  intro i j hi hj hij
  have:=all (j-i-1) i (by omega)
  rw [show i+(j-i-1)+1=j by omega,BY 0 hi,BY 0 hj] at this;exact this
theorem LR(h:Ac d m gs ms cs f y l=0):IsP (BS d m gs ms cs f y l) f y l gs.length ms.length:=by
 obtain ⟨_,⟨hf,_⟩,⟨hy,_⟩,hl,_⟩:=GL h;exact ⟨λi hi=>Sg h (by omega),λi hi=>UN h (by omega),λi _=>Nd h (λx hx=>(hl x hx).1) i⟩
theorem Ax.low_ge(b:Ax d m gs ms cs)(p:AU)(g z:Int):z<=(AM ms p g d).2↔z<=p.first g.toNat/\∀k,k<ms.length->z<=(AM ms p g (ms.getD k AB.z).day).1:=by
 have hr:=MW (Fs ms p g) 0 (p.first g.toNat-z) (p.first g.toNat-z) (b.pairsUp p g (List.Sublist.refl _));rw [LQ] at hr;have h0:Fw 0 (Fs ms p g)=0:=JO λx hx=>by
  obtain ⟨k,hk,rfl⟩:=List.mem_map.1 hx
  have:=b.day0 (List.mem_range.1 hk);unfold ES;dsimp only;omega
 have hs:∀k,(AM ms p g (ms.getD k AB.z).day).1=p.first g.toNat+Fw (ms.getD k AB.z).day (Fs ms p g):=λk=>by rw [Gk b.up,UQ]
 rw [b.stock p g,show (z<=(runB 0 (p.first g.toNat) (p.first g.toNat) (Fs ms p g)).2)↔(0<=(runB 0 (p.first g.toNat) (p.first g.toNat) (Fs ms p g)).2-z) by omega,hr,h0];constructor
 ·rintro ⟨a1,_,a3⟩;exact ⟨by omega,λk hk=>by rw [hs];have:=a3 _ (List.mem_map.2 ⟨k,List.mem_range.2 hk,rfl⟩);unfold ES at this;dsimp only at this;omega⟩
 ·rintro ⟨a1,a3⟩;refine ⟨by omega,by omega,λx hx=>?_⟩;obtain ⟨k,hk,rfl⟩:=List.mem_map.1 hx
  have:=a3 k (List.mem_range.1 hk)
  rw [hs] at this;unfold ES;dsimp only;omega
theorem Ax.stock_all(b:Ax d m gs ms cs)(p:AU)(g z:Int)(h0:z<=p.first g.toNat)(h:∀k,k<ms.length->z<=(AM ms p g (ms.getD k AB.z).day).1):∀j:Nat,z<=(AM ms p g (j:Int)).1
 | 0=>by
  rw [Gk b.up,PC λi hi=>?_]
  ·omega
  ·unfold H7;rw [if_neg];have:=b.day0 (List.mem_range.1 hi);omega
 | j+1=>by
  by_cases e:∃k,k<ms.length/\(ms.getD k AB.z).day=((j+1:Nat):Int)
  ·obtain ⟨k,hk,e⟩:=e;rw [<-e];exact h k hk
  ·have ih:=b.stock_all p g z h0 h j;rw [Gk b.up] at ih ⊢
   have:(List.range ms.length).map (H7 ms p g ((j+1:Nat):Int))=(List.range ms.length).map (H7 ms p g (j:Int)):=List.map_congr_left λk hk=>by
    have hk:=List.mem_range.1 hk;unfold H7;by_cases q:(ms.getD k AB.z).day<=(j:Int)
    ·rw [if_pos q,if_pos (by omega)]
    ·rw [if_neg q,if_neg λq2=>e ⟨k,hk,by omega⟩]
   rw [this];exact ih
theorem play_low(h:Ac d m gs ms cs f y l=0){g:Int}(hg:0<=g/\g<gs.length):EU ms f y l g d.toNat=(AM ms (BS d m gs ms cs f y l) g d).2:=by
 obtain ⟨b,_⟩:=GL h;have I:=LR h;have hk:=λk=>(b.kind k).1;have hd:=b.days;have hs:∀dy,A1 ms f y l g dy ms.length=(AM ms (BS d m gs ms cs f y l) g dy).1:=λdy=>I.stock b.up hk hg dy;have key:∀z,z<=EU ms f y l g d.toNat↔z<=(AM ms (BS d m gs ms cs f y l) g d).2:=λz=>by
  rw [RM,b.low_ge,<-I.first g.toNat (by omega)];constructor
  ·rintro ⟨h1,h2⟩;refine ⟨h1,λk hk=>?_⟩;have hday:=(b.move' hk).2.2.1
   have:=h2 ((ms.getD k AB.z).day.toNat-1) (by omega)
   rw [hs,show (((ms.getD k AB.z).day.toNat-1:Nat):Int)+1=(ms.getD k AB.z).day by omega] at this;exact this
  ·rintro ⟨h1,h2⟩;refine ⟨h1,λj _=>?_⟩;rw [hs];exact b.stock_all _ _ _ h1 h2 (j+1)
 exact Int.le_antisymm ((key _).1 (Int.le_refl _)) ((key _).2 (Int.le_refl _))
theorem ZI(h:Ac d m gs ms cs f y l=0){g:Int}(hg:0<=g/\g<gs.length)(dy:Int):A1 ms f y l g dy ms.length=(AM ms (BS d m gs ms cs f y l) g dy).1:=by
 obtain ⟨b,_⟩:=GL h;exact (LR h).stock b.up (λk=>(b.kind k).1) hg dy
theorem lies_len(h:Ac d m gs ms cs f y l=0):Ao (BS d m gs ms cs f y l) 6=l.length:=by
 obtain ⟨b,_,_,hl,ha⟩:=GL h;have hp:=λi=>Nd h (λx hx=>(hl x hx).1) i;have h6:Ao (BS d m gs ms cs f y l) 6=Ao (BS d m gs ms cs f y l) ms.length:=H6 (λk h1 _=>by
  rw [hp k,decide_eq_false];intro e;have:=hl _ e;omega) b.mlen
 rw [h6,<-Fu];have e:((List.range ms.length).filter (BS d m gs ms cs f y l).lies)=(List.range ms.length).filter λ(i:Nat)=>decide ((i:Int) ∈ l):=List.filter_congr λi _=>hp i;rw [e];refine Nat.le_antisymm ?_ ?_
 ·have:=MX (l:=((List.range ms.length).filter λ(i:Nat)=>decide ((i:Int) ∈ l)).map λ(i:Nat)=>(i:Int)) (l1:=l)
   (List.pairwise_map.2 ((List.nodup_range.filter _).imp λq e=>q (by omega))) λx hx=>by
    obtain ⟨i,hi,rfl⟩:=List.mem_map.1 hx;exact of_decide_eq_true (List.mem_filter.1 hi).2
  rwa [List.length_map] at this
 ·have:=MX (l:=l) (l1:=((List.range ms.length).filter λ(i:Nat)=>decide ((i:Int) ∈ l)).map λ(i:Nat)=>(i:Int)) (ha.imp λq=>by omega) λx hx=>by
   have:=hl x hx
   exact List.mem_map.2 ⟨x.toNat,List.mem_filter.2 ⟨List.mem_range.2 (by omega),decide_eq_true (by rw [Int.toNat_of_nonneg this.1];exact hx)⟩,by omega⟩
  rwa [List.length_map] at this
theorem hist_ref(h:Ac d m gs ms cs f y l=0):Cz d m gs ms cs f y l=(G2 gs ms f y && (decide ((l.length:Int)<=m) && CO ms cs f y l)):=by
 obtain ⟨b,⟨hf,hfr⟩,⟨hy,hyr⟩,hl,ha⟩:=GL h;have I:=LR h;have hk:=λk=>(b.kind k).1;have hg3:=b.glen;have hm6:=b.mlen;unfold Cz;rw [decide_eq_true h,lies_len h,Bool.true_and,Bool.eq_iff_iff];generalize hP:BS d m gs ms cs f y l=P at I ⊢;have k1:∀k,(GK gs ms P).first k=if k<gs.length then min (max (P.first k) (gs.getD k Good.z).low) (gs.getD k Good.z).high else P.first k:=λk=>by
  unfold GK;rw [(M6 ms P _ _).1,(M5 gs P _).2]
 have k2:∀k,(GK gs ms P).many k=if k<ms.length then min (max (P.many k) (ms.getD k AB.z).low) (ms.getD k AB.z).high else P.many k:=λk=>by
  unfold GK;rw [(M6 ms P _ _).2,(M5 gs P _).1]
 have e3:eq3 (GK gs ms P) P=true↔∀k,k<gs.length->(gs.getD k Good.z).low<=f.getD k 0/\f.getD k 0<=(gs.getD k Good.z).high:=by
  have one:∀k,k<gs.length->((GK gs ms P).first k=P.first k↔(gs.getD k Good.z).low<=f.getD k 0/\f.getD k 0<=(gs.getD k Good.z).high):=λk hk=>by
   have hw:=b.gfew k;rw [k1,if_pos hk,<-I.first k hk];omega
  unfold eq3;simp only [Bool.and_eq_true,beq_iff_eq,and_true];constructor
  ·rintro ⟨a0,a1,a2⟩ k hk
   have:k=0\/k=1\/k=2:=by omega
   rcases this with rfl | rfl | rfl
   ·exact (one 0 hk).1 a0
   ·exact (one 1 hk).1 a1
   ·exact (one 2 hk).1 a2
  ·intro a;have all:∀k,(GK gs ms P).first k=P.first k:=λk=>by
    by_cases hk:k<gs.length
    ·exact (one k hk).2 (a k hk)
    ·rw [k1,if_neg hk]
   exact ⟨all 0,all 1,all 2⟩
 have e6:eq6 (GK gs ms P) P=true↔∀k,k<ms.length->(ms.getD k AB.z).low<=y.getD k 0/\y.getD k 0<=(ms.getD k AB.z).high:=by
  have one:∀k,k<ms.length->((GK gs ms P).many k=P.many k↔(ms.getD k AB.z).low<=y.getD k 0/\y.getD k 0<=(ms.getD k AB.z).high):=λk hk=>by
   have hw:=b.few k;rw [k2,if_pos hk,<-I.many k hk];omega
  unfold eq6;simp only [Bool.and_eq_true,beq_iff_eq,and_true];constructor
  ·rintro ⟨a0,a1,a2,a3,a4,a5⟩ k hk
   have:k=0\/k=1\/k=2\/k=3\/k=4\/k=5:=by omega
   rcases this with rfl | rfl | rfl | rfl | rfl | rfl
   ·exact (one 0 hk).1 a0
   ·exact (one 1 hk).1 a1
   ·exact (one 2 hk).1 a2
   ·exact (one 3 hk).1 a3
   ·exact (one 4 hk).1 a4
   ·exact (one 5 hk).1 a5
  ·intro a;have all:∀k,(GK gs ms P).many k=P.many k:=λk=>by
    by_cases hk:k<ms.length
    ·exact (one k hk).2 (a k hk)
    ·rw [k2,if_neg hk]
   exact ⟨all 0,all 1,all 2,all 3,all 4,all 5⟩
 have ea:A6 d gs.length ms cs P=true↔CO ms cs f y l=true:=by
  rw [b.agrees_iff2];unfold CO;rw [Bool.and_eq_true,decide_eq_true_iff,decide_eq_true_iff];have hm:∀k,k<ms.length->A1 ms f y l (ms.getD k AB.z).good (ms.getD k AB.z).day ms.length=(AM ms P (ms.getD k AB.z).good (ms.getD k AB.z).day).1:=λk hkk=>I.stock b.up hk (by have:=(b.move' hkk).2.1;omega) _;have hc:∀k,k<cs.length->A1 ms f y l (cs.getD k AF.z).good (cs.getD k AF.z).day ms.length=(AM ms P (cs.getD k AF.z).good (cs.getD k AF.z).day).1:=λk hkc=>I.stock b.up hk (by have:=b.cgood' _ (CI (d:=AF.z) hkc);omega) _;constructor
  ·rintro ⟨_,a2,a3⟩;exact ⟨λk hkc=>by rw [hc k hkc];exact a3 _ (CI hkc),λk hkk=>by rw [hm k hkk];have:=a2 k hkk;omega⟩
  ·rintro ⟨a1,a2⟩;refine ⟨λi hi=>by rw [I.first i hi];exact (hfr i).1,λk hkk=>by rw [<-hm k hkk];have:=a2 k hkk;omega,λx hx=>?_⟩;obtain ⟨k,hkc,rfl⟩:=Hk AF.z hx;rw [<-hc k hkc];exact a1 k hkc
 unfold G2;simp only [Bool.and_eq_true,decide_eq_true_iff,e3,e6,ea];constructor
 ·rintro ⟨a1,a2,a3,a4⟩;exact ⟨⟨a1,a2⟩,a3,a4⟩
 ·rintro ⟨⟨a1,a2⟩,a3,a4⟩;exact ⟨a1,a2,a3,a4⟩
end
end Go.Ns
namespace Go.Ns
open Go.Conc
theorem nums_hit{l:List Int}{n:Int}{k:Nat}(h:(l.length:Int)=n)(hk:k<l.length)(hb:¬(0<=l.getD k 0/\l.getD k 0<=99)):Av l n=1:=by
 unfold Av;rw [if_neg (by simpa using h),if_pos];rw [List.any_eq_true];exact ⟨_,CI (d:=0) hk,decide_eq_true hb⟩
theorem nums_all{l:List Int}{n:Int}{k:Nat}(h:(l.length:Int)=n)(hs:∀j,j<k->0<=l.getD j 0/\l.getD j 0<=99)(hk:l.length<=k):Av l n=0:=UL h λx hx=>by
 obtain ⟨j,hj,rfl⟩:=Hk 0 hx;exact hs j (by omega)
def DN(gs:List Good)(ms:List AB)(f y l:List Int):Int:=
 if¬Av f gs.length=0 then Av f gs.length else if¬Av y ms.length=0 then Av y ms.length else D0 (F7 ms l) 0 l.length
section
variable {d m:Int} {gs:List Good} {ms:List AB} {cs:List AF} {f y l:List Int}
theorem check_1(h:¬Av f gs.length=0):DN gs ms f y l=Av f gs.length:=by unfold DN;rw [if_pos h]
theorem check_2(h:¬¬Av f gs.length=0)(h2:¬Av y ms.length=0):DN gs ms f y l=Av y ms.length:=by unfold DN;rw [if_neg h,if_pos h2]
theorem Sx(h:¬¬Av f gs.length=0)(h2:¬¬Av y ms.length=0){c:Int}(h3:D0 (F7 ms l) 0 l.length=c):DN gs ms f y l=c:=by unfold DN;rw [if_neg h,if_neg h2,h3]
theorem Mb(h:Ae d m gs ms cs=0):Ac d m gs ms cs f y l=DN gs ms f y l:=by unfold Ac DN;rw [if_neg (by simpa using h)]
theorem Ie{x:Int}:x ∈ B4 ms ms.length↔(0<=x/\x<=(ms.length:Int)-1)/\(ms.getD x.toNat AB.z).kind=0:=by
 constructor
 ·intro h;have:=Ma h;exact ⟨⟨this.1,by omega⟩,this.2.2⟩
 ·rintro ⟨⟨h1,h2⟩,h3⟩
  have:=PE (ms:=ms) (k:=ms.length) (i:=x.toNat) (by omega) h3
  rwa [Int.toNat_of_nonneg h1] at this
theorem lie_6{k:Nat}(h:¬l.getD k 0 ∈ B4 ms ms.length):F7 ms l k=6:=Xu λq=>h (Ie.2 q)
theorem lie_7{k:Nat}(h:l.getD k 0 ∈ B4 ms ms.length)(h2:(0<(k:Int))/\(l.getD k 0<=l.getD ((k:Int)-1).toNat 0)):F7 ms l k=7:=
 Xv (not_not_intro (Ie.1 h)) (by
  unfold Fm;rw [if_neg (by omega),show k-1=((k:Int)-1).toNat by omega];exact h2.2)
theorem lie_0{k:Nat}(h:l.getD k 0 ∈ B4 ms ms.length)(h2:¬((0<(k:Int))/\(l.getD k 0<=l.getD ((k:Int)-1).toNat 0))):F7 ms l k=0:=
 Xw (not_not_intro (Ie.1 h)) (by
  have hc:=(Ie.1 h).1.1;unfold Fm;by_cases q:k=0
  ·rw [if_pos q];omega
  ·rw [if_neg q,show k-1=((k:Int)-1).toNat by omega];exact λq2=>h2 ⟨by omega,q2⟩)
theorem left_ref(b:Ax d m gs ms cs){g dy:Int}(hg:0<=g/\g<gs.length)(h:CJ d m gs ms cs g dy=0):Gi d m gs ms cs g dy=IA ((BC m gs ms cs).map (Fy ms g dy)):=by
 have:=WP b hg h (Nat.le_refl _)
 rwa [List.take_length] at this
theorem Uh(b:Ax d m gs ms cs){mv:Int}{k:Nat}(hv:0<=mv/\mv<(ms.length:Int))(h:BT d m gs ms cs mv=0)(hk:(BC m gs ms cs).length<=k):DM d m gs ms cs mv=IA (((BC m gs ms cs).take k).map (J9 mv)):=by
 have:=WQ b hv h hk
 unfold numsR at this
 rwa [if_pos (by omega)] at this
end
end Go.Ns
namespace Go.Ns
open Go.Conc
section
variable {P:Program} {Post:Value->World->Prop}
def YF(P:Program)(Post:Value->World->Prop):Wk P:=⟨true,EC P Post,Kk⟩
theorem Sy:O4 (YF P Post):=⟨Post,rfl⟩
theorem ZJ{f:FuncId}{fn:Func}{c:Code}{args:Array Value}{h:GH}{R:Value->GH->Prop}(hf:P.funcs[f]? =some fn)(hb:fn.body=some c)(hsz:args.size<=fn.ntmps)(hin:P.inits.idxOf? f=none)(hpost:∀v h',R v h'->∀w,D7 w h'->Post v w)
  (x:Tr ⟨YF P Post,f,none,fn.ntmps⟩ c (λi=>args.getD i undef) [] h (λe O ds h'=>(e=.normal\/e=.ret)/\G5 P fn O R ds h')):EC P Post (G (Frame.enter P f args .normal) []) h:=by
 have e0:Frame.enter P f args .normal=Ck (Frame.enter P f args .normal) (args++Array.replicate (fn.ntmps-args.size) undef) [] [.code c]:=by
  simp [Frame.enter,Ck,hf,hb]
 rw [e0];let L:Lv:=λj t ds h'=>(j=none\/j=some .ret)/\∃O,Bp t fn.ntmps O/\G5 P fn O R ds h';have fin:∀O ds h' t k,Bp t fn.ntmps O->G5 P fn O R ds h'->(YF P Post).K (G (Dt (Frame.enter P f args .normal) t ds k) []) h':=by
  intro O ds h' t k hs ho;refine NO (W:=YF P Post) (R:=R) hf (b:=Frame.enter P f args .normal) rfl (λt k v h h' hr hrun=>?_) ds h' t k hs ho;refine VO rfl λw fw=>?_;obtain ⟨w',es,r1,r2⟩:=hrun w fw;refine ⟨v,w',seen P f es++ #[],h',?_,r2.sub (es':=seen P f es++ #[]) λe he=>?_,hpost v h' hr w' r2.fits⟩
  ·rw [K7];unfold unwind;have hfn:(Dt (Frame.enter P f args .normal) t [] k).fn=f:=rfl;have hk:(Dt (Frame.enter P f args .normal) t [] k).kind=.normal:=rfl;have hm:(Dt (Frame.enter P f args .normal) t [] k).mode=.returning:=rfl;have hd:(Dt (Frame.enter P f args .normal) t [] k).defers=[]:=rfl;have ht:(Dt (Frame.enter P f args .normal) t [] k).tmps=t:=rfl;simp only [hd,hm,hfn,hf,ht,r1,GStep.after,doReturn,hk,hin];rfl
  ·rw [Array.append_empty] at he;exact mem_seen he
 refine x (Frame.enter P f args .normal) [] [] L _ rfl rfl ⟨?_,?_,?_⟩ ⟨by simp;omega,λi=>?_⟩ ?_
 ·rintro t ds h' ⟨_,O,hs,ho⟩;exact Wk.go (Dt (Frame.enter P f args .normal) t ds []) (λw=>by rw [A9];simp [stepG.exec,Ck,Dt,G,Frame.enter]) (fin O ds h' t [] hs ho)
 ·rintro t ds h' k ⟨_,O,hs,ho⟩;exact Wk.go (Dt (Frame.enter P f args .normal) t ds (.code .ret ::k)) (λw=>by rw [A9];simp [stepG.exec,Ck,Dt,G,Frame.enter]) (fin O ds h' t _ hs ho)
 ·rintro id t ds h' k _ ⟨h1 | h1,_⟩ <;> cases h1
 ·by_cases hi:i<args.size
  ·simp [Array.getD_eq_getD_getElem?,Array.getElem?_append_left hi]
  ·simp only [Array.getD_eq_getD_getElem?];rw [Array.getElem?_append_right (by omega),Array.getElem?_eq_none (show args.size<=i by omega),Array.getElem?_replicate];split <;> rfl
 ·rintro e O ds h' ⟨he,ho⟩ t' ht';rcases he with rfl | rfl
  ·exact Wk.go (Dt (Frame.enter P f args .normal) t' ds []) (λw=>by rw [A9];simp [stepG.exec,Ck,Dt,G,Frame.enter]) (fin O ds h' t' [] ht' ho)
  ·exact ⟨.inr rfl,O,ht',ho⟩
def GH.of(W:World):GH:=λb=>(W.heap[b]?).map λo=>(false,o)
theorem GH.of_some{W:World}{b:Nat}{o:Obj}(h:W.heap[b]? =some o):GH.of W b=some (false,o):=by unfold GH.of;rw [h];rfl
theorem fits_of(W:World):D7 W (GH.of W):=λb p o h=>by
 unfold GH.of at h;cases e:W.heap[b]? with
 | none=>rw [e] at h;cases h
 | some x=>rw [e] at h;cases h;rfl
theorem kept_of{W w:World}{h:GH}(l:(GH.of W).Le h)(f:D7 w h){b:Nat}{o:Obj}(hb:W.heap[b]? =some o):w.heap[b]? =some o:=f b _ _ (l.keep (GH.of_some hb) rfl)
theorem WS{g:Goroutine}{W:World}(hg:EC P Post g (GH.of W)):Bn P (Iv Post W.os W.output) (solo g W) #[]:=by
 have hno:∀k a,touchAt (#[]:Trace) k=some a->False:=λk a h=>by
  obtain ⟨op,h1,_⟩:=touch_of h;simp at h1
 refine hg #[g] W none (λ_=>0) #[] ⟨rfl,?_,fits_of W,?_,?_,λk a b hk=>(hno k a hk).elim,?_,λk a hk=>(hno k a hk).elim,λb p o k a _ _ hk=>(hno k a hk).elim⟩
 ·intro j x hj hx;rw [Array.getElem?_eq_none (by simp;omega)] at hx;cases hx
 ·intro op hop;simp at hop
 ·rintro said ⟨i,j,hij,⟨a,b,ha,_⟩,_⟩;exact hno i a ha
 ·intro op hop;simp at hop
end
end Go.Ns
namespace Go.Ns
open Go.Conc Go.ChangeShapes Go.WideShapes Go.ChangeAt Go.RowKit
section
variable {P:Program} {W:World}
theorem WT{b off n:Nat}{cs:List Value}(h:W.cells? 0 ⟨b,off,none⟩ n=some cs)(hn:0<n):Aa (GH.of W) b off n cs.toArray:=by
 obtain ⟨_,hl,hc⟩:=World.cells?_some h;have hcell:∀i,i<n->W.cell? ⟨b,off+i,none⟩=cs[i]? :=λi hi=>by
  have:=hc i hi
  unfold Addr.add at this;split at this
  ·rename_i e;subst e;exact this
  ·exact this
 have h0:=hcell 0 hn;unfold World.cell? at h0;cases hb:W.heap[b]? with
 | none=>simp [hb,List.getElem?_eq_getElem (show 0<cs.length by omega)] at h0
 | some o=>
  cases o with
  | cells c t f=>
   have hall:∀i,i<n->c[off+i]? =cs[i]? :=λi hi=>by
    have:=hcell i hi
    unfold World.cell? at this;simpa [hb] using this
   have hlast:=hall (n-1) (by omega);rw [List.getElem?_eq_getElem (show n-1<cs.length by omega)] at hlast;have hsz:=(Array.getElem?_eq_some_iff.1 hlast).1;refine ⟨false,c,t,f,GH.of_some hb,by omega,?_⟩;apply Array.ext
   ·simp;omega
   ·intro i h1 h2;have hi:i<n:=by simp at h2;omega
    have:=hall i hi
    rw [Array.getElem?_eq_getElem (by omega),List.getElem?_eq_getElem (by omega)] at this;simpa using this
  | _=>simp [hb,List.getElem?_eq_getElem (show 0<cs.length by omega)] at h0
def Ui(P:Program)(e:TypeId){U:Type}(enc:U->Array Value)(good:U->Prop):Prop:=
 ∀{H:Type}(en:TypeId×Value->H)(W:World)(base:Nat)(sp:Nat->Bool)(held:Bool)(fuel:Nat)(cs:List Value)(x:DataW H×List MemPlace),DataW.trod en P W base sp held fuel e cs=some x->∃a:U,cs=(enc a).toList/\good a
theorem KU{H:Type}{en:TypeId×Value->H}{sp:Nat->Bool}{held:Bool}{fuel:Nat}{t e:TypeId}{n:Nat}{U:Type}{enc:U->Array Value}{good:U->Prop}{v:Value}{d:DataW H}{ps:List MemPlace}(ht:P.underlying t=some (.slice e))(hc:P.cellsOf e=n)(hn:0<n)
  (ho:Ui P e enc good) (h:DataW.trod en P W 0 sp held fuel t [v]=some (d,ps)) (hw:∀es rs,d=.slice es rs->es.length<=140737488355328):∃xs:List U,AH (GH.of W) v n enc xs/\∀x ∈ xs,good x:=by
 rcases DataW.trod_slice ht h with ⟨h1,_⟩ | ⟨a,len,cap,elems,rest,m,rfl,h1,h2,_,hl,_,hlen,hel,_,_⟩
 ·simp at h1;subst h1;exact ⟨[],AH.nil _ _ _,λx hx=>by cases hx⟩
 ·simp only [List.cons.injEq,and_true] at h1;subst h1;simp only [Prod.mk.injEq] at h2;have hlim:len<=140737488355328:=by
   have:=hw _ _ h2.1
   simpa [hlen] using this
  have each:∀i,i<len->∃x:U,∃b off,a=⟨b,off,none⟩/\Aa (GH.of W) b (off+i*n) n (enc x)/\good x:=λi hi=>by
   have:=hel i hi
   rw [List.getElem?_eq_getElem (by omega),hc] at this;simp only [Option.bind_eq_some_iff] at this;obtain ⟨cs,hcs,hx⟩:=this;obtain ⟨x,e1,e2⟩:=ho _ _ _ _ _ _ _ _ hx;have hc0:=(World.cells?_some hcs).2.2 0 hn;have hlen2:=(World.cells?_some hcs).2.1;rw [List.getElem?_eq_getElem (show 0<cs.length by omega)] at hc0;have hsp:=World.cell?_spot hc0;obtain ⟨b,off,spot⟩:=a;have hspot:spot=none\/i≠0:=by
    by_cases e0:i=0
    ·subst e0;left;simpa [Addr.add] using hsp
    ·exact .inr e0
   have hfirst:spot=none:=by
    rcases hspot with e | e
    ·exact e
    ·have h00:=hel 0 (by omega);rw [List.getElem?_eq_getElem (by omega),hc] at h00;simp only [Option.bind_eq_some_iff] at h00;obtain ⟨c0,hc00,_⟩:=h00;have z:=(World.cells?_some hc00).2.2 0 hn;have zl:=(World.cells?_some hc00).2.1;rw [List.getElem?_eq_getElem (show 0<c0.length by omega)] at z
     have:=World.cell?_spot z
     simpa [Addr.add] using this
   subst hfirst;refine ⟨x,b,off,rfl,?_,e2⟩;have ea:(Addr.add ⟨b,off,none⟩ (i*n))=⟨b,off+i*n,none⟩:=by
    unfold Addr.add;split
    ·rename_i e;rw [e];rfl
    ·rfl
   rw [ea] at hcs
   have:=WT hcs hn
   rw [e1] at this;simpa using this
  by_cases hz:len=0
  ·subst hz;exact ⟨[],⟨some a,cap,rfl,Nat.zero_le _,Nat.zero_le _,λi hi=>by simp at hi⟩,λx hx=>by cases hx⟩
  ·have hch:∀i:Fin len,∃x:U,∃b off,a=⟨b,off,none⟩/\Aa (GH.of W) b (off+i.val*n) n (enc x)/\good x:=λi=>each i.val i.isLt;refine ⟨List.ofFn λi=>Classical.choose (hch i),⟨some a,cap,by rw [List.length_ofFn],by rw [List.length_ofFn];exact hl,by rw [List.length_ofFn];exact hlim,λi hi=>?_⟩,λx hx=>?_⟩
   ·rw [List.length_ofFn] at hi;obtain ⟨b,off,e1,e2,_⟩:=Classical.choose_spec (hch ⟨i,hi⟩);refine ⟨b,off,by rw [e1],?_⟩;rw [List.getElem_ofFn];exact e2
   ·obtain ⟨i,rfl⟩:=List.mem_ofFn.1 hx;obtain ⟨_,_,_,_,e3⟩:=Classical.choose_spec (hch i);exact e3
theorem GM{H:Type}{en:TypeId×Value->H}{t:TypeId}(hl:laidOutB P=true)(hr:P.readableRec t=true)(hrow:t<P.types.size){W':World}{v:Value}{d:DataW H}{ps:List MemPlace}(h:DataW.Trod en P W 0 (λ_=>true) true t v d ps)
  (hk:∀(b:Nat)(o:Obj),W.heap[b]? =some o->W'.heap[b]? =some o) (hlt:∀x ∈ ps,x.block<W.heap.size):DataW.Trod en P W' 0 (λb=>decide (b<W.heap.size)) true t v d ps:=by
 let W2:World:={ W' with os:=W.os,tape:=W.tape,output:=W.output };have hsz:W.heap.size<=W'.heap.size:=by
  rcases Nat.lt_or_ge W'.heap.size W.heap.size with x | x
  ·have:=hk W'.heap.size _ (Array.getElem?_eq_getElem x)
   rw [Array.getElem?_eq_none (Nat.le_refl _)] at this;cases this
  ·exact x
 have hb:Below W.heap.size W W2:=⟨rfl,rfl,rfl,hsz,λk hk'=>by
  show W'.heap[k]? =_;rw [Array.getElem?_eq_getElem hk'];exact hk k _ (Array.getElem?_eq_getElem hk')⟩
 exact DataW.Trod.of_heap (w:=W2) (w':=W') rfl (Below.trod hl hr hrow h hb hlt)
theorem kept_but{W':World}(hk:∀(b:Nat)(o:Obj),W.heap[b]? =some o->W'.heap[b]? =some o)(ho:W'.os=W.os)(hp:W'.output=W.output)(may:MemPlace->Prop):W.keptBut W' may:=by
 refine ⟨ho,hp,λi hi=>?_⟩;rw [hk i _ (Array.getElem?_eq_getElem hi),Array.getElem?_eq_getElem hi];split <;> simp_all
end
end Go.Ns
namespace Go.Ns
open Go.Conc
universe u
theorem Z{U:Sort u}{a:U}:a=a:=rfl
theorem Lr{h:GH}:GH.Le h h:=GH.Le.refl h
theorem Ln{h h':GH}(l:h.Le h'){r:Nat}(hr:h' r=none):h r=none:=l.nothing hr
theorem DH{h:GH}{b r:Nat}{p:Bool}{o:Obj}(hb:h b=some (p,o))(hr:h r=none):b≠r:=GH.ne_of hb hr
theorem Nb{a b:Nat}(h:Nat.ble a b=true):a<=b:=Nat.le_of_ble_eq_true h
theorem Dn{p:Prop}[Decidable p](h:¬¬p):p:=Decidable.not_not.1 h
theorem Et{U:Sort u}{a b c:U}(x:a=b)(y:b=c):a=c:=x.trans y
theorem Kl{h0 h:GH}(k:EF (λb=>h0 b=none) h0 h):h0.Le h:=k.leOf
theorem Bx{h:GH}{b:Nat}{p:Bool}{c:Array Value}{t:TypeId}{f:Nat×Nat}(hb:h b=some (p,.cells c t f)){n:Nat}(hn:c.size=n):Aa h b 0 n c:=Aa.box hb hn
abbrev lE(v:Value):IV:=λ_ u _=>u=v
abbrev lF(v:Value):QG:=λu _=>u=v
abbrev zP:Array Value:=#[.int .i64 0,.int .i64 0,.slice none 0 0,.slice none 0 0,.slice none 0 0,.slice none 0 0,.map none]
section
variable {P:Program} {E:Gy P} {O:Nat->Value} {ds:List Deferred} {h:GH} {Q:Post} {T:(Nat->Value)->List Deferred->GH->Prop}
variable {dst:Option Nat} {ty:TypeId} {pos:String} {af:Array Edge} {ops:Array Oper} {o:Oper} {l:List Oper}
theorem Sq{x y:Code}(a:Tr E x O ds h (λe σ' ds' h'=>match e with | .normal=>Tr E y σ' ds' h' Q | e=>Q e σ' ds' h')):Tr E (.seq x y) O ds h Q:=tr_seq a
theorem Rg{id:Nat}{l:List Oper}(a:EM E l.toArray l O ds h Q):Tr E (.region id l.toArray false) O ds h Q:=YL a
theorem Nl(q:Q .normal O ds h):EM E ops [] O ds h Q:=trL_nil q
abbrev Rt:=@tr_ret
abbrev Bk:=@tr_block
abbrev Sk:=@tr_skip
abbrev Xt:=@tr_exit
def plainB(N:Nat)(o:Oper):Bool:=o.guard.isNone && !EP o.op && Em o.dst N
theorem Pl(hp:plainB E.N o=true)(x:Bg E o O ds h λσ' ds' h'=>EM E ops l σ' ds' h' Q):EM E ops (o ::l) O ds h Q:=by
 simp only [plainB,Bool.and_eq_true,Option.isNone_iff_eq_none,Bool.not_eq_true'] at hp;exact F9 hp.1.1 hp.1.2 hp.2 x
theorem Mv{x:Operand}(v:Value)(hp:Em dst E.N=true)(hx:AT O x=v)(k:EM E ops l (putS O dst v) ds h Q):EM E ops (⟨dst,.move x,ty,pos,af,none⟩ ::l) O ds h Q:=F9 rfl rfl hp (AA hx k)
theorem As{x:Operand}(v:Value)(hp:Em dst E.N=true)(hx:AT O x=v)(k:EM E ops l (putS O dst v) ds h Q):EM E ops (⟨dst,.assign x,ty,pos,af,none⟩ ::l) O ds h Q:=F9 rfl rfl hp (DO hx k)
theorem Ld{t:TypeId}{x:Operand}{b off:Nat}(v:Value)(hp:Em dst E.N=true)(hx:AT O x=.pointer (some ⟨b,off,none⟩))(hr:Rd P h t b off v)(k:EM E ops l (putS O dst v) ds h Q):EM E ops (⟨dst,.load t x,ty,pos,af,none⟩ ::l) O ds h Q:=
 F9 rfl rfl hp (AE hx hr k)
theorem Fa{s:TypeId}{x:Operand}{f o b off:Nat}(hf:DY P s f=some o)(hp:Em dst E.N=true)(hx:AT O x=.pointer (some ⟨b,off,none⟩))(k:EM E ops l (putS O dst (.pointer (some ⟨b,off+o,none⟩))) ds h Q) :
  EM E ops (⟨dst,.fieldAddr s x f,ty,pos,af,none⟩ ::l) O ds h Q:=F9 rfl rfl hp (AG hf hx k)
theorem Pk{c a b:Operand}(t:Bool)(v:Value)(hp:Em dst E.N=true)(hc:AT O c=.bool t)(hv:(if t then AT O a else AT O b)=v)(k:EM E ops l (putS O dst v) ds h Q):EM E ops (⟨dst,.pick c a b,ty,pos,af,none⟩ ::l) O ds h Q:=
 F9 rfl rfl hp (BE hc hv k)
theorem Ad{xt yt:TypeId}{x y:Operand}(a b:Int)(hp:Em dst E.N=true)(hx:AT O x=.int .i64 a)(hy:AT O y=.int .i64 b)(hr: -9223372036854775808<=a+b/\a+b<=9223372036854775807)(k:EM E ops l (putS O dst (.int .i64 (a+b))) ds h Q) :
  EM E ops (⟨dst,.binOp .add xt x y yt,ty,pos,af,none⟩ ::l) O ds h Q:=F9 rfl rfl hp (DJ hx hy hr k)
def skipB(N:Nat)(ops:Array Oper)(o:Oper)(j d:Nat)(is:Bool):Bool:=(match o.guard with
 | some (i,w)=>i==j && w !=is
 | none=>false) && (match ops[j]? with
 | some oj=>(match oj.dst with
  | some e=>e==d
  | none=>false)
 | none=>false) && Nat.blt d N && Em o.dst N
theorem Gs(j d:Nat){is:Bool}(hv:O d=.bool is)(hs:skipB E.N ops o j d is=true)(x:EM E ops l (putS O o.dst undef) ds h Q):EM E ops (o ::l) O ds h Q:=by
 simp only [skipB,Bool.and_eq_true] at hs;obtain ⟨⟨⟨h1,h2⟩,h3⟩,h4⟩:=hs;cases hg:o.guard with
 | none=>rw [hg] at h1;cases h1
 | some q=>
  obtain ⟨i,w⟩:=q;rw [hg] at h1;simp only [Bool.and_eq_true,beq_iff_eq,bne_iff_ne,ne_eq] at h1;obtain ⟨rfl,hne⟩:=h1;cases hj:ops[i]? with
  | none=>rw [hj] at h2;cases h2
  | some oj=>
   cases hd:oj.dst with
   | none=>simp [hj,hd] at h2
   | some e=>
    obtain rfl:e=d:=by simpa [hj,hd] using h2
    exact OJ hg hj hd hv h3 hne h4 x
def goB(N:Nat)(ops:Array Oper)(o:Oper)(j d:Nat)(is:Bool):Bool:=(match o.guard with
 | some (i,w)=>i==j && w==is
 | none=>false) && (match ops[j]? with
 | some oj=>(match oj.dst with
  | some e=>e==d
  | none=>false)
 | none=>false) && Nat.blt d N && !EP o.op && Em o.dst N
theorem Gg(j d:Nat){is:Bool}(hv:O d=.bool is)(hs:goB E.N ops o j d is=true)(x:Bg E o O ds h λσ' ds' h'=>EM E ops l σ' ds' h' Q):EM E ops (o ::l) O ds h Q:=by
 simp only [goB,Bool.and_eq_true,Bool.not_eq_true'] at hs;obtain ⟨⟨⟨⟨h1,h2⟩,h3⟩,h5⟩,h4⟩:=hs;cases hg:o.guard with
 | none=>rw [hg] at h1;cases h1
 | some q=>
  obtain ⟨i,w⟩:=q;rw [hg] at h1;simp only [Bool.and_eq_true,beq_iff_eq] at h1;obtain ⟨rfl,rfl⟩:=h1;cases hj:ops[i]? with
  | none=>rw [hj] at h2;cases h2
  | some oj=>
   cases hd:oj.dst with
   | none=>simp [hj,hd] at h2
   | some e=>
    obtain rfl:e=d:=by simpa [hj,hd] using h2
    exact trL_opg hg hj hd hv h3 (.inr h5) h4 x
end
section
variable {S:Nat->Prop} {Pre:Nat->GH->Prop} {Φ:List IV} {cl:List Nat} {k d:Nat} {h h':GH} {O:Nat->Value} {ds:List Deferred} {v:Value}
theorem fS(p:GG Φ k (putS O (some d) v) v h):ds=ds/\St (EF S) Pre Φ cl k h h/\∃w,putS O (some d) v=putS O (some d) w/\GG Φ k (putS O (some d) v) w h/\((some d:Option Nat)=none->w=undef):=
 ⟨rfl,St.same,_,rfl,p,λe=>by cases e⟩
theorem fT(l:h.Le h')(m:D9 GH.Le Φ)(p:GG Φ k (putS O (some d) v) v h'):ds=ds/\St (EF S) (λ_ _=>True) Φ cl k h h'/\∃w,putS O (some d) v=putS O (some d) w/\GG Φ k (putS O (some d) v) w h'/\((some d:Option Nat)=none->w=undef):=
 ⟨rfl,St.ofLe l m (λ_ _ _ _ _=>trivial),_,rfl,p,λe=>by cases e⟩
theorem fL{Φ:List QG}(p:Ly Φ k v h):ds=ds/\GH.Le h h/\∃w,putS O (some d) v=putS O (some d) w/\Ly Φ k w h:=⟨rfl,GH.Le.refl _,_,rfl,p⟩
theorem L1{R:GH->GH->Prop}{a:Value}(x:D9 R Φ):D9 R (lE a ::Φ):=⟨λ_ _ _ _ _ y=>y,x⟩
theorem L2{R:GH->GH->Prop}{a b:Value}(x:D9 R Φ):D9 R (lE a ::lE b ::Φ):=L1 (L1 x)
theorem L4{R:GH->GH->Prop}{a b c d:Value}(x:D9 R Φ):D9 R (lE a ::lE b ::lE c ::lE d ::Φ):=L2 (L2 x)
theorem L8{R:GH->GH->Prop}{a b c d a' b' c' d':Value}(x:D9 R Φ):D9 R (lE a ::lE b ::lE c ::lE d ::lE a' ::lE b' ::lE c' ::lE d' ::Φ):=L4 (L4 x)
theorem K1{R:GH->GH->Prop}{Φ:List QG}{a:Value}(x:FU R Φ):FU R (lF a ::Φ):=⟨λ_ _ _ _ y=>y,x⟩
theorem K2{R:GH->GH->Prop}{Φ:List QG}{a b:Value}(x:FU R Φ):FU R (lF a ::lF b ::Φ):=K1 (K1 x)
theorem K4{R:GH->GH->Prop}{Φ:List QG}{a b c d:Value}(x:FU R Φ):FU R (lF a ::lF b ::lF c ::lF d ::Φ):=K2 (K2 x)
theorem K8{R:GH->GH->Prop}{Φ:List QG}{a b c d a' b' c' d':Value}(x:FU R Φ):FU R (lF a ::lF b ::lF c ::lF d ::lF a' ::lF b' ::lF c' ::lF d' ::Φ):=K4 (K4 x)
end
theorem Dk{P:Program}{E:Gy P}{S:Nat->Prop}{id:Nat}{l:List Oper}{O:Nat->Value}{ds:List Deferred}{h:GH}{Q:Post}{Φ:List IV}(_:D9 GH.Le Φ)(n:Nat)(cls:List (List Nat))(Pre:Nat->GH->Prop)
  (hm:P.follows .mixedOrders=true) (ok:FL E.N l n cls=true) (p0:∀k,k<n->Pre k h) (ind:SH l n cls Φ) (x:Jt (EF S) Pre E l n Φ O ds h Q n 0 l cls):Tr E (.region id l.toArray true) O ds h Q:=
 YT n cls Φ Pre hm ok p0 ind x
end Go.Ns
namespace Go.Ns
open Go.Conc
abbrev J(x:Int):Value:=.int .i64 x
abbrev Pt(b:Nat):Value:=.pointer (some ⟨b,0,none⟩)
abbrev Sc(b:Nat)(n c:Nat):Value:=.slice (some ⟨b,0,none⟩) n c
abbrev RN(a:Int)(b:Int)(c:List Good)(d:List AB)(e:List AF)(f:Int)(g:Int):=AZ a b c d e [if (decide (0<=f/\f<=(c.length:Int)-1)) then (0:Int) else 6,if (decide (0<=g/\g<=a)) then (0:Int) else 1]
abbrev Q23(a:List Good)(b:Nat):=decide (((¬(0<=((a.getD b Good.z).cost)/\((a.getD b Good.z).cost)<=999))\/(¬(1<=((a.getD b Good.z).pack)/\((a.getD b Good.z).pack)<=20)))\/(¬(FB ((a.getD b Good.z).low) ((a.getD b Good.z).high))))
abbrev Q24(a:Int)(b:Int)(c:List Good)(d:List AB)(e:List AF)(f:Int)(g:Int)(h:Int):=AZ a b c d e [if (decide (0<=f/\f<=(c.length:Int)-1)) then (0:Int) else 6,if (decide (1<=g/\g<=a)) then (0:Int) else 1,if (decide (g<=h/\h<=a)) then (0:Int) else 1]
abbrev RO(a:Int)(b:Int)(c:List Good)(d:List AB)(e:List AF)(f:Int):=AZ a b c d e [if (decide (0<=f/\f<=(d.length:Int)-1)) then (0:Int) else 6]
abbrev If(a:Int)(b:List Good)(c:List AB)(d:List AF)(e:Int)(f:Nat):=(AV a b c d e).getD ((f:Int)).toNat AU.zero
abbrev Q27:Array Value:=#[J 0,J 0,J 0,J 0,J 0,J 0,J 0,J 0,J 0,.bool false,.bool false,.bool false,.bool false,.bool false,.bool false]
abbrev VI(a:Int)(b:List AB):=decide ((0<=a/\a<=(b.length:Int)-1)/\(b.getD a.toNat AB.z).kind=0)
abbrev Q29(a:List Good)(b:Nat):Array Value:=#[.string ((a.getD b Good.z).name),J ((a.getD b Good.z).cost),J ((a.getD b Good.z).pack),J ((a.getD b Good.z).low),J ((a.getD b Good.z).high)]
abbrev Sz(a:Int):=Ki (Ki a (Ec a 13)) ((Ki a (Ec a 13)) / 128)
abbrev G3:Value:=.slice none 0 0
abbrev Q2c(a:List AF)(b:Nat):Array Value:=#[J ((a.getD b AF.z).good),J ((a.getD b AF.z).day),J ((a.getD b AF.z).low),J ((a.getD b AF.z).high)]
abbrev OE(a:List Int):=decide (20<(a.length:Int))
abbrev VJ(a:Int)(b:List Good):=decide (0<=a/\a<=(b.length:Int)-1)
abbrev Q2f(a:Int)(b:Int)(c:List Good)(d:List AB)(e:List AF)(f:Int):=AZ a b c d e [if (decide (0<=f/\f<=a)) then (0:Int) else 1]
abbrev Q2g(a:List Good)(b:Nat):=FB ((a.getD b Good.z).low) ((a.getD b Good.z).high)
abbrev QZ(a:List AU)(b:Int):=a.getD (b.toNat) AU.zero
abbrev OF(a:List Good)(b:Nat):=(a.getD b Good.z).pack
abbrev HQ(a:Int)(b:Int)(c:Value)(d:Value)(e:Value):Value:=.agg #[J a,J b,c,d,e]
abbrev Q2k(a:List Int)(b:List Int):=decide (((a.length:Int)<(b.length:Int))\/(((a.length:Int)=(b.length:Int))/\((QM a b)<0)))
abbrev Q2l(a:Int)(b:Int):=decide (((0<=a/\a<=b)/\b<=99)/\((b-a)<3))
abbrev Q2m(a:Array Int)(b:Nat)(c:Nat):=(a.setIfInBounds b (a[c]!)).setIfInBounds c (a[b]!)
abbrev Q2n(a:List Good)(b:Nat):Array Value:=#[J ((a.getD b Good.z).low),J ((a.getD b Good.z).high)]
abbrev RQ(a:List Good)(b:Nat):=(a.getD b Good.z).cost
abbrev RR(a:List AB)(b:Nat):=(a.getD b AB.z).kind
abbrev Q2q(a:ByteArray)(b:Nat):=decide ((¬(FF ((bytesOf a).getD b 0)))/\(((b:Int)=0)\/(¬(FN ((bytesOf a).getD b 0)))))
abbrev Qa(a:List AB)(b:Nat):=(a.getD b AB.z).day
abbrev Q2s(a:Int)(b:List AB):=decide (0<=a/\a<=(b.length:Int)-1)
abbrev QE(a:Nat):=((a:Int)-1).toNat
abbrev Q2u(a:List Int)(b:List Int):=(AU.zero.setFirsts a).setManys b
abbrev VK(a:Int)(b:Int):=decide (0<=a/\a<=b)
abbrev Q2w(a:Int)(b:Int)(c:Int)(d:Int):=decide (((a<=b)/\(b<=c))/\(c<=d))
abbrev VL(a:Int)(b:Int):Value:=.bool (decide (a<=b))
abbrev Q2y(a:Int)(b:Int):=decide ((¬(1<=a/\a<=99))\/(¬(0<=b/\b<=2)))
abbrev VM(a:List Good)(b:Nat):=(a.getD b Good.z).name
abbrev Lm(a:Int)(b:Int)(c:List Good)(d:List AB)(e:List AF):=J (Ae a b c d e)
abbrev ZK(a:List AB)(b:AU)(c:AF):=(AM a b c.good c.day).1
abbrev WU(a:List AB)(b:Nat):=(a.getD b AB.z).high
abbrev Mc(a:List Int)(b:Nat):=J (a.getD b 0)
abbrev WV(a:List AB)(b:Nat):=(a.getD b AB.z).low
abbrev Q35(a:List Int)(b:List Good):=Av a (b.length:Int)
abbrev Q36(a:List Int)(b:List AB):=Av a (b.length:Int)
abbrev Q37(a:Nat)(b:Nat)(c:Array Int)(d:Nat):=decide (((a:Int)<=(b:Int))/\(¬((c[b]!)<(c[d]!))))
abbrev Q38(a:List AB)(b:List Int)(c:List Int)(d:List Int)(e:List AF)(f:Nat):=A1 a b c d ((e.getD f AF.z).good) ((e.getD f AF.z).day) a.length
abbrev ZL(a:List AB)(b:Nat):=(a.getD b AB.z).good
abbrev Q3a(a:List Good)(b:List AB)(c:List AF):=decide (((20<(a.length:Int))\/(20<(b.length:Int)))\/(20<(c.length:Int)))
abbrev Q3b(a:AF)(b:Int):=decide ((¬(0<=a.day/\a.day<=b))\/(¬((0<=a.low/\a.low<=a.high)/\a.high<=999)))
abbrev Q3c(a:List Int):=a.getD (((a.length:Int)-1).toNat) 0
abbrev Jm(a:Int)(b:Int)(c:List Good)(d:List AB)(e:List AF)(f:List Int)(g:List Int)(h:List Int):=Ac a b c d e f g h
abbrev Q3e(a:Int)(b:Int)(c:List Good)(d:List AB)(e:List AF)(f:Int):Array Value:=#[J (B8 a b c d e f),J (Bl a b c d e f)]
abbrev Q3f(a:ByteArray)(b:Nat):=(bytesOf a).getD b 0
abbrev Q3g:=Ai AU.zero
abbrev Q3h(a:Int):=Ki a (Ec a 13)
abbrev Q3i(a:Nat)(b:Int)(c:Array Int)(d:Nat):=decide (((((2*(a:Int))+1)+1)<b)/\((c[(d+((2*a)+1))]!)<(c[((d+((2*a)+1))+1)]!)))
abbrev Q3j:Array Value:=#[.func (.func 194) #[] #[],.func (.func 195) #[] #[],.func (.func 196) #[] #[],.func (.func 197) #[] #[]]
abbrev Q3k(a:Int)(b:Int)(c:List Good)(d:List AB)(e:List AF):Array Value:=#[J (Ft a b c d e),J (Ae a b c d e)]
abbrev YG(a:List AF)(b:Nat):=a.getD b AF.z
abbrev Q3m(a:Int)(b:Int)(c:Int):=decide ((a<=b)/\(b<=c))
abbrev Q3n(a:List Good)(b:Nat):=BL (a.getD b Good.z)
abbrev Q3o(a:Array Int)(b:Nat)(c:Nat):=a.setIfInBounds b (a[c]!)
abbrev Q3p(a:List Good)(b:Nat):=(a.getD b Good.z).high
abbrev Q3q(a:Nat):=J ((a:Int)+1)
abbrev Q3r(a:AF):Array Value:=#[J a.good,J a.day,J a.low,J a.high]
abbrev Q3s(a:Nat)(b:Nat):=J ((a:Int)-(b:Int))
abbrev Q3t(a:List Good)(b:Nat):=(a.getD b Good.z).low
abbrev Q3u(a:Nat)(b:Nat)(c:Array Int):=decide (((a:Int)<(b:Int))/\((c[b]!)<(c[((b:Int)-1).toNat]!)))
abbrev Q3v(a:List AB)(b:Nat):=BB (a.getD b AB.z)
abbrev Q3w(a:Nat)(b:Array Int)(c:Nat):=decide ((0<(a:Int))/\(¬((b[((a:Int)-1).toNat]!)<(b[c]!))))
abbrev Q3x(a:List Int)(b:Nat)(c:List Int):=QL (a.getD b 0) (c.getD b 0)
abbrev Q3y(a:ByteArray):=decide (((a.size:Int)<1)\/(10<(a.size:Int)))
abbrev Hv(a:Int)(b:Int)(c:List Good)(d:List AB)(e:List AF)(f:List Int)(g:List Int)(h:List Int):=BS a b c d e f g h
abbrev Q40(a:Int):=decide ((97<=a)/\(a<=122))
abbrev Q41(a:Array Int)(b:Nat)(c:Nat):=decide (¬((a[b]!)<(a[c]!)))
abbrev Q42(a:Int):=decide ((48<=a)/\(a<=57))
abbrev Q43(a:Int):=decide (¬(0<=a/\a<=99))
abbrev C3(a:Int)(b:Int)(c:Value)(d:Value)(e:Value):Array Value:=#[J a,J b,c,d,e]
abbrev Q45(a:Int)(b:Int):=decide (1<=a/\a<=b)
abbrev Q46(a:Nat)(b:Nat):=decide ((a:Int)<=(b:Int))
abbrev Q47(a:Int):=decide (¬(0<=a/\a<=2))
abbrev Q48(a:List AB)(b:AU)(c:Nat)(d:Int):Array Value:=#[J ((AM a b (c:Int) d).1),J ((AM a b (c:Int) d).2)]
abbrev Q49(a:List AF):=Cx a 0 a.length
abbrev Q4a(a:List AB):=B4 a a.length
end Go.Ns
namespace Go.Ns
open Go.Conc Go.Proofs Go.Proofs.Tryz
theorem GZ:IR prog 102 102=some (27,1,24):=by kernel_rfl
theorem Qb:IR prog 105 105=some (119,15,80):=by kernel_rfl
theorem K3:IR prog 182 182=some (31,2,16):=by kernel_rfl
theorem fx_app22_22:IR prog 22 22=some (99,5,48):=by kernel_rfl
theorem Uj:IR prog 23 23=some (75,5,40):=by kernel_rfl
theorem Uk:IR prog 24 24=some (79,4,32):=by kernel_rfl
theorem B5:IR prog 27 27=some (3,1,8):=by kernel_rfl
theorem Nk:IR prog 69 69=some (57,3,72):=by kernel_rfl
theorem ZM:Xp prog 117=some (6,false,1):=by kernel_rfl
theorem ZN:Xp prog 135=some (4,false,1):=by kernel_rfl
theorem Ig:NQ prog 115=some (3,1):=by kernel_rfl
theorem Ih:NQ prog 116=some (6,1):=by kernel_rfl
theorem HR:NQ prog 117=some (6,1):=by kernel_rfl
theorem ZO:NQ prog 174=some (5,2):=by kernel_rfl
theorem WW:AP Tryz.f100=true:=by kernel_rfl
theorem PW:AP Tryz.f101=true:=by kernel_rfl
theorem PX:AP Tryz.f102=true:=by kernel_rfl
theorem WX:AP Tryz.f103=true:=by kernel_rfl
theorem PY:AP Tryz.f104=true:=by kernel_rfl
theorem LS:AP Tryz.f105=true:=by kernel_rfl
theorem WY:AP Tryz.f106=true:=by kernel_rfl
theorem PZ:AP Tryz.f107=true:=by kernel_rfl
theorem Pa:AP Tryz.f108=true:=by kernel_rfl
theorem WZ:AP Tryz.f109=true:=by kernel_rfl
theorem JS:AP Tryz.f110=true:=by kernel_rfl
theorem LT:AP Tryz.f111=true:=by kernel_rfl
theorem fx_call112:AP Tryz.f112=true:=by kernel_rfl
theorem fx_call113:AP Tryz.f113=true:=by kernel_rfl
theorem Pb:AP Tryz.f114=true:=by kernel_rfl
theorem LU:AP Tryz.f115=true:=by kernel_rfl
theorem Wa:AP Tryz.f116=true:=by kernel_rfl
theorem Pc:AP Tryz.f117=true:=by kernel_rfl
theorem Wb:AP Tryz.f118=true:=by kernel_rfl
theorem Wc:AP Tryz.f119=true:=by kernel_rfl
theorem ZP:AP Tryz.f12=true:=by kernel_rfl
theorem LV:AP Tryz.f120=true:=by kernel_rfl
theorem Wd:AP Tryz.f121=true:=by kernel_rfl
theorem fx_call122:AP Tryz.f122=true:=by kernel_rfl
theorem We:AP Tryz.f124=true:=by kernel_rfl
theorem Wf:AP Tryz.f125=true:=by kernel_rfl
theorem fx_call126:AP Tryz.f126=true:=by kernel_rfl
theorem fx_call127:AP Tryz.f127=true:=by kernel_rfl
theorem Pd:AP Tryz.f129=true:=by kernel_rfl
theorem RS:AP Tryz.f13=true:=by kernel_rfl
theorem Wg:AP Tryz.f136=true:=by kernel_rfl
theorem Wh:AP Tryz.f137=true:=by kernel_rfl
theorem Wi:AP Tryz.f138=true:=by kernel_rfl
theorem Wj:AP Tryz.f139=true:=by kernel_rfl
theorem ZQ:AP Tryz.f14=true:=by kernel_rfl
theorem Pe:AP Tryz.f140=true:=by kernel_rfl
theorem Pf:AP Tryz.f141=true:=by kernel_rfl
theorem Wl:AP Tryz.f142=true:=by kernel_rfl
theorem Pg:AP Tryz.f143=true:=by kernel_rfl
theorem Wm:AP Tryz.f144=true:=by kernel_rfl
theorem Wn:AP Tryz.f145=true:=by kernel_rfl
theorem Wo:AP Tryz.f146=true:=by kernel_rfl
theorem LW:AP Tryz.f147=true:=by kernel_rfl
theorem Ph:AP Tryz.f148=true:=by kernel_rfl
theorem LX:AP Tryz.f149=true:=by kernel_rfl
theorem LY:AP Tryz.f150=true:=by kernel_rfl
theorem fx_call151:AP Tryz.f151=true:=by kernel_rfl
theorem fx_call152:AP Tryz.f152=true:=by kernel_rfl
theorem LZ:AP Tryz.f153=true:=by kernel_rfl
theorem Pi:AP Tryz.f154=true:=by kernel_rfl
theorem Wp:AP Tryz.f155=true:=by kernel_rfl
theorem Wq:AP Tryz.f156=true:=by kernel_rfl
theorem Wr:AP Tryz.f157=true:=by kernel_rfl
theorem Ws:AP Tryz.f158=true:=by kernel_rfl
theorem Wt:AP Tryz.f159=true:=by kernel_rfl
theorem ZR:AP Tryz.f16=true:=by kernel_rfl
theorem Wu:AP Tryz.f160=true:=by kernel_rfl
theorem Wv:AP Tryz.f161=true:=by kernel_rfl
theorem Ww:AP Tryz.f162=true:=by kernel_rfl
theorem Wx:AP Tryz.f163=true:=by kernel_rfl
theorem Wy:AP Tryz.f164=true:=by kernel_rfl
theorem Wz:AP Tryz.f165=true:=by kernel_rfl
theorem Cj:AP Tryz.f166=true:=by kernel_rfl
theorem W0:AP Tryz.f167=true:=by kernel_rfl
theorem W1:AP Tryz.f168=true:=by kernel_rfl
theorem W3:AP Tryz.f170=true:=by kernel_rfl
theorem La:AP Tryz.f171=true:=by kernel_rfl
theorem Pj:AP Tryz.f172=true:=by kernel_rfl
theorem W4:AP Tryz.f173=true:=by kernel_rfl
theorem W5:AP Tryz.f174=true:=by kernel_rfl
theorem Lb:AP Tryz.f175=true:=by kernel_rfl
theorem Pm:AP Tryz.f176=true:=by kernel_rfl
theorem Lc:AP Tryz.f177=true:=by kernel_rfl
theorem ZS:AP Tryz.f18=true:=by kernel_rfl
theorem W6:AP Tryz.f194=true:=by kernel_rfl
theorem W7:AP Tryz.f195=true:=by kernel_rfl
theorem W8:AP Tryz.f196=true:=by kernel_rfl
theorem W9:AP Tryz.f197=true:=by kernel_rfl
theorem XA:AP Tryz.f198=true:=by kernel_rfl
theorem XB:AP Tryz.f199=true:=by kernel_rfl
theorem ZT:AP Tryz.f20=true:=by kernel_rfl
theorem XC:AP Tryz.f200=true:=by kernel_rfl
theorem Pn:AP Tryz.f201=true:=by kernel_rfl
theorem XD:AP Tryz.f202=true:=by kernel_rfl
theorem Po:AP Tryz.f203=true:=by kernel_rfl
theorem Lf:AP Tryz.f204=true:=by kernel_rfl
theorem Ii:AP Tryz.f22=true:=by kernel_rfl
theorem RT:AP Tryz.f23=true:=by kernel_rfl
theorem RU:AP Tryz.f24=true:=by kernel_rfl
theorem GN:AP Tryz.f25=true:=by kernel_rfl
theorem KV:AP Tryz.f26=true:=by kernel_rfl
theorem ZU:AP Tryz.f27=true:=by kernel_rfl
theorem ZV:AP Tryz.f28=true:=by kernel_rfl
theorem RV:AP Tryz.f29=true:=by kernel_rfl
theorem ZW:AP Tryz.f30=true:=by kernel_rfl
theorem RW:AP Tryz.f31=true:=by kernel_rfl
theorem ZX:AP Tryz.f32=true:=by kernel_rfl
theorem RX:AP Tryz.f33=true:=by kernel_rfl
theorem ZY:AP Tryz.f34=true:=by kernel_rfl
theorem M7:AP Tryz.f35=true:=by kernel_rfl
theorem ZZ:AP Tryz.f36=true:=by kernel_rfl
theorem fx_call37:AP Tryz.f37=true:=by kernel_rfl
theorem Za:AP Tryz.f40=true:=by kernel_rfl
theorem Zb:AP Tryz.f41=true:=by kernel_rfl
theorem KW:AP Tryz.f42=true:=by kernel_rfl
theorem Ij:AP Tryz.f43=true:=by kernel_rfl
theorem fx_call45:AP Tryz.f45=true:=by kernel_rfl
theorem fx_call47:AP Tryz.f47=true:=by kernel_rfl
theorem RY:AP Tryz.f49=true:=by kernel_rfl
theorem RZ:AP Tryz.f50=true:=by kernel_rfl
theorem fx_call51:AP Tryz.f51=true:=by kernel_rfl
theorem fx_call52:AP Tryz.f52=true:=by kernel_rfl
theorem Zc:AP Tryz.f53=true:=by kernel_rfl
theorem Zd:AP Tryz.f58=true:=by kernel_rfl
theorem DD:AP Tryz.f59=true:=by kernel_rfl
theorem EK:AP Tryz.f60=true:=by kernel_rfl
theorem fx_call63:AP Tryz.f63=true:=by kernel_rfl
theorem Ra:AP Tryz.f65=true:=by kernel_rfl
theorem Ze:AP Tryz.f73=true:=by kernel_rfl
theorem Zf:AP Tryz.f74=true:=by kernel_rfl
theorem C4:AP Tryz.f75=true:=by kernel_rfl
theorem Ik:AP Tryz.f76=true:=by kernel_rfl
theorem Il:AP Tryz.f77=true:=by kernel_rfl
theorem GO:AP Tryz.f78=true:=by kernel_rfl
theorem B9:AP Tryz.f79=true:=by kernel_rfl
theorem M8:AP Tryz.f80=true:=by kernel_rfl
theorem Im:AP Tryz.f81=true:=by kernel_rfl
theorem Zg:AP Tryz.f82=true:=by kernel_rfl
theorem M9:AP Tryz.f83=true:=by kernel_rfl
theorem KX:AP Tryz.f84=true:=by kernel_rfl
theorem Rb:AP Tryz.f85=true:=by kernel_rfl
theorem Zh:AP Tryz.f86=true:=by kernel_rfl
theorem fx_call87:AP Tryz.f87=true:=by kernel_rfl
theorem Zi:AP Tryz.f88=true:=by kernel_rfl
theorem KY:AP Tryz.f89=true:=by kernel_rfl
theorem Rc:AP Tryz.f90=true:=by kernel_rfl
theorem Zj:AP Tryz.f91=true:=by kernel_rfl
theorem Re:AP Tryz.f92=true:=by kernel_rfl
theorem Zk:AP Tryz.f93=true:=by kernel_rfl
theorem Rf:AP Tryz.f94=true:=by kernel_rfl
theorem KZ:AP Tryz.f95=true:=by kernel_rfl
theorem Zl:AP Tryz.f96=true:=by kernel_rfl
theorem Zm:AP Tryz.f97=true:=by kernel_rfl
theorem Zn:AP Tryz.f98=true:=by kernel_rfl
theorem Zo:AP Tryz.f99=true:=by kernel_rfl
theorem Zp:prog.eqGuardType prog.depth 115=false:=by kernel_rfl
theorem Zq:prog.eqGuardType prog.depth 116=false:=by kernel_rfl
theorem Pp:prog.eqGuardType prog.depth 31=false:=by kernel_rfl
theorem fx_eqg75:prog.eqGuardType prog.depth 75=false:=by kernel_rfl
theorem fx_eqg79:prog.eqGuardType prog.depth 79=false:=by kernel_rfl
theorem fx_eqg99:prog.eqGuardType prog.depth 99=false:=by kernel_rfl
theorem Dr:EN prog 102=some 1:=by kernel_rfl
theorem Ka:EN prog 105=some 15:=by kernel_rfl
theorem Kb:EN prog 165=some 1:=by kernel_rfl
theorem Rh:EN prog 182=some 2:=by kernel_rfl
theorem Dz:EN prog 22=some 5:=by kernel_rfl
theorem Cd:EN prog 23=some 5:=by kernel_rfl
theorem Zr:EN prog 230=some 1:=by kernel_rfl
theorem KA:EN prog 24=some 4:=by kernel_rfl
theorem AR:EN prog 27=some 1:=by kernel_rfl
theorem fx_esz55:EN prog 55=some 1:=by kernel_rfl
theorem Pq:EN prog 69=some 3:=by kernel_rfl
theorem A3:DY prog 104 0=some 0:=by kernel_rfl
theorem IB:DY prog 108 0=some 0:=by kernel_rfl
theorem C7:DY prog 108 1=some 5:=by kernel_rfl
theorem Nm:DY prog 108 2=some 6:=by kernel_rfl
theorem Ev:DY prog 119 0=some 0:=by kernel_rfl
theorem Ew:DY prog 119 1=some 3:=by kernel_rfl
theorem Ex:DY prog 119 2=some 9:=by kernel_rfl
theorem Ul:DY prog 173 1=some 1:=by kernel_rfl
theorem CT:DY prog 26 0=some 0:=by kernel_rfl
theorem Ey:DY prog 26 1=some 1:=by kernel_rfl
theorem BG:DY prog 26 2=some 2:=by kernel_rfl
theorem A4:DY prog 26 3=some 3:=by kernel_rfl
theorem C0:DY prog 26 4=some 4:=by kernel_rfl
theorem CZ:DY prog 31 0=some 0:=by kernel_rfl
theorem Ca:DY prog 31 1=some 1:=by kernel_rfl
theorem JT:DY prog 57 0=some 0:=by kernel_rfl
theorem Lg:DY prog 57 1=some 1:=by kernel_rfl
theorem GP:DY prog 57 2=some 2:=by kernel_rfl
theorem Ez:DY prog 75 0=some 0:=by kernel_rfl
theorem GQ:DY prog 75 1=some 1:=by kernel_rfl
theorem C1:DY prog 75 2=some 2:=by kernel_rfl
theorem D6:DY prog 75 3=some 3:=by kernel_rfl
theorem JU:DY prog 79 0=some 0:=by kernel_rfl
theorem JV:DY prog 79 1=some 1:=by kernel_rfl
theorem GR:DY prog 79 2=some 2:=by kernel_rfl
theorem FX:DY prog 99 0=some 0:=by kernel_rfl
theorem JW:DY prog 99 1=some 1:=by kernel_rfl
theorem Hn:DY prog 99 2=some 2:=by kernel_rfl
theorem EV:DY prog 99 3=some 3:=by kernel_rfl
theorem Zs:(prog.info? 27).isSome=true:=by kernel_rfl
theorem Ri:(prog.info? 27).map (·.zero)=some (some (.slice none 0 0)):=by kernel_rfl
theorem Pr:Mo prog 188=some .u64:=by kernel_rfl
theorem XE:Mo prog 204=some .u64:=by kernel_rfl
theorem E0:Mo prog 3=some .i64:=by kernel_rfl
theorem Gn:Mo prog 5=some .u8:=by kernel_rfl
theorem Rj:Kn prog 106=some (168,3):=by kernel_rfl
theorem NA:Kn prog 159=some (3,3):=by kernel_rfl
theorem Rk:∀a:Key,ckP prog 3 168 (Kh a)=true:=by intros;kernel_rfl
theorem NB:∀a:Int,ckP prog 3 3 (Ei a)=true:=by intros;kernel_rfl
theorem NC:∀a b:Int,N6 prog 3 3 (Ei a) (Ei b)=some (a==b):=by intros;kernel_rfl
theorem Rl:∀a b:Key,N6 prog 3 168 (Kh a) (Kh b)=some (a.1==b.1 && (a.2.1==b.2.1 && (a.2.2==b.2.2 && true))):=by intros;kernel_rfl
theorem Ah:prog.follows .mixedOrders=true:=by kernel_rfl
theorem fx_mz106:(prog.info? 3).bind (·.zero)=some (.int .i64 0):=by kernel_rfl
theorem Um:(prog.info? 3).bind (·.zero)=some (.int .i64 0):=by kernel_rfl
theorem Di:EY prog 104=some [(0,5)]:=by kernel_rfl
theorem Gp:EY prog 108=some [(0,5),(5,1),(6,1)]:=by kernel_rfl
theorem In:EY prog 119=some [(0,3),(3,6),(9,6)]:=by kernel_rfl
theorem fx_pl168:EY prog 168=some [(0,1),(1,1),(2,1)]:=by kernel_rfl
theorem fx_pl26:EY prog 26=some [(0,1),(1,1),(2,1),(3,1),(4,1)]:=by kernel_rfl
theorem JX:EY prog 31=some [(0,1),(1,1)]:=by kernel_rfl
theorem S0:EY prog 57=some [(0,1),(1,1),(2,1)]:=by kernel_rfl
theorem OG:EY prog 75=some [(0,1),(1,1),(2,1),(3,2)]:=by kernel_rfl
theorem YH:EY prog 79=some [(0,1),(1,1),(2,2)]:=by kernel_rfl
theorem YI:EY prog 99=some [(0,1),(1,1),(2,1),(3,2)]:=by kernel_rfl
theorem Un:s2bOf prog 9 230=some 5:=by kernel_rfl
theorem GS:Du prog 102=some (1,#[.slice none 0 0],27):=by kernel_rfl
theorem Zt:Du prog 105=some (15,#[.int .i64 0,.int .i64 0,.int .i64 0,.int .i64 0,.int .i64 0,.int .i64 0,.int .i64 0,.int .i64 0,.int .i64 0,.bool false,.bool false,.bool false,.bool false,.bool false,.bool false],119):=by kernel_rfl
theorem EL:Du prog 165=some (1,#[.int .i64 0],32):=by kernel_rfl
theorem Rm:Du prog 182=some (2,#[.int .i64 0,.int .i64 0],31):=by kernel_rfl
theorem fx_sel22:Du prog 22=some (5,#[.string ⟨#[]⟩,.int .i64 0,.int .i64 0,.int .i64 0,.int .i64 0],99):=by kernel_rfl
theorem Uo:Du prog 23=some (5,#[.int .i64 0,.int .i64 0,.int .i64 0,.int .i64 0,.int .i64 0],75):=by kernel_rfl
theorem Up:Du prog 24=some (4,#[.int .i64 0,.int .i64 0,.int .i64 0,.int .i64 0],79):=by kernel_rfl
theorem By:Du prog 27=some (1,#[.int .i64 0],3):=by kernel_rfl
theorem fx_sel69:Du prog 69=some (3,#[.slice none 0 0,.slice none 0 0,.slice none 0 0],57):=by kernel_rfl
theorem Fz:Jp prog 102=true:=by kernel_rfl
theorem Gq:Jp prog 105=true:=by kernel_rfl
theorem Ps:Jp prog 165=true:=by kernel_rfl
theorem fx_sl182:Jp prog 182=true:=by kernel_rfl
theorem Cn:Jp prog 22=true:=by kernel_rfl
theorem C2:Jp prog 23=true:=by kernel_rfl
theorem fx_sl230:Jp prog 230=true:=by kernel_rfl
theorem HD:Jp prog 24=true:=by kernel_rfl
theorem B2:Jp prog 27=true:=by kernel_rfl
theorem fx_sl55:Jp prog 55=true:=by kernel_rfl
theorem Kc:Jp prog 69=true:=by kernel_rfl
theorem EW:OR prog 9=true:=by kernel_rfl
theorem KB:CV prog 102=some (false,1):=by kernel_rfl
theorem Bz:CV prog 104=some (true,5):=by kernel_rfl
theorem Dj:CV prog 105=some (false,1):=by kernel_rfl
theorem Uq:CV prog 106=some (false,1):=by kernel_rfl
theorem BH:CV prog 108=some (true,7):=by kernel_rfl
theorem Ur:CV prog 115=some (true,3):=by kernel_rfl
theorem Us:CV prog 116=some (true,6):=by kernel_rfl
theorem fx_ty117:CV prog 117=some (true,6):=by kernel_rfl
theorem BX:CV prog 119=some (true,15):=by kernel_rfl
theorem fx_ty120:CV prog 120=some (false,1):=by kernel_rfl
theorem fx_ty135:CV prog 135=some (true,4):=by kernel_rfl
theorem fx_ty138:CV prog 138=some (false,1):=by kernel_rfl
theorem Md:CV prog 147=some (false,1):=by kernel_rfl
theorem Pu:CV prog 168=some (true,3):=by kernel_rfl
theorem fx_ty179:CV prog 179=some (false,1):=by kernel_rfl
theorem Ho:CV prog 181=some (false,1):=by kernel_rfl
theorem E1:CV prog 204=some (false,1):=by kernel_rfl
theorem CC:CV prog 22=some (false,1):=by kernel_rfl
theorem Be:CV prog 23=some (false,1):=by kernel_rfl
theorem El:CV prog 24=some (false,1):=by kernel_rfl
theorem Ak:CV prog 26=some (true,5):=by kernel_rfl
theorem CY:CV prog 27=some (false,1):=by kernel_rfl
theorem AN:CV prog 3=some (false,1):=by kernel_rfl
theorem Bt:CV prog 31=some (true,2):=by kernel_rfl
theorem OH:CV prog 32=some (false,1):=by kernel_rfl
theorem IM:CV prog 4=some (false,1):=by kernel_rfl
theorem fx_ty5:CV prog 5=some (false,1):=by kernel_rfl
theorem EA:CV prog 57=some (true,3):=by kernel_rfl
theorem IC:CV prog 73=some (false,1):=by kernel_rfl
theorem Ga:CV prog 75=some (true,5):=by kernel_rfl
theorem HE:CV prog 79=some (true,4):=by kernel_rfl
theorem Lh:CV prog 9=some (false,1):=by kernel_rfl
theorem F0:CV prog 99=some (true,5):=by kernel_rfl
theorem fx_und179:(prog.underlying 179).isSome=true:=by kernel_rfl
theorem Zu:(prog.underlying 188).isSome=true:=by kernel_rfl
theorem Ff:(prog.underlying 203).isSome=true:=by kernel_rfl
theorem S1:(prog.underlying 3).isSome=true:=by kernel_rfl
theorem Gb:(prog.underlying 5).isSome=true:=by kernel_rfl
theorem Hp:prog.underlying 147=some (.chan .both 27):=by kernel_rfl
theorem XF:CF prog 102=some #[.slice none 0 0]:=by kernel_rfl
theorem Bv:CF prog 104=some #[.int .i64 0,.int .i64 0,.slice none 0 0,.slice none 0 0,.slice none 0 0]:=by kernel_rfl
theorem XG:CF prog 105=some #[.slice none 0 0]:=by kernel_rfl
theorem BV:CF prog 108=some #[.int .i64 0,.int .i64 0,.slice none 0 0,.slice none 0 0,.slice none 0 0,.slice none 0 0,.map none]:=by kernel_rfl
theorem DE:CF prog 119=some #[.int .i64 0,.int .i64 0,.int .i64 0,.int .i64 0,.int .i64 0,.int .i64 0,.int .i64 0,.int .i64 0,.int .i64 0,.bool false,.bool false,.bool false,.bool false,.bool false,.bool false]:=by kernel_rfl
theorem XH:CF prog 147=some #[.chan none]:=by kernel_rfl
theorem Pv:CF prog 168=some #[.int .i64 0,.int .i64 0,.int .i64 0]:=by kernel_rfl
theorem Pw:CF prog 181=some #[.nilFunc]:=by kernel_rfl
theorem XI:CF prog 204=some #[.int .u64 0]:=by kernel_rfl
theorem ND:CF prog 26=some #[.int .i64 0,.int .i64 0,.slice none 0 0,.slice none 0 0,.slice none 0 0]:=by kernel_rfl
theorem Zv:CF prog 27=some #[.slice none 0 0]:=by kernel_rfl
theorem fx_zero3:CF prog 3=some #[.int .i64 0]:=by kernel_rfl
theorem Cm:CF prog 31=some #[.int .i64 0,.int .i64 0]:=by kernel_rfl
theorem fx_zero32:CF prog 32=some #[.int .i64 0]:=by kernel_rfl
theorem fx_zero4:CF prog 4=some #[.bool false]:=by kernel_rfl
theorem HT:CF prog 57=some #[.slice none 0 0,.slice none 0 0,.slice none 0 0]:=by kernel_rfl
theorem E8:CF prog 75=some #[.int .i64 0,.int .i64 0,.int .i64 0,.int .i64 0,.int .i64 0]:=by kernel_rfl
theorem Io:CF prog 79=some #[.int .i64 0,.int .i64 0,.int .i64 0,.int .i64 0]:=by kernel_rfl
theorem GT:CF prog 99=some #[.string ⟨#[]⟩,.int .i64 0,.int .i64 0,.int .i64 0,.int .i64 0]:=by kernel_rfl
end Go.Ns
namespace Go.Ns
open Go.Conc Go.Proofs Go.Proofs.Tryz
attribute [local irreducible] Bg EM Tr Af Cl CD
theorem Bd{W:Wk prog}{h:GH}(n:Int)(lo:Int)(hi:Int):Af W 79 #[J n,J lo,J hi] h (λv h'=>v=(.bool (decide (lo<=n/\n<=hi)):Value)/\h=h'):=by
 refine AJ func79 Z (Nb Z) (Sq (Rg (As (.bool false) Z Z (Nl (BD (λσ' ds' h'=>ds'=[]/\h=h'/\σ' 6=.bool (Q3m lo n hi)) ?_ ?_)))))
 ·refine Rg (Mv (J lo) Z Z (Mv (J n) Z Z (Pl Z (DA (a:=lo) (b:=n) Z Z (Mv (VL lo n) Z Z (BQ (p:=lo<=n) ?_ ?_))))))
  ·intro aa;exact Gg 3 10 (AD Z aa) Z (AA (v:=J n) Z (Gg 3 10 (AD Z aa) Z (AA (v:=J hi) Z (Gg 3 10 (AD Z aa) Z (DA (a:=n) (b:=hi) Z Z (Pk true (VL n hi) Z (AD Z aa) Z (As (VL n hi) Z Z (Nl (⟨Z,Z,Et (b:=(.bool (decide (n<=hi)):Value)) Z (congrArg Value.bool (by (simp [aa];done):decide (n<=hi)=(Q3m lo n hi)))⟩)))))))))
  ·intro aa;exact Gs 3 10 (AC Z aa) Z (Gs 3 10 (AC Z aa) Z (Gs 3 10 (AC Z aa) Z (Pk false (.bool false) Z (AC Z aa) Z (As (.bool false) Z Z (Nl (⟨Z,Z,Et (b:=(.bool false:Value)) Z (congrArg Value.bool (by (simp [aa];done):false=(Q3m lo n hi)))⟩))))))
 ·rintro _ _ _ ⟨ac,ab,ad⟩;subst ac;subst ab;exact Rt (⟨.inr Z,Ag Z (v:=.bool (Q3m lo n hi)) ad (⟨(by rfl),Z⟩)⟩)
theorem Px{W:Wk prog}{h:GH}(xl:Int)(xh:Int)(lo:Int)(hi:Int):Af W 129 #[.agg #[J xl,J xh],J lo,J hi] h (λv h'=>v=(.bool (decide ((lo<=xl/\xl<=xh)/\xh<=hi)):Value)/\h.Le h'):=by
 refine AJ func129 Z (Nb Z) (Sq (Rg (Pl Z (Ap (v:=.agg #[J xl,J xh]) (c:=#[J xl,J xh]) Z Z λ_ h2 _ ae ad _=>As (.bool false) Z Z (Nl (BD (λσ' ds' h'=>ds'=[]/\h2=h'/\σ' 6=.bool (Q2w lo xl xh hi)) ?_ ?_))))))
 ·refine Rg (Mv (J lo) Z Z (Fa CZ Z Z (Ld (J xl) Z Z (Rd.one AN ad Z) (Pl Z (DA (a:=lo) (b:=xl) Z Z (Mv (VL lo xl) Z Z (BQ (p:=lo<=xl) ?_ ?_)))))))
  ·intro aa;refine Gg 4 11 (AD Z aa) Z (AG CZ Z (Gg 4 11 (AD Z aa) Z (AE (v:=J xl) Z (Rd.one AN ad Z) (Gg 4 11 (AD Z aa) Z (AG Ca Z (Gg 4 11 (AD Z aa) Z (AE (v:=J xh) Z (Rd.one AN ad Z) (Gg 4 11 (AD Z aa) Z (DA (a:=xl) (b:=xh) Z Z (Pk true (VL xl xh) Z (AD Z aa) Z (Mv (VL xl xh) Z Z (BQ (p:=xl<=xh) ?_ ?_))))))))))))
   ·intro ab;exact Gg 11 18 (AD Z ab) Z (AG Ca Z (Gg 11 18 (AD Z ab) Z (AE (v:=J xh) Z (Rd.one AN ad Z) (Gg 11 18 (AD Z ab) Z (AA (v:=J hi) Z (Gg 11 18 (AD Z ab) Z (DA (a:=xh) (b:=hi) Z Z (Pk true (VL xh hi) Z (AD Z ab) Z (As (VL xh hi) Z Z (Nl (⟨Z,Z,Et (b:=(.bool (decide (xh<=hi)):Value)) Z (congrArg Value.bool (by (simp [aa,ab];done):decide (xh<=hi)=(Q2w lo xl xh hi)))⟩)))))))))))
   ·intro ab;exact Gs 11 18 (AC Z ab) Z (Gs 11 18 (AC Z ab) Z (Gs 11 18 (AC Z ab) Z (Gs 11 18 (AC Z ab) Z (Pk false (.bool false) Z (AC Z ab) Z (As (.bool false) Z Z (Nl (⟨Z,Z,Et (b:=(.bool false:Value)) Z (congrArg Value.bool (by (simp [aa,ab];done):false=(Q2w lo xl xh hi)))⟩)))))))
  ·intro aa;exact Gs 4 11 (AC Z aa) Z (Gs 4 11 (AC Z aa) Z (Gs 4 11 (AC Z aa) Z (Gs 4 11 (AC Z aa) Z (Gs 4 11 (AC Z aa) Z (Pk false (.bool false) Z (AC Z aa) Z (Mv (.bool false) Z Z (Gs 11 18 Z Z (Gs 11 18 Z Z (Gs 11 18 Z Z (Gs 11 18 Z Z (Pk false (.bool false) Z Z Z (As (.bool false) Z Z (Nl (⟨Z,Z,Et (b:=(.bool false:Value)) Z (congrArg Value.bool (by (simp [aa];done):false=(Q2w lo xl xh hi)))⟩))))))))))))))
 ·rintro _ _ _ ⟨af,ac,ag⟩;subst af;subst ac;exact Rt (⟨.inr Z,Ag Z (v:=.bool (Q2w lo xl xh hi)) ag (⟨(by rfl),ae⟩)⟩)
theorem Ut{W:Wk prog}{h:GH}(xl:Int)(xh:Int):Af W 201 #[.agg #[J xl,J xh]] h (λv h'=>v=(.bool (decide (FB xl xh)):Value)/\h.Le h'):=by
 refine AJ func201 Z (Nb Z) (Sq (Rg (Pl Z (Ap (v:=.agg #[J xl,J xh]) (c:=#[J xl,J xh]) Z Z λ_ h2 _ ae ah _=>As (.bool false) Z Z (Nl (BD (λσ' ds' h'=>ds'=[]/\GH.Le h2 h'/\σ' 2=.bool (Q2l xl xh)) ?_ ?_))))))
 ·refine Rg (Ld (.agg #[J xl,J xh]) Z Z (AO Bt (Bx ah Z)) (Pl Z (Az func129 Pd Z Z Z ((Px xl xh 0 99 ).mono λ_ _ ai=>?_))));obtain ⟨rfl,ab⟩:=ai;refine Mv (.bool (decide ((0<=xl/\xl<=xh)/\xh<=99))) Z Z (BQ (p:=(0<=xl/\xl<=xh)/\xh<=99) ?_ ?_)
  ·intro aa;exact Gg 2 5 (AD Z aa) Z (AG Ca Z (have ac:=ab.keep ah Z;Gg 2 5 (AD Z aa) Z (AE (v:=J xh) Z (Rd.one AN ac Z) (Gg 2 5 (AD Z aa) Z (AG CZ Z (Gg 2 5 (AD Z aa) Z (AE (v:=J xl) Z (Rd.one AN ac Z) (Gg 2 5 (AD Z aa) Z (BK (a:=xh) (b:=xl) Z Z (by omega) (Gg 2 5 (AD Z aa) Z (A0 (a:=xh-xl) (b:=3) Z Z (Pk true (.bool (decide ((xh-xl)<3))) Z (AD Z aa) Z (As (.bool (decide ((xh-xl)<3))) Z Z (Nl (⟨Z,ab,Et (b:=(.bool (decide ((xh-xl)<3)):Value)) Z (congrArg Value.bool (by (simp [aa];done):decide ((xh-xl)<3)=(Q2l xl xh)))⟩)))))))))))))))
  ·intro aa;exact Gs 2 5 (AC Z aa) Z (Gs 2 5 (AC Z aa) Z (Gs 2 5 (AC Z aa) Z (Gs 2 5 (AC Z aa) Z (Gs 2 5 (AC Z aa) Z (Gs 2 5 (AC Z aa) Z (Pk false (.bool false) Z (AC Z aa) Z (As (.bool false) Z Z (Nl (⟨Z,ab,Et (b:=(.bool false:Value)) Z (congrArg Value.bool (by (simp [aa];done):false=(Q2l xl xh)))⟩)))))))))
 ·rintro _ _ _ ⟨af,ad,ag⟩;subst af;exact Rt (⟨.inr Z,Ag Z (v:=.bool (Q2l xl xh)) ag (⟨(by rfl),(ae.trans ad)⟩)⟩)
theorem F1{W:Wk prog}{h:GH}(b:Bool):Af W 76 #[.bool b] h (λv h'=>v=(J (if b then (0:Int) else 6):Value)/\h=h'):=by
 refine AJ func76 Z (Nb Z) (Sq (Rg (As (J 0) Z Z (Nl (Sq (Sq (Rg (Mv (.bool b) Z Z (Pl Z (EQ (b:=b) Z (Nl (DI (t:= !b) Z (λaa=>?_) (λaa=>?_)))))))))))))
 ·have hc1_:b=false:=by simpa using aa
  exact Sq (Rg (As (J 6) Z Z (Nl (Rt (⟨.inr Z,Ag Z (v:=J 6) Z (⟨(by simp_all),Z⟩)⟩)))))
 ·have hc1_:b=true:=by simpa using aa
  exact Sk (Sq (Rg (As (J 0) Z Z (Nl (Rt (⟨.inr Z,Ag Z (v:=J 0) Z (⟨(by simp_all),Z⟩)⟩))))))
theorem FY{W:Wk prog}{h:GH}(b:Bool):Af W 78 #[.bool b] h (λv h'=>v=(J (if b then (0:Int) else 1):Value)/\h=h'):=by
 refine AJ func78 Z (Nb Z) (Sq (Rg (As (J 0) Z Z (Nl (Sq (Sq (Rg (Mv (.bool b) Z Z (Pl Z (EQ (b:=b) Z (Nl (DI (t:= !b) Z (λaa=>?_) (λaa=>?_)))))))))))))
 ·have hc1_:b=false:=by simpa using aa
  exact Sq (Rg (As (J 1) Z Z (Nl (Rt (⟨.inr Z,Ag Z (v:=J 1) Z (⟨(by simp_all),Z⟩)⟩)))))
 ·have hc1_:b=true:=by simpa using aa
  exact Sk (Sq (Rg (As (J 0) Z Z (Nl (Rt (⟨.inr Z,Ag Z (v:=J 0) Z (⟨(by simp_all),Z⟩)⟩))))))
theorem Gr{W:Wk prog}{h:GH}(d:Int)(m:Int)(gs:List Good)(gsv:Value)(ms:List AB)(msv:Value)(cs:List AF)(csv:Value)(n:Int)(hgs:AH h gsv 5 BL gs)(hms:AH h msv 5 BB ms)(hcs:AH h csv 4 A2 cs):Af W 77 #[.agg #[J d,J m,gsv,msv,csv],J n] h (λv h'=>v=(.bool (decide (0<=n/\n<=(gs.length:Int)-1)):Value)/\h.Le h'):=by
 have ab:=hgs.len;have ac:=hms.len;have ad:=hcs.len;refine AJ func77 Z (Nb Z) (Sq (Rg (Pl Z (Ap (v:=.agg (C3 d m gsv msv csv)) (c:=(C3 d m gsv msv csv)) Z Z λ_ _ _ aa af _=>As (.bool false) Z Z (Nl (Sq (Rg (Mv (J n) Z Z (Fa A3 Z Z (Fa BG Z Z (Ld gsv Z Z (Rd.one CC af Z) (Pl Z (AY Cn (hgs.le aa) Z (Pl Z (BK (a:=(gs.length:Int)) (b:=1) Z Z (by omega) (Pl Z (Az func79 B9 Z Z Z ((Bd n 0 ((gs.length:Int)-1) ).mono λ_ _ ae=>?_))))))))))))))))));obtain ⟨rfl,rfl⟩:=ae;exact As (.bool (decide (0<=n/\n<=((gs.length:Int)-1)))) Z Z (Nl (Rt (⟨.inr Z,Ag Z (v:=.bool (decide (0<=n/\n<=((gs.length:Int)-1)))) Z (⟨(by rfl),aa⟩)⟩)))
theorem Nn{W:Wk prog}{h:GH}(d:Int)(m:Int)(gs:List Good)(gsv:Value)(ms:List AB)(msv:Value)(cs:List AF)(csv:Value)(n:Int)(hgs:AH h gsv 5 BL gs)(hms:AH h msv 5 BB ms)(hcs:AH h csv 4 A2 cs):Af W 108 #[.agg #[J d,J m,gsv,msv,csv],J n] h (λv h'=>v=(.bool (decide (0<=n/\n<=(ms.length:Int)-1)):Value)/\h.Le h'):=by
 have ab:=hgs.len;have ac:=hms.len;have ad:=hcs.len;refine AJ func108 Z (Nb Z) (Sq (Rg (Pl Z (Ap (v:=.agg (C3 d m gsv msv csv)) (c:=(C3 d m gsv msv csv)) Z Z λ_ _ _ aa af _=>As (.bool false) Z Z (Nl (Sq (Rg (Mv (J n) Z Z (Fa A3 Z Z (Fa A4 Z Z (Ld msv Z Z (Rd.one Be af Z) (Pl Z (AY C2 (hms.le aa) Z (Pl Z (BK (a:=(ms.length:Int)) (b:=1) Z Z (by omega) (Pl Z (Az func79 B9 Z Z Z ((Bd n 0 ((ms.length:Int)-1) ).mono λ_ _ ae=>?_))))))))))))))))));obtain ⟨rfl,rfl⟩:=ae;exact As (.bool (decide (0<=n/\n<=((ms.length:Int)-1)))) Z Z (Nl (Rt (⟨.inr Z,Ag Z (v:=.bool (decide (0<=n/\n<=((ms.length:Int)-1)))) Z (⟨(by rfl),aa⟩)⟩)))
theorem NE{W:Wk prog}{h:GH}(p:AU)(i:Int)(hi0:0<=i)(hi1:i<6):Af W 83 #[.agg (Ai p),J i] h (λv h'=>v=(J (CL p ((i).toNat)):Value)/\h.Le h'):=by
 refine AJ func83 Z (Nb Z) (Sq (Rg (Pl Z (Ap (v:=.agg (Ai p)) (c:=Ai p) Z Z λ_ _ _ aa ad _=>As (J 0) Z Z (Nl (Sq (Sq (Rg (Mv (J i) Z Z (Fa Ex Z Z ?_))))))))));have ae:(0:Int)<=i:=by omega
 have af:i<((6:Nat):Int):=by omega
 refine Pl Z (CR HR Z Z ae af (Ld (.bool (p.lies (i.toNat))) Z Z (Rd.one IM ad (LE (i:=i.toNat) (by omega))) (Nl (DI (t:=p.lies (i.toNat)) Z (λag=>?_) (λag=>?_)))))
 ·exact Sq (Rg (As (J 0) Z Z (Nl (Rt (⟨.inr Z,Ag Z (v:=J 0) Z (⟨(by simp_all [CL]),aa⟩)⟩)))))
 ·refine Sk (Sq (Rg (Mv (J i) Z Z (Fa Ew Z Z ?_))));have ab:(0:Int)<=i:=by omega
  have ac:i<((6:Nat):Int):=by omega
  exact Pl Z (CR Ih Z Z ab ac (Ld (J (p.many (i.toNat))) Z Z (Rd.one AN ad (Oe (i:=i.toNat) (by omega))) (As (J (p.many (i.toNat))) Z Z (Nl (Rt (⟨.inr Z,Ag Z (v:=J (p.many (i.toNat))) Z (⟨(by simp_all [CL]),aa⟩)⟩))))))
theorem Py{W:Wk prog}{h:GH}(p:AU):Af W 101 #[.agg (Ai p)] h (λv h'=>v=(J (Ao p 6:Int):Value)/\h.Le h'):=by
 refine AJ func101 Z (Nb Z) (Sq (Rg (Pl Z (Ap (v:=.agg (Ai p)) (c:=Ai p) Z Z λ_ h2 _ ab al _=>As (J 0) Z Z (Nl (Sq (Rg (As (J 0) Z Z (Nl (Sq (Sq (Rg (Fa Ex Z Z (Ld (.agg #[.bool (p.lies 0),.bool (p.lies 1),.bool (p.lies 2),.bool (p.lies 3),.bool (p.lies 4),.bool (p.lies 5)]) Z Z (FD (o:=9) (ws:=#[.bool (p.lies 0),.bool (p.lies 1),.bool (p.lies 2),.bool (p.lies 3),.bool (p.lies 4),.bool (p.lies 5)]) fx_ty117 (Bx al Z) (Nb Z) Z) (Mv (J 0) Z Z (Nl (Bk (Al (λnn σ' ds' h'=>∃(k:Nat),nn=6-k/\(k<=6)/\ds'=[]/\GH.Le h2 h'/\σ' 2=J 0/\σ' 7=.agg #[.bool (p.lies 0),.bool (p.lies 1),.bool (p.lies 2),.bool (p.lies 3),.bool (p.lies 4),.bool (p.lies 5)]/\σ' 3=J (Ao p k:Int)/\σ' 8=J k) ⟨0,Z,(by omega),Z,Lr,Z,Z,Z,Z⟩ (λnn _ _ _ ac=>?_)))))))))))))))))));obtain ⟨k,rfl,hk,am,ad,ak,ae,af,aa⟩:=ac;subst am;have hly:=Og p k;refine Sq (Rg (Pl Z (A0 (a:=(k:Int)) (b:=6) aa Z (Nl (Sq (AX (p:=(k:Int)<6) Z (λag=>?_) (λag=>?_)))))))
 ·refine Sk (Sq (Bk (Sq (Rg ?_))));have ah:(0:Int)<=(k:Int):=by omega
  have ai:(k:Int)<((6:Nat):Int):=by omega
  refine Pl Z (Qp ZM ae aa ah ai (Tg (by omega)) (As (.bool (p.lies k)) Z Z (Nl (Sq (Rg (Mv (.bool (p.lies k)) Z Z (Nl (DI (t:=p.lies k) Z (λaj=>?_) (λaj=>?_)))))))))
  ·exact Rg (Mv (J (Ao p k:Int)) Z af (Ad (Ao p k:Int) 1 Z Z Z (by omega) (As (J ((Ao p k:Int)+1)) Z Z (Nl (Rg (Ad (k:Int) 1 Z aa Z (by omega) (Mv (J ((k:Int)+1)) Z Z (Nl (⟨_,by omega,k+1,Z,(by omega),Z,ad,ak,ae,(Et (b:=(J ((Ao p k:Int)+1):Value)) Z (by congr 1;simp_all [Ao])),Z⟩)))))))))
  ·exact Sk (Rg (Ad (k:Int) 1 Z aa Z (by omega) (Mv (J ((k:Int)+1)) Z Z (Nl (⟨_,by omega,k+1,Z,(by omega),Z,ad,ak,ae,(Et (b:=(J (Ao p k:Int):Value)) af (by congr 1;simp_all [Ao])),Z⟩)))))
 ·exact Xt (Sq (Rg (Mv (J (Ao p k:Int)) Z af (As (J (Ao p k:Int)) Z Z (Nl (Rt (⟨.inr Z,Ag Z (v:=J (Ao p k:Int)) Z (⟨(by obtain rfl:k=6:=(by omega);rfl),(ab.trans ad)⟩)⟩)))))))
theorem FI{W:Wk prog}{h:GH}(a:List Int)(av:Value)(b:List Int)(bv:Value)(ha:AH h av 1 eI a)(hb:AH h bv 1 eI b):Af W 22 #[av,bv] h (λv h'=>v=(.bool (decide (a=b)):Value)/\h.Le h'):=by
 have ad:=ha.len;have ae:=hb.len;refine AJ func22 Z (Nb Z) (Sq (Rg (As (.bool false) Z Z (Nl (Sq (Sq (Rg (Mv av Z Z (Pl Z (AY B2 ha Z (Mv bv Z Z (Pl Z (AY B2 hb Z (Pl Z (A7 (a:=(a.length:Int)) (b:=(b.length:Int)) Z Z (Nl (AX (p:=¬(a.length:Int)=(b.length:Int)) Z (λar=>?_) (λar=>?_))))))))))))))))))
 ·exact Sq (Rg (As (.bool false) Z Z (Nl (Rt (⟨.inr Z,Ag Z (v:=.bool false) Z (⟨(by (rw [decide_eq_false (ne_len (by omega))];done)),Lr⟩)⟩)))))
 ·refine Sk (Sq (Sq (Rg (As (J 0) Z Z (Nl (Bk (Al (λnn σ' ds' h'=>∃(k:Nat),nn=a.length-k/\(k<=a.length)/\(a.take k=b.take k)/\ds'=[]/\GH.Le h h'/\σ' 0=av/\σ' 1=bv/\σ' 5=J k) ⟨0,Z,(by omega),(by rfl),Z,Lr,Z,Z,Z⟩ (λnn _ _ _ au=>?_))))))));obtain ⟨k,rfl,hk,hs,x8,x9,af,aq,ac⟩:=au;subst x8;refine Sq (Sq (Rg (Mv (J k) Z ac (Mv av Z af (Pl Z (AY B2 (ha.le x9) Z (Pl Z (A0 (a:=(k:Int)) (b:=(a.length:Int)) Z Z (Nl (AX (p:=(k:Int)<(a.length:Int)) Z (λag=>?_) (λag=>?_)))))))))))
  ·refine Sk (Sq (Bk (Sq (BM 8 false [1,6,10,16,21,26,30,36] Ah (by kernel_rfl) (tR Z Z (AA (v:=av) af vz) (tR Z Z (AA (v:=J k) ac vz) ?_))))));have ah:(0:Int)<=(k:Int):=by omega
   have ai:(k:Int)<((a.length:Nat):Int):=by omega
   refine tI Z Z AR ha Z Z ah ai λaw aa aj=>have ak:Aa _ aw aa 1 (eI (a.getD k 0)):=Aa.getD 0 aj;tR Z Z (AE (v:=J (a.getD k 0)) Z (BP AN (ak.le x9) Z) vz) (tR Z Z (AA (v:=bv) aq vz) (tR Z Z (AA (v:=J k) ac vz) ?_));have al:(0:Int)<=(k:Int):=by omega
   have am:(k:Int)<((b.length:Nat):Int):=by omega
   refine tI Z Z AR hb Z Z al am λax ab an=>have ao:Aa _ ax ab 1 (eI (b.getD k 0)):=Aa.getD 0 an;tR Z Z (AE (v:=J (b.getD k 0)) Z (BP AN (ao.le x9) Z) vz) (tN (Pl Z (A7 (a:=a.getD k 0) (b:=b.getD k 0) Z Z (Nl (AX (p:=¬(a.getD k 0)=(b.getD k 0)) Z (λap=>?_) (λap=>?_))))))
   ·exact Sq (Rg (As (.bool false) Z Z (Nl (Rt (⟨.inr Z,Ag Z (v:=.bool false) Z (⟨(by (rw [decide_eq_false (ne_getD (k:=k) (d:=0) ‹_›)])),x9⟩)⟩)))))
   ·exact Sk (Rg (Mv (J k) Z ac (Ad (k:Int) 1 Z Z Z (by omega) (As (J ((k:Int)+1)) Z Z (Nl (⟨_,by omega,k+1,Z,(by omega),(by exact Oh 0 hs (by omega) (by omega) (by simp_all)),Z,x9,af,aq,Z⟩))))))
  ·exact Xt (Sq (Rg (As (.bool true) Z Z (Nl (Rt (⟨.inr Z,Ag Z (v:=.bool true) Z (⟨(by (rw [decide_eq_true (SA hs hk ‹_› (by omega))];done)),x9⟩)⟩))))))
theorem Me{W:Wk prog}{h:GH}(a:List Int)(av:Value)(n:Int)(ha:AH h av 1 eI a):Af W 42 #[av,J n] h (λv h'=>v=(.bool (decide (n ∈ a)):Value)/\h.Le h'):=by
 have ab:=ha.len;refine AJ func42 Z (Nb Z) (Sq (Rg (As (.bool false) Z Z (Nl (Sq (Sq (Rg (As (J 0) Z Z (Nl (Bk (Al (λnn σ' ds' h'=>∃(k:Nat),nn=a.length-k/\(k<=a.length)/\(¬n ∈ a.take k)/\ds'=[]/\GH.Le h h'/\σ' 0=av/\σ' 1=J n/\σ' 5=J k) ⟨0,Z,(by omega),(by simp),Z,Lr,Z,Z,Z⟩ (λnn _ _ _ aj=>?_))))))))))));obtain ⟨k,rfl,hk,hs,x6,x7,x8,x9,ac⟩:=aj;subst x6;refine Sq (Sq (Rg (Mv (J k) Z ac (Mv av Z x8 (Pl Z (AY B2 (ha.le x7) Z (Pl Z (A0 (a:=(k:Int)) (b:=(a.length:Int)) Z Z (Nl (AX (p:=(k:Int)<(a.length:Int)) Z (λad=>?_) (λad=>?_)))))))))))
 ·refine Sk (Sq (Bk (Sq (Rg (Mv av Z x8 (Mv (J k) Z ac ?_))))));have ae:(0:Int)<=(k:Int):=by omega
  have af:(k:Int)<((a.length:Nat):Int):=by omega
  refine Pl Z (Ar AR ha Z Z ae af λak aa ag=>have ah:Aa _ ak aa 1 (eI (a.getD k 0)):=Aa.getD 0 ag;Ld (Mc a k) Z Z (BP AN (ah.le x7) Z) (Mv (J n) Z x9 (Pl Z (CH (a:=a.getD k 0) (b:=n) Z Z (Nl (AX (p:=(a.getD k 0)=n) Z (λai=>?_) (λai=>?_)))))))
  ·exact Sq (Rg (As (.bool true) Z Z (Nl (Rt (⟨.inr Z,Ag Z (v:=.bool true) Z (⟨(by (rw [decide_eq_true (has_hit (k:=k) ‹_› ‹_›)];done)),x7⟩)⟩)))))
  ·exact Sk (Rg (Mv (J k) Z ac (Ad (k:Int) 1 Z Z Z (by omega) (As (J ((k:Int)+1)) Z Z (Nl (⟨_,by omega,k+1,Z,(by omega),(by exact has_next ‹_› hs ‹_›),Z,x7,x8,x9,Z⟩))))))
 ·exact Xt (Sq (Rg (As (.bool false) Z Z (Nl (Rt (⟨.inr Z,Ag Z (v:=.bool false) Z (⟨(by (rw [decide_eq_false (has_end (k:=k) ‹_› hs)])),x7⟩)⟩))))))
theorem EX{W:Wk prog}{h:GH}(n:Int)(lo:Int)(hi:Int):Af W 59 #[J n,J lo,J hi] h (λv h'=>v=(.bool (decide (lo<=n/\n<=hi)):Value)/\h=h'):=by
 refine AJ func59 Z (Nb Z) (Sq (Rg (As (.bool false) Z Z (Nl (BD (λσ' ds' h'=>ds'=[]/\h=h'/\σ' 6=.bool (Q3m lo n hi)) ?_ ?_)))))
 ·refine Rg (Mv (J n) Z Z (Mv (J lo) Z Z (Pl Z (Cp (a:=n) (b:=lo) Z Z (Mv (VL lo n) Z Z (BQ (p:=lo<=n) ?_ ?_))))))
  ·intro aa;exact Gg 3 10 (AD Z aa) Z (AA (v:=J n) Z (Gg 3 10 (AD Z aa) Z (AA (v:=J hi) Z (Gg 3 10 (AD Z aa) Z (DA (a:=n) (b:=hi) Z Z (Pk true (VL n hi) Z (AD Z aa) Z (As (VL n hi) Z Z (Nl (⟨Z,Z,Et (b:=(.bool (decide (n<=hi)):Value)) Z (congrArg Value.bool (by (simp [aa];done):decide (n<=hi)=(Q3m lo n hi)))⟩)))))))))
  ·intro aa;exact Gs 3 10 (AC Z aa) Z (Gs 3 10 (AC Z aa) Z (Gs 3 10 (AC Z aa) Z (Pk false (.bool false) Z (AC Z aa) Z (As (.bool false) Z Z (Nl (⟨Z,Z,Et (b:=(.bool false:Value)) Z (congrArg Value.bool (by (simp [aa];done):false=(Q3m lo n hi)))⟩))))))
 ·rintro _ _ _ ⟨ac,ab,ad⟩;subst ac;subst ab;exact Rt (⟨.inr Z,Ag Z (v:=.bool (Q3m lo n hi)) ad (⟨(by rfl),Z⟩)⟩)
theorem Np{W:Wk prog}{h:GH}(xl:Int)(xh:Int)(lo:Int)(hi:Int):Af W 65 #[.agg #[J xl,J xh],J lo,J hi] h (λv h'=>v=(.bool (decide ((lo<=xl/\xl<=xh)/\xh<=hi)):Value)/\h.Le h'):=by
 refine AJ func65 Z (Nb Z) (Sq (Rg (Pl Z (Ap (v:=.agg #[J xl,J xh]) (c:=#[J xl,J xh]) Z Z λ_ h2 _ ae ad _=>As (.bool false) Z Z (Nl (BD (λσ' ds' h'=>ds'=[]/\h2=h'/\σ' 6=.bool (Q2w lo xl xh hi)) ?_ ?_))))))
 ·refine Rg (Fa CZ Z Z (Ld (J xl) Z Z (Rd.one AN ad Z) (Mv (J lo) Z Z (Pl Z (Cp (a:=xl) (b:=lo) Z Z (Mv (VL lo xl) Z Z (BQ (p:=lo<=xl) ?_ ?_)))))))
  ·intro aa;refine Gg 4 11 (AD Z aa) Z (AG Ca Z (Gg 4 11 (AD Z aa) Z (AE (v:=J xh) Z (Rd.one AN ad Z) (Gg 4 11 (AD Z aa) Z (AG CZ Z (Gg 4 11 (AD Z aa) Z (AE (v:=J xl) Z (Rd.one AN ad Z) (Gg 4 11 (AD Z aa) Z (Cp (a:=xh) (b:=xl) Z Z (Pk true (VL xl xh) Z (AD Z aa) Z (Mv (VL xl xh) Z Z (BQ (p:=xl<=xh) ?_ ?_))))))))))))
   ·intro ab;exact Gg 11 18 (AD Z ab) Z (AG Ca Z (Gg 11 18 (AD Z ab) Z (AE (v:=J xh) Z (Rd.one AN ad Z) (Gg 11 18 (AD Z ab) Z (AA (v:=J hi) Z (Gg 11 18 (AD Z ab) Z (DA (a:=xh) (b:=hi) Z Z (Pk true (VL xh hi) Z (AD Z ab) Z (As (VL xh hi) Z Z (Nl (⟨Z,Z,Et (b:=(.bool (decide (xh<=hi)):Value)) Z (congrArg Value.bool (by (simp [aa,ab];done):decide (xh<=hi)=(Q2w lo xl xh hi)))⟩)))))))))))
   ·intro ab;exact Gs 11 18 (AC Z ab) Z (Gs 11 18 (AC Z ab) Z (Gs 11 18 (AC Z ab) Z (Gs 11 18 (AC Z ab) Z (Pk false (.bool false) Z (AC Z ab) Z (As (.bool false) Z Z (Nl (⟨Z,Z,Et (b:=(.bool false:Value)) Z (congrArg Value.bool (by (simp [aa,ab];done):false=(Q2w lo xl xh hi)))⟩)))))))
  ·intro aa;exact Gs 4 11 (AC Z aa) Z (Gs 4 11 (AC Z aa) Z (Gs 4 11 (AC Z aa) Z (Gs 4 11 (AC Z aa) Z (Gs 4 11 (AC Z aa) Z (Pk false (.bool false) Z (AC Z aa) Z (Mv (.bool false) Z Z (Gs 11 18 Z Z (Gs 11 18 Z Z (Gs 11 18 Z Z (Gs 11 18 Z Z (Pk false (.bool false) Z Z Z (As (.bool false) Z Z (Nl (⟨Z,Z,Et (b:=(.bool false:Value)) Z (congrArg Value.bool (by (simp [aa];done):false=(Q2w lo xl xh hi)))⟩))))))))))))))
 ·rintro _ _ _ ⟨af,ac,ag⟩;subst af;subst ac;exact Rt (⟨.inr Z,Ag Z (v:=.bool (Q2w lo xl xh hi)) ag (⟨(by rfl),ae⟩)⟩)
theorem Pz{W:Wk prog}{h:GH}(xl:Int)(xh:Int):Af W 143 #[.agg #[J xl,J xh]] h (λv h'=>v=(.bool (decide (FB xl xh)):Value)/\h.Le h'):=by
 refine AJ func143 Z (Nb Z) (Sq (Rg (Pl Z (Ap (v:=.agg #[J xl,J xh]) (c:=#[J xl,J xh]) Z Z λ_ h2 _ ae ah _=>As (.bool false) Z Z (Nl (BD (λσ' ds' h'=>ds'=[]/\GH.Le h2 h'/\σ' 2=.bool (Q2l xl xh)) ?_ ?_))))))
 ·refine Rg (Ld (.agg #[J xl,J xh]) Z Z (AO Bt (Bx ah Z)) (Pl Z (Az func65 Ra Z Z Z ((Np xl xh 0 99 ).mono λ_ _ ai=>?_))));obtain ⟨rfl,ab⟩:=ai;refine Mv (.bool (decide ((0<=xl/\xl<=xh)/\xh<=99))) Z Z (BQ (p:=(0<=xl/\xl<=xh)/\xh<=99) ?_ ?_)
  ·intro aa;exact Gg 2 5 (AD Z aa) Z (AG Ca Z (have ac:=ab.keep ah Z;Gg 2 5 (AD Z aa) Z (AE (v:=J xh) Z (Rd.one AN ac Z) (Gg 2 5 (AD Z aa) Z (AG CZ Z (Gg 2 5 (AD Z aa) Z (AE (v:=J xl) Z (Rd.one AN ac Z) (Gg 2 5 (AD Z aa) Z (BK (a:=xh) (b:=xl) Z Z (by omega) (Gg 2 5 (AD Z aa) Z (A0 (a:=xh-xl) (b:=3) Z Z (Pk true (.bool (decide ((xh-xl)<3))) Z (AD Z aa) Z (As (.bool (decide ((xh-xl)<3))) Z Z (Nl (⟨Z,ab,Et (b:=(.bool (decide ((xh-xl)<3)):Value)) Z (congrArg Value.bool (by (simp [aa];done):decide ((xh-xl)<3)=(Q2l xl xh)))⟩)))))))))))))))
  ·intro aa;exact Gs 2 5 (AC Z aa) Z (Gs 2 5 (AC Z aa) Z (Gs 2 5 (AC Z aa) Z (Gs 2 5 (AC Z aa) Z (Gs 2 5 (AC Z aa) Z (Gs 2 5 (AC Z aa) Z (Pk false (.bool false) Z (AC Z aa) Z (As (.bool false) Z Z (Nl (⟨Z,ab,Et (b:=(.bool false:Value)) Z (congrArg Value.bool (by (simp [aa];done):false=(Q2l xl xh)))⟩)))))))))
 ·rintro _ _ _ ⟨af,ad,ag⟩;subst af;exact Rt (⟨.inr Z,Ag Z (v:=.bool (Q2l xl xh)) ag (⟨(by rfl),(ae.trans ad)⟩)⟩)
theorem Uu{W:Wk prog}{h:GH}(c:Int):Af W 156 #[.int .u8 c] h (λv h'=>v=(.bool (decide (FF c)):Value)/\h=h'):=by
 refine AJ func156 Z (Nb Z) (Sq (Rg (As (.bool false) Z Z (Nl (BD (λσ' ds' h'=>ds'=[]/\h=h'/\σ' 2=.bool (Q40 c)) ?_ ?_)))))
 ·refine Rg (Mv (.int .u8 c) Z Z (Pl Z (Cp (a:=c) (b:=97) Z Z (Mv (.bool (decide (97<=c))) Z Z (BQ (p:=97<=c) ?_ ?_)))))
  ·intro aa;exact Gg 2 5 (AD Z aa) Z (AA (v:=.int .u8 c) Z (Gg 2 5 (AD Z aa) Z (DA (a:=c) (b:=122) Z Z (Pk true (.bool (decide (c<=122))) Z (AD Z aa) Z (As (.bool (decide (c<=122))) Z Z (Nl (⟨Z,Z,Et (b:=(.bool (decide (c<=122)):Value)) Z (congrArg Value.bool (by (simp [aa];done):decide (c<=122)=(Q40 c)))⟩)))))))
  ·intro aa;exact Gs 2 5 (AC Z aa) Z (Gs 2 5 (AC Z aa) Z (Pk false (.bool false) Z (AC Z aa) Z (As (.bool false) Z Z (Nl (⟨Z,Z,Et (b:=(.bool false:Value)) Z (congrArg Value.bool (by (simp [aa];done):false=(Q40 c)))⟩)))))
 ·rintro _ _ _ ⟨ac,ab,ad⟩;subst ac;subst ab;exact Rt (⟨.inr Z,Ag Z (v:=.bool (Q40 c)) ad (⟨(by rfl),Z⟩)⟩)
theorem XJ{W:Wk prog}{h:GH}(c:Int):Af W 157 #[.int .u8 c] h (λv h'=>v=(.bool (decide (FN c)):Value)/\h=h'):=by
 refine AJ func157 Z (Nb Z) (Sq (Rg (As (.bool false) Z Z (Nl (BD (λσ' ds' h'=>ds'=[]/\h=h'/\σ' 2=.bool (Q42 c)) ?_ ?_)))))
 ·refine Rg (Mv (.int .u8 c) Z Z (Pl Z (Cp (a:=c) (b:=48) Z Z (Mv (.bool (decide (48<=c))) Z Z (BQ (p:=48<=c) ?_ ?_)))))
  ·intro aa;exact Gg 2 5 (AD Z aa) Z (AA (v:=.int .u8 c) Z (Gg 2 5 (AD Z aa) Z (DA (a:=c) (b:=57) Z Z (Pk true (.bool (decide (c<=57))) Z (AD Z aa) Z (As (.bool (decide (c<=57))) Z Z (Nl (⟨Z,Z,Et (b:=(.bool (decide (c<=57)):Value)) Z (congrArg Value.bool (by (simp [aa];done):decide (c<=57)=(Q42 c)))⟩)))))))
  ·intro aa;exact Gs 2 5 (AC Z aa) Z (Gs 2 5 (AC Z aa) Z (Pk false (.bool false) Z (AC Z aa) Z (As (.bool false) Z Z (Nl (⟨Z,Z,Et (b:=(.bool false:Value)) Z (congrArg Value.bool (by (simp [aa];done):false=(Q42 c)))⟩)))))
 ·rintro _ _ _ ⟨ac,ab,ad⟩;subst ac;subst ab;exact Rt (⟨.inr Z,Ag Z (v:=.bool (Q42 c)) ad (⟨(by rfl),Z⟩)⟩)
theorem F2{W:Wk prog}{h:GH}(a:Int)(b:Int):Af W 60 #[J a,J b] h (λv h'=>v=(.agg #[J a,J b]:Value)/\h.Le h'):=by
 exact AJ func60 Z (Nb Z) (Sq (Rg (Pl Z (Aq Cm λ_ _ ab aa ac _=>Nl (Sq (Rg (Mv (J a) Z Z (Mv (J b) Z Z (Pl Z (BA (cells:=#[J a,J b]) JX Cm (by kernel_rfl) (Pl Z (AQ (v:=.agg #[J a,J b]) (c':=#[J a,J b]) Bt Z Z ac Z Z (by simp) Z λ_ ad ae=>Nl (Rt (⟨.inr Z,Mp Z (v:=.agg #[J a,J b]) Z (AO Bt (Bx ad Z)) (⟨Z,(aa.upd (Ln Lr ab) ae)⟩)⟩))))))))))))))
theorem ID{W:Wk prog}{h:GH}(d:Int)(m:Int)(gs:List Good)(gsv:Value)(ms:List AB)(msv:Value)(cs:List AF)(csv:Value)(n:Int)(hgs:AH h gsv 5 BL gs)(hms:AH h msv 5 BB ms)(hcs:AH h csv 4 A2 cs):Af W 110 #[.agg #[J d,J m,gsv,msv,csv],J n] h (λv h'=>v=(.bool (decide ((0<=n/\n<=(ms.length:Int)-1)/\(ms.getD (n).toNat AB.z).kind=0)):Value)/\h.Le h'):=by
 have af:=hgs.len;have ag:=hms.len;have ah:=hcs.len;refine AJ func110 Z (Nb Z) (Sq (Rg (Pl Z (Ap (v:=.agg #[J d,J m,gsv,msv,csv]) (c:=#[J d,J m,gsv,msv,csv]) Z Z λ_ h5 _ ac ap _=>As (.bool false) Z Z (Nl (BD (λσ' ds' h'=>ds'=[]/\GH.Le h5 h'/\σ' 4=.bool (decide ((0<=n/\n<=(ms.length:Int)-1)/\(((ms.getD (n.toNat) AB.z).kind)=0)))) ?_ ?_))))))
 ·refine Rg (Ld (.agg #[J d,J m,gsv,msv,csv]) Z Z (AO Bz (Bx ap Z)) (Mv (J n) Z Z (Pl Z (AW func108 Pa Z Z ((Nn d m gs gsv ms msv cs csv n (hgs.le ac) (hms.le ac) (hcs.le ac) ).mono λ_ _ ai=>?_)))));obtain ⟨rfl,ab⟩:=ai;refine Mv (.bool (decide (0<=n/\n<=(ms.length:Int)-1))) Z Z (BQ (p:=0<=n/\n<=(ms.length:Int)-1) ?_ ?_)
  ·intro aa;refine Gg 3 8 (AD Z aa) Z (AG A3 Z (Gg 3 8 (AD Z aa) Z (AG A4 Z (Gg 3 8 (AD Z aa) Z (AE (v:=msv) Z (Rd.one Be (ab.keep ap Z) Z) (Gg 3 8 (AD Z aa) Z (AA (v:=J n) Z ?_)))))));have aj:(0:Int)<=n:=by omega
   have ak:n<((ms.length:Nat):Int):=by omega
   exact Gg 3 8 (AD Z aa) Z (Ar Cd hms Z Z aj ak λaq ad al=>have am:Aa _ aq ad 5 (BB (ms.getD (n.toNat) AB.z)):=Aa.getD AB.z al;Gg 3 8 (AD Z aa) Z (AG Ez Z (Gg 3 8 (AD Z aa) Z (AE (v:=J ((ms.getD (n.toNat) AB.z).kind)) Z (BP IC (am.le (ac.trans ab)) Z) (Gg 3 8 (AD Z aa) Z (CH (a:=(ms.getD (n.toNat) AB.z).kind) (b:=0) Z Z (Pk true (.bool (decide (((ms.getD (n.toNat) AB.z).kind)=0))) Z (AD Z aa) Z (As (.bool (decide (((ms.getD (n.toNat) AB.z).kind)=0))) Z Z (Nl (⟨Z,ab,Et (b:=(.bool (decide (((ms.getD (n.toNat) AB.z).kind)=0)):Value)) Z (congrArg Value.bool (by (simp [aa];done):decide (((ms.getD (n.toNat) AB.z).kind)=0)=(decide ((0<=n/\n<=(ms.length:Int)-1)/\(((ms.getD (n.toNat) AB.z).kind)=0)))))⟩))))))))))
  ·intro aa;exact Gs 3 8 (AC Z aa) Z (Gs 3 8 (AC Z aa) Z (Gs 3 8 (AC Z aa) Z (Gs 3 8 (AC Z aa) Z (Gs 3 8 (AC Z aa) Z (Gs 3 8 (AC Z aa) Z (Gs 3 8 (AC Z aa) Z (Gs 3 8 (AC Z aa) Z (Pk false (.bool false) Z (AC Z aa) Z (As (.bool false) Z Z (Nl (⟨Z,ab,Et (b:=(.bool false:Value)) Z (congrArg Value.bool (by (simp [aa];done):false=(decide ((0<=n/\n<=(ms.length:Int)-1)/\(((ms.getD (n.toNat) AB.z).kind)=0)))))⟩)))))))))))
 ·rintro _ _ _ ⟨an,ae,ao⟩;subst an;exact Rt (⟨.inr Z,Ag Z (v:=.bool (decide ((0<=n/\n<=(ms.length:Int)-1)/\(((ms.getD (n.toNat) AB.z).kind)=0)))) ao (⟨(by rfl),(ac.trans ae)⟩)⟩)
theorem Zw{W:Wk prog}{h:GH}(d:Int)(m:Int)(gs:List Good)(gsv:Value)(ms:List AB)(msv:Value)(cs:List AF)(csv:Value)(hgs:AH h gsv 5 BL gs)(hms:AH h msv 5 BB ms)(hcs:AH h csv 4 A2 cs):Af W 194 #[.agg #[J d,J m,gsv,msv,csv]] h (λv h'=>v=(J (Ea d m):Value)/\h.Le h'):=by
 have ad:=hgs.len;have ae:=hms.len;have af:=hcs.len;refine AJ func194 Z (Nb Z) (Sq (Rg (Pl Z (Ap (v:=.agg (C3 d m gsv msv csv)) (c:=(C3 d m gsv msv csv)) Z Z λ_ h5 _ ab al _=>As (J 0) Z Z (Nl (Sq (BD (λσ' ds' h'=>ds'=[]/\h5=h'/\σ' 2=J 0/\σ' 14=.bool (Q2y d m)) ?_ ?_)))))))
 ·refine Rg (Fa A3 Z Z (Fa CT Z Z (Ld (J d) Z Z (Rd.one AN al Z) (Pl Z (Az func79 B9 Z Z Z ((Bd d 1 99 ).mono λ_ _ ag=>?_))))));obtain ⟨rfl,rfl⟩:=ag;refine Pl Z (BF (p:=1<=d/\d<=99) Z (Mv (.bool (decide (¬(1<=d/\d<=99)))) Z Z (BQ (p:=¬(1<=d/\d<=99)) ?_ ?_)))
  ·intro aa;exact Gs 5 8 (AD Z aa) Z (Gs 5 8 (AD Z aa) Z (Gs 5 8 (AD Z aa) Z (Gs 5 8 (AD Z aa) Z (Gs 5 8 (AD Z aa) Z (Pk true (.bool true) Z (AD Z aa) Z (Nl (⟨Z,Z,Z,Et (b:=(.bool true:Value)) Z (congrArg Value.bool (by (simp [aa];done):true=(Q2y d m)))⟩)))))))
  ·intro aa;refine Gg 5 8 (AC Z aa) Z (AG A3 Z (Gg 5 8 (AC Z aa) Z (AG Ey Z (Gg 5 8 (AC Z aa) Z (AE (v:=J m) Z (Rd.one AN al Z) (Gg 5 8 (AC Z aa) Z (Az func79 B9 Z Z Z ((Bd m 0 2 ).mono λ_ _ ah=>?_))))))));obtain ⟨rfl,rfl⟩:=ah;exact Gg 5 8 (AC Z aa) Z (BF (p:=0<=m/\m<=2) Z (Pk false (.bool (Q47 m)) Z (AC Z aa) Z (Nl (⟨Z,Z,Z,Et (b:=(.bool (Q47 m):Value)) Z (congrArg Value.bool (by (simp [aa];done):decide (¬(0<=m/\m<=2))=(Q2y d m)))⟩))))
 ·rintro _ _ _ ⟨ai,ac,am,aj⟩;subst ai;subst ac;refine AX (p:=(¬(1<=d/\d<=99))\/(¬(0<=m/\m<=2))) aj (λak=>?_) (λak=>?_)
  ·exact Sq (Rg (As (J 1) Z Z (Nl (Rt (⟨.inr Z,Ag Z (v:=J 1) Z (⟨(by simp_all [Ea]),ab⟩)⟩)))))
  ·exact Sk (Sq (Rg (As (J 0) Z Z (Nl (Rt (⟨.inr Z,Ag Z (v:=J 0) Z (⟨(by simp_all [Ea]),ab⟩)⟩))))))
theorem Qc{W:Wk prog}{h:GH}(xs:List Int)(xsv:Value)(fv:Value)(p:Int->Bool)(hxs:AH h xsv 1 eI xs)(hf:∀x ∈ xs,∀h1,h.Le h1->Cl W fv #[J x] h1 λv h2=>v=.bool (p x)/\h1.Le h2):Af W 139 #[xsv,fv] h (λv h'=>v=(J (idxOf p xs):Value)/\h.Le h'):=by
 have ac:=hxs.len;refine AJ func139 Z (Nb Z) (Sq (Rg (As (J 0) Z Z (Nl (Sq (Sq (Rg (Mv xsv Z Z (Pl Z (AY B2 hxs Z (Mv (J 0) Z Z (Nl (Bk (Al (λnn σ' ds' h'=>∃(k:Nat),nn=xs.length-k/\(k<=xs.length)/\((xs.take k).any p=false)/\ds'=[]/\GH.Le h h'/\σ' 0=xsv/\σ' 1=fv/\σ' 7=J (xs.length:Int)/\σ' 8=J k) ⟨0,Z,(by omega),(by simp),Z,Lr,Z,Z,Z,Z⟩ (λnn _ _ _ am=>?_)))))))))))))));obtain ⟨k,rfl,hk,hs,x6,x7,x8,x9,al,ad⟩:=am;subst x6;refine Sq (Rg (Pl Z (A0 (a:=(k:Int)) (b:=(xs.length:Int)) ad al (Nl (Sq (AX (p:=(k:Int)<(xs.length:Int)) Z (λae=>?_) (λae=>?_)))))))
 ·refine Sk (Sq (Bk (Sq (Rg (Mv (J k) Z ad (As (J k) Z Z (Nl (Sq (Rg (Mv fv Z x9 (Mv xsv Z x8 (Mv (J k) Z Z ?_))))))))))));have af:(0:Int)<=(k:Int):=by omega
  have ag:(k:Int)<((xs.length:Nat):Int):=by omega
  refine Pl Z (Ar AR hxs Z Z af ag λan ab ah=>have ai:Aa _ an ab 1 (eI (xs.getD k 0)):=Aa.getD 0 ah;Ld (Mc xs k) Z Z (BP AN (ai.le x7) Z) (Pl Z (I4 Z (vs:=#[J (xs.getD k 0)]) (by simp only [List.map_toArray,List.map_cons,List.map_nil,AT] <;> rfl) ((hf (xs.getD k 0) (CI (by omega)) _ x7).mono λ_ _ aj=>?_))));obtain ⟨rfl,aa⟩:=aj;refine Nl (DI (t:=p (xs.getD k 0)) Z (λak=>?_) (λak=>?_))
  ·exact Sq (Rg (Mv (J k) Z Z (As (J k) Z Z (Nl (Rt (⟨.inr Z,Ag Z (v:=J k) Z (⟨(by (rw [Ms (k:=k) (by omega) hs ‹_›];done)),(x7.trans aa)⟩)⟩))))))
  ·exact Sk (Rg (Ad (k:Int) 1 Z ad Z (by omega) (Mv (J ((k:Int)+1)) Z Z (Nl (⟨_,by omega,k+1,Z,(by omega),(by exact L7 (d:=0) (by omega) hs ‹_›),Z,(x7.trans aa),x8,x9,al,Z⟩)))))
 ·exact Xt (Sq (Rg (As (J (-1)) Z Z (Nl (Rt (⟨.inr Z,Ag Z (v:=J (-1)) Z (⟨(by (rw [LF (k:=k) (by omega) hs])),x7⟩)⟩))))))
theorem Ip{W:Wk prog}{h:GH}(xs:List Int)(xsv:Value)(fv:Value)(p:Int->Bool)(hxs:AH h xsv 1 eI xs)(hf:∀x ∈ xs,∀h1,h.Le h1->Cl W fv #[J x] h1 λv h2=>v=.bool (p x)/\h1.Le h2):Af W 92 #[xsv,fv] h (λv h'=>v=(.bool (xs.any p):Value)/\h.Le h'):=by
 have aa:=hxs.len;refine AJ func92 Z (Nb Z) (Sq (Rg (As (.bool false) Z Z (Nl (Sq (Rg (Mv xsv Z Z (Mv fv Z Z (Pl Z (AW func139 Wj Z Z ((Qc xs xsv fv p hxs (λx hx h1 l1=>hf x hx h1 (GH.Le.trans Lr l1))).mono λ_ _ ac=>?_)))))))))));obtain ⟨rfl,ab⟩:=ac;exact Pl Z (Cp (a:=idxOf p xs) (b:=0) Z Z (As (.bool (decide (0<=(idxOf p xs)))) Z Z (Nl (Rt (⟨.inr Z,Ag Z (v:=.bool (decide (0<=(idxOf p xs)))) Z (⟨(by rw [show decide (0<=idxOf p xs)=xs.any p from by rw [Bool.eq_iff_iff];simp [IU]]),ab⟩)⟩)))))
theorem N3{W:Wk prog}{h:GH}(xs:List AF)(xsv:Value)(fv:Value)(p:AF->Bool)(hxs:AH h xsv 4 A2 xs)(hf:∀x ∈ xs,∀h1,h.Le h1->Cl W fv #[.agg #[J x.good,J x.day,J x.low,J x.high]] h1 λv h2=>v=.bool (p x)/\h1.Le h2):Af W 158 #[xsv,fv] h (λv h'=>v=(J (idxOf p xs):Value)/\h.Le h'):=by
 have ac:=hxs.len;refine AJ func158 Z (Nb Z) (Sq (Rg (As (J 0) Z Z (Nl (Sq (Sq (Rg (Mv xsv Z Z (Pl Z (AY HD hxs Z (Mv (J 0) Z Z (Nl (Bk (Al (λnn σ' ds' h'=>∃(k:Nat),nn=xs.length-k/\(k<=xs.length)/\((xs.take k).any p=false)/\ds'=[]/\GH.Le h h'/\σ' 0=xsv/\σ' 1=fv/\σ' 7=J (xs.length:Int)/\σ' 8=J k) ⟨0,Z,(by omega),(by simp),Z,Lr,Z,Z,Z,Z⟩ (λnn _ _ _ am=>?_)))))))))))))));obtain ⟨k,rfl,hk,hs,x6,x7,x8,x9,al,ad⟩:=am;subst x6;refine Sq (Rg (Pl Z (A0 (a:=(k:Int)) (b:=(xs.length:Int)) ad al (Nl (Sq (AX (p:=(k:Int)<(xs.length:Int)) Z (λae=>?_) (λae=>?_)))))))
 ·refine Sk (Sq (Bk (Sq (Rg (Mv (J k) Z ad (As (J k) Z Z (Nl (Sq (Rg (Mv fv Z x9 (Mv xsv Z x8 (Mv (J k) Z Z ?_))))))))))));have af:(0:Int)<=(k:Int):=by omega
  have ag:(k:Int)<((xs.length:Nat):Int):=by omega
  refine Pl Z (Ar KA hxs Z Z af ag λan ab ah=>have ai:Aa _ an ab 4 (A2 (YG xs k)):=Aa.getD AF.z ah;Ld (.agg (Q2c xs k)) Z Z (AO HE (ai.le x7)) (Pl Z (I4 Z (vs:=#[.agg (Q2c xs k)]) (by simp only [List.map_toArray,List.map_cons,List.map_nil,AT] <;> rfl) ((hf (YG xs k) (CI (by omega)) _ x7).mono λ_ _ aj=>?_))));obtain ⟨rfl,aa⟩:=aj;refine Nl (DI (t:=p (YG xs k)) Z (λak=>?_) (λak=>?_))
  ·exact Sq (Rg (Mv (J k) Z Z (As (J k) Z Z (Nl (Rt (⟨.inr Z,Ag Z (v:=J k) Z (⟨(by (rw [Ms (k:=k) (by omega) hs ‹_›];done)),(x7.trans aa)⟩)⟩))))))
  ·exact Sk (Rg (Ad (k:Int) 1 Z ad Z (by omega) (Mv (J ((k:Int)+1)) Z Z (Nl (⟨_,by omega,k+1,Z,(by omega),(by exact L7 (d:=AF.z) (by omega) hs ‹_›),Z,(x7.trans aa),x8,x9,al,Z⟩)))))
 ·exact Xt (Sq (Rg (As (J (-1)) Z Z (Nl (Rt (⟨.inr Z,Ag Z (v:=J (-1)) Z (⟨(by (rw [LF (k:=k) (by omega) hs])),x7⟩)⟩))))))
theorem Li{W:Wk prog}{h:GH}(xs:List AF)(xsv:Value)(fv:Value)(p:AF->Bool)(hxs:AH h xsv 4 A2 xs)(hf:∀x ∈ xs,∀h1,h.Le h1->Cl W fv #[.agg #[J x.good,J x.day,J x.low,J x.high]] h1 λv h2=>v=.bool (p x)/\h1.Le h2):Af W 144 #[xsv,fv] h (λv h'=>v=(.bool (xs.any p):Value)/\h.Le h'):=by
 have aa:=hxs.len;refine AJ func144 Z (Nb Z) (Sq (Rg (As (.bool false) Z Z (Nl (Sq (Rg (Mv xsv Z Z (Mv fv Z Z (Pl Z (AW func158 Ws Z Z ((N3 xs xsv fv p hxs (λx hx h1 l1=>hf x hx h1 (GH.Le.trans Lr l1))).mono λ_ _ ac=>?_)))))))))));obtain ⟨rfl,ab⟩:=ac;exact Pl Z (Cp (a:=idxOf p xs) (b:=0) Z Z (As (.bool (decide (0<=(idxOf p xs)))) Z Z (Nl (Rt (⟨.inr Z,Ag Z (v:=.bool (decide (0<=(idxOf p xs)))) Z (⟨(by rw [show decide (0<=idxOf p xs)=xs.any p from by rw [Bool.eq_iff_iff];simp [IU]]),ab⟩)⟩)))))
theorem P0{W:Wk prog}{h:GH}(xs:List Good)(xsv:Value)(fv:Value)(p:Good->Bool)(hxs:AH h xsv 5 BL xs)(hf:∀x ∈ xs,∀h1,h.Le h1->Cl W fv #[.agg #[.string x.name,J x.cost,J x.pack,J x.low,J x.high]] h1 λv h2=>v=.bool (p x)/\h1.Le h2):Af W 202 #[xsv,fv] h (λv h'=>v=(J (idxOf p xs):Value)/\h.Le h'):=by
 have ac:=hxs.len;refine AJ func202 Z (Nb Z) (Sq (Rg (As (J 0) Z Z (Nl (Sq (Sq (Rg (Mv xsv Z Z (Pl Z (AY Cn hxs Z (Mv (J 0) Z Z (Nl (Bk (Al (λnn σ' ds' h'=>∃(k:Nat),nn=xs.length-k/\(k<=xs.length)/\((xs.take k).any p=false)/\ds'=[]/\GH.Le h h'/\σ' 0=xsv/\σ' 1=fv/\σ' 7=J (xs.length:Int)/\σ' 8=J k) ⟨0,Z,(by omega),(by simp),Z,Lr,Z,Z,Z,Z⟩ (λnn _ _ _ am=>?_)))))))))))))));obtain ⟨k,rfl,hk,hs,x6,x7,x8,x9,al,ad⟩:=am;subst x6;refine Sq (Rg (Pl Z (A0 (a:=(k:Int)) (b:=(xs.length:Int)) ad al (Nl (Sq (AX (p:=(k:Int)<(xs.length:Int)) Z (λae=>?_) (λae=>?_)))))))
 ·refine Sk (Sq (Bk (Sq (Rg (Mv (J k) Z ad (As (J k) Z Z (Nl (Sq (Rg (Mv fv Z x9 (Mv xsv Z x8 (Mv (J k) Z Z ?_))))))))))));have af:(0:Int)<=(k:Int):=by omega
  have ag:(k:Int)<((xs.length:Nat):Int):=by omega
  refine Pl Z (Ar Dz hxs Z Z af ag λan ab ah=>have ai:Aa _ an ab 5 (Q3n xs k):=Aa.getD Good.z ah;Ld (.agg (Q29 xs k)) Z Z (AO F0 (ai.le x7)) (Pl Z (I4 Z (vs:=#[.agg (Q29 xs k)]) (by simp only [List.map_toArray,List.map_cons,List.map_nil,AT] <;> rfl) ((hf (xs.getD k Good.z) (CI (by omega)) _ x7).mono λ_ _ aj=>?_))));obtain ⟨rfl,aa⟩:=aj;refine Nl (DI (t:=p (xs.getD k Good.z)) Z (λak=>?_) (λak=>?_))
  ·exact Sq (Rg (Mv (J k) Z Z (As (J k) Z Z (Nl (Rt (⟨.inr Z,Ag Z (v:=J k) Z (⟨(by (rw [Ms (k:=k) (by omega) hs ‹_›];done)),(x7.trans aa)⟩)⟩))))))
  ·exact Sk (Rg (Ad (k:Int) 1 Z ad Z (by omega) (Mv (J ((k:Int)+1)) Z Z (Nl (⟨_,by omega,k+1,Z,(by omega),(by exact L7 (d:=Good.z) (by omega) hs ‹_›),Z,(x7.trans aa),x8,x9,al,Z⟩)))))
 ·exact Xt (Sq (Rg (As (J (-1)) Z Z (Nl (Rt (⟨.inr Z,Ag Z (v:=J (-1)) Z (⟨(by (rw [LF (k:=k) (by omega) hs])),x7⟩)⟩))))))
theorem Mf{W:Wk prog}{h:GH}(xs:List Good)(xsv:Value)(fv:Value)(p:Good->Bool)(hxs:AH h xsv 5 BL xs)(hf:∀x ∈ xs,∀h1,h.Le h1->Cl W fv #[.agg #[.string x.name,J x.cost,J x.pack,J x.low,J x.high]] h1 λv h2=>v=.bool (p x)/\h1.Le h2):Af W 199 #[xsv,fv] h (λv h'=>v=(.bool (xs.any p):Value)/\h.Le h'):=by
 have aa:=hxs.len;refine AJ func199 Z (Nb Z) (Sq (Rg (As (.bool false) Z Z (Nl (Sq (Rg (Mv xsv Z Z (Mv fv Z Z (Pl Z (AW func202 XD Z Z ((P0 xs xsv fv p hxs (λx hx h1 l1=>hf x hx h1 (GH.Le.trans Lr l1))).mono λ_ _ ac=>?_)))))))))));obtain ⟨rfl,ab⟩:=ac;exact Pl Z (Cp (a:=idxOf p xs) (b:=0) Z Z (As (.bool (decide (0<=(idxOf p xs)))) Z Z (Nl (Rt (⟨.inr Z,Ag Z (v:=.bool (decide (0<=(idxOf p xs)))) Z (⟨(by rw [show decide (0<=idxOf p xs)=xs.any p from by rw [Bool.eq_iff_iff];simp [IU]]),ab⟩)⟩)))))
theorem Qd{W:Wk prog}{h:GH}(n:Int):Af W 155 #[J n] h (λv h'=>v=(.bool (decide (¬(0<=n/\n<=99))):Value)/\h=h'):=by
 refine AJ func155 Z (Nb Z) (Sq (Rg (As (.bool false) Z Z (Nl (Sq (Rg (Mv (J n) Z Z (Pl Z (Az func79 B9 Z Z Z ((Bd n 0 99 ).mono λ_ _ aa=>?_))))))))));obtain ⟨rfl,rfl⟩:=aa;exact Pl Z (BF (p:=0<=n/\n<=99) Z (As (.bool (Q43 n)) Z Z (Nl (Rt (⟨.inr Z,Ag Z (v:=.bool (Q43 n)) Z (⟨Z,Z⟩)⟩)))))
theorem Mg{W:Wk prog}{h:GH}(l:List Int)(lv:Value)(m:Int)(hl:AH h lv 1 eI l):Af W 140 #[lv,J m] h (λv h'=>v=(J (Av l m):Value)/\h.Le h'):=by
 have ab:=hl.len;refine AJ func140 Z (Nb Z) (Sq (Rg (As (J 0) Z Z (Nl (Sq (Bk (Sq (Rg (Mv lv Z Z (Pl Z (AY B2 hl Z (Mv (J m) Z Z (Pl Z (A7 (a:=(l.length:Int)) (b:=m) Z Z (As (.bool (decide (¬(l.length:Int)=m))) Z Z (Nl (AX (p:=¬(l.length:Int)=m) Z (λac=>?_) (λac=>?_))))))))))))))))))
 ·exact Sq (Rg (As (J 2) Z Z (Nl (Rt (⟨.inr Z,Ag Z (v:=J 2) Z (⟨(by simp_all [Av]),Lr⟩)⟩)))))
 ·refine Sq (Rg (Mv lv Z Z ?_));have ad:∀x ∈ l,∀h1,GH.Le h h1->Cl W (.func (.func 155) #[] #[]) #[J x] h1 λv h2=>v=.bool ((λx=>decide (¬(0<=x/\x<=99))) x)/\h1.Le h2:=by
   intro x hx h1 _;exact CK func155 Wp Z ((Qd x ).mono λv h2 hp=>⟨hp.1,by rw [<-hp.2];exact GH.Le.refl _⟩)
  refine Pl Z (AW func92 Re Z Z ((Ip l lv (.func (.func 155) #[] #[]) (λx=>decide (¬(0<=x/\x<=99))) hl ad).mono λ_ _ ae=>?_));obtain ⟨rfl,aa⟩:=ae;refine As (.bool (l.any (λx=>decide (¬(0<=x/\x<=99))))) Z Z (Nl (DI (t:=l.any (λx=>decide (¬(0<=x/\x<=99)))) Z (λaf=>?_) (λaf=>?_)))
  ·exact Sq (Rg (As (J 1) Z Z (Nl (Rt (⟨.inr Z,Ag Z (v:=J 1) Z (⟨(by simp_all [Av]),aa⟩)⟩)))))
  ·exact Sk (Sq (Rg (As (J 0) Z Z (Nl (Rt (⟨.inr Z,Ag Z (v:=J 0) Z (⟨(by simp_all [Av]),aa⟩)⟩))))))
end Go.Ns
