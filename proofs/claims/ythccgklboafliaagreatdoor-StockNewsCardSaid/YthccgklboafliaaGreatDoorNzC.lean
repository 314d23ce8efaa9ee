/- Rules and walks, part 3 of 6. No conditions. -/
import Derived.Carry
import Derived.Conc.LeavingOf
import Derived.LaidMore
import Derived.OpenShut
import Derived.ProofKit
import Derived.Test.YthccgklboafliaaGreatDoorNzA
import Derived.Test.YthccgklboafliaaGreatDoorNzB
import Derived.Test.YthccgklboafliaaGreatDoorProg
set_option linter.unusedVariables false
set_option linter.unusedSimpArgs false
set_option linter.unnecessarySimpa false
set_option linter.unusedSectionVars false
namespace Go.Ns
open Go.Conc
section
variable {P:Program} {M:Type}
structure RS(P:Program)(M:Type) where
 W:Wk P
 Rep:Nat->M->Value->GH->Prop
 main:Bool
 fn:FuncId
 rd:Option Nat
 N:Nat
def RS.wk(F:RS P M):Option (GD M)->Wk P
 | none=>F.W
 | some s=>⟨F.main,Fd P F.main (Jb P F.Rep F.W.K s F.main),M1 _ _⟩
abbrev RS.env(F:RS P M)(i:Option (GD M)):HB P:=⟨F.wk i,F.fn,F.rd,F.N⟩
abbrev VI(M:Type):=Option (GD M)->Exit->(Nat->Value)->List Deferred->GH->Prop
def Mx(F:RS P M)(c:Code)(i:Option (GD M))(O:Nat->Value)(ds:List Deferred)(h:GH)(Q:VI M):Prop:=
 ∀(b:Frame)(k:List Item)(cs:List Frame)(L:Option (GD M)->Lv)(t:Array Value),b.fn=F.fn->b.roundOf=F.rd->(∀i,My (F.wk i) b cs (L i))->By t F.N O->
  (∀i e σ' ds' h',Q i e σ' ds' h'->∀t',By t' F.N σ'->DP (F.wk i) (L i) b k cs e t' ds' h')->(F.wk i).K (G (C2 b t ds (.code c ::k)) cs) h
def NL(F:RS P M)(ops:Array Oper)(l:List Oper)(i:Option (GD M))(O:Nat->Value)(ds:List Deferred)(h:GH)(Q:VI M):Prop:=
 ∀(n:Nat)(b:Frame)(k:List Item)(cs:List Frame)(L:Option (GD M)->Lv)(t:Array Value),(∀j,l[j]? =ops[n+j]?)->b.fn=F.fn->b.roundOf=F.rd->(∀i,My (F.wk i) b cs (L i))->By t F.N O->
  (∀i e σ' ds' h',Q i e σ' ds' h'->∀t',By t' F.N σ'->DP (F.wk i) (L i) b k cs e t' ds' h')->(F.wk i).K (G (C2 b t ds (.inRegion ops (List.range' n l.length) ::k)) cs) h
variable {F:RS P M} {i:Option (GD M)} {O:Nat->Value} {ds:List Deferred} {h:GH} {Q:VI M}
theorem JH{c:Code}(x:Tr (F.env i) c O ds h (Q i)):Mx F c i O ds h Q:=λb k cs L t hb hr hl hs hc=>x b k cs (L i) t hb hr (hl i) hs (hc i)
theorem NM{x y:Code}(a:Mx F x i O ds h (λi e σ' ds' h'=>match e with | .normal=>Mx F y i σ' ds' h' Q | e=>Q i e σ' ds' h')):Mx F (.seq x y) i O ds h Q:=by
 intro b k cs L t hb hr hl hs hc;refine Wk.go (C2 b t ds (.code x ::.code y ::k)) (λw=>by rw [A9];simp [stepG.exec,C2,G]) ?_;refine a b (.code y ::k) cs L t hb hr hl hs λi e σ' ds' h' q t' ht'=>?_;cases e with
 | normal=>exact q b k cs L t' hb hr hl ht' hc
 | exit id=>exact DP.push rfl aD (hc _ _ _ _ _ q t' ht')
 | ret=>exact DP.push rfl aD (hc _ _ _ _ _ q t' ht')
 | goto l=>exact DP.push rfl aD (hc _ _ _ _ _ q t' ht')
 | panic l=>exact DP.push rfl aD (hc _ _ _ _ _ q t' ht')
 | outgrown=>exact DP.push rfl aD (hc _ _ _ _ _ q t' ht')
theorem Cu{x y:Code}(a:Tr (F.env i) x O ds h (λe σ' ds' h'=>match e with | .normal=>Mx F y i σ' ds' h' Q | e=>Q i e σ' ds' h')):Mx F (.seq x y) i O ds h Q:=
 NM (JH (Q:=λi e σ' ds' h'=>match e with | .normal=>Mx F y i σ' ds' h' Q | e=>Q i e σ' ds' h') a)
theorem VJ{c:Operand}{x y:Code}{t:Bool}(hc:AQ O c=.bool t)(a:Mx F (if t then x else y) i O ds h Q):Mx F (.cond c x y) i O ds h Q:=by
 intro b k cs L tm hb hr hl hs hq;refine Wk.go (C2 b tm ds (.code (if t then x else y) ::k)) (λw=>?_) (a b k cs L tm hb hr hl hs hq);have he:(C2 b tm ds (.code (.cond c x y) ::k)).eval c=.bool t:=by rw [KT hs];exact hc
 simp only [C2] at he;rw [A9];simp [stepG.exec,C2,G,he]
theorem trI_true{c:Operand}{x y:Code}(hc:AQ O c=.bool true)(a:Mx F x i O ds h Q):Mx F (.cond c x y) i O ds h Q:=VJ hc a
theorem AAA{c:Operand}{x y:Code}(hc:AQ O c=.bool false)(a:Mx F y i O ds h Q):Mx F (.cond c x y) i O ds h Q:=VJ hc a
theorem trI_ifb{c:Operand}{x y:Code}{t:Bool}(hc:AQ O c=.bool t)(a:t=true->Mx F x i O ds h Q)(a':t=false->Mx F y i O ds h Q):Mx F (.cond c x y) i O ds h Q:=by
 cases t with
 | true=>exact trI_true hc (a rfl)
 | false=>exact AAA hc (a' rfl)
theorem LK{id:Nat}{c:Code}(a:Mx F c i O ds h (λi e σ' ds' h'=>match e with | .normal=>Q i .normal σ' ds' h' | .exit id'=>if id'=id then Q i .normal σ' ds' h' else Q i (.exit id') σ' ds' h' | e=>Q i e σ' ds' h')) :
  Mx F (.block id c) i O ds h Q:=by
 intro b k cs L t hb hr hl hs hc;refine Wk.go (C2 b t ds (.code c ::.inBlock id ::k)) (λw=>by rw [A9];simp [stepG.exec,C2,G]) ?_;refine a b (.inBlock id ::k) cs L t hb hr hl hs λi e σ' ds' h' q t' ht'=>?_;cases e with
 | normal=>exact Wk.go (C2 b t' ds' k) (λw=>by rw [A9];simp [stepG.exec,C2,G]) (hc _ _ _ _ _ q t' ht')
 | exit id'=>
  by_cases hid:id'=id
  ·simp only [hid,if_true] at q
   have:=hc _ _ _ _ _ q t' ht'
   simp only [DP,exitTo,hid,beq_self_eq_true,if_true];exact this
  ·simp only [hid,if_false] at q
   have:=hc _ _ _ _ _ q t' ht'
   have hne:(id==id')=false:=by simp;exact λh=>hid h.symm
   simp only [DP,exitTo,hne] at this ⊢;exact this
 | ret=>exact hc _ _ _ _ _ q t' ht'
 | goto l=>exact hc _ _ _ _ _ q t' ht'
 | panic l=>exact hc _ _ _ _ _ q t' ht'
 | outgrown=>exact hc _ _ _ _ _ q t' ht'
theorem VK{c:Code}(I:Nat->Option (GD M)->(Nat->Value)->List Deferred->GH->Prop){n:Nat}(i0:I n i O ds h)
  (round:∀n i O ds h,I n i O ds h->Mx F c i O ds h (λi e σ' ds' h'=>match e with | .normal=>∃m,m<n/\I m i σ' ds' h' | e=>Q i e σ' ds' h')):Mx F (.loop c) i O ds h Q:=by
 intro b k cs L t hb hr hl hs hc;refine Wk.go (C2 b t ds (.code c ::.inLoop c ::k)) (λw=>by rw [A9];simp [stepG.exec,C2,G]) ?_;have key:∀n i O ds h t,I n i O ds h->By t F.N O->(F.wk i).K (G (C2 b t ds (.code c ::.inLoop c ::k)) cs) h:=by
  intro n
  induction n using Nat.strongRecOn with
  | ind n ih=>
   intro i O ds h t hi hs;refine round n i O ds h hi b (.inLoop c ::k) cs L t hb hr hl hs λi e σ' ds' h' q t' ht'=>?_;cases e with
   | normal=>
    obtain ⟨m,hm,hi'⟩:=q;exact Wk.go (C2 b t' ds' (.code c ::.inLoop c ::k)) (λw=>by rw [A9];simp [stepG.exec,C2,G]) (ih m hm _ _ _ _ _ hi' ht')
   | exit id=>exact DP.push rfl aD (hc _ _ _ _ _ q t' ht')
   | ret=>exact DP.push rfl aD (hc _ _ _ _ _ q t' ht')
   | goto l=>exact DP.push rfl aD (hc _ _ _ _ _ q t' ht')
   | panic l=>exact DP.push rfl aD (hc _ _ _ _ _ q t' ht')
   | outgrown=>exact DP.push rfl aD (hc _ _ _ _ _ q t' ht')
 exact key n i O ds h t i0 hs
theorem ML{id:Nat}{l:List Oper}(a:NL F l.toArray l i O ds h Q):Mx F (.region id l.toArray false) i O ds h Q:=by
 intro b k cs L t hb hr hl hs hc;refine Wk.go (C2 b t ds (.inRegion l.toArray (List.range' 0 l.length) ::k)) (λw=>?_) (a 0 b k cs L t aD hb hr hl hs hc);rw [A9];simp [stepG.exec,C2,G,List.range_eq_range']
theorem NN{ops:Array Oper}(q:Q i .normal O ds h):NL F ops [] i O ds h Q:=by
 intro n b k cs L t hi hb hr hl hs hc;exact Wk.go (C2 b t ds k) (λw=>by rw [A9];simp [stepG.exec,C2,G]) (hc _ _ _ _ _ q t hs)
theorem IG{ops:Array Oper}{o:Oper}{l:List Oper}(hg:o.guard=none)(hdf:F.rd=none\/Ei o.op=false)(hd:Dj o.dst F.N=true)
  (x:Bg (F.env i) o O ds h λσ' ds' h'=>NL F ops l i σ' ds' h' Q):NL F ops (o ::l) i O ds h Q:=by
 intro n b k cs L t hi hb hr hl hs hc;have ho:ops[n]? =some o:=by simpa using (hi 0).symm
 refine O2 (E:=F.env i) (rest:=List.range' (n+1) l.length) ho (by simp [Region.wanted,hg]) (hr▸hdf) hd hs x λσ' ds' h' y t' ht'=>?_;exact y (n+1) b k cs L t' (λj=>by have:=hi (j+1);simpa [Nat.add_assoc,Nat.add_comm 1 j] using this) hb hr hl ht' hc
theorem VL{main:Bool}{b:Frame}{t:Array Value}{ops:Array Oper}{n:Nat}{rest:List Nat}{k:List Item}{cs:List Frame}{o:Oper}{N:Nat}(hs:By t N O)(ho:ops[n]? =some o)(hw:Region.wanted o (yielded ops t)=true)
  (hdf:b.roundOf=none\/Ei o.op=false) (w:World):stepG P main (G (C2 b t ds (.inRegion ops (n ::rest) ::k)) cs) w=stepG.apply P true (C2 b t ds (.inRegion ops (n ::rest) ::k)) cs none (execOp (AQ O) o) w:=by
 have hev:=KT (b:=b) (ds:=ds) (k:=.inRegion ops (n ::rest) ::k) hs;rw [<-hev];have hw':((ops[n]?).map (Region.wanted · (yielded ops t))).getD false=true:=by simp [ho,hw]
 rw [A9];unfold stepG.exec;simp only [C2,hw',↓reduceIte];unfold stepG.oper;simp only [Frame.oper?,ho];rcases hdf with e | e
 ·simp only [e]
 ·cases hq:o.op <;> first | rfl | (rw [hq] at e;cases e;done) | (cases b.roundOf <;> rfl)
theorem ZT{main:Bool}{b:Frame}{t:Array Value}{ops:Array Oper}{n:Nat}{rest:List Nat}{k:List Item}{cs:List Frame}{o:Oper}{N:Nat}{w:World}{cc:Array CommCase}{bl:Bool}{sh:CommShape}(hs:By t N O)(ho:ops[n]? =some o)(hw:Region.wanted o (yielded ops t)=true)
  (hdf:b.roundOf=none\/Ei o.op=false) (hr:(execOp (AQ O) o).runT P w #[]=(.ok (.comm cc bl sh) w,#[])) :
  stepG P main (G (C2 b t ds (.inRegion ops (n ::rest) ::k)) cs) w=.comm (G (C2 b t ds (.inRegion ops (n ::rest) ::k)) cs) cc bl sh w #[]:=by
 rw [VL hs ho hw hdf];simp only [stepG.apply,hr,if_true,ite_self,seen_none];rfl
theorem spawn_at{main:Bool}{b:Frame}{t:Array Value}{ops:Array Oper}{n:Nat}{rest:List Nat}{k:List Item}{cs:List Frame}{o:Oper}{N:Nat}{w:World}{f:Fn}{cap args:Array Value}(hs:By t N O)(ho:ops[n]? =some o)(hw:Region.wanted o (yielded ops t)=true)
  (hdf:b.roundOf=none\/Ei o.op=false) (hr:(execOp (AQ O) o).runT P w #[]=(.ok (.spawn { target:=.fn f cap,args:=args }) w,#[])) :
  stepG P main (G (C2 b t ds (.inRegion ops (n ::rest) ::k)) cs) w=.spawn (G ((C2 b t ds (.inRegion ops (n ::rest) ::k)).finish undef) cs) (born P { target:=.fn f cap,args:=args }) w #[]:=by
 rw [VL hs ho hw hdf];simp only [stepG.apply,hr,if_true,ite_self,seen_none];simp [GStep.after,G,born]
variable {ops:Array Oper} {o:Oper} {l:List Oper}
theorem MM(hl:l≠[]):NL F ops l (some .never) O ds h Q:=λn b k cs L t hi hb hr _ hs hc=>Fd.stop rfl
theorem AAB{c:Nat}{m:M}{nx:GD M}{v z:Value}{hm h1:GH}(hg:o.guard=none)(hdf:Ei o.op=false)(hd:Dj o.dst F.N=true)
  (hr:∀w,(execOp (AQ O) o).runT P w #[]=(.ok (.comm #[scase c v z] true .send) w,#[])) (hsp:GH.Split h h1 hm) (hrep:F.Rep c m v hm) (hnx:¬nx.isDone)
  (x:NL F ops l (some nx) (putS O o.dst undef) ds h1 Q):NL F ops (o ::l) (some (.send c m nx)) O ds h Q:=by
 intro n b k cs L t hi hb hrd hl hs hc;have ho:ops[n]? =some o:=by simpa using (hi 0).symm
 refine Fd.stop ⟨_,cs,v,z,hm,h1,rfl,⟨λw f=>?_,hsp,hrep,?_⟩⟩
 ·rw [List.length_cons,List.range'_succ];exact ZT hs ho (by simp [Region.wanted,hg]) (.inr hdf) (hr w)
 ·rw [H3 hnx,List.length_cons,List.range'_succ,Df ho];exact x (n+1) b k cs L _ (λj=>by have:=hi (j+1);simpa [Nat.add_assoc,Nat.add_comm 1 j] using this) hb hrd hl (hs.putS hd undef) hc
theorem SB{c:Nat}{f:Option M->GD M}{z:Value}{ok:Bool}(hg:o.guard=none)(hdf:Ei o.op=false)(hd:Dj o.dst F.N=true)
  (hr:∀w,(execOp (AQ O) o).runT P w #[]=(.ok (.comm #[rcase c z] true (.recv ok)) w,#[])) (hnx:∀o,¬(f o).isDone)
  (x:∀m v hm,F.Rep c m v hm->h.Compat hm->NL F ops l (some (f (some m))) (putS O o.dst (recvd ok v true)) ds (h.join hm) Q)
  (y:NL F ops l (some (f none)) (putS O o.dst (recvd ok z false)) ds h Q):NL F ops (o ::l) (some (.recv c f)) O ds h Q:=by
 intro n b k cs L t hi hb hrd hl hs hc;have ho:ops[n]? =some o:=by simpa using (hi 0).symm
 refine Fd.stop ⟨_,cs,z,ok,rfl,⟨λw fw=>?_,λm v hm hrep hcp=>?_,?_⟩⟩
 ·rw [List.length_cons,List.range'_succ];exact ZT hs ho (by simp [Region.wanted,hg]) (.inr hdf) (hr w)
 ·show GW P F.Rep F.W.K (f (some m)) F.main _ _;rw [H3 (hnx _),List.length_cons,List.range'_succ,Df ho];exact x m v hm hrep hcp (n+1) b k cs L _ (λj=>by have:=hi (j+1);simpa [Nat.add_assoc,Nat.add_comm 1 j] using this) hb hrd hl (hs.putS hd _) hc
 ·show GW P F.Rep F.W.K (f none) F.main _ _;rw [H3 (hnx _),List.length_cons,List.range'_succ,Df ho];exact y (n+1) b k cs L _ (λj=>by have:=hi (j+1);simpa [Nat.add_assoc,Nat.add_comm 1 j] using this) hb hrd hl (hs.putS hd _) hc
theorem trLI_go{ch nx:GD M}{f:Fn}{cap args:Array Value}{hc h1:GH}(hg:o.guard=none)(hdf:Ei o.op=false)(hd:Dj o.dst F.N=true)
  (hr:∀w,(execOp (AQ O) o).runT P w #[]=(.ok (.spawn { target:=.fn f cap,args:=args }) w,#[])) (hsp:GH.Split h h1 hc) (hnx:¬nx.isDone)
  (child:GW P F.Rep F.W.K ch false (born P { target:=.fn f cap,args:=args }) hc) (x:NL F ops l (some nx) (putS O o.dst undef) ds h1 Q):NL F ops (o ::l) (some (.spawn ch nx)) O ds h Q:=by
 intro n b k cs L t hi hb hrd hl hs hq;have ho:ops[n]? =some o:=by simpa using (hi 0).symm
 refine Fd.stop ⟨_,cs,(C2 b t ds (.inRegion ops (List.range' n (o ::l).length) ::k)).finish undef,_,hc,h1,rfl,⟨λw fw=>?_,hsp,?_,child⟩⟩
 ·rw [List.length_cons,List.range'_succ];exact spawn_at hs ho (by simp [Region.wanted,hg]) (.inr hdf) (hr w)
 ·rw [H3 hnx,List.length_cons,List.range'_succ,Df ho];exact x (n+1) b k cs L _ (λj=>by have:=hi (j+1);simpa [Nat.add_assoc,Nat.add_comm 1 j] using this) hb hrd hl (hs.putS hd undef) hq
def MN(tys:Array TypeId)(ty:TypeId)(cs:Array Bool)(c:Nat):Deferred:={ target:=.builtin .close tys ty cs,args:=#[.chan (some c)] }
theorem Tm{f:FuncId}{fn:Func}{args:Array Value}(hf:P.funcs[f]? =some fn)(hc:AN fn=true)(w:World):(callFunc f args).runT P w #[]=(.ok (.enter f args) w,#[]):=by
 unfold AN at hc;simp only [Bool.and_eq_true,Bool.not_eq_true'] at hc;unfold callFunc;show (match P.funcs[f]? with | none=>_ | some fn=>_:Sem Next).runT P w #[]=_;rw [hf];simp only [];rw [if_neg (by rw [hc.1];simp),if_neg (by cases hb:fn.body with | none=>rw [hb] at hc;simp at hc | some c=>simp)];rfl
theorem Ww{tys:Array TypeId}{ty:TypeId}{cs:Array Bool}{ch s r:Nat}{w:World}(hw:w.heap[ch]? =some (.chan 0 #[] false s r false)) :
  (invoke (.builtin .close tys ty cs) #[.chan (some ch)]).runT P w #[]=(.ok (.value (.tuple #[])) { w with heap:=w.heap.setIfInBounds ch (.chan 0 #[] true s r false) },#[⟨.obj ch,false,true⟩,⟨.obj ch,true,true⟩]):=by
 show ((do pure (.value (<-Builtin.close_ tys ty #[.chan (some ch)])):Sem Next)).runT P w #[]=_;show Sem.runT P (.getObj ch λo=>_) w #[]=_;unfold Sem.runT;rw [hw];show Sem.runT P (.setObj ch (.chan 0 #[] true s r false) _) w _=_;unfold Sem.runT;rw [hw];rfl
theorem Wx{fn:FuncId}{ch:Nat}:seen P fn #[⟨.obj ch,false,true⟩,⟨.obj ch,true,true⟩]=#[⟨.obj ch,false,true⟩,⟨.obj ch,true,true⟩]:=by
 rw [seen_def];simp [seenStep]
theorem AAC{fn:Func}{c:Code}{s:GD M}{ars cap args:Array Value}(hm:F.main=false)(hrd:F.rd=none)(ha:ars++cap=args)(hf:P.funcs[F.fn]? =some fn)(hc:AN fn=true)(hb:fn.body=some c)(hN:F.N=fn.ntmps)(hres:fn.results=#[])(hsz:args.size<=fn.ntmps)(hs:¬s.isDone)
  (x:Mx F c (some s) (λi=>args.getD i undef) [] h λi e O ds h=>(e=.normal\/e=.ret)/\∃ch tys ty cs,i=some (.close ch .done)/\ds=[MN tys ty cs ch]):GW P F.Rep F.W.K s false (born P { target:=.fn (.func F.fn) cap,args:=ars }) h:=by
 let bot:Frame:={ (default:Frame) with fn:=P.funcs.size,defers:=[],mode:=.panicking [goexitEntry] };have hwk:∀s,(F.wk (some s)).K=Fd P false (Jb P F.Rep F.W.K s false):=λs=>by show Fd P F.main (Jb P F.Rep F.W.K s F.main)=_;rw [hm]
 rw [H3 hs];refine M1 _ _ _ _ rfl λw f=>⟨G (Frame.enter P F.fn args .deferred) [bot],w,#[],h,?_,Bi.refl f,?_⟩
 ·subst ha;have hi:(invoke (.fn (.func F.fn) cap) ars).runT P w #[]=(.ok (.enter F.fn (ars++cap)) w,#[]):=Tm hf hc w;show callDeferred P bot [] none { target:=.fn (.func F.fn) cap,args:=ars } w=_;unfold callDeferred;rw [if_neg aD];simp only [hi,seen_none];rfl
 have e0:Frame.enter P F.fn args .deferred=C2 (Frame.enter P F.fn args .deferred) (args++Array.replicate (fn.ntmps-args.size) undef) [] [.code c]:=by simp [Frame.enter,C2,hf,hb]
 rw [e0,<-hwk s];let L:Option (GD M)->Lv:=λi j t ds h'=>(j=none\/j=some .ret)/\∃ch tys ty cs,i=some (.close ch .done)/\ds=[MN tys ty cs ch];have fin:∀ch tys ty cs h' t k,(F.wk (some (.close ch .done))).K (G (EH (Frame.enter P F.fn args .deferred) t [MN tys ty cs ch] k) [bot]) h':=by
  intro ch tys ty cs h' t k;rw [hwk];refine Fd.stop ⟨_,_,EH (Frame.enter P F.fn args .deferred) t [] k,[bot],rfl,⟨λw s r _ hw=>?_,rfl,?_⟩⟩
  ·have hi:=Ww (P:=P) (tys:=tys) (ty:=ty) (cs:=cs) hw;show callDeferred P (EH (Frame.enter P F.fn args .deferred) t [] k) [bot] none (MN tys ty cs ch) w=_;unfold callDeferred MN;rw [if_neg aD];simp only [hi,Wx];rfl
  ·refine ⟨2,.inr ⟨rfl,G bot [],λw=>?_,.inr ⟨rfl,{ G bot [] with status:=.finished },λw=>?_,rfl⟩⟩⟩
   ·show unwind P false (EH (Frame.enter P F.fn args .deferred) t [] k) [bot] none w=_;have hfn:(EH (Frame.enter P F.fn args .deferred) t [] k).fn=F.fn:=rfl;have hk:(EH (Frame.enter P F.fn args .deferred) t [] k).kind=.deferred:=rfl;have hmd:(EH (Frame.enter P F.fn args .deferred) t [] k).mode=.returning:=rfl;have hd:(EH (Frame.enter P F.fn args .deferred) t [] k).defers=[]:=rfl;have r1:∀t,(results fn t).runT P w #[]=(.ok (.tuple #[]) w,#[]):=λt=>by
     unfold results;rw [hres];simp only [Array.mapM_empty];rfl
    unfold unwind;simp only [hd,hmd,hfn,hf,r1,GStep.after,doReturn,hk,seen_none];rfl
   ·show unwind P false bot [] none w=_;have hcat:bot.catches P=false:=by
     unfold Frame.catches
     have:P.funcs[bot.fn]? =none:=Array.getElem?_eq_none (Nat.le_refl _)
     rw [this];rfl
    have hd:bot.defers=[]:=rfl;have hmd:bot.mode=.panicking [goexitEntry]:=rfl;unfold unwind;simp only [hd,hmd,hcat];rfl
 refine x (Frame.enter P F.fn args .deferred) [] [bot] L _ rfl hrd.symm (λi=>⟨?_,?_,?_⟩) ⟨by rw [hN];simp;omega,λi=>?_⟩ ?_
 ·rintro t ds h' ⟨_,ch,tys,ty,cs,rfl,rfl⟩;exact Wk.go (EH (Frame.enter P F.fn args .deferred) t _ []) (λw=>by rw [A9];simp [stepG.exec,C2,EH,G,Frame.enter]) (fin ch tys ty cs h' t [])
 ·rintro t ds h' k ⟨_,ch,tys,ty,cs,rfl,rfl⟩;exact Wk.go (EH (Frame.enter P F.fn args .deferred) t _ (.code .ret ::k)) (λw=>by rw [A9];simp [stepG.exec,C2,EH,G,Frame.enter]) (fin ch tys ty cs h' t _)
 ·rintro id t ds h' k _ ⟨h1 | h1,_⟩ <;> cases h1
 ·by_cases hi:i<args.size
  ·simp [Array.getD_eq_getD_getElem?,Array.getElem?_append_left hi]
  ·simp only [Array.getD_eq_getD_getElem?];rw [Array.getElem?_append_right aA,Array.getElem?_eq_none (show args.size<=i by omega),Array.getElem?_replicate];split <;> rfl
 ·rintro i e O ds h' ⟨he,ch,tys,ty,cs,rfl,rfl⟩ t' ht';rcases he with rfl | rfl
  ·exact Wk.go (EH (Frame.enter P F.fn args .deferred) t' _ []) (λw=>by rw [A9];simp [stepG.exec,C2,EH,G,Frame.enter]) (fin ch tys ty cs h' t' [])
  ·exact ⟨.inr rfl,ch,tys,ty,cs,rfl,rfl⟩
end
section
variable {P:Program} {M:Type} {Post:Value->World->Prop}
def GH.Same(h h':GH):Prop:=∀b p o,h b=some (p,o)->∃p',h' b=some (p',o)
theorem Iq.flags{g:Goroutine}{h h':GH}{gs:Array Goroutine}{w:World}{q:Nat->Nat}{t:Trace}(B:Iq P g h gs w q t)(s:h'.Same h):Iq P g h' gs w q t:=
 { B with
  fits:=λb p o hb=>by obtain ⟨p',x⟩:=s b p o hb;exact B.fits b p' o x
  chn:=λb p o k a hb=>by obtain ⟨p',x⟩:=s b p o hb;exact B.chn b p' o k a x }
theorem EU.flags{g:Goroutine}{h h':GH}(s:h'.Same h)(x:EU P Post g h'):EU P Post g h:=λgs w sl q t B=>x gs w sl q t (B.flags s)
def Wy(c:Nat)(s0:GD M)(N:Jc M):Prop:=0<N.n/\N.s 0=s0/\(∀j,0<j->j<N.n->N.s j=.done/\N.kn 0 j)/\N.cl c=false
theorem RT{Rep:Nat->M->Value->GH->Prop}{g:Goroutine}{h:GH}{c:Nat}{s0:GD M}(hc:h c=some (true,.chan 0 #[] false 0 0 false))(good:∀N:Jc M,Wy c s0 N->KI (λx=>x=c) N)
  (d:GW P Rep (EU P Post) s0 true g (h.delS λx=>x=c)):EU P Post g h:=by
 intro gs w sl q t B;have hsub:(h.delS λx=>x=c).Same h:=λb p o hb=>by
  by_cases e:b=c
  ·rw [GH.delS_in (X:=λx=>x=c) e] at hb;cases hb
  ·rw [GH.delS_ne (X:=λx=>x=c) e] at hb;exact ⟨p,hb⟩
 have B':=B.flags hsub;let N:Jc M:={ n:=gs.size,s:=λj=>if j=0 then s0 else .done,kn:=λi j=>i=0/\0<j,cl:=λ_=>false,ck:=λ_ _=>False };have hpos:0<gs.size:=B.lt;obtain ⟨r0,hsit⟩:=H4 (cl:=N.cl) d;have hsits:∀i g',gs[i]? =some g'->Ri P Rep (EU P Post) (N.s i) N.cl (i==0) g' (only (h.delS λx=>x=c) i) (if i=0 then r0 else .leave (q i)):=by
  intro i g' hi;rcases Nat.eq_zero_or_pos i with rfl | hp
  ·have:=B.here;rw [hi] at this;cases this
   simpa [N,only] using hsit
  ·have h0:¬i=0:=aA
   have hq:=B.old i g' hp hi;simp only [N,h0,if_false];exact .leave (q i) rfl hq
 have hparked:∀i (gi:Goroutine) cs sh,gs[i]? =some (parked gi cs sh)->i=0:=λi gi cs sh hi=>by
  rcases Nat.eq_zero_or_pos i with e | hp
  ·exact e
  ·rcases (B.old i _ hp hi).status with e | e <;> cases e
 refine net_runs (used:=λx=>x=c) (N:=N) (good N ⟨hpos,rfl,λj hj hjn=>⟨if_neg aA,rfl,hj⟩,rfl⟩) (λi=>if i=0 then r0 else .leave (q i)) gs w sl t (only (h.delS λx=>x=c))
  ⟨rfl,B'.HS,B'.TI,hsits,?_,?_,?_,?_,?_,?_⟩
 ·rintro c' rfl;exact ⟨0,B.fits _ _ _ hc⟩
 ·rintro c' i rfl hi;unfold only;split
  ·exact GH.delS_in rfl
  ·rfl
 ·rintro c' k a rfl hk hl;exact B.chn _ _ _ k a hc rfl hk hl
 ·intro i j gi gj c' v z sh z' sh' h1 h2;obtain rfl:=hparked i _ _ _ h1;obtain rfl:=hparked j _ _ _ h2;rw [h1] at h2;exact Hp (Option.some.inj h2).symm
 ·rintro i j hi hj ⟨rfl,hjp⟩;refine ⟨if_neg aA,λk a hk _=>B.known k a hk⟩
 ·rintro c' rfl h1;cases h1
def QA(W:Wk P):Prop:=∃Post:Value->World->Prop,W.K=EU P Post
variable {F:RS P M} {i:Option (GD M)} {O:Nat->Value} {ds:List Deferred} {h:GH} {Q:VI M}
theorem trI_net{c:Code}{s0:GD M}{ch:Nat}(hm:F.main=true)(hW:QA F.W)(hc:h ch=some (true,.chan 0 #[] false 0 0 false))(hs:¬s0.isDone)(good:∀N:Jc M,Wy ch s0 N->KI (λx=>x=ch) N)
  (x:Mx F c (some s0) O ds (h.delS λx=>x=ch) Q):Mx F c none O ds h Q:=by
 intro b k cs L t hb hr hl ht hq
 have:=x b k cs L t hb hr hl ht hq
 obtain ⟨Post,hP⟩:=hW;show F.W.K _ _;rw [hP];refine RT (Rep:=F.Rep) hc good ?_;rw [H3 hs];unfold RS.wk at this;simp only [hm,hP] at this;exact this
theorem trI_out{c:Code}{h0:GH}(hW:QA F.W)(hs:h0.Same h)(x:Mx F c none O ds (h0.join h) Q):Mx F c (some .stop) O ds h Q:=by
 intro b k cs L t hb hr hl ht hq
 have:=x b k cs L t hb hr hl ht hq
 obtain ⟨Post,hP⟩:=hW;refine Fd.stop ?_;show F.W.K _ _;have h2:F.W.K _ _:=this;rw [hP] at h2 ⊢;refine h2.flags λb p o hb=>?_;rcases hj:h0 b with _ | ⟨p0,o0⟩
 ·unfold GH.join at hb;rw [hj] at hb;exact ⟨p,hb⟩
 ·unfold GH.join at hb;rw [hj] at hb;cases hb;exact hs b p o hj
def GH.ro(h:GH):GH:=λb=>(h b).map λx=>(false,x.2)
theorem GH.ro_some{h:GH}{b:Nat}{p:Bool}{o:Obj}(hb:h b=some (p,o)):h.ro b=some (false,o):=by unfold GH.ro;rw [hb];rfl
theorem GH.ro_inv{h:GH}{b:Nat}{p:Bool}{o:Obj}(hb:h.ro b=some (p,o)):p=false/\∃p',h b=some (p',o):=by
 unfold GH.ro at hb;cases e:h b with
 | none=>rw [e] at hb;cases hb
 | some x=>rw [e] at hb;obtain ⟨p',o'⟩:=x;cases hb;exact ⟨rfl,p',rfl⟩
theorem GH.split_ro(h:GH):GH.Split h h.ro h.ro where
 left:=λb p o hb=>by obtain ⟨rfl,p',x⟩:=GH.ro_inv hb;exact ⟨p',x,λe=>by cases e⟩
 right:=λb p o hb=>by obtain ⟨rfl,p',x⟩:=GH.ro_inv hb;exact ⟨p',x,λe=>by cases e⟩
 one:=λr o x hb=>by cases (GH.ro_inv hb).1
 two:=λr o x hb=>by cases (GH.ro_inv hb).1
theorem GH.same_ro(h:GH):h.Same h.ro:=λ_ _ _ hb=>⟨false,GH.ro_some hb⟩
theorem GH.Same.trans{a b c:GH}(x:a.Same b)(y:b.Same c):a.Same c:=λr p o hr=>by obtain ⟨p',z⟩:=x r p o hr;exact y r p' o z
theorem GH.Le.same{a b:GH}(x:a.Le b):a.Same b:=λr p o hr=>⟨p,x.keep hr rfl⟩
theorem GH.le_join(a b:GH):a.Le (a.join b):=λr p o hr=>⟨o,by unfold GH.join;rw [hr],.inl rfl⟩
theorem GH.Same.join{a b:GH}(s:a.Same b):b.Same (a.join b):=λr p o hr=>by
 unfold GH.join;cases e:a r with
 | none=>exact ⟨p,hr⟩
 | some x=>obtain ⟨p0,o0⟩:=x;obtain ⟨p',y⟩:=s r p0 o0 e;rw [hr] at y;cases y;exact ⟨p0,rfl⟩
theorem AX.flags{h h':GH}(s:h.Same h'){b off n:Nat}{vs:Array Value}(x:AX h b off n vs):AX h' b off n vs:=by
 obtain ⟨p,c,t,f,y,z⟩:=x;obtain ⟨p',y'⟩:=s _ _ _ y;exact ⟨p',c,t,f,y',z⟩
theorem AE.flags{U:Type}{h h':GH}(s:h.Same h'){v:Value}{n:Nat}{enc:U->Array Value}{xs:List U}(x:AE h v n enc xs):AE h' v n enc xs:=by
 obtain ⟨a,cap,hv,hc,hm,he⟩:=x;refine ⟨a,cap,hv,hc,hm,λi hi=>?_⟩;obtain ⟨b,off,h1,h2⟩:=he i hi;exact ⟨b,off,h1,h2.flags s⟩
end
section
variable {M:Type} [DecidableEq M]
def JI(c:Nat):List M->GD M
 | []=>.close c .done
 | m ::ms=>.send c m (JI c ms)
def NO:Option M->GD M
 | none=>.stop
 | some _=>.never
def HI(m:M)(nx:GD M):Option M->GD M
 | some m'=>if m'=m then nx else .never
 | none=>.never
def Kj(c:Nat):List M->GD M
 | []=>.recv c NO
 | m ::ms=>.recv c (HI m (Kj c ms))
structure TwoN(c k:Nat)(ms:List M)(N:Jc M):Prop where
 n:N.n=k+1
 pos:0<k
 main:N.s 0=Kj c ms
 child:N.s k=JI c ms
 rest:∀j,0<j->j<k->N.s j=.done/\N.kn 0 j
 cl:N.cl c=false
theorem AAD{c k:Nat}:∀{ms:List M}{N:Jc M},TwoN c k ms N->KI (λx=>x=c) N:=by
 intro ms
 induction ms with
 | nil=>
  intro N T;have hk:=T.pos;refine .step N (by rw [T.n];omega) ⟨_,.shut (i:=k) (c:=c) (nx:=.done) (by rw [T.n];omega) T.child⟩ (λi hi=>?_) (λN' st=>?_)
  ·rcases Nat.eq_zero_or_pos i with rfl | hp
   ·rw [T.main];rfl
   ·rcases Nat.lt_or_ge i k with hl | hl
    ·rw [(T.rest i hp hl).1];show i≠0;omega
    ·obtain rfl:i=k:=by have:=T.n;omega
     rw [T.child];exact ⟨rfl,T.cl⟩
  ·have key:∀i,i<N.n->i=0\/i=k\/N.s i=.done:=λi hi=>by
    rcases Nat.eq_zero_or_pos i with e | hp
    ·exact .inl e
    ·rcases Nat.lt_or_ge i k with hl | hl
     ·exact .inr (.inr (T.rest i hp hl).1)
     ·exact .inr (.inl (by have:=T.n;omega))
   have hm:N.s 0=.recv c NO:=T.main;have hch:N.s k=.close c .done:=T.child;cases st with
   | hire hi hs=>rcases key _ hi with rfl | rfl | e <;> simp_all
   | meet hi hj hij hs hs'=>rcases key _ hi with rfl | rfl | e <;> simp_all
   | hear hj hs hcl=>
    rcases key _ hj with rfl | rfl | e
    ·rw [hm] at hs;cases hs;rw [T.cl] at hcl;cases hcl
    ·rw [hch] at hs;cases hs
    ·rw [e] at hs;cases hs
   | @shut i c' nx hi hs=>
    rcases key _ hi with rfl | rfl | e
    ·rw [hm] at hs;cases hs
    ·rw [hch] at hs;cases hs;refine .step _ (by show 0<N.n;rw [T.n];omega) ⟨_,.hear (j:=0) (c:=c) (f:=_) (by show 0<N.n;rw [T.n];omega) (by show (if 0=i then _ else N.s 0)=_;rw [if_neg aA];exact hm) (by show (if c=c then true else _)=true;rw [if_pos rfl])⟩ (λj hj=>?_) (λN'' st=>?_)
     ·have hj:j<N.n:=hj;show PH _ _ j (if j=i then _ else N.s j);by_cases e:j=i
      ·rw [if_pos e];show j≠0;omega
      ·rw [if_neg e];rcases key j hj with rfl | rfl | e'
       ·rw [hm];rfl
       ·exact absurd rfl e
       ·rw [e'];show j≠0;rintro rfl;rw [hm] at e';cases e'
     ·have hs':∀j,j<N.n->j≠0->(N.shut i c .done).s j=.done:=λj hj hj0=>by
       show (if j=i then _ else N.s j)=_;by_cases e:j=i
       ·rw [if_pos e]
       ·rw [if_neg e];rcases key j hj with rfl | rfl | e'
        ·exact absurd rfl hj0
        ·exact absurd rfl e
        ·exact e'
      have hs0:(N.shut i c .done).s 0=.recv c NO:=by show (if 0=i then _ else N.s 0)=_;rw [if_neg aA];exact hm
      have key2:∀j,j<N.n->j=0\/(N.shut i c .done).s j=.done:=λj hj=>(Nat.eq_zero_or_pos j).imp id λhp=>hs' j hj aA;cases st with
      | hire hi hs=>rcases key2 _ hi with rfl | e <;> simp_all
      | meet hi hj hij hs hs'=>rcases key2 _ hi with rfl | e <;> simp_all
      | shut hi hs=>rcases key2 _ hi with rfl | e <;> simp_all
      | @hear j c' f hj hs hcl=>
       rcases key2 _ hj with rfl | e
       ·rw [hs0] at hs;cases hs;refine .stop _ (by show 0<N.n;rw [T.n];omega) (show (if 0=0 then NO none else (N.shut i c .done).s 0)=GD.stop from rfl) λj hj hjn=>⟨?_,?_⟩
        ·show (if j=0 then _ else (N.shut i c .done).s j)=_;rw [if_neg aA];exact hs' j hjn aA
        ·simp only [Jc.hear,Jc.shut,if_true];show N.kn 0 j\/N.kn i j\/(j=i/\True);rcases Nat.lt_or_ge j i with hl | hl
         ·exact .inl (T.rest j hj hl).2
         ·have hjn:j<N.n:=hjn;exact .inr (.inr ⟨by have:=T.n;omega,trivial⟩)
       ·rw [e] at hs;cases hs
    ·rw [e] at hs;cases hs
 | cons m ms ih=>
  intro N T;have hk:=T.pos;have hch:N.s k=.send c m (JI c ms):=T.child;have hm:N.s 0=.recv c (HI m (Kj c ms)):=T.main;have key:∀i,i<N.n->i=0\/i=k\/N.s i=.done:=λi hi=>by
   rcases Nat.eq_zero_or_pos i with e | hp
   ·exact .inl e
   ·rcases Nat.lt_or_ge i k with hl | hl
    ·exact .inr (.inr (T.rest i hp hl).1)
    ·exact .inr (.inl (by have:=T.n;omega))
  refine .step N (by rw [T.n];omega) ⟨_,.meet (i:=k) (j:=0) (by rw [T.n];omega) (by rw [T.n];omega) aA hch hm⟩ (λi hi=>?_) (λN' st=>?_)
  ·rcases key i hi with rfl | rfl | e
   ·rw [hm];rfl
   ·rw [hch];exact ⟨rfl,T.cl⟩
   ·rw [e];show i≠0;rintro rfl;rw [hm] at e;cases e
  ·cases st with
   | hire hi hs=>rcases key _ hi with rfl | rfl | e <;> simp_all
   | shut hi hs=>rcases key _ hi with rfl | rfl | e <;> simp_all
   | hear hj hs hcl=>
    rcases key _ hj with rfl | rfl | e
    ·rw [hm] at hs;cases hs;rw [T.cl] at hcl;cases hcl
    ·rw [hch] at hs;cases hs
    ·rw [e] at hs;cases hs
   | @meet i j c' m' nx f hi hj hij hs hs'=>
    have hi':i=k:=by
     rcases key _ hi with rfl | rfl | e
     ·rw [hm] at hs;cases hs
     ·rfl
     ·rw [e] at hs;cases hs
    have hj':j=0:=by
     rcases key _ hj with rfl | rfl | e
     ·rfl
     ·rw [hch] at hs';cases hs'
     ·rw [e] at hs';cases hs'
    subst hi' hj';rw [hch] at hs;cases hs;rw [hm] at hs';cases hs';refine ih ⟨T.n,hk,?_,?_,λj hj hjk=>⟨?_,?_⟩,T.cl⟩
    ·show (if 0=i then _ else if 0=0 then _ else N.s 0)=_;rw [if_neg aA,if_pos rfl];show (if m=m then _ else _)=_;rw [if_pos rfl]
    ·show (if i=i then _ else _)=_;rw [if_pos rfl]
    ·show (if j=i then _ else if j=0 then _ else N.s j)=_;rw [if_neg aA,if_neg aA];exact (T.rest j hj hjk).1
    ·simp only [Jc.meet,or_true,if_true];exact .inr (.inl (T.rest j hj hjk).2)
theorem Wz{c:Nat}{ms:List M}{N:Jc M}(S:Wy c (.spawn (JI c ms) (Kj c ms)) N):KI (λx=>x=c) N:=by
 obtain ⟨hn,h0,hr,hcl⟩:=S;have key:∀i,i<N.n->i=0\/N.s i=.done:=λi hi=>(Nat.eq_zero_or_pos i).imp id λhp=>(hr i hp hi).1;refine .step N hn ⟨_,.hire hn h0⟩ (λi hi=>?_) (λN' st=>?_)
 ·rcases key i hi with rfl | e
  ·rw [h0];trivial
  ·rw [e];show i≠0;rintro rfl;rw [h0] at e;cases e
 ·cases st with
  | meet hi hj hij hs hs'=>rcases key _ hi with rfl | e <;> simp_all
  | shut hi hs=>rcases key _ hi with rfl | e <;> simp_all
  | hear hj hs hcl=>rcases key _ hj with rfl | e <;> simp_all
  | @hire i ch nx hi hs=>
   rcases key _ hi with rfl | e
   ·rw [h0] at hs;cases hs;refine AAD (k:=N.n) (ms:=ms) ⟨rfl,hn,?_,?_,λj hj hjk=>⟨?_,?_⟩,hcl⟩
    ·show (if 0=N.n then _ else if 0=0 then _ else _)=_;rw [if_neg aA,if_pos rfl]
    ·show (if N.n=N.n then _ else _)=_;rw [if_pos rfl]
    ·show (if j=N.n then _ else if j=0 then _ else N.s j)=_;rw [if_neg aA,if_neg aA];exact (hr j hj hjk).1
    ·show (if j=N.n then False else if 0=N.n then _ else N.kn 0 j);rw [if_neg aA,if_neg aA];exact (hr j hj hjk).2
   ·rw [e] at hs;cases hs
omit [DecidableEq M] in
theorem SC(c:Nat)(ms:List M):¬(JI c ms).isDone:=by cases ms <;> exact id
theorem SD(c:Nat)(ms:List M):¬(Kj c ms).isDone:=by cases ms <;> exact id
end
end Go.Ns
namespace Go.Ns
open Go.Conc
section
variable (d m:Int) (gs:List Good) (ms:List AA) (cs:List AF)
def JJ(mask:Nat):Option (List Int):=if B3 d gs ms (Ce cs (mask:Int) cs.length) m=true then none else some (A3 (mask:Int) cs.length)
def DI(k f:Nat):List (List Int):=(List.range' k f).filterMap (JJ d m gs ms cs)
def Dm:List (List Int):=DI d m gs ms cs 0 (2 ^ cs.length)
def Cm:Int:=if AJ d m gs ms cs=0 then (if B3 d gs ms cs m=true then 0 else if B3 d gs ms (Ce cs 0 cs.length) m=true then 0 else 8) else AJ d m gs ms cs
def DV:List Int:=if AJ d m gs ms cs=0/\B3 d gs ms cs m=false/\B3 d gs ms (Ce cs 0 cs.length) m=true then FB ((Dm d m gs ms cs).getD 0 []) ((Dm d m gs ms cs).drop 1) else []
end
section
variable {d m:Int} {gs:List Good} {ms:List AA} {cs:List AF}
theorem QB{k f:Nat}(h:B3 d gs ms (Ce cs (k:Int) cs.length) m=true):DI d m gs ms cs k (f+1)=DI d m gs ms cs (k+1) f:=by
 unfold DI JJ;rw [List.range'_succ,List.filterMap_cons];simp [h]
theorem QC{k f:Nat}(h:B3 d gs ms (Ce cs (k:Int) cs.length) m=false):DI d m gs ms cs k (f+1)=A3 (k:Int) cs.length ::DI d m gs ms cs (k+1) f:=by
 unfold DI JJ;rw [List.range'_succ,List.filterMap_cons];simp [h]
theorem W0{n i:Nat}(hn:n<=4)(hi:i<n):DR ((2 ^ n-1:Nat):Int) i=true:=by
 have h:∀n,n<=4->∀i,i<n->DR ((2 ^ n-1:Nat):Int) i=true:=aC
 exact h n hn i hi
theorem W1{U:Type}(l:List U)(z:U):(List.range l.length).map (λi=>l.getD i z)=l:=by
 apply List.ext_getElem
 ·simp
 ·intro i h1 h2;simp [List.getD_eq_getElem?_getD,List.getElem?_eq_getElem h2]
theorem W3(h:cs.length<=4):Ce cs ((2 ^ cs.length-1:Nat):Int) cs.length=cs:=by
 unfold Ce;rw [List.filter_eq_self.2 λi hi=>W0 h (List.mem_range.1 hi)];exact W1 cs AF.z
theorem VM(hcl:cs.length<=4)(h:B3 d gs ms cs m=false):Dm d m gs ms cs≠[]:=by
 intro e;unfold Dm DI at e;rw [List.filterMap_eq_nil_iff] at e;have hp:0<2 ^ cs.length:=Nat.pow_pos aC
 have:=e (2 ^ cs.length-1) (List.mem_range'.2 ⟨2 ^ cs.length-1,aA,aA⟩)
 unfold JJ at this;rw [W3 hcl,if_neg (by rw [h];simp)] at this;cases this
theorem Tn(hcl:cs.length<=4):(Dm d m gs ms cs).length<=16:=by
 unfold Dm DI;refine Nat.le_trans (List.length_filterMap_le _ _) ?_;rw [List.length_range'];exact Nat.pow_le_pow_right (n:=2) aC hcl
theorem Lq(h:¬AJ d m gs ms cs=0):Cm d m gs ms cs=AJ d m gs ms cs:=by unfold Cm;rw [if_neg h]
theorem QD(h:¬AJ d m gs ms cs=0):DV d m gs ms cs=[]:=by unfold DV;rw [if_neg (λe=>h e.1)]
theorem Kk(h:AJ d m gs ms cs=0)(h1:B3 d gs ms cs m=true):Cm d m gs ms cs=0:=by unfold Cm;rw [if_pos h,if_pos h1]
theorem Ob(h1:B3 d gs ms cs m=true):DV d m gs ms cs=[]:=by unfold DV;rw [if_neg (λe=>by rw [h1] at e;cases e.2.1)]
theorem KN(h:AJ d m gs ms cs=0)(h1:B3 d gs ms cs m=false)(h2:B3 d gs ms (Ce cs 0 cs.length) m=false):Cm d m gs ms cs=8:=by
 unfold Cm;rw [if_pos h,if_neg (by rw [h1];simp),if_neg (by rw [h2];simp)]
theorem NP(h2:B3 d gs ms (Ce cs 0 cs.length) m=false):DV d m gs ms cs=[]:=by unfold DV;rw [if_neg (λe=>by rw [h2] at e;cases e.2.2)]
theorem NQ(h:AJ d m gs ms cs=0)(h1:B3 d gs ms cs m=false)(h2:B3 d gs ms (Ce cs 0 cs.length) m=true):Cm d m gs ms cs=0:=by
 unfold Cm;rw [if_pos h,if_neg (by rw [h1];simp),if_pos h2]
theorem AAE{fl:List Sl}(h:AJ d m gs ms cs=0)(h1:B3 d gs ms cs m=false)(h2:B3 d gs ms (Ce cs 0 cs.length) m=true)(hcl:cs.length<=4)(hfl:A1 fl=Dm d m gs ms cs) :
  0<fl.length/\DV d m gs ms cs=FB (fl.getD 0 Sl.z).2 (A1 (fl.drop 1)):=by
 have hne:=VM (d:=d) (gs:=gs) (ms:=ms) hcl h1;have hpos:0<fl.length:=by
  rw [<-DX,hfl];exact List.length_pos_iff.2 hne
 refine ⟨hpos,?_⟩;unfold DV;rw [if_pos ⟨h,h1,h2⟩,<-hfl,CE hpos];congr 1;unfold A1;rw [List.map_drop]
end
theorem An.pick{d m:Int}{gs:List Good}{ms:List AA}{cs:List AF}(b:An d m gs ms cs)(mask:Int):An d m gs ms (Ce cs mask cs.length):=
 { b with
  clen:=Nat.le_trans (R3 cs mask _) b.clen
  count:=λk hk=>by
   have hm:=CV (d:=AF.z) hk;generalize hx:(Ce cs mask cs.length).getD k AF.z=x at hm;unfold Ce at hm;obtain ⟨i,hi,e⟩:=List.mem_map.1 hm;have hi2:=List.mem_range.1 (List.mem_filter.1 hi).1
   have:=b.count i hi2
   unfold E9 at this ⊢;rw [hx,<-e];exact this }
theorem CN.flags{h h':GH}{l:List Sl}(s:h.Same h')(a:CN h l):CN h' l:=λk=>(a k).flags s
def RepL:Nat->List Int->Value->GH->Prop:=λ_ l v hm=>AE hm v 1 eI l
def GH.part(h:GH)(v:Value):GH:=λb=>if B7 v=some b then h b else none
def GH.rest(h:GH)(v:Value):GH:=λb=>if B7 v=some b then none else h b
theorem GH.split_part(h:GH)(v:Value):GH.Split h (h.rest v) (h.part v) where
 left:=λb p o hb=>by
  unfold GH.rest at hb;split at hb
  ·cases hb
  ·exact ⟨p,hb,id⟩
 right:=λb p o hb=>by
  unfold GH.part at hb;split at hb
  ·exact ⟨p,hb,id⟩
  ·cases hb
 one:=λr o x h1 h2=>by
  unfold GH.rest at h1;unfold GH.part at h2;split at h1
  ·cases h1
  ·rename_i e;rw [if_neg e] at h2;cases h2
 two:=λr o x h1 h2=>by
  unfold GH.rest at h2;unfold GH.part at h1;split at h2
  ·cases h2
  ·rename_i e;rw [if_neg e] at h1;cases h1
theorem AI.part{U:Type}{h0 h:GH}{v:Value}{t:TypeId}{n:Nat}{enc:U->Array Value}{xs:List U}(x:AI h0 h v t n enc xs):AE (h.part v) v n enc xs:=
 AI.sl (h0:=h0) (x.keep λb o hb ho=>by unfold GH.part;rw [if_pos hb];exact ho)
theorem AI.le_rest{U:Type}{h0 h hb:GH}{v:Value}{t:TypeId}{n:Nat}{enc:U->Array Value}{xs:List U}(x:AI h0 h v t n enc xs)(l:hb.Le h)(l0:hb.Le h0):hb.Le (h.rest v):=λb p o hbb=>by
 unfold GH.rest;rw [if_neg]
 ·exact l b p o hbb
 ·intro e;rcases x with ⟨rfl,_⟩ | ⟨b1,cap,c,rfl,f0,_⟩
  ·cases e
  ·have:b1=b:=by simpa [B7] using e
   subst this
   have:=l0.keep hbb rfl
   rw [f0] at this;cases this
theorem AE.join{U:Type}{h hm:GH}{v:Value}{n:Nat}{enc:U->Array Value}{xs:List U}(x:AE hm v n enc xs)(c:h.Compat hm):AE (h.join hm) v n enc xs:=x.flags λb p o hb=>by
 unfold GH.join;cases e:h b with
 | none=>exact ⟨p,hb⟩
 | some y=>obtain ⟨q,o'⟩:=y;obtain ⟨rfl,rfl,rfl⟩:=c b q o' p o e hb;exact ⟨false,rfl⟩
theorem GH.Compat.le{a h hm:GH}(l:a.Le h)(c:h.Compat hm):a.Compat hm:=λb p o q o' x y=>c b p o q o' (l.keep x rfl) y
theorem GH.Le.joins{a h hm:GH}(l:a.Le h)(c:h.Compat hm):(a.join hm).Le (h.join hm):=λb p o hb=>by
 unfold GH.join at hb ⊢;cases e:a b with
 | some x=>rw [e] at hb;cases hb;rw [l.keep e rfl];exact ⟨o,rfl,.inl rfl⟩
 | none=>
  rw [e] at hb;cases e2:h b with
  | none=>exact ⟨o,hb,.inl rfl⟩
  | some y=>obtain ⟨q,o'⟩:=y;obtain ⟨rfl,rfl,rfl⟩:=c b q o' p o e2 hb;exact ⟨_,rfl,.inl rfl⟩
theorem AI.joins{U:Type}{h0 h hm:GH}{v:Value}{t:TypeId}{n:Nat}{enc:U->Array Value}{xs:List U}(x:AI h0 h v t n enc xs)(c:h.Compat hm):AI (h0.join hm) (h.join hm) v t n enc xs:=by
 rcases x with x | ⟨b,cap,cc,rfl,f0,f1,f2⟩
 ·exact .inl x
 ·refine .inr ⟨b,cap,cc,rfl,?_,?_,f2⟩
  ·unfold GH.join;rw [f0];cases e:hm b with
   | none=>rfl
   | some y=>obtain ⟨q,o'⟩:=y;have:=(c b _ _ q o' f1 e).1;cases this
  ·unfold GH.join;rw [f1]
section
variable {P:Program} {M:Type} {F:RS P M} {i i':Option (GD M)} {O:Nat->Value} {ds:List Deferred} {h:GH} {Q:VI M}
theorem trI_ix{c:Code}(e:i=i')(x:Mx F c i' O ds h Q):Mx F c i O ds h Q:=e▸x
theorem ZU{ops:Array Oper}{l:List Oper}(e:i=i')(x:NL F ops l i' O ds h Q):NL F ops l i O ds h Q:=e▸x
theorem AAF{c:Code}{Q:Post}(x:Mx F c none O ds h λi e O ds h=>i=none/\Q e O ds h):Tr ⟨F.W,F.fn,F.rd,F.N⟩ c O ds h Q:=by
 intro b k cs L t hb hr hl hs hc;refine x b k cs (λi=>match i with | none=>L | some _=>λ_ _ _ _=>False) t hb hr (λi=>?_) hs λi e σ' ds' h' q t' ht'=>?_
 ·cases i with
  | none=>exact hl
  | some s=>exact ⟨λ_ _ _ x=>x.elim,λ_ _ _ _ x=>x.elim,λ_ _ _ _ _ _ x=>x.elim⟩
 ·obtain ⟨rfl,q⟩:=q;exact hc e σ' ds' h' q t' ht'
theorem trI_end{c:Code}{Q:Post}(x:Tr (F.env none) c O ds h Q):Mx F c none O ds h λi e O ds h=>i=none/\Q e O ds h:=
 JH (O1 (λ_ _ _ _ q=>⟨rfl,q⟩) x)
variable {dst:Option Nat} {ty:TypeId} {pos:String} {af:Array Edge} {gd:Option (Nat×Bool)}
theorem run_send{a x:Operand}{c:Nat}{v:Value}(ha:AQ O a=.chan (some c))(hx:AQ O x=v)(w:World):(execOp (AQ O) ⟨dst,.send a x,ty,pos,af,gd⟩).runT P w #[]=(.ok (.comm #[scase c v (.tuple #[])] true .send) w,#[]):=by
 subst hx;show (Result.ok (Next.comm #[{ chan:=AQ O a,send:=some (AQ O x),zero:=.tuple #[] }] true .send) w,#[])=_;rw [ha];rfl
theorem run_recv{a:Operand}{c:Nat}{t e:TypeId}{d:ChanDir}{ok:Bool}{z:Value}{inf:TypeInfo}(ht:P.underlying t=some (.chan d e))(hi:P.info? e=some inf)(hz:inf.zero=some z)(ha:AQ O a=.chan (some c))(w:World) :
  (execOp (AQ O) ⟨dst,.recv t a ok,ty,pos,af,gd⟩).runT P w #[]=(.ok (.comm #[rcase c z] true (.recv ok)) w,#[]):=by
 have h1:(zeroValue e).run P w=.ok z w:=by
  unfold zeroValue typeInfo;simp only [Sem.run_bind,program,hi];simp [Sem.run,hi,hz]
 have h2:(underlying t).run P w=.ok (.chan d e) w:=run_underlying ht w;rw [Sem.runT_eq];unfold execOp;simp [h1,h2,ha,rcase]
theorem SE{a:Operand}{c:Nat}{t e:TypeId}{d:ChanDir}{ok:Bool}{z:Value}(ht:P.underlying t=some (.chan d e))(hz:(P.info? e).map (·.zero)=some (some z))(ha:AQ O a=.chan (some c))(w:World) :
  (execOp (AQ O) ⟨dst,.recv t a ok,ty,pos,af,gd⟩).runT P w #[]=(.ok (.comm #[rcase c z] true (.recv ok)) w,#[]):=by
 obtain ⟨inf,hi,h2⟩:=Option.map_eq_some_iff.1 hz;exact run_recv ht hi h2 ha w
theorem run_go{x:Operand}{f:Fn}{cap:Array Value}{tys:Array TypeId}(hx:AQ O x=.func f #[] cap)(w:World):(execOp (AQ O) ⟨dst,.go ⟨.value x,#[],tys⟩,ty,pos,af,gd⟩).runT P w #[]=(.ok (.spawn { target:=.fn f cap,args:=#[] }) w,#[]):=by
 have e:resolve (AQ O) ⟨.value x,#[],tys⟩ ty=(pure { target:=.fn f cap,args:=#[] }:Sem Deferred):=by
  unfold resolve;simp only [hx,Deferred.ofValue];simp
 unfold execOp;simp only [e];rfl
variable {E:HB P} {T:(Nat->Value)->List Deferred->GH->Prop}
theorem VN{t e:TypeId}{d:ChanDir}{n:Operand}(ht:P.underlying t=some (.chan d e))(hi0:(P.info? e).isSome=true)(hn:AQ O n=.int .i64 0)
  (k:∀r h',h r=none->h.Le h'->h' r=some (true,.chan 0 #[] false 0 0 false)->(∀b,b≠r->h' b=h b)->T (putS O dst (.chan (some r))) ds h'):Bg E ⟨dst,.makeChan t n,ty,pos,af,gd⟩ O ds h T:=by
 unfold Bg execOp;refine Gb ?_;unfold Instr.makeChan;rw [hn];refine AL _ _ (A6 ?_);refine AL _ _ (Ap ht ?_);simp only [];obtain ⟨inf,hi⟩:=Option.isSome_iff_exists.1 hi0;refine AL _ _ (DK hi ?_);rw [if_neg (by simp [IntKind.max];decide)];refine AL _ _ ?_;exact λr hr=>k r _ hr (GH.Le.new hr _ _) (GH.set_same _ _ _ _) λb hb=>GH.set_ne _ _ _ hb
theorem trL_def{ops:Array Oper}{l:List Oper}{o:Oper}{Q:Post}(hg:o.guard=none)(hrd:E.rd=none)(hd:Dj o.dst E.N=true)(x:Bg E o O ds h λσ' ds' h'=>Dp E ops l σ' ds' h' Q):Dp E ops (o ::l) O ds h Q:=
 trL_op hg (.inl hrd) hd x
theorem RU{x:Operand}{c:Nat}{tys:Array TypeId}{bs:Array Bool}(hx:AQ O x=.chan (some c))(hb:(#[x].map fun | .const _=>true | _=>false)=bs)(k:T (putS O dst undef) (MN tys ty bs c ::ds) h) :
  Bg E ⟨dst,.defer ⟨.builtin .close,#[x],tys⟩,ty,pos,af,gd⟩ O ds h T:=by
 unfold Bg execOp;simp only [];refine AL _ _ ?_;unfold resolve;simp only [];refine A6 (A6 ?_);have e:(#[x].map (AQ O):Array Value)=#[.chan (some c)]:=by simp [hx]
 rw [e];subst hb;exact k
end
section
variable {d m:Int} {gs:List Good} {ms:List AA} {cs:List AF} {k c:Nat}
theorem W4(hk:k<2 ^ cs.length)(h:B3 d gs ms (Ce cs (k:Int) cs.length) m=true) :
  some (JI c (DI d m gs ms cs k (2 ^ cs.length-k)))=some (JI c (DI d m gs ms cs (k+1) (2 ^ cs.length-(k+1)))):=by
 rw [show 2 ^ cs.length-k=(2 ^ cs.length-(k+1))+1 by omega,QB h]
theorem W5(hk:k<2 ^ cs.length)(h:B3 d gs ms (Ce cs (k:Int) cs.length) m=false) :
  some (JI c (DI d m gs ms cs k (2 ^ cs.length-k)))=some (.send c (A3 (k:Int) cs.length) (JI c (DI d m gs ms cs (k+1) (2 ^ cs.length-(k+1))))):=by
 rw [show 2 ^ cs.length-k=(2 ^ cs.length-(k+1))+1 by omega,QC h];rfl
theorem AAG(hk:2 ^ cs.length<=k):some (JI c (DI d m gs ms cs k (2 ^ cs.length-k)))=some (.close c .done):=by
 rw [show 2 ^ cs.length-k=0 by omega];rfl
theorem VO(h:(k:Int)<(2:Int) ^ ((cs.length:Int)).toNat):k<2 ^ cs.length:=by
 have:=Tl cs.length
 rw [Int.toNat_natCast] at h;omega
theorem clash_ge(h:¬(k:Int)<(2:Int) ^ ((cs.length:Int)).toNat):2 ^ cs.length<=k:=by
 have:=Tl cs.length
 rw [Int.toNat_natCast] at h;omega
end
end Go.Ns
namespace Go.Ns
def To(ms:List AA)(p:AV)(g:Int)(k:Nat):Int:=if (ms.getD k AA.z).good=g then E5 (ms.getD k AA.z).kind.toNat (CJ p k) else 0
def Fj(ms:List AA)(p:AV)(g:Int)(k:Nat):Int×Int:=((ms.getD k AA.z).day,To ms p g k)
def PA(ms:List AA)(p:AV)(g:Int):List (Int×Int):=(List.range ms.length).map (Fj ms p g)
def runA(n low:Int):List (Int×Int)->Int×Int
 | []=>(n,low)
 | [x]=>(n+x.2,min (n+x.2) low)
 | x ::y ::t=>runA (n+x.2) (if x.1<y.1 then min (n+x.2) low else low) (y ::t)
def runB(c n low:Int):List (Int×Int)->Int×Int
 | []=>(n,min n low)
 | x ::t=>if c<x.1 then runB x.1 (n+x.2) (min n low) t else runB c (n+x.2) low t
def Hc:Int->List (Int×Int)->Prop
 | _,[]=>True
 | c,x ::t=>c<=x.1/\Hc x.1 t
theorem runA_B:∀(t:List (Int×Int))(x:Int×Int)(n low:Int),Hc x.1 t->runA n low (x ::t)=runB x.1 (n+x.2) low t
 | [],x,n,low,_=>rfl
 | y ::t,x,n,low,h=>by
  show runA (n+x.2) _ (y ::t)=if x.1<y.1 then _ else _
  rw [runA_B t y _ _ h.2];by_cases e:x.1<y.1
  ·rw [if_pos e,if_pos e]
  ·rw [if_neg e,if_neg e,show x.1=y.1 from by have:=h.1;omega]
theorem runA_B0{n:Int}:∀{t:List (Int×Int)},(∀x ∈ t,1<=x.1)->Hc 0 t->runA n n t=runB 0 n n t
 | [],_,_=>by simp [runA,runB,Int.min_self]
 | x ::t,h1,h=>by
  rw [runA_B t x n n h.2];show _=if 0<x.1 then _ else _
  rw [if_pos (by have:=h1 x aD;omega),Int.min_self]
theorem Hc.weak{c c':Int}(hc:c'<=c):∀{t:List (Int×Int)},Hc c t->Hc c' t
 | [],_=>trivial
 | _ ::_,h=>⟨by have:=h.1;omega,h.2⟩
theorem AAH{c d n low:Int}(hcd:c<d):∀{t:List (Int×Int)},Hc d t->runB d n (min n low) t=runB c n low t
 | [],_=>by simp only [runB];congr 1;omega
 | y ::t,h=>by
  have h1:=h.1;show (if d<y.1 then _ else _)=if c<y.1 then _ else _
  rw [if_pos (show c<y.1 by omega)];by_cases e:d<y.1
  ·rw [if_pos e,show min n (min n low)=min n low by omega]
  ·rw [if_neg e,show d=y.1 by omega]
theorem If{ι:Type}{f:ι->Int×Int}{q:ι->Bool}:∀{l:List ι}{c n low:Int},(∀i ∈ l,q i=false->(f i).2=0)->Hc c (l.map f)->runB c n low (l.map f)=runB c n low ((l.filter q).map f)
 | [],_,_,_,_,_=>rfl
 | i ::l,c,n,low,hz,hr=>by
  have hz':∀j ∈ l,q j=false->(f j).2=0:=λj hj=>hz j (by simp [hj]);cases hq:q i with
  | true=>
   rw [List.filter_cons_of_pos hq];show (if c<(f i).1 then _ else _)=if c<(f i).1 then _ else _
   split
   ·exact If hz' hr.2
   ·exact If hz' (Hc.weak hr.1 hr.2)
  | false=>
   rw [List.filter_cons_of_neg (by simp [hq])];have h0:=hz i aD hq;show (if c<(f i).1 then runB (f i).1 (n+(f i).2) _ _ else _)=_;rw [h0,Int.add_zero];have hr2:Hc (f i).1 (l.map f):=hr.2;rw [<-If hz' (Hc.weak hr.1 hr2)];split
   ·rename_i e;exact AAH e hr2
   ·rfl
theorem QE{ms:List AA}{p:AV}{g dy:Int}(hd:∀k,k<ms.length->(ms.getD k AA.z).day<=dy):∀(f k:Nat)(n low:Int),k+f=ms.length->Co ms p g dy f k n low=runA n low ((List.range' k f).map (Fj ms p g))
 | 0,_,_,_,_=>rfl
 | f+1,k,n,low,e=>by
  have h1:¬dy<(ms.getD k AA.z).day:=by have:=hd k aA;omega
  unfold Co;rw [if_neg h1,QE hd f (k+1) _ _ aA,List.range'_succ,List.map_cons];have hn:Fy ms p g k n=n+(Fj ms p g k).2:=by unfold Fy Fj To;simp only [];split <;> omega
  cases f with
  | zero=>
   show (_,_)=(_,_);rw [hn];congr 1;unfold FA;rw [if_pos (.inl aA),Int.min_comm]
  | succ f=>
   rw [List.range'_succ,List.map_cons,hn];have hne:¬((k:Int)+1=ms.length):=aA
   have hlow:FA ms k low (n+(Fj ms p g k).2)=if (Fj ms p g k).1<(Fj ms p g (k+1)).1 then min (n+(Fj ms p g k).2) low else low:=by
    show (if (k:Int)+1=ms.length\/(ms.getD k AA.z).day<(ms.getD (k+1) AA.z).day then _ else _)=if (ms.getD k AA.z).day<(ms.getD (k+1) AA.z).day then _ else _
    by_cases e2:(ms.getD k AA.z).day<(ms.getD (k+1) AA.z).day
    ·rw [if_pos (.inr e2),if_pos e2,Int.min_comm]
    ·rw [if_neg (by simp only [e2,or_false];exact hne),if_neg e2]
   rw [hlow];rfl
theorem AAI{ms:List AA}{p:AV}{g dy:Int}(hd:∀k,k<ms.length->(ms.getD k AA.z).day<=dy):AP ms p g dy=runA (p.first g.toNat) (p.first g.toNat) (PA ms p g):=by
 unfold AP PA;rw [QE hd ms.length 0 _ _ aA,List.range_eq_range']
theorem Ig{d m:Int}{gs:List Good}{ms:List AA}{cs:List AF}(b:An d m gs ms cs):AJ d m gs ms cs=0:=by
 unfold AJ;refine Fx λj _ hj=>?_
 have:j=0\/j=1\/j=2\/j=3:=aA
 rcases this with rfl | rfl | rfl | rfl
 ·show Ey d m=0;unfold Ey;have:=b.days;have:=b.most;rw [if_neg aA]
 ·show Bp gs=0;unfold Bp;have:=b.glen;rw [if_neg aA];exact Fx λj _ hj=>b.good j aA
 ·show Ba d gs ms=0;unfold Ba;have:=b.mlen;rw [if_neg aA];exact Fx λj _ hj=>b.move j aA
 ·show Ca d gs cs=0;unfold Ca;have:=b.clen;rw [if_neg aA];exact Fx λj _ hj=>b.count j aA
def Km(ms:List AA):Prop:=ms.Pairwise λa b=>a.day<=b.day
section
variable {d m:Int} {gs:List Good} {ms:List AA} {cs:List AF}
theorem An.up(b:An d m gs ms cs):Km ms:=by
 have adj:∀k,k+1<ms.length->(ms.getD k AA.z).day<=(ms.getD (k+1) AA.z).day:=λk hk=>by
  have:=(b.move' hk).2.2.2.1
  unfold Ej at this;rw [if_neg aA] at this;simpa using this
 have all:∀f k,k+f<ms.length->(ms.getD k AA.z).day<=(ms.getD (k+f) AA.z).day:=by
  intro f
  induction f with
  | zero=>intro k _;exact Int.le_refl _
  | succ f ih=>intro k hk;exact Int.le_trans (ih k aA) (adj (k+f) aA)
 unfold Km;rw [List.pairwise_iff_getElem];intro i j hi hj hij
 have:=all (j-i) i aA
 rw [show i+(j-i)=j by omega,BY AA.z hi,BY AA.z hj] at this;exact this
theorem SF{ι:Type}{f:ι->Int×Int}:∀{l:List ι}{c:Int},l.Pairwise (λi j=>(f i).1<=(f j).1)->(∀i ∈ l,c<=(f i).1)->Hc c (l.map f)
 | [],_,_,_=>trivial
 | i ::l,c,h,h1=>⟨h1 i aD,SF (List.pairwise_cons.1 h).2 λj hj=>(List.pairwise_cons.1 h).1 j hj⟩
theorem An.pairsUp(b:An d m gs ms cs)(p:AV)(g:Int){l:List Nat}(s:l.Sublist (List.range ms.length)):Hc 0 (l.map (Fj ms p g)):=by
 refine SF ?_ λi hi=>?_
 ·have h1:(List.range ms.length).Pairwise (λi j=>(Fj ms p g i).1<=(Fj ms p g j).1):=by
   rw [List.pairwise_iff_getElem];intro i j hi hj hij;simp only [List.getElem_range]
   have:=b.up
   unfold Km at this;rw [List.pairwise_iff_getElem] at this;simp only [List.length_range] at hi hj
   have:=this i j hi hj hij
   rwa [<-BY AA.z,<-BY AA.z] at this
  exact h1.sublist s
 ·have:=List.mem_range.1 (s.subset hi)
  have:=(b.move' this).2.2.1
  show 0<=(ms.getD i AA.z).day;omega
theorem An.stock(b:An d m gs ms cs)(p:AV)(g:Int):AP ms p g d=runB 0 (p.first g.toNat) (p.first g.toNat) (PA ms p g):=by
 rw [AAI λk hk=>(b.move' hk).2.2.1.2];refine runA_B0 (λx hx=>?_) (b.pairsUp p g (List.Sublist.refl _));obtain ⟨i,hi,rfl⟩:=List.mem_map.1 hx;exact (b.move' (List.mem_range.1 hi)).2.2.1.1
end
section
variable {d m:Int} {gs:List Good} {ms:List AA} {cs:List AF} {picks:List Int} {bits:Int}
end
end Go.Ns
namespace Go.Ns
open Go.Conc
section
variable {P:Program} {E:HB P} {O:Nat->Value} {ds:List Deferred} {h:GH} {T:(Nat->Value)->List Deferred->GH->Prop} {dst:Option Nat} {ty:TypeId} {pos:String} {af:Array Edge} {gd:Option (Nat×Bool)}
theorem W6{s:ByteArray}{i:Nat}(h:i<s.size):((s[i]'h).toNat:Int)=(bytesOf s).getD i 0:=by
 have h2:i<(bytesOf s).length:=by rw [DB];exact h
 rw [BY 0 h2];exact (List.getElem_map (l:=s.data.toList) (f:=λb=>(b.toNat:Int)) (h:=h2)).symm
theorem QF{t:TypeId}{x ix:Operand}{s:ByteArray}{kd:IntKind}{i:Int}(ht:PO P t=true)(hx:AQ O x=.string s)(hi:AQ O ix=.int kd i)(h0:0<=i)(h1:i<s.size)(k:T (putS O dst (.int .u8 ((bytesOf s).getD i.toNat 0))) ds h) :
  Bg E ⟨dst,.index t x ix,ty,pos,af,gd⟩ O ds h T:=Rq ht hx hi h0 h1 (by rw [W6];exact k)
end
theorem VP{s:ByteArray}(h:¬(1<=(s.size:Int)/\(s.size:Int)<=10)):FG s=false:=by unfold FG;rw [decide_eq_false h,Bool.and_false]
def E1(d:Int)(gs:List Good)(c:AF):Int:=if¬(0<=c.good/\c.good<=(gs.length:Int)-1) then 6 else if¬(0<=c.day/\c.day<=d)\/¬((0<=c.low/\c.low<=c.high)/\c.high<=999) then 1 else 0
section
variable {d m:Int} {gs:List Good} {ms:List AA} {cs:List AF}
theorem Ih:AJ d m gs ms cs=if Ey d m=0 then (if Bp gs=0 then (if Ba d gs ms=0 then (if Ca d gs cs=0 then 0 else Ca d gs cs) else Ba d gs ms) else Bp gs) else Ey d m:=rfl
theorem bb1(h:¬(1<=d/\d<=99)\/¬(0<=m/\m<=2)):AJ d m gs ms cs=1:=by
 have e:Ey d m=1:=if_pos h;rw [Ih,e,if_neg aC]
theorem head0(h:(1<=d/\d<=99)/\(0<=m/\m<=2)):Ey d m=0:=if_neg aA
theorem bb2(h0:(1<=d/\d<=99)/\(0<=m/\m<=2))(h:¬Bp gs=0):AJ d m gs ms cs=Bp gs:=by rw [Ih,if_pos (head0 h0),if_neg h]
theorem bb3(h0:(1<=d/\d<=99)/\(0<=m/\m<=2))(h:¬¬Bp gs=0)(h2:¬Ba d gs ms=0):AJ d m gs ms cs=Ba d gs ms:=by rw [Ih,if_pos (head0 h0),if_pos (Decidable.not_not.1 h),if_neg h2]
theorem bb4(h0:(1<=d/\d<=99)/\(0<=m/\m<=2))(h:¬¬Bp gs=0)(h2:¬¬Ba d gs ms=0){c:Int}(h3:Ca d gs cs=c):AJ d m gs ms cs=c:=by
 rw [Ih,if_pos (head0 h0),if_pos (Decidable.not_not.1 h),if_pos (Decidable.not_not.1 h2),h3];by_cases e:c=0
 ·rw [if_pos e,e]
 ·rw [if_neg e]
theorem W7(h:(4:Int)<cs.length):Ca d gs cs=2:=if_pos h
theorem W8{k:Nat}(h:¬(4:Int)<cs.length)(hs:∀j,j<k->E9 d gs cs j=0)(hk:k<cs.length)(e:¬E1 d gs (cs.getD k AF.z)=0):Ca d gs cs=E1 d gs (cs.getD k AF.z):=by
 unfold Ca;rw [if_neg h];exact BZ hs hk rfl e
theorem W9{k:Nat}(h:¬(4:Int)<cs.length)(hs:∀j,j<k->E9 d gs cs j=0)(hk:cs.length<=k):Ca d gs cs=0:=by
 unfold Ca;rw [if_neg h];exact Cs hs hk
theorem QG{k:Nat}(h:0<k):Ej ms k=(ms.getD ((k:Int)-1).toNat AA.z).day:=by
 unfold Ej;rw [if_neg aA,show ((k:Int)-1).toNat=k-1 by omega]
theorem mv1{k:Nat}(h:(ms.getD k AA.z).kind<0\/4<(ms.getD k AA.z).kind):Dz d gs ms k=1:=by unfold Dz;rw [if_pos aA]
theorem mv2{k:Nat}(h0:¬((ms.getD k AA.z).kind<0\/4<(ms.getD k AA.z).kind))(h:¬(0<=(ms.getD k AA.z).good/\(ms.getD k AA.z).good<=(gs.length:Int)-1)):Dz d gs ms k=6:=by unfold Dz;rw [if_neg aA,if_pos h]
theorem mv3{k:Nat}(h0:¬((ms.getD k AA.z).kind<0\/4<(ms.getD k AA.z).kind))(h1:¬¬(0<=(ms.getD k AA.z).good/\(ms.getD k AA.z).good<=(gs.length:Int)-1))(h:¬(1<=(ms.getD k AA.z).day/\(ms.getD k AA.z).day<=d)):Dz d gs ms k=1:=by
 unfold Dz;rw [if_neg aA,if_neg h1,if_pos h]
theorem mv4{k:Nat}(h0:¬((ms.getD k AA.z).kind<0\/4<(ms.getD k AA.z).kind))(h1:¬¬(0<=(ms.getD k AA.z).good/\(ms.getD k AA.z).good<=(gs.length:Int)-1))(h2:¬¬(1<=(ms.getD k AA.z).day/\(ms.getD k AA.z).day<=d))(hk:(0:Int)<(k:Int))
  (h:(ms.getD k AA.z).day<(ms.getD ((k:Int)-1).toNat AA.z).day):Dz d gs ms k=7:=by
 unfold Dz;rw [if_neg aA,if_neg h1,if_neg h2,QG aA,if_pos h]
theorem mv5{k:Nat}(h0:¬((ms.getD k AA.z).kind<0\/4<(ms.getD k AA.z).kind))(h1:¬¬(0<=(ms.getD k AA.z).good/\(ms.getD k AA.z).good<=(gs.length:Int)-1))(h2:¬¬(1<=(ms.getD k AA.z).day/\(ms.getD k AA.z).day<=d)){c:Int}
  (h3:(0:Int)<(k:Int)->¬(ms.getD k AA.z).day<(ms.getD ((k:Int)-1).toNat AA.z).day) (h4:(if¬Ha (ms.getD k AA.z).low (ms.getD k AA.z).high then (1:Int) else 0)=c):Dz d gs ms k=c:=by
 have e:¬(ms.getD k AA.z).day<Ej ms k:=by
  by_cases hk:0<k
  ·rw [QG hk];exact h3 aA
  ·have:=Decidable.not_not.1 h2
   unfold Ej;rw [if_pos aA];omega
 unfold Dz;rw [if_neg aA,if_neg h1,if_neg h2,if_neg e,h4]
theorem gd4{k:Nat}(h:FG (gs.getD k Good.z).name=false):Fu gs k=4:=by unfold Fu;rw [if_pos h]
theorem gd5{k j:Nat}(h0:FG (gs.getD k Good.z).name=true)(hj:(j:Int)<(k:Int))(hk:(k:Int)<gs.length)(h:((gs.getD j Good.z).name.toList==(gs.getD k Good.z).name.toList)=true):Fu gs k=5:=by
 unfold Fu;rw [if_neg (by rw [h0];decide),if_pos];rw [List.any_eq_true];refine ⟨gs.getD j Good.z,?_,h⟩;rw [BY Good.z (show j<gs.length by omega)];exact List.mem_take_iff_getElem.2 ⟨j,aA,rfl⟩
theorem gd1{k j:Nat}(h0:FG (gs.getD k Good.z).name=true)(hj:j<=k)(hj':¬(j:Int)<(k:Int))(h:(gs.take j).any (λx=>x.name.toList==(gs.getD k Good.z).name.toList)=false){c:Int}
  (hc:(if (¬(0<=(gs.getD k Good.z).cost/\(gs.getD k Good.z).cost<=999)\/¬(1<=(gs.getD k Good.z).pack/\(gs.getD k Good.z).pack<=20))\/¬Ha (gs.getD k Good.z).low (gs.getD k Good.z).high then (1:Int) else 0)=c):Fu gs k=c:=by
 obtain rfl:j=k:=aA
 unfold Fu;rw [if_neg (by rw [h0];decide),if_neg (by rw [h];decide),hc]
def GN(gs:List Good)(ms:List AA)(cs:List AF):Bool:=decide ((20:Int)<gs.length) || decide ((20:Int)<ms.length) || decide ((20:Int)<cs.length) || gs.any λx=>decide ((100:Int)<x.name.size)
theorem AAJ(h:((20:Int)<gs.length\/(20:Int)<ms.length)\/(20:Int)<cs.length):GN gs ms cs=true:=by
 unfold GN;rcases h with (h | h) | h <;> simp [h]
theorem AAK{k:Nat}(hk:k<gs.length)(h:(100:Int)<(gs.getD k Good.z).name.size):GN gs ms cs=true:=by
 unfold GN;rw [Bool.or_eq_true];right;rw [List.any_eq_true];exact ⟨_,CV hk,decide_eq_true h⟩
theorem AAL{k:Nat}(h:¬(20:Int)<gs.length)(h2:¬(20:Int)<ms.length)(h3:¬(20:Int)<cs.length)(hk:gs.length<=k)(hs:∀j,j<k->¬(100:Int)<(gs.getD j Good.z).name.size):GN gs ms cs=false:=by
 unfold GN;rw [decide_eq_false h,decide_eq_false h2,decide_eq_false h3];simp only [Bool.false_or];rw [List.any_eq_false];intro x hx;obtain ⟨i,hi,rfl⟩:=List.getElem_of_mem hx
 have:=hs i aA
 rw [BY Good.z hi] at this;simpa using this
theorem VQ(h:GN gs ms cs=false):∀k,(gs.getD k Good.z).name.size<=1000:=by
 unfold GN at h;rw [Bool.or_eq_false_iff] at h;intro k;by_cases hk:k<gs.length
 ·have:=List.any_eq_false.1 h.2 _ (CV (d:=Good.z) hk)
  have:=of_decide_eq_false (Bool.eq_false_iff.2 this)
  omega
 ·rw [B8 aA];decide
end
theorem CN.cons{h:GH}{l:List Sl}{v:Value}{xs:List Int}(a:AE h v 1 eI xs)(b:CN h l):CN h ((v,xs) ::l):=λk=>by
 cases k with
 | zero=>exact a
 | succ k=>exact b k
theorem XA{a b:List Sl}{k:Nat}(h:(A1 a).take k=(A1 b).take k)(ha:k<a.length)(hb:k<b.length)(e:(a.getD k Sl.z).2=(b.getD k Sl.z).2):(A1 a).take (k+1)=(A1 b).take (k+1):=
 Pf [] h (by rw [DX];exact ha) (by rw [DX];exact hb) (by rw [CE ha,CE hb,e])
theorem AAM{a b:List Sl}{k:Nat}(h:(A1 a).take k=(A1 b).take k)(hk:¬(k:Int)<a.length)(hl:(a.length:Int)=b.length):A1 a=A1 b:=by
 rw [List.take_of_length_le (by rw [DX];omega),List.take_of_length_le (by rw [DX];omega)] at h;exact h
theorem lists_ne{a b:List Sl}(h:¬(a.length:Int)=b.length):¬A1 a=A1 b:=λe=>h (by rw [<-DX,<-DX,e])
theorem XB{a b:List Sl}{k:Nat}(ha:k<a.length)(hb:k<b.length)(e:¬(a.getD k Sl.z).2=(b.getD k Sl.z).2):¬A1 a=A1 b:=λq=>e (by rw [<-CE ha,<-CE hb,q])
end Go.Ns
namespace Go.Ns
open Go.Conc
def Du:List Good:=[⟨⟨#[116,101,97]⟩,5,4,3,3⟩,⟨⟨#[114,105,99,101]⟩,2,10,5,6⟩]
def D3:List AA:=[⟨0,0,2,4,4⟩,⟨1,0,3,2,3⟩,⟨2,1,4,0,1⟩,⟨0,1,5,10,10⟩]
def D4:List AF:=[⟨0,10,4,5⟩,⟨1,10,5,5⟩]
theorem EY:∀k,(Du.getD k Good.z).name.size<=1000
 | 0=>aC
 | 1=>aC
 | k+2=>by rw [B8 (by simp [Du])];decide
theorem fill_sl7{v0 v1 v2 v3 v4 v5 v6:Value}(h0:v0.cells=#[v0])(h1:v1.cells=#[v1])(h2:v2.cells=#[v2])(h3:v3.cells=#[v3])(h4:v4.cells=#[v4])(h5:v5.cells=#[v5])(h6:v6.cells=#[v6]):Instr.fill (λi=>some (i*1,1)) ((Array.range (7*1)).map (#[Value.slice none 0 0][·% #[Value.slice none 0 0].size]!)) [(0,v0),(1,v1),(2,v2),(3,v3),(4,v4),(5,v5),(6,v6)]=some #[v0,v1,v2,v3,v4,v5,v6]:=by
 have e:((Array.range (7*1)).map (#[Value.slice none 0 0][·% #[Value.slice none 0 0].size]!))=#[Value.slice none 0 0,Value.slice none 0 0,Value.slice none 0 0,Value.slice none 0 0,Value.slice none 0 0,Value.slice none 0 0,Value.slice none 0 0]:=aB
 rw [e];simp [Instr.fill,h0,h1,h2,h3,h4,h5,h6]
theorem AE.isSl{U:Type}{h:GH}{v:Value}{n:Nat}{enc:U->Array Value}{xs:List U}(x:AE h v n enc xs):∀k i,v≠.int k i:=by
 obtain ⟨a,cap,rfl,_⟩:=x;intro k i e;cases e
theorem AE.across{h h':GH}{v:Value}{xs:List Int}{r:Nat}{a b c:Value}{T:TypeId}(x:AE h v 1 eI xs)(hb:h r=some (true,.cells #[.int .i64 10,.int .i64 1,a,b,c] T (0,0)))(ho:∀y,y≠r->h' y=h y)
  (ha:∀k i,a≠.int k i) (hb':∀k i,b≠.int k i) (hc:∀k i,c≠.int k i) (hx:∀o,o<5->∃i:Fin xs.length,(o+i.val=0->xs[i.val]≠10)/\(o+i.val=1->xs[i.val]≠1)):AE h' v 1 eI xs:=by
 obtain ⟨ad,cap,hv,hcap,hm,he⟩:=x;refine ⟨ad,cap,hv,hcap,hm,λi hi=>?_⟩;obtain ⟨y,off,h1,h2⟩:=he i hi;refine ⟨y,off,h1,h2.same (ho y ?_)⟩;rintro rfl;have key:∀j (hj:j<xs.length),off+j<5/\(#[Value.int .i64 10,.int .i64 1,a,b,c]:Array Value).extract (off+j) (off+j+1)=eI xs[j]:=λj hj=>by
  obtain ⟨y2,off2,h3,h4⟩:=he j hj;rw [h1] at h3;simp only [Option.some.injEq,Addr.mk.injEq,and_true] at h3;obtain ⟨rfl,rfl⟩:=h3;obtain ⟨p,cc,t,f,q1,q2,q3⟩:=h4;rw [hb] at q1;simp only [Option.some.injEq,Prod.mk.injEq,Obj.cells.injEq] at q1;obtain ⟨_,rfl,_⟩:=q1;rw [Nat.mul_one] at q2 q3;exact ⟨by simp at q2;omega,q3⟩
 obtain ⟨⟨j,hj⟩,e0,e1⟩:=hx off (by have:=(key i hi).1;omega);obtain ⟨k1,k2⟩:=key j hj;simp only at e0 e1;generalize off+j=o at k1 k2 e0 e1;generalize xs[j]=z at k2 e0 e1
 have:o=0\/o=1\/o=2\/o=3\/o=4:=aA
 rcases this with rfl | rfl | rfl | rfl | rfl
 ·have k3:(#[.int .i64 10]:Array Value)=#[.int .i64 z]:=k2;simp at k3;exact e0 rfl k3.symm
 ·have k3:(#[.int .i64 1]:Array Value)=#[.int .i64 z]:=k2;simp at k3;exact e1 rfl k3.symm
 ·have k3:(#[a]:Array Value)=#[.int .i64 z]:=k2;simp at k3;exact ha _ _ k3
 ·have k3:(#[b]:Array Value)=#[.int .i64 z]:=k2;simp at k3;exact hb' _ _ k3
 ·have k3:(#[c]:Array Value)=#[.int .i64 z]:=k2;simp at k3;exact hc _ _ k3
def SG(d m:Int)(gs:List Good)(ms:List AA)(cs:List AF):Int:=if AJ d m gs ms cs=0 then ((AU d gs ms cs m).length:Int) else 0
end Go.Ns
namespace Go.Ns
open Go.Conc
section
variable {P:Program} {E:HB P} {O:Nat->Value} {ds:List Deferred} {h:GH} {T:(Nat->Value)->List Deferred->GH->Prop} {dst:Option Nat} {ty:TypeId} {pos:String} {af:Array Edge} {gd:Option (Nat×Bool)}
end
section
variable {d m:Int} {gs:List Good} {ms:List AA} {cs:List AF} {f y l:List Int}
end
end Go.Ns
namespace Go.Ns
open Go.Conc
def Cz(cs:List AF)(l:List Int):List AF:=l.map λi=>cs.getD i.toNat AF.z
theorem MO(cs:List AF)(l:List Int):(Cz cs l).length=l.length:=by unfold Cz;simp
theorem VR{cs:List AF}{l:List Int}{k:Nat}(hk:k<l.length):Cz cs (l.take (k+1))=Cz cs (l.take k)++[cs.getD (l.getD k 0).toNat AF.z]:=by
 unfold Cz;rw [CK 0 hk,List.map_append];rfl
theorem XC{cs:List AF}{l:List Int}{k:Nat}(h:¬(k:Int)<l.length):Cz cs (l.take k)=Cz cs l:=by rw [List.take_of_length_le aA]
theorem XD{a b:List Int}{k:Nat}(hk:k<=a.length)(hkb:k<=b.length)(h:¬((k:Int)<a.length/\(k:Int)<b.length)):(GK a b (a.length-k) k<0)↔(a.length:Int)<b.length:=by
 by_cases hA:(k:Int)<a.length
 ·rw [Gh aA,if_pos aA];omega
 ·rw [Kb (k:=k) hA];split <;> omega
theorem AAN{a b:List Int}{k:Nat}(hk:k<a.length)(hkb:k<b.length)(h:¬a.getD k 0=b.getD k 0):(GK a b (a.length-k) k<0)↔a.getD k 0<b.getD k 0:=by
 rw [Gh hk,if_neg aA];unfold Pu;split
 ·simp_all
 ·split <;> simp_all <;> omega
theorem AAO{a b:List Int}{k:Nat}(hk:k<a.length)(hkb:k<b.length)(h:¬¬a.getD k 0=b.getD k 0):GK a b (a.length-k) k=GK a b (a.length-(k+1)) (k+1):=by
 have e:=Decidable.not_not.1 h;rw [Gh hk,if_neg aA,if_neg (by unfold Pu;rw [e];simp)]
section
variable {P:Program} {E:HB P} {O:Nat->Value} {ds:List Deferred} {h:GH} {T:(Nat->Value)->List Deferred->GH->Prop} {dst:Option Nat} {ty:TypeId} {pos:String} {af:Array Edge} {gd:Option (Nat×Bool)}
end
def JK(h h':GH)(v:Value)(t:TypeId):Prop:=∀b c,B7 v=some b->h b=some (true,.cells c t (0,0))->∃c',h' b=some (true,.cells c' t (0,0))/\c'.size=c.size
theorem JK.empty{h h':GH}{v v':Value}{t:TypeId}(g:EV h h' v v')(f:JK h h' v t){r:Nat}(hr:h r=some (true,.cells #[] t (0,0))):h' r=some (true,.cells #[] t (0,0)):=by
 by_cases e:B7 v=some r
 ·obtain ⟨c',h1,h2⟩:=f r #[] e hr;have e0:c'=#[]:=Array.eq_empty_of_size_eq_zero (by simpa using h2);rw [h1,e0]
 ·exact g.1 r _ hr e
theorem JK.le{h h':GH}{v v':Value}{t:TypeId}(g:EV h h' v v')(f:JK h h' v t){r:Nat}(hv:B7 v=some r)(hr:h r=some (true,.cells #[] t (0,0))):h.Le h':=λb p o hb=>by
 by_cases e:b=r
 ·subst e;rw [hr] at hb;cases hb;exact ⟨_,f.empty g hr,.inl rfl⟩
 ·exact ⟨o,g.1 b _ hb (λq=>e (by rw [hv] at q;cases q;rfl)),.inl rfl⟩
theorem QH{P:Program}{E:HB P}{R R':GH->GH->Prop}{Pre:Nat->GH->Prop}{ops rest:List Oper}{n m k:Nat}{Φ:List IC}{O:Nat->Value}{ds:List Deferred}{h:GH}{Q:Post}{cls:List (List Nat)}(_:Dr R' Φ)(x:Iu R Pre E ops n Φ O ds h Q m k rest cls):Iu R Pre E ops n Φ O ds h Q m k rest cls:=x
end Go.Ns
namespace Go.Ns
open Go.Conc Go Go.RowKit
def JL(l:List Int):Nat:=l.length*100000+(l.foldl (λn x=>10*n+x.toNat) 0)
theorem QI:∀(l:List (List Int))(c:List Int),(∀x ∈ c ::l,∀y ∈ c ::l,Ek x y=decide (JL x<JL y))->FB c l ∈ c ::l/\∀x ∈ c ::l,JL (FB c l)<=JL x
 | [],c,_=>⟨List.mem_cons_self ..,λx hx=>by
  rcases List.mem_cons.1 hx with rfl | q
  ·exact Nat.le_refl _
  ·cases q⟩
 | a ::l,c,H=>by
  have e:FB c (a ::l)=FB (C3 a c) l:=rfl;have hs:C3 a c=a\/C3 a c=c:=by unfold C3;split <;> simp
  have hm:∀x ∈ C3 a c ::l,x ∈ c ::a ::l:=λx hx=>by
   rcases List.mem_cons.1 hx with rfl | q
   ·rcases hs with q | q <;> rw [q] <;> simp
   ·simp [q]
  obtain ⟨h1,h2⟩:=QI l (C3 a c) λx hx y hy=>H x (hm x hx) y (hm y hy);have hk:JL (C3 a c)<=JL a/\JL (C3 a c)<=JL c:=by
   have:=H a aD c aD
   unfold C3;by_cases q:Ek a c=true
   ·rw [if_pos q];rw [this] at q;have:=of_decide_eq_true q;omega
   ·rw [if_neg q];rw [this] at q;simp only [decide_eq_true_eq] at q;omega
  rw [e];refine ⟨hm _ h1,λx hx=>?_⟩;have h0:=h2 _ (List.mem_cons_self ..);rcases List.mem_cons.1 hx with rfl | q
  ·omega
  ·rcases List.mem_cons.1 q with rfl | q
   ·omega
   ·exact h2 x (List.mem_cons_of_mem _ q)
section
variable {d m:Int} {gs:List Good} {ms:List AA} {cs:List AF}
theorem An.alone(b:An d m gs ms cs){l:List Int}(h:∀i,i<l.length->0<=l.getD i 0/\l.getD i 0<cs.length)(hl:l.length<=4):An d m gs ms (Cz cs l):=
 { b with
  clen:=by rw [MO];exact hl
  count:=λk hk=>by
   rw [MO] at hk;have e:(Cz cs l).getD k AF.z=cs.getD (l.getD k 0).toNat AF.z:=by
    unfold Cz;rw [BY AF.z (by simpa using hk),List.getElem_map,BY 0 hk]
   have:=b.count (l.getD k 0).toNat (by have:=h k hk;omega)
   unfold E9 at this ⊢;rw [e];exact this }
theorem Oc(mask:Int)(n:Nat):Cz cs (A3 mask n)=Ce cs mask n:=by
 unfold Cz A3 Ce;rw [List.map_map];exact List.map_congr_left λi _=>rfl
theorem J2(n:Nat):Ce cs 0 n=[]:=by
 unfold Ce;rw [List.filter_eq_nil_iff.2 λi _=>by unfold DR;simp];rfl
theorem Tp{x:List Int}:x ∈ Dm d m gs ms cs↔∃mask:Nat,mask<2 ^ cs.length/\x=A3 (mask:Int) cs.length/\B3 d gs ms (Ce cs (mask:Int) cs.length) m=false:=by
 unfold Dm DI;rw [List.mem_filterMap];constructor
 ·rintro ⟨k,hk,e⟩;rw [List.mem_range'_1] at hk;unfold JJ at e;by_cases q:B3 d gs ms (Ce cs (k:Int) cs.length) m=true
  ·rw [if_pos q] at e;cases e
  ·rw [if_neg q] at e;exact ⟨k,aA,(Option.some.inj e).symm,by simpa using q⟩
 ·rintro ⟨k,hk,rfl,q⟩;exact ⟨k,List.mem_range'_1.2 ⟨Nat.zero_le _,aA⟩,by unfold JJ;rw [if_neg (by rw [q];simp)]⟩
end
section
variable {P:Program} {E:HB P} {O:Nat->Value} {ds:List Deferred} {h:GH} {T:(Nat->Value)->List Deferred->GH->Prop} {dst:Option Nat} {ty:TypeId} {pos:String} {af:Array Edge} {gd:Option (Nat×Bool)}
end
end Go.Ns
namespace Go.Ns
open Go.Conc Go Go.RowKit
theorem Ix{p q:AV}:∀{n:Nat},(∀k,k<n->p.lies k=q.lies k)->Aw p n=Aw q n
 | 0,_=>rfl
 | n+1,h=>by unfold Aw;rw [Ix λk hk=>h k aA,h n aA]
theorem Hk(p:AV):∀{i n:Nat},i<=n->Aw p i<=Aw p n
 | i,0,h=>by rw [show i=0 by omega];exact Nat.le_refl _
 | i,n+1,h=>by
  by_cases e:i=n+1
  ·rw [e];exact Nat.le_refl _
  ·have:=Hk p (i:=i) (n:=n) aA
   have h2:Aw p (n+1)=Aw p n+if p.lies n then 1 else 0:=rfl
   omega
theorem Ii{p:AV}:∀{i n:Nat},(∀k,i<=k->k<n->p.lies k=false)->i<=n->Aw p n=Aw p i
 | i,0,_,h=>by rw [show i=0 by omega]
 | i,n+1,h0,h=>by
  by_cases e:i=n+1
  ·rw [e]
  ·have h2:Aw p (n+1)=Aw p n+if p.lies n then 1 else 0:=rfl
   rw [h2,h0 n aA aA,Ii (λk hk hk'=>h0 k hk aA) aA];rfl
theorem Od{p:AV}{i:Nat}{n:Int}(h:p.lies i=false):∀k,Aw (p.setMove i n true) k=Aw p k+if i<k then 1 else 0
 | 0=>rfl
 | k+1=>by
  have h1:Aw (p.setMove i n true) (k+1)=Aw (p.setMove i n true) k+if (p.setMove i n true).lies k then 1 else 0:=rfl
  have h2:Aw p (k+1)=Aw p k+if p.lies k then 1 else 0:=rfl
  have h3:(p.setMove i n true).lies k=if k=i then true else p.lies k:=rfl
  rw [h1,h2,h3,Od h k];by_cases e:k=i
  ·subst e;have e3:¬k<k:=aA
   have e4:k<k+1:=aA
   simp [h,e3,e4]
  ·rw [if_neg e];by_cases e2:i<k
   ·have e4:i<k+1:=aA
    simp only [e2,e4,if_true];omega
   ·have e4:¬i<k+1:=aA
    simp only [e2,e4,if_false];omega
theorem GO(p:AV):∀n,((List.range n).filter p.lies).length=Aw p n
 | 0=>rfl
 | n+1=>by
  rw [List.range_succ,List.filter_append,List.length_append,GO p n];have h2:Aw p (n+1)=Aw p n+if p.lies n then 1 else 0:=rfl
  rw [h2];by_cases e:p.lies n=true
  ·simp [e]
  ·simp [e]
structure VS(gs:List Good)(ms:List AA)(mo:Int)(p:AV):Prop where
 first:∀i,i<gs.length->(gs.getD i Good.z).low<=p.first i/\p.first i<=(gs.getD i Good.z).high
 many:∀i,i<ms.length->(ms.getD i AA.z).low<=p.many i/\p.many i<=(ms.getD i AA.z).high
 note:∀i,i<ms.length->p.lies i=true->Dd ms i=true
 few:(Aw p ms.length:Int)<=mo
theorem Iy{ag:AV->Bool}{ms:List AA}{mo:Int}(h6:ms.length<=6):∀(f i:Nat)(p q:AV),i+f=ms.length->(∀k,i<=k->p.lies k=false)->(Aw p 6:Int)<=mo->q ∈ Au ag ms mo f i p->
  ag q=true/\q.first=p.first/\(∀k,k<i->q.many k=p.many k/\q.lies k=p.lies k)/\(∀k,i<=k->k<ms.length->(ms.getD k AA.z).low<=q.many k/\q.many k<=(ms.getD k AA.z).high/\(q.lies k=true->Dd ms k=true))/\(Aw q 6:Int)<=mo
 | 0,i,p,q,e,_,hl,h=>by
  unfold Au at h;split at h
  ·rename_i ha
   rw [List.mem_singleton] at h;subst h;exact ⟨ha,rfl,λ_ _=>⟨rfl,rfl⟩,λk h1 h2=>aA,hl⟩
  ·cases h
 | f+1,i,p,q,e,hz,hl,h=>by
  rw [Cq,List.mem_flatMap] at h;obtain ⟨n,hn,h⟩:=h;rw [F0] at hn;have hlf:∀k,i+1<=k->(p.setMove i n false).lies k=false:=λk hk=>by
   show (if k=i then false else p.lies k)=false;split
   ·rfl
   ·exact hz k aA
  have hcf:Aw (p.setMove i n false) 6=Aw p 6:=Ix λk _=>by
   show (if k=i then false else p.lies k)=p.lies k;split
   ·rename_i e2;rw [e2,hz i (Nat.le_refl _)]
   ·rfl
  unfold Bb at h;rw [List.mem_append] at h;rcases h with h | h
  ·obtain ⟨a1,a2,a3,a4,a5⟩:=Iy h6 f (i+1) _ q aA hlf (by rw [hcf];exact hl) h;refine ⟨a1,a2,λk hk=>?_,λk h1 h2=>?_,a5⟩
   ·have:=a3 k aA
    rw [this.1,this.2];exact ⟨show (if k=i then n else p.many k)=_ from if_neg aA,show (if k=i then false else p.lies k)=_ from if_neg aA⟩
   ·by_cases e2:k=i
    ·subst e2
     have:=a3 k aA
     have g1:(p.setMove k n false).many k=n:=if_pos rfl;have g2:(p.setMove k n false).lies k=false:=if_pos rfl;rw [this.1,this.2,g1,g2];exact ⟨hn.1,hn.2,λq=>by cases q⟩
    ·exact a4 k aA h2
  ·split at h
   ·rename_i hc
    rw [Bool.and_eq_true] at hc;have hlt:=of_decide_eq_true hc.2;have hct:Aw (p.setMove i n true) 6=Aw p 6+1:=by rw [Od (hz i (Nat.le_refl _)),if_pos aA]
    have hlt2:∀k,i+1<=k->(p.setMove i n true).lies k=false:=λk hk=>by
     show (if k=i then true else p.lies k)=false;rw [if_neg aA];exact hz k aA
    obtain ⟨a1,a2,a3,a4,a5⟩:=Iy h6 f (i+1) _ q aA hlt2 (by rw [hct];omega) h;refine ⟨a1,a2,λk hk=>?_,λk h1 h2=>?_,a5⟩
    ·have:=a3 k aA
     rw [this.1,this.2];exact ⟨show (if k=i then n else p.many k)=_ from if_neg aA,show (if k=i then true else p.lies k)=_ from if_neg aA⟩
    ·by_cases e2:k=i
     ·subst e2
      have:=a3 k aA
      have g1:(p.setMove k n true).many k=n:=if_pos rfl;rw [this.1,g1];exact ⟨hn.1,hn.2,λ_=>hc.1⟩
     ·exact a4 k aA h2
   ·cases h
theorem Ls{ag:AV->Bool}{gs:List Good}{ms:List AA}{mo:Int}(h6:ms.length<=6)(h0:0<=mo):∀(f i:Nat)(p q:AV),i+f=gs.length->(∀k,p.lies k=false)->q ∈ BK ag gs ms mo f i p->
  ag q=true/\(∀k,k<i->q.first k=p.first k)/\(∀k,i<=k->k<gs.length->(gs.getD k Good.z).low<=q.first k/\q.first k<=(gs.getD k Good.z).high)/\(∀k,k<ms.length->(ms.getD k AA.z).low<=q.many k/\q.many k<=(ms.getD k AA.z).high/\(q.lies k=true->Dd ms k=true))/\(Aw q 6:Int)<=mo
 | 0,i,p,q,e,hz,h=>by
  have hl:(Aw p 6:Int)<=mo:=by
   rw [Ii (i:=0) (λk _ _=>hz k) (Nat.zero_le _)];exact h0
  obtain ⟨a1,a2,_,a4,a5⟩:=Iy h6 ms.length 0 p q aA (λk _=>hz k) hl h;exact ⟨a1,λk _=>by rw [a2],λk h1 h2=>aA,λk hk=>a4 k (Nat.zero_le _) hk,a5⟩
 | f+1,i,p,q,e,hz,h=>by
  rw [DE,List.mem_flatMap] at h;obtain ⟨n,hn,h⟩:=h;rw [F0] at hn;obtain ⟨a1,a2,a3,a4,a5⟩:=Ls h6 h0 f (i+1) (p.setFirst i n) q aA hz h;refine ⟨a1,λk hk=>?_,λk h1 h2=>?_,a4,a5⟩
  ·rw [a2 k aA];exact if_neg aA
  ·by_cases e2:k=i
   ·subst e2;rw [a2 k aA];have g1:(p.setFirst k n).first k=n:=if_pos rfl;rw [g1];exact hn
   ·exact a3 k aA h2
theorem LL{d:Int}{gs:List Good}{ms:List AA}{cs:List AF}{mo:Int}(h6:ms.length<=6)(h0:0<=mo){q:AV}(h:q ∈ AU d gs ms cs mo):VS gs ms mo q/\BA d gs.length ms cs q=true:=by
 obtain ⟨a1,_,a3,a4,a5⟩:=Ls h6 h0 gs.length 0 AV.zero q aA (λ_=>rfl) h;refine ⟨⟨λi hi=>a3 i (Nat.zero_le _) hi,λi hi=>⟨(a4 i hi).1,(a4 i hi).2.1⟩,λi hi=>(a4 i hi).2.2,?_⟩,a1⟩
 have:=Hk q h6
 omega
def HJ(p:AV)(i j:Nat):AV:=⟨λk=>if k<i then p.first k else 0,λk=>if k<j then p.many k else 0,λk=>if k<j then p.lies k else false⟩
theorem SH(p:AV)(i j:Nat):(HJ p i j).setMove j (p.many j) (p.lies j)=HJ p i (j+1):=by
 unfold HJ AV.setMove AV.setMany AV.setLie;congr 1
 ·funext k;show (if k=j then p.many j else if k<j then p.many k else 0)=if k<j+1 then p.many k else 0
  by_cases e:k=j
  ·rw [if_pos e,e,if_pos aA]
  ·rw [if_neg e];by_cases e2:k<j
   ·rw [if_pos e2,if_pos aA]
   ·rw [if_neg e2,if_neg aA]
 ·funext k;show (if k=j then p.lies j else if k<j then p.lies k else false)=if k<j+1 then p.lies k else false
  by_cases e:k=j
  ·rw [if_pos e,e,if_pos aA]
  ·rw [if_neg e];by_cases e2:k<j
   ·rw [if_pos e2,if_pos aA]
   ·rw [if_neg e2,if_neg aA]
theorem XE(p:AV)(i:Nat):(HJ p i 0).setFirst i (p.first i)=HJ p (i+1) 0:=by
 unfold HJ AV.setFirst;congr 1;funext k;show (if k=i then p.first i else if k<i then p.first k else 0)=if k<i+1 then p.first k else 0
 by_cases e:k=i
 ·rw [if_pos e,e,if_pos aA]
 ·rw [if_neg e];by_cases e2:k<i
  ·rw [if_pos e2,if_pos aA]
  ·rw [if_neg e2,if_neg aA]
theorem NR{ag:AV->Bool}{gs:List Good}{ms:List AA}{mo:Int}(h6:ms.length<=6){p:AV}(L:VS gs ms mo p)(ha:ag (HJ p gs.length ms.length)=true):∀(f i:Nat),i+f=ms.length->HJ p gs.length ms.length ∈ Au ag ms mo f i (HJ p gs.length i)
 | 0,i,e=>by
  rw [show i=ms.length by omega];unfold Au;rw [if_pos ha];exact List.mem_singleton.2 rfl
 | f+1,i,e=>by
  rw [Cq,List.mem_flatMap];refine ⟨p.many i,F0.2 (L.many i aA),?_⟩;have ih:=NR h6 L ha f (i+1) aA;unfold Bb;rw [List.mem_append];cases hli:p.lies i with
  | false=>
   left
   have:=SH p gs.length i
   rw [hli] at this;rw [this];exact ih
  | true=>
   right;have hlie:Aw ((HJ p gs.length i).setMove i (p.many i) false) 6=Aw p i:=by
    rw [Ii (i:=i) (λk h1 h2=>?_) aA]
    ·refine Ix λk hk=>?_;show (if k=i then false else if k<i then p.lies k else false)=_;rw [if_neg aA,if_pos hk]
    ·show (if k=i then false else if k<i then p.lies k else false)=_;split
     ·rfl
     ·rw [if_neg aA]
   have h1:Aw p (i+1)=Aw p i+1:=by
    show Aw p i+(if p.lies i then 1 else 0)=_;rw [hli];rfl
   have h2:=Hk p (i:=i+1) (n:=ms.length) aA;have h3:=L.few;rw [if_pos (by rw [Bool.and_eq_true];exact ⟨L.note i aA hli,decide_eq_true (by rw [hlie];omega)⟩)]
   have:=SH p gs.length i
   rw [hli] at this;rw [this];exact ih
theorem J3{ag:AV->Bool}{gs:List Good}{ms:List AA}{mo:Int}(h6:ms.length<=6){p:AV}(L:VS gs ms mo p)(ha:ag (HJ p gs.length ms.length)=true):∀(f i:Nat),i+f=gs.length->HJ p gs.length ms.length ∈ BK ag gs ms mo f i (HJ p i 0)
 | 0,i,e=>by
  rw [show i=gs.length by omega];exact NR h6 L ha ms.length 0 aA
 | f+1,i,e=>by
  rw [DE,List.mem_flatMap];refine ⟨p.first i,F0.2 (L.first i aA),?_⟩;rw [XE];exact J3 h6 L ha f (i+1) aA
theorem Lt{ms ms':List AA}{p p':AV}{g dy:Int}(hlen:ms.length=ms'.length)(hm:∀k,(ms.getD k AA.z).day=(ms'.getD k AA.z).day/\(ms.getD k AA.z).good=(ms'.getD k AA.z).good/\(ms.getD k AA.z).kind=(ms'.getD k AA.z).kind)
  (hr:∀k,k<ms.length->CJ p k=CJ p' k):∀(f k:Nat)(n low:Int),k+f=ms.length->Co ms p g dy f k n low=Co ms' p' g dy f k n low
 | 0,_,_,_,_=>rfl
 | f+1,k,n,low,e=>by
  unfold Co;rw [(hm k).1];have h1:Fy ms p g k n=Fy ms' p' g k n:=by unfold Fy;rw [(hm k).2.1,(hm k).2.2,hr k aA]
  have h2:∀n,FA ms k low n=FA ms' k low n:=λn=>by unfold FA;rw [(hm k).1,(hm (k+1)).1,hlen]
  rw [h1,h2,Lt hlen hm hr f (k+1) _ _ aA]
theorem Hl{ms ms':List AA}{p p':AV}{g dy:Int}(hlen:ms.length=ms'.length)(hm:∀k,(ms.getD k AA.z).day=(ms'.getD k AA.z).day/\(ms.getD k AA.z).good=(ms'.getD k AA.z).good/\(ms.getD k AA.z).kind=(ms'.getD k AA.z).kind)
  (hr:∀k,k<ms.length->CJ p k=CJ p' k) (hf:p.first g.toNat=p'.first g.toNat):AP ms p g dy=AP ms' p' g dy:=by
 unfold AP;rw [hf,<-hlen];exact Lt hlen hm hr _ _ _ _ aA
theorem MP{d:Int}{ng:Nat}{ms ms':List AA}{cs:List AF}{p p':AV}(h:BA d ng ms cs p=true)(h1:∀j,j<ng->(AP ms' p' (j:Int) d).2=(AP ms p (j:Int) d).2)(h2:∀x ∈ cs,(AP ms' p' x.good x.day).1=(AP ms p x.good x.day).1):BA d ng ms' cs p'=true:=by
 unfold BA at h ⊢;rw [Bool.and_eq_true] at h ⊢;refine ⟨decide_eq_true λj hj=>by rw [h1 j hj];exact of_decide_eq_true h.1 j hj,?_⟩;have h3:=h.2;rw [Bool.not_eq_true',List.any_eq_false] at h3 ⊢;intro x hx
 have:=h3 x hx
 rw [h2 x hx];exact this
theorem SI(p:AV){i j k:Nat}(h:k<j):CJ (HJ p i j) k=CJ p k:=by
 unfold CJ HJ;simp only [];rw [if_pos h,if_pos h]
theorem hists_in{d m:Int}{gs:List Good}{ms:List AA}{cs:List AF}{mo:Int}(b:An d m gs ms cs){p:AV}(L:VS gs ms mo p)(ha:BA d gs.length ms cs p=true):AU d gs ms cs mo≠[]:=λe=>by
 have h2:BA d gs.length ms cs (HJ p gs.length ms.length)=true:=MP ha
  (λj hj=>by rw [Hl rfl (λ_=>⟨rfl,rfl,rfl⟩) (λk hk=>SI p hk) (show (if (j:Int).toNat<gs.length then _ else _)=_ from if_pos aA)])
  (λx hx=>by
   obtain ⟨i,hi,e2⟩:=List.getElem_of_mem hx;have hc:=b.count i hi;unfold E9 at hc;rw [BY AF.z hi,e2] at hc;have hg:0<=x.good/\x.good<=(gs.length:Int)-1:=by
    apply Decidable.byContradiction;intro q;rw [if_pos q] at hc;cases hc
   rw [Hl rfl (λ_=>⟨rfl,rfl,rfl⟩) (λk hk=>SI p hk) (show (if x.good.toNat<gs.length then _ else _)=_ from if_pos aA)])
 have:=J3 (ag:=BA d gs.length ms cs) b.mlen L h2 gs.length 0 aA
 have e3:HJ p 0 0=AV.zero:=by unfold HJ AV.zero;congr 1 <;> (funext k;exact if_neg aA)
 rw [e3] at this;have e4:BK (BA d gs.length ms cs) gs ms mo gs.length 0 AV.zero=[]:=e;rw [e4] at this;cases this
end Go.Ns
namespace Go.Ns
open Go.Conc Go Go.RowKit
def bls:Nat->List (List Bool)
 | 0=>[[]]
 | n+1=>(bls n).flatMap λl=>[l++[false],l++[true]]
def chk5:Bool:=(List.range 7).all λn=>(bls n).all λl=>(List.range (2 ^ n)).any λ(mask:Nat)=>(List.range n).map (DR (mask:Int))==l
theorem AAP:chk5=true:=aB
theorem ZV(f:Nat->Bool):∀n,(List.range n).map f ∈ bls n
 | 0=>List.mem_singleton.2 rfl
 | n+1=>by
  rw [List.range_succ,List.map_append];refine List.mem_flatMap.2 ⟨_,ZV f n,?_⟩;cases h:f n <;> simp [h]
theorem ZW{n:Nat}(hn:n<=6)(f:Nat->Bool):∃mask:Nat,mask<2 ^ n/\∀i,i<n->DR (mask:Int) i=f i:=by
 have h:=AAP;unfold chk5 at h;rw [List.all_eq_true] at h;have h2:=List.all_eq_true.1 (h n (List.mem_range.2 aA)) _ (ZV f n);obtain ⟨y,hy,e⟩:=List.any_eq_true.1 h2;refine ⟨y,List.mem_range.1 hy,λi hi=>?_⟩;have e2:=eq_of_beq e
 have:=congrArg (λl:List Bool=>l.getD i false) e2
 simpa [List.getD_eq_getElem?_getD,List.getElem?_range hi] using this
theorem Hx{mask:Int}{n k:Nat}:(k:Int) ∈ A3 mask n↔k<n/\DR mask k=true:=by
 unfold A3;rw [List.mem_map];constructor
 ·rintro ⟨i,hi,e⟩
  have:i=k:=aA
  subst this
  have:=List.mem_filter.1 hi
  exact ⟨List.mem_range.1 this.1,this.2⟩
 ·rintro ⟨h1,h2⟩;exact ⟨k,List.mem_filter.2 ⟨List.mem_range.2 h1,h2⟩,rfl⟩
theorem LM{mask:Int}{n:Nat}{x:Int}(h:x ∈ A3 mask n):∃k:Nat,x=(k:Int)/\k<n/\DR mask k=true:=by
 unfold A3 at h;obtain ⟨i,hi,rfl⟩:=List.mem_map.1 h
 have:=List.mem_filter.1 hi
 exact ⟨i,rfl,List.mem_range.1 this.1,this.2⟩
theorem VT{mask:Int}{n:Nat}:(A3 mask n).Pairwise (· < ·):=by
 unfold A3;rw [List.pairwise_map]
 have:(List.range n).Pairwise (λa b:Nat=>(a:Int)<(b:Int)):=(List.pairwise_lt_range (n:=n)).imp λ{a b} h=>aA
 exact this.sublist List.filter_sublist
theorem HK:∀(l:List Int)(ms:List AA)(k:Nat),(∀x ∈ l,0<=x)->k<ms.length->(Cy ms l).getD k AA.z=if (k:Int) ∈ l then { ms.getD k AA.z with low:=0,high:=0 } else ms.getD k AA.z
 | [],ms,k,_,_=>by simp [Cy]
 | i ::l,ms,k,h,hk=>by
  have h1:Cy ms (i ::l)=Cy (clearAt ms i.toNat) l:=rfl;have hi:=h i aD;rw [h1,HK l (clearAt ms i.toNat) k (λx hx=>h x (by simp [hx])) (by rw [GM];exact hk)];have e:(clearAt ms i.toNat).getD k AA.z=if i.toNat=k then { ms.getD k AA.z with low:=0,high:=0 } else ms.getD k AA.z:=by
   unfold clearAt;rw [List.getD_eq_getElem?_getD,List.getElem?_set];by_cases q:i.toNat=k
   ·rw [if_pos q,if_pos q,q,if_pos hk];rfl
   ·rw [if_neg q,if_neg q,List.getD_eq_getElem?_getD]
  rw [e];by_cases q:i.toNat=k
  ·have hm:(k:Int) ∈ i ::l:=by rw [<-q,Int.toNat_of_nonneg hi];simp
   rw [if_pos q,if_pos hm];split <;> rfl
  ·have hm:((k:Int) ∈ i ::l)↔(k:Int) ∈ l:=by
    rw [List.mem_cons];constructor
    ·rintro (r | r)
     ·omega
     ·exact r
    ·exact .inr
   rw [if_neg q];by_cases r:(k:Int) ∈ l
   ·rw [if_pos r,if_pos (hm.2 r)]
   ·rw [if_neg r,if_neg (λs=>r (hm.1 s))]
theorem Oe{l:List Int}{ms:List AA}(h:∀x ∈ l,0<=x)(k:Nat):((Cy ms l).getD k AA.z).day=(ms.getD k AA.z).day/\((Cy ms l).getD k AA.z).good=(ms.getD k AA.z).good/\((Cy ms l).getD k AA.z).kind=(ms.getD k AA.z).kind:=by
 by_cases hk:k<ms.length
 ·rw [HK l ms k h hk];split <;> exact ⟨rfl,rfl,rfl⟩
 ·rw [B8 (by rw [DW];omega),B8 aA];exact ⟨rfl,rfl,rfl⟩
section
variable {d m:Int} {gs:List Good} {ms:List AA} {cs:List AF}
theorem J4{i:Nat}(hi:i<ms.length):Dd ms (i:Int)=true↔(ms.getD i AA.z).kind=0:=by
 unfold Dd;rw [decide_eq_true_eq,Int.toNat_natCast];exact ⟨λh=>h.2,λh=>⟨⟨aA,aA⟩,h⟩⟩
theorem Kn{x:List Int}:x ∈ C5 d gs ms cs (2 ^ ms.length)↔∃mask:Nat,mask<2 ^ ms.length/\x=A3 (mask:Int) ms.length/\(∀i,i<ms.length->DR (mask:Int) i=true->Dd ms (i:Int)=true)/\AU d gs (Cy ms x) cs 0≠[]:=by
 unfold C5;rw [List.mem_filterMap];have hall:∀k:Nat,FI ms (k:Int) ms.length=true↔∀i,i<ms.length->DR (k:Int) i=true->Dd ms (i:Int)=true:=λk=>by
  unfold FI;rw [List.all_eq_true];constructor
  ·intro h i hi hb
   have:=h i (List.mem_range.2 hi)
   rw [hb] at this;simpa using this
  ·intro h i hi;cases hb:DR (k:Int) i with
   | false=>rfl
   | true=>simpa using h i (List.mem_range.1 hi) hb
 constructor
 ·rintro ⟨k,hk,e⟩;unfold E0 at e;split at e
  ·rename_i ha
   split at e
   ·cases e
   ·rename_i hh
    cases e;exact ⟨k,List.mem_range.1 hk,rfl,(hall k).1 ha,hh⟩
  ·cases e
 ·rintro ⟨k,hk,rfl,ha,hh⟩;refine ⟨k,List.mem_range.2 hk,?_⟩;unfold E0;rw [if_pos ((hall k).2 ha),if_neg hh]
theorem AAQ(b:An d m gs ms cs){mo:Int}(h0:0<=mo){q:AV}(hq:q ∈ AU d gs ms cs mo):∃mask:Nat,mask<2 ^ ms.length/\(∀k:Nat,(k:Int) ∈ A3 (mask:Int) ms.length↔k<ms.length/\q.lies k=true)/\A3 (mask:Int) ms.length ∈ C5 d gs ms cs (2 ^ ms.length):=by
 obtain ⟨L,ha⟩:=LL b.mlen h0 hq;obtain ⟨mask,hmask,hbit⟩:=ZW b.mlen q.lies;have hx0:∀x ∈ A3 (mask:Int) ms.length,0<=x:=λx hx=>by obtain ⟨k,rfl,_⟩:=LM hx;omega
 have hmem:∀k,k<ms.length->((k:Int) ∈ A3 (mask:Int) ms.length↔q.lies k=true):=λk hk=>by
  rw [Hx,hbit k hk];exact ⟨λh=>h.2,λh=>⟨hk,h⟩⟩
 refine ⟨mask,hmask,λk=>⟨λhk=>?_,λhk=>(hmem k hk.1).2 hk.2⟩,Kn.2 ⟨mask,hmask,rfl,λi hi hb=>L.note i hi (by rw [<-hbit i hi];exact hb),?_⟩⟩
 ·have:=(Hx.1 hk).1;exact ⟨this,(hmem k this).1 hk⟩
 ·refine hists_in (p:=⟨q.first,λk=>if q.lies k then 0 else q.many k,λ_=>false⟩) (An.clear (l:=A3 (mask:Int) ms.length) b) ⟨L.first,λi hi=>?_,λi hi e=>(by cases e),?_⟩ ?_
  ·rw [DW] at hi;rw [HK _ _ _ hx0 hi];show _<=(if q.lies i then 0 else q.many i)/\(if q.lies i then 0 else q.many i)<=_;by_cases e:q.lies i=true
   ·rw [if_pos ((hmem i hi).2 e),if_pos e];exact ⟨Int.le_refl _,Int.le_refl _⟩
   ·rw [if_neg (λr=>e ((hmem i hi).1 r)),if_neg e];exact L.many i hi
  ·rw [Ii (i:=0) (λ_ _ _=>rfl) (Nat.zero_le _)];exact Int.le_refl 0
  ·have hs:∀g dy,AP (Cy ms (A3 (mask:Int) ms.length)) ⟨q.first,λk=>if q.lies k then 0 else q.many k,λ_=>false⟩ g dy=AP ms q g dy:=λg dy=>
    Hl (DW ms _) (Oe hx0) (λk hk=>by unfold CJ;rfl) rfl
   exact MP ha (λj _=>by rw [hs]) (λx _=>by rw [hs])
end
def NS(ms:List AA)(p:AV)(g dy:Int)(k:Nat):Int:=if (ms.getD k AA.z).day<=dy then To ms p g k else 0
theorem VU{F:Nat->Int}:∀{l:List Nat},(∀i ∈ l,F i=0)->(l.map F).sum=0
 | [],_=>rfl
 | i ::l,h=>by rw [List.map_cons,List.sum_cons,h i aD,VU λj hj=>h j (by simp [hj])];rfl
theorem QJ{F:Nat->Int}{q:Nat->Bool}:∀{l:List Nat},(∀i ∈ l,q i=false->F i=0)->(l.map F).sum=((l.filter q).map F).sum
 | [],_=>rfl
 | i ::l,h=>by
  have ih:=QJ (F:=F) (q:=q) (l:=l) λj hj=>h j (by simp [hj]);rw [List.map_cons,List.sum_cons,ih];cases e:q i with
  | true=>rw [List.filter_cons,if_pos e,List.map_cons,List.sum_cons]
  | false=>rw [List.filter_cons,if_neg (by rw [e];simp),h i aD e];omega
theorem NT{ms:List AA}{p:AV}{g dy:Int}(up:∀i j,i<=j->j<ms.length->(ms.getD i AA.z).day<=(ms.getD j AA.z).day):∀(f k:Nat)(n low:Int),k+f=ms.length->(Co ms p g dy f k n low).1=n+((List.range' k f).map (NS ms p g dy)).sum
 | 0,_,n,_,_=>by simp [Co]
 | f+1,k,n,low,e=>by
  unfold Co;by_cases h:dy<(ms.getD k AA.z).day
  ·rw [if_pos h,VU λi hi=>?_]
   ·omega
   ·have:=List.mem_range'_1.1 hi
    have h2:=up k i this.1 aA;unfold NS;rw [if_neg aA]
  ·rw [if_neg h,NT up f (k+1) _ _ aA,List.range'_succ,List.map_cons,List.sum_cons];have h1:NS ms p g dy k=To ms p g k:=by unfold NS;rw [if_pos aA]
   have hn:Fy ms p g k n=n+To ms p g k:=by unfold Fy To;split <;> omega
   rw [h1,hn];omega
theorem Km.le{ms:List AA}(h:Km ms):∀i j,i<=j->j<ms.length->(ms.getD i AA.z).day<=(ms.getD j AA.z).day:=λi j hij hj=>by
 by_cases e:i=j
 ·rw [e];exact Int.le_refl _
 ·unfold Km at h;rw [List.pairwise_iff_getElem] at h;rw [BY AA.z aA,BY AA.z hj];exact h i j aA hj aA
theorem Of{ms:List AA}(up:Km ms)(p:AV)(g dy:Int):(AP ms p g dy).1=p.first g.toNat+((List.range ms.length).map (NS ms p g dy)).sum:=by
 unfold AP;rw [NT up.le _ _ _ _ aA,List.range_eq_range']
section
variable {d m:Int} {gs:List Good} {ms:List AA} {cs:List AF}
def BS(ms:List AA)(k:Nat):List Int:=((List.range k).filter λi=>decide ((ms.getD i AA.z).kind=0)).map λ(i:Nat)=>(i:Int)
theorem cameTo_t{k:Nat}(h:(ms.getD k AA.z).kind=0):BS ms (k+1)=BS ms k++[(k:Int)]:=by
 unfold BS;rw [List.range_succ,List.filter_append];simp only [List.filter_cons,h,List.filter_nil];simp
theorem cameTo_f{k:Nat}(h:¬(ms.getD k AA.z).kind=0):BS ms (k+1)=BS ms k:=by
 unfold BS;rw [List.range_succ,List.filter_append];simp only [List.filter_cons,h,List.filter_nil];simp
theorem Gk(ms:List AA)(k:Nat):(BS ms k).length<=k:=by
 unfold BS;rw [List.length_map]
 have:=List.length_filter_le (λi:Nat=>decide ((ms.getD i AA.z).kind=0)) (List.range k)
 rwa [List.length_range] at this
theorem XF{k i:Nat}(hi:i<k)(h:(ms.getD i AA.z).kind=0):(i:Int) ∈ BS ms k:=List.mem_map.2 ⟨i,List.mem_filter.2 ⟨List.mem_range.2 hi,decide_eq_true h⟩,rfl⟩
end
end Go.Ns
namespace Go.Ns
open Go.Conc
theorem Ko{x:Int}:∀(l acc:List Int),x ∈ acc\/x ∈ l->x ∈ l.foldl Hb acc
 | [],acc,h=>h.elim id λh=>by cases h
 | y ::l,acc,h=>by
  refine Ko l _ ?_;unfold Hb;rcases h with h | h
  ·left;split
   ·exact h
   ·exact List.mem_append_left _ h
  ·rcases List.mem_cons.1 h with rfl | h
   ·left;split
    ·rename_i e;exact List.mem_of_getLast? e
    ·exact List.mem_append_right _ (List.mem_singleton.2 rfl)
   ·exact .inr h
theorem KO:∀(l acc:List Int),l.Pairwise (·<=·)->acc.Pairwise (· < ·)->(∀a ∈ acc,∀x ∈ l,a<=x)->(l.foldl Hb acc).Pairwise (· < ·)
 | [],_,_,h,_=>h
 | y ::l,acc,hl,ha,hx=>by
  rw [List.pairwise_cons] at hl;refine KO l _ hl.2 ?_ ?_
  ·unfold Hb;split
   ·exact ha
   ·rename_i hne
    rw [List.pairwise_append];refine ⟨ha,List.pairwise_singleton ..,λa ha' b hb=>?_⟩;rw [List.mem_singleton] at hb;subst hb;have h1:=hx a ha' b List.mem_cons_self;rcases Int.lt_or_eq_of_le h1 with h2 | h2
    ·exact h2
    ·subst h2;exfalso;obtain ⟨z,hz⟩:∃z,acc.getLast? =some z:=by
      cases hq:acc.getLast? with
      | none=>rw [List.getLast?_eq_none_iff] at hq;subst hq;cases ha'
      | some z=>exact ⟨z,rfl⟩
     have hzm:=List.mem_of_getLast? hz;have h3:=hx z hzm a List.mem_cons_self;have h4:a<=z:=by
      obtain ⟨l0,hl0⟩:∃l0,acc=l0++[z]:=by
       rcases List.eq_nil_or_concat acc with e | ⟨l0,y0,e⟩
       ·subst e;cases hz
       ·subst e;simp at hz;subst hz;exact ⟨l0,aD⟩
      subst hl0;rcases List.mem_append.1 ha' with q | q
      ·rw [List.pairwise_append] at ha;exact Int.le_of_lt (ha.2.2 a q z (List.mem_singleton.2 rfl))
      ·rw [List.mem_singleton] at q;omega
     exact hne (by rw [hz,show z=a by omega])
  ·intro a ha' x hx';unfold Hb at ha';split at ha'
   ·exact hx a ha' x (List.mem_cons_of_mem _ hx')
   ·rcases List.mem_append.1 ha' with q | q
    ·exact hx a q x (List.mem_cons_of_mem _ hx')
    ·rw [List.mem_singleton] at q;subst q;exact hl.1 x hx'
theorem SJ{n:Nat}{f:Nat->Int}{x:Int}:x ∈ Ch n f↔∃i,i<n/\f i=x:=by
 refine ⟨R8,λ⟨i,hi,e⟩=>Ko _ _ (.inr ?_)⟩;rw [Kc];exact List.mem_mergeSort.2 (List.mem_map.2 ⟨i,List.mem_range.2 hi,e⟩)
theorem SK(n:Nat)(f:Nat->Int):(Ch n f).Pairwise (· < ·):=by
 refine KO _ _ ?_ List.Pairwise.nil (λa ha=>by cases ha);rw [Kc]
 have:=List.pairwise_mergeSort (le:=λx y:Int=>decide (x<=y)) (λa b c h1 h2=>by simp at *;omega) (λa b=>by simp;omega) ((List.range n).map f)
 exact this.imp λh=>by simpa using h
theorem PB{l l':List Int}(h:l.Pairwise (· < ·))(h':l'.Pairwise (· < ·))(e:∀x,x ∈ l↔x ∈ l'):l=l':=by
 induction l generalizing l' with
 | nil=>
  cases l' with
  | nil=>rfl
  | cons y l'=>exact absurd ((e y).2 List.mem_cons_self) aD
 | cons x l ih=>
  cases l' with
  | nil=>exact absurd ((e x).1 List.mem_cons_self) aD
  | cons y l'=>
   rw [List.pairwise_cons] at h h';have hxy:x=y:=by
    rcases List.mem_cons.1 ((e x).1 List.mem_cons_self) with q | q
    ·exact q
    ·rcases List.mem_cons.1 ((e y).2 List.mem_cons_self) with q' | q'
     ·exact q'.symm
     ·have h1:=h.1 y q';have h2:=h'.1 x q;omega
   subst hxy;congr 1;refine ih h.2 h'.2 λz=>⟨λhz=>?_,λhz=>?_⟩
   ·rcases List.mem_cons.1 ((e z).1 (List.mem_cons_of_mem _ hz)) with rfl | q
    ·exact absurd (h.1 z hz) aA
    ·exact q
   ·rcases List.mem_cons.1 ((e z).2 (List.mem_cons_of_mem _ hz)) with rfl | q
    ·exact absurd (h'.1 z hz) aA
    ·exact q
section
variable {d m:Int} {gs:List Good} {ms:List AA} {cs:List AF}
theorem own_fine{o:List Int}(h:∀x ∈ o,x=0):EW (λk=>o.getD k 0) 0 o.length=0:=Cs (k:=o.length) (λj hj=>h _ (CV hj)) (Nat.le_refl _)
theorem AAR(b:An d m gs ms cs){o:List Int}(h:∀x ∈ o,x=0):Af d m gs ms cs o=if (AU d gs ms cs m).length=0 then 9 else 0:=by
 unfold Af;rw [if_neg (by rw [Ig b];simp),if_neg (by rw [own_fine h];simp)]
end
end Go.Ns
namespace Go.Ns
open Go.Conc
section
variable {P:Program} {E:HB P} {O:Nat->Value} {ds:List Deferred} {h:GH} {T:(Nat->Value)->List Deferred->GH->Prop}
variable {dst:Option Nat} {ty:TypeId} {pos:String} {af:Array Edge} {gd:Option (Nat×Bool)}
end
section
variable {d m:Int} {gs:List Good} {ms:List AA} {cs:List AF}
end
end Go.Ns
namespace Go.Ns
open Go.Conc
section
variable {d m:Int} {gs:List Good} {ms:List AA} {cs:List AF}
end
end Go.Ns
namespace Go.Ns
open Go.Conc
theorem GP{ag:AV->Bool}{ms:List AA}{mo:Int}:∀(f i:Nat)(p q:AV),q ∈ Au ag ms mo f i p->q.first=p.first/\∀k,k<i->q.many k=p.many k/\q.lies k=p.lies k
 | 0,i,p,q,h=>by
  unfold Au at h;split at h
  ·rw [List.mem_singleton] at h;subst h;exact ⟨rfl,λ_ _=>⟨rfl,rfl⟩⟩
  ·cases h
 | f+1,i,p,q,h=>by
  rw [Cq,List.mem_flatMap] at h;obtain ⟨n,_,h⟩:=h;have key:∀b,q ∈ Au ag ms mo f (i+1) (p.setMove i n b)->q.first=p.first/\∀k,k<i->q.many k=p.many k/\q.lies k=p.lies k:=λb hb=>by
   obtain ⟨a1,a2⟩:=GP f (i+1) _ q hb;refine ⟨a1,λk hk=>?_⟩;obtain ⟨b1,b2⟩:=a2 k aA;exact ⟨b1.trans (if_neg aA),b2.trans (if_neg aA)⟩
  unfold Bb at h;rcases List.mem_append.1 h with h | h
  ·exact key _ h
  ·split at h
   ·exact key _ h
   ·cases h
theorem QK(lo hi:Int):(Ff lo hi).Pairwise (·≠·):=by
 unfold Ff B1;rw [List.pairwise_map];exact List.pairwise_lt_range.imp λh=>aA
theorem HW{ag:AV->Bool}{ms:List AA}{mo:Int}:∀(f i:Nat)(p:AV),(Au ag ms mo f i p).Pairwise (·≠·)
 | 0,i,p=>by
  unfold Au;split
  ·exact List.pairwise_singleton ..
  ·exact List.Pairwise.nil
 | f+1,i,p=>by
  rw [Cq,List.pairwise_flatMap];have at1:∀n b q,q ∈ Au ag ms mo f (i+1) (p.setMove i n b)->q.many i=n/\q.lies i=b:=λn b q hq=>by
   obtain ⟨b1,b2⟩:=(GP f (i+1) _ q hq).2 i aA;exact ⟨b1.trans (if_pos rfl),b2.trans (if_pos rfl)⟩
  have atR:∀n q,q ∈ Bb ag ms mo f i p n->q.many i=n:=λn q hq=>by
   unfold Bb at hq;rcases List.mem_append.1 hq with h | h
   ·exact (at1 _ _ _ h).1
   ·split at h
    ·exact (at1 _ _ _ h).1
    ·cases h
  refine ⟨λn _=>?_,(QK _ _).imp λhne x hx y hy e=>hne (by rw [<-atR _ x hx,<-atR _ y hy,e])⟩;unfold Bb;rw [List.pairwise_append];refine ⟨HW f (i+1) _,?_,λx hx y hy e=>?_⟩
  ·split
   ·exact HW f (i+1) _
   ·exact List.Pairwise.nil
  ·split at hy
   ·have h1:=(at1 _ _ _ hx).2;have h2:=(at1 _ _ _ hy).2;rw [e,h2] at h1;cases h1
   ·cases hy
theorem Kp{ag:AV->Bool}{gs:List Good}{ms:List AA}{mo:Int}:∀(f i:Nat)(p q:AV),q ∈ BK ag gs ms mo f i p->∀k,k<i->q.first k=p.first k
 | 0,i,p,q,h,k,hk=>by rw [(GP _ _ _ _ h).1]
 | f+1,i,p,q,h,k,hk=>by
  rw [DE,List.mem_flatMap] at h;obtain ⟨n,_,h⟩:=h;exact (Kp f (i+1) _ q h k aA).trans (if_neg aA)
theorem KP{ag:AV->Bool}{gs:List Good}{ms:List AA}{mo:Int}:∀(f i:Nat)(p:AV),(BK ag gs ms mo f i p).Pairwise (·≠·)
 | 0,i,p=>HW _ _ _
 | f+1,i,p=>by
  rw [DE,List.pairwise_flatMap];have at1:∀n q,q ∈ BK ag gs ms mo f (i+1) (p.setFirst i n)->q.first i=n:=λn q hq=>(Kp f (i+1) _ q hq i aA).trans (if_pos rfl);exact ⟨λn _=>KP f (i+1) _,(QK _ _).imp λhne x hx y hy e=>hne (by rw [<-at1 _ x hx,<-at1 _ y hy,e])⟩
theorem VV(d:Int)(gs:List Good)(ms:List AA)(cs:List AF)(mo:Int):(AU d gs ms cs mo).Nodup:=KP _ _ _
theorem Lu{ag:AV->Bool}{ms:List AA}{mo:Int}:∀(f i:Nat)(p q:AV),q ∈ Au ag ms mo f i p->∀k,i+f<=k->q.many k=p.many k/\q.lies k=p.lies k
 | 0,i,p,q,h,k,_=>by
  unfold Au at h;split at h
  ·rw [List.mem_singleton] at h;subst h;exact ⟨rfl,rfl⟩
  ·cases h
 | f+1,i,p,q,h,k,hk=>by
  rw [Cq,List.mem_flatMap] at h;obtain ⟨n,_,h⟩:=h;have key:∀b,q ∈ Au ag ms mo f (i+1) (p.setMove i n b)->q.many k=p.many k/\q.lies k=p.lies k:=λb hb=>by
   obtain ⟨b1,b2⟩:=Lu f (i+1) _ q hb k aA;exact ⟨b1.trans (if_neg aA),b2.trans (if_neg aA)⟩
  unfold Bb at h;rcases List.mem_append.1 h with h | h
  ·exact key _ h
  ·split at h
   ·exact key _ h
   ·cases h
theorem Lx{ag:AV->Bool}{gs:List Good}{ms:List AA}{mo:Int}:∀(f i:Nat)(p q:AV),q ∈ BK ag gs ms mo f i p->(∀k,i+f<=k->q.first k=p.first k)/\∀k,ms.length<=k->q.many k=p.many k/\q.lies k=p.lies k
 | 0,i,p,q,h=>⟨λk _=>by rw [(GP _ _ _ _ h).1],λk hk=>Lu _ _ _ _ h k aA⟩
 | f+1,i,p,q,h=>by
  rw [DE,List.mem_flatMap] at h;obtain ⟨n,_,h⟩:=h;obtain ⟨a1,a2⟩:=Lx f (i+1) _ q h;exact ⟨λk hk=>(a1 k aA).trans (if_neg aA),a2⟩
theorem AAS{d:Int}{gs:List Good}{ms:List AA}{cs:List AF}{mo:Int}{q:AV}(h:q ∈ AU d gs ms cs mo):HJ q gs.length ms.length=q:=by
 obtain ⟨a1,a2⟩:=Lx _ _ _ _ h;cases q with
 | mk fi ma li=>
  simp only [Nat.zero_add] at a1 a2;unfold HJ;congr 1
  ·funext k;by_cases hk:k<gs.length
   ·exact if_pos hk
   ·exact (if_neg hk).trans (a1 k aA).symm
  ·funext k;by_cases hk:k<ms.length
   ·exact if_pos hk
   ·exact (if_neg hk).trans (a2 k aA).1.symm
  ·funext k;by_cases hk:k<ms.length
   ·exact if_pos hk
   ·exact (if_neg hk).trans (a2 k aA).2.symm
theorem AAT(p:AV):HJ p 0 0=AV.zero:=by
 unfold HJ AV.zero;congr 1
theorem N2{d:Int}{gs:List Good}{ms:List AA}{cs:List AF}{mo:Int}{q:AV}(h6:ms.length<=6)(h0:0<=mo) :
  q ∈ AU d gs ms cs mo↔VS gs ms mo q/\BA d gs.length ms cs q=true/\HJ q gs.length ms.length=q:=
 ⟨λh=>⟨(LL h6 h0 h).1,(LL h6 h0 h).2,AAS h⟩,λ⟨L,ha,e⟩=>by
  have h1:=J3 (ag:=BA d gs.length ms cs) h6 L (by rw [e];exact ha) gs.length 0 aA;rw [e,AAT] at h1;exact h1⟩
end Go.Ns
namespace Go.Ns
open Go.Conc
theorem An.cgood'{d m:Int}{gs:List Good}{ms:List AA}{cs:List AF}(b:An d m gs ms cs):∀x ∈ cs,0<=x.good/\x.good<(gs.length:Int):=λx hx=>by
 obtain ⟨i,hi,e2⟩:=List.getElem_of_mem hx;have hc:=b.count i hi;unfold E9 at hc;rw [BY AF.z hi,e2] at hc;have hg:0<=x.good/\x.good<=(gs.length:Int)-1:=by
  apply Decidable.byContradiction;intro q;rw [if_pos q] at hc;cases hc
 omega
section
variable {d m:Int} {gs:List Good} {ms:List AA} {cs:List AF} {t:Nat}
end
section
variable {d m:Int} {gs:List Good} {ms:List AA} {cs:List AF} {t:Nat}
end
section
variable {d m:Int} {gs:List Good} {ms:List AA} {cs:List AF} {t:Nat}
end
section
variable {d m:Int} {gs:List Good} {ms:List AA} {cs:List AF} {t:Nat}
end
end Go.Ns
namespace Go.Ns
open Go.Conc
theorem JM{U:Type}{l:List U}{x:U}(z:U)(h:x ∈ l):∃k,k<l.length/\l.getD k z=x:=by
 obtain ⟨k,hk,e⟩:=List.getElem_of_mem h;exact ⟨k,hk,by rw [List.getD_eq_getElem?_getD,List.getElem?_eq_getElem hk];exact e⟩
def IH(dy:Int)(t:List (Int×Int)):Int:=(t.map λx=>if x.1<=dy then x.2 else 0).sum
theorem MQ(dy:Int)(x:Int×Int)(t:List (Int×Int)):IH dy (x ::t)=(if x.1<=dy then x.2 else 0)+IH dy t:=by
 unfold IH;rw [List.map_cons,List.sum_cons]
theorem MR{dy:Int}:∀{t:List (Int×Int)},(∀x ∈ t,dy<x.1)->IH dy t=0
 | [],_=>rfl
 | x ::t,h=>by rw [MQ,if_neg (by have:=h x aD;omega),MR λy hy=>h y (by simp [hy])];rfl
theorem Hc.all{c:Int}:∀{t:List (Int×Int)},Hc c t->∀x ∈ t,c<=x.1
 | [],_,_,hx=>by cases hx
 | y ::t,h,x,hx=>by
  rcases List.mem_cons.1 hx with rfl | hx
  ·exact h.1
  ·have:=h.2.all x hx;have:=h.1;omega
theorem QL:∀(t:List (Int×Int))(c n low:Int),Hc c t->(0<=(runB c n low t).2↔0<=low/\0<=n+IH c t/\∀x ∈ t,0<=n+IH x.1 t)
 | [],c,n,low,_=>by simp only [runB,IH,List.map_nil,List.sum_nil];constructor <;> intro h <;> simp at * <;> omega
 | x ::t,c,n,low,h=>by
  have ha:=h.2.all;have hy:∀y ∈ t,IH y.1 (x ::t)=x.2+IH y.1 t:=λy hy=>by rw [MQ,if_pos (ha y hy)]
  have hx:IH x.1 (x ::t)=x.2+IH x.1 t:=by rw [MQ,if_pos (Int.le_refl _)]
  unfold runB;by_cases e:c<x.1
  ·rw [if_pos e,QL t x.1 (n+x.2) (min n low) h.2];have h0:IH c (x ::t)=0:=MR λy hy=>by
    rcases List.mem_cons.1 hy with rfl | hy
    ·exact e
    ·have:=ha y hy;omega
   rw [h0];constructor
   ·rintro ⟨a1,a2,a3⟩;refine ⟨aA,aA,λy hyt=>?_⟩;rcases List.mem_cons.1 hyt with rfl | hyt
    ·rw [hx];omega
    ·rw [hy y hyt];have:=a3 y hyt;omega
   ·rintro ⟨a1,a2,a3⟩;refine ⟨aA,?_,λy hyt=>?_⟩
    ·have:=a3 x aD;rw [hx] at this;omega
    ·have:=a3 y (by simp [hyt]);rw [hy y hyt] at this;omega
  ·have ec:c=x.1:=by have:=h.1;omega
   subst ec;rw [if_neg e,QL t x.1 (n+x.2) low h.2,hx];constructor
   ·rintro ⟨a1,a2,a3⟩;refine ⟨a1,aA,λy hyt=>?_⟩;rcases List.mem_cons.1 hyt with rfl | hyt
    ·rw [hx];omega
    ·rw [hy y hyt];have:=a3 y hyt;omega
   ·rintro ⟨a1,a2,a3⟩;refine ⟨a1,aA,λy hyt=>?_⟩
    have:=a3 y (by simp [hyt]);rw [hy y hyt] at this;omega
section
variable {d m:Int} {gs:List Good} {ms:List AA} {cs:List AF}
theorem An.day0(b:An d m gs ms cs){k:Nat}(hk:k<ms.length):1<=(ms.getD k AA.z).day:=(b.move' hk).2.2.1.1
theorem An.low_iff2(b:An d m gs ms cs)(p:AV)(g:Int):0<=(AP ms p g d).2↔0<=p.first g.toNat/\∀k,k<ms.length->(ms.getD k AA.z).good=g->0<=(AP ms p g (ms.getD k AA.z).day).1:=by
 have hz:∀i ∈ List.range ms.length,decide ((ms.getD i AA.z).good=g)=false->(Fj ms p g i).2=0:=λi _ e=>by
  unfold Fj To;dsimp only;rw [if_neg (of_decide_eq_false e)]
 have hsub:((List.range ms.length).filter λi=>decide ((ms.getD i AA.z).good=g)).Sublist (List.range ms.length):=List.filter_sublist;have hr:=b.pairsUp p g hsub;rw [b.stock p g];unfold PA;rw [If hz (b.pairsUp p g (List.Sublist.refl _)),QL _ _ _ _ hr];have hs:∀k,(AP ms p g (ms.getD k AA.z).day).1=p.first g.toNat+IH (ms.getD k AA.z).day (((List.range ms.length).filter λi=>decide ((ms.getD i AA.z).good=g)).map (Fj ms p g)):=λk=>by
  rw [Of b.up];congr 1;unfold IH;rw [List.map_map,QJ (q:=λi=>decide ((ms.getD i AA.z).good=g)) (λi _ e=>by
   unfold NS To;rw [if_neg (of_decide_eq_false e)];simp)]
  rfl
 have h0:IH 0 (((List.range ms.length).filter λi=>decide ((ms.getD i AA.z).good=g)).map (Fj ms p g))=0:=MR λx hx=>by
  obtain ⟨k,hk,rfl⟩:=List.mem_map.1 hx
  have:=b.day0 (List.mem_range.1 (List.mem_filter.1 hk).1);unfold Fj;dsimp only;omega
 rw [h0];constructor
 ·rintro ⟨a1,_,a3⟩;exact ⟨a1,λk hk e=>by rw [hs];exact a3 _ (List.mem_map.2 ⟨k,List.mem_filter.2 ⟨List.mem_range.2 hk,decide_eq_true e⟩,rfl⟩)⟩
 ·rintro ⟨a1,a3⟩;refine ⟨a1,aA,λx hx=>?_⟩;obtain ⟨k,hk,rfl⟩:=List.mem_map.1 hx;obtain ⟨hk1,hk2⟩:=List.mem_filter.1 hk
  have:=a3 k (List.mem_range.1 hk1) (of_decide_eq_true hk2)
  rw [hs] at this;exact this
theorem Tq{ng:Nat}{p:AV}:BA d ng ms cs p=true↔(∀g,g<ng->0<=(AP ms p (g:Int) d).2)/\∀x ∈ cs,x.low<=(AP ms p x.good x.day).1/\(AP ms p x.good x.day).1<=x.high:=by
 unfold BA;rw [Bool.and_eq_true,decide_eq_true_iff,Bool.not_eq_true',List.any_eq_false];constructor
 ·rintro ⟨h1,h2⟩;exact ⟨λg hg=>by have:=h1 g hg;omega,λx hx=>by have:=h2 x hx;simpa using this⟩
 ·rintro ⟨h1,h2⟩;exact ⟨λg hg=>by have:=h1 g hg;omega,λx hx=>by have:=h2 x hx;simpa using this⟩
theorem An.agrees_iff2(b:An d m gs ms cs){p:AV}:BA d gs.length ms cs p=true↔
  (∀g:Nat,g<gs.length->0<=p.first g)/\(∀k,k<ms.length->0<=(AP ms p (ms.getD k AA.z).good (ms.getD k AA.z).day).1)/\∀x ∈ cs,x.low<=(AP ms p x.good x.day).1/\(AP ms p x.good x.day).1<=x.high:=by
 rw [Tq]
 have:∀g:Nat,0<=(AP ms p (g:Int) d).2↔0<=p.first g/\∀k,k<ms.length->(ms.getD k AA.z).good=(g:Int)->0<=(AP ms p (g:Int) (ms.getD k AA.z).day).1:=λg=>by rw [b.low_iff2,Int.toNat_natCast]
 simp only [this];constructor
 ·rintro ⟨h1,h2⟩;refine ⟨λg hg=>(h1 g hg).1,λk hk=>?_,h2⟩;have hg:=(b.move' hk).2.1;obtain ⟨g,eg⟩:=Int.eq_ofNat_of_zero_le hg.1
  have:=(h1 g aA).2 k hk eg
  rw [<-eg] at this;exact this
 ·rintro ⟨h1,h2,h3⟩;exact ⟨λg hg=>⟨h1 g hg,λk hk e=>by have:=h2 k hk;rw [e] at this;exact this⟩,h3⟩
end
end Go.Ns
namespace Go.Ns
open Go.Conc
def II(k:Int):Int:=if k=0\/k=4 then 1 else-1
def EK(y l:List Int)(k:Int):Int:=if k ∈ l then 0 else y.getD k.toNat 0
def BT(ms:List AA)(f y l:List Int)(g dy:Int):Nat->Int
 | 0=>f.getD g.toNat 0
 | k+1=>BT ms f y l g dy k+if (ms.getD k AA.z).good=g/\(ms.getD k AA.z).day<=dy then II (ms.getD k AA.z).kind*EK y l (k:Int) else 0
theorem XG{ms:List AA}{f y l:List Int}{g dy:Int}{k:Nat}(h:(ms.getD k AA.z).good=g/\(ms.getD k AA.z).day<=dy):BT ms f y l g dy (k+1)=BT ms f y l g dy k+II (ms.getD k AA.z).kind*EK y l (k:Int):=by
 show _+(if _ then _ else _)=_;rw [if_pos h]
theorem XH{ms:List AA}{f y l:List Int}{g dy:Int}{k:Nat}(h:¬((ms.getD k AA.z).good=g/\(ms.getD k AA.z).day<=dy)):BT ms f y l g dy (k+1)=BT ms f y l g dy k:=by
 show _+(if _ then _ else _)=_;rw [if_neg h];omega
theorem Ly{y l:List Int}(hy:∀i,0<=y.getD i 0/\y.getD i 0<=99)(k:Int):0<=EK y l k/\EK y l k<=99:=by
 unfold EK;split
 ·omega
 ·exact hy _
theorem Og(k:Int):II k=1\/II k= -1:=by unfold II;split <;> simp
theorem QM{y l:List Int}(hy:∀i,0<=y.getD i 0/\y.getD i 0<=99)(s k:Int): -99<=II s*EK y l k/\II s*EK y l k<=99:=by
 have:=Ly (l:=l) hy k
 rcases Og s with e | e <;> rw [e] <;> omega
theorem Kq{ms:List AA}{f y l:List Int}(hf:∀i,0<=f.getD i 0/\f.getD i 0<=99)(hy:∀i,0<=y.getD i 0/\y.getD i 0<=99)(g dy:Int):∀k:Nat,-(99*(k:Int))<=BT ms f y l g dy k/\BT ms f y l g dy k<=99*(k:Int)+99
 | 0=>by have:=hf g.toNat;unfold BT;omega
 | k+1=>by
  have h1:=Kq (ms:=ms) (l:=l) hf hy g dy k;have h2:=QM (l:=l) hy (ms.getD k AA.z).kind (k:Int);unfold BT;split <;> omega
structure IsP(P:AV)(f y l:List Int)(ng nm:Nat):Prop where
 first:∀i,i<ng->P.first i=f.getD i 0
 many:∀i,i<nm->P.many i=y.getD i 0
 lies:∀i,i<nm->P.lies i=decide ((i:Int) ∈ l)
theorem IsP.real{P:AV}{f y l:List Int}{ng nm:Nat}(h:IsP P f y l ng nm){k:Nat}(hk:k<nm):CJ P k=EK y l (k:Int):=by
 unfold CJ EK;rw [h.lies k hk,h.many k hk,Int.toNat_natCast];by_cases e:(k:Int) ∈ l <;> simp [e]
theorem IsP.sum{P:AV}{f y l:List Int}{ng:Nat}{ms:List AA}(h:IsP P f y l ng ms.length)(hk:∀k,0<=(ms.getD k AA.z).kind){g dy:Int}(hg:0<=g/\g<ng):∀k,k<=ms.length->BT ms f y l g dy k=P.first g.toNat+((List.range k).map (NS ms P g dy)).sum
 | 0,_=>by rw [h.first _ aA];simp [BT]
 | k+1,hl=>by
  rw [List.range_succ,List.map_append,List.sum_append,List.map_singleton,List.sum_singleton];have ih:=h.sum hk (dy:=dy) hg k aA;have e:NS ms P g dy k=if (ms.getD k AA.z).good=g/\(ms.getD k AA.z).day<=dy then II (ms.getD k AA.z).kind*EK y l (k:Int) else 0:=by
   unfold NS To;rw [h.real (show k<ms.length by omega)];have hs:E5 (ms.getD k AA.z).kind.toNat (EK y l (k:Int))=II (ms.getD k AA.z).kind*EK y l (k:Int):=by
    unfold E5 II
    have:=hk k
    by_cases q:(ms.getD k AA.z).kind=0\/(ms.getD k AA.z).kind=4
    ·rw [if_pos aA,if_pos q];omega
    ·rw [if_neg aA,if_neg q];omega
   by_cases q1:(ms.getD k AA.z).day<=dy
   ·by_cases q2:(ms.getD k AA.z).good=g
    ·rw [if_pos q1,if_pos q2,if_pos ⟨q2,q1⟩,hs]
    ·rw [if_pos q1,if_neg q2,if_neg λq=>q2 q.1]
   ·rw [if_neg q1,if_neg λq=>q1 q.2]
  rw [e,BT,ih];omega
theorem IsP.stock{P:AV}{f y l:List Int}{ng:Nat}{ms:List AA}(h:IsP P f y l ng ms.length)(up:Km ms)(hk:∀k,0<=(ms.getD k AA.z).kind){g:Int}(hg:0<=g/\g<ng)(dy:Int):BT ms f y l g dy ms.length=(AP ms P g dy).1:=by
 rw [h.sum hk hg ms.length (Nat.le_refl _),Of up]
end Go.Ns
namespace Go.Ns
open Go.Conc
def DT(c x:Int):Int:=if c=0 then x else 0
def DU{U:Type}(c:Int)(l:List U):List U:=if c=0 then l else []
theorem F5{c x:Int}(h:c=0):DT c x=x:=if_pos h
theorem CY{c x:Int}(h:¬c=0):DT c x=0:=if_neg h
theorem JN{U:Type}{c:Int}{l:List U}(h:c=0):DU c l=l:=if_pos h
theorem Cl{U:Type}{c:Int}{l:List U}(h:¬c=0):DU c l=[]:=if_neg h
def AH(d m:Int)(gs:List Good)(ms:List AA)(cs:List AF):Int:=if AJ d m gs ms cs=0 then (if B3 d gs ms cs m=true then 0 else 9) else AJ d m gs ms cs
theorem Ts(a:ByteArray):(a==a)=true:=by
 cases a with
 | mk d=>show (d==d)=true;simp
def A4(a b:Int):Int:=if a=0 then b else a
theorem EZ{a b:Int}(h:a=0):A4 a b=b:=if_pos h
theorem N3{a b:Int}(h:¬a=0):A4 a b=a:=if_neg h
theorem Ea{a b:Int}(h:¬a=0):¬A4 a b=0:=by rw [N3 h];exact h
theorem EV.leL{h ha h1:GH}{v w:Value}(l:h.Le ha)(g:EV ha h1 v w):EV h h1 v w:=
 ⟨λb o hb hv=>g.1 b o (l.get hb) hv,g.2.imp id λ⟨⟨r,e,hr⟩,k⟩=>⟨⟨r,e,l.nothing hr⟩,λb o hb=>k b o (l.get hb)⟩⟩
section
variable {d m:Int} {gs:List Good} {ms ms2:List AA} {cs cs2:List AF}
theorem QN(h:¬AJ d m gs ms cs=0):AH d m gs ms cs=AJ d m gs ms cs:=if_neg h
theorem QO(h:AJ d m gs ms cs=0)(h2:B3 d gs ms cs m=false):AH d m gs ms cs=9:=by unfold AH;rw [if_pos h,if_neg (by rw [h2];decide)]
theorem Em(h:AJ d m gs ms cs=0)(h2:B3 d gs ms cs m=true):AH d m gs ms cs=0:=by unfold AH;rw [if_pos h,if_pos h2]
theorem En(h:¬AJ d m gs ms cs=0):¬AH d m gs ms cs=0:=by rw [QN h];exact h
theorem Eo(h:AJ d m gs ms cs=0)(h2:B3 d gs ms cs m=false):¬AH d m gs ms cs=0:=by rw [QO h h2];decide
theorem NU{U:Type}:∀{l l1:List U},l.Nodup->(∀x ∈ l,x ∈ l1)->l.length<=l1.length
 | [],_,_,_=>Nat.zero_le _
 | a ::t,l1,hn,hs=>by
  obtain ⟨s,u,rfl⟩:=List.append_of_mem (hs a (List.mem_cons_self ..))
  have:=NU (l1:=s++u) (List.nodup_cons.1 hn).2 λx hx=>by
   have h1:=hs x (List.mem_cons_of_mem _ hx);rw [List.mem_append] at h1 ⊢;rcases h1 with h | h
   ·exact .inl h
   ·rcases List.mem_cons.1 h with rfl | h
    ·exact absurd hx (List.nodup_cons.1 hn).1
    ·exact .inr h
  simp only [List.length_append,List.length_cons] at this ⊢;omega
end
end Go.Ns
namespace Go.Ns
open Go.Conc
def D9(ms:List AA)(cs:List AF)(f y l:List Int):Bool:=decide (∀k,k<cs.length->(cs.getD k AF.z).low<=BT ms f y l (cs.getD k AF.z).good (cs.getD k AF.z).day ms.length/\BT ms f y l (cs.getD k AF.z).good (cs.getD k AF.z).day ms.length<=(cs.getD k AF.z).high) &&
 decide (∀k,k<ms.length->¬BT ms f y l (ms.getD k AA.z).good (ms.getD k AA.z).day ms.length<0)
section
variable {ms:List AA} {cs:List AF} {f y l:List Int}
theorem AAU{k:Nat}(hk:k<cs.length)(h:¬((cs.getD k AF.z).low<=BT ms f y l (cs.getD k AF.z).good (cs.getD k AF.z).day ms.length/\BT ms f y l (cs.getD k AF.z).good (cs.getD k AF.z).day ms.length<=(cs.getD k AF.z).high)):D9 ms cs f y l=false:=by
 unfold D9;rw [decide_eq_false (λq=>h (q k hk))];rfl
theorem AAV{k:Nat}(hk:k<ms.length)(h:BT ms f y l (ms.getD k AA.z).good (ms.getD k AA.z).day ms.length<0):D9 ms cs f y l=false:=by
 unfold D9;rw [Bool.and_eq_false_iff];exact .inr (decide_eq_false λq=>q k hk h)
theorem AAW{k k2:Nat}(h:∀j,j<k->(cs.getD j AF.z).low<=BT ms f y l (cs.getD j AF.z).good (cs.getD j AF.z).day ms.length/\BT ms f y l (cs.getD j AF.z).good (cs.getD j AF.z).day ms.length<=(cs.getD j AF.z).high)(hk:cs.length<=k)
  (h2:∀j,j<k2->¬BT ms f y l (ms.getD j AA.z).good (ms.getD j AA.z).day ms.length<0) (hk2:ms.length<=k2):D9 ms cs f y l=true:=by
 unfold D9;rw [decide_eq_true (λj hj=>h j aA),decide_eq_true (λj hj=>h2 j aA)];rfl
end
section
variable {d m:Int} {gs:List Good} {ms:List AA} {cs:List AF}
end
end Go.Ns
namespace Go.Ns
open Go.Conc
section
variable {d m:Int} {gs:List Good} {ms:List AA} {cs:List AF} {kd g n:Int}
theorem AAX(n:Nat)(f:Nat->Int):(Ch n f).length<=n:=by
 have h:=NU (l:=Ch n f) (l1:=(List.range n).map f) ((SK n f).imp λq=>aA) λx hx=>by
  obtain ⟨i,hi,e⟩:=SJ.1 hx;exact List.mem_map.2 ⟨i,List.mem_range.2 hi,e⟩
 rwa [List.length_map,List.length_range] at h
end
end Go.Ns
namespace Go.Ns
open Go.Conc
def chk6:Bool:=(List.range 7).all λn=>(List.range (2 ^ n)).all λ(x:Nat)=>(List.range (2 ^ n)).all λ(y:Nat)=>Ek (A3 (x:Int) n) (A3 (y:Int) n)==decide (JL (A3 (x:Int) n)<JL (A3 (y:Int) n))
theorem AAY:chk6=true:=aB
theorem AAZ{n x y:Nat}(hn:n<=6)(hx:x<2 ^ n)(hy:y<2 ^ n):Ek (A3 (x:Int) n) (A3 (y:Int) n)=decide (JL (A3 (x:Int) n)<JL (A3 (y:Int) n)):=by
 have h:=AAY;unfold chk6 at h;rw [List.all_eq_true] at h;have h2:=List.all_eq_true.1 (List.all_eq_true.1 (h n (List.mem_range.2 aA)) x (List.mem_range.2 hx)) y (List.mem_range.2 hy);exact eq_of_beq h2
section
variable {d m:Int} {gs:List Good} {ms:List AA} {cs:List AF}
end
end Go.Ns
namespace Go.Ns
open Go.Conc
def Ty(h:GH)(t:TypeId)(v:Value):Prop:=∀b,B7 v=some b->∃p c f,h b=some (p,.cells c t f)
def I7(h:GH)(t:TypeId)(v:Value)(xs:List Int):Prop:=AE h v 1 eI xs/\Ty h t v
theorem I7.le{h h':GH}{t:TypeId}{v:Value}{xs:List Int}(x:I7 h t v xs)(l:h.Le h'):I7 h' t v xs:=⟨x.1.le l,λb hb=>by
 obtain ⟨p,c,f,q⟩:=x.2 b hb;exact ⟨p,c,f,l.keep q rfl⟩⟩
theorem I7.nil(h:GH)(t:TypeId):I7 h t (.slice none 0 0) []:=⟨AE.nil _ _ _,λb hb=>by cases hb⟩
theorem I7.own{h0 h:GH}{t:TypeId}{v:Value}{xs:List Int}(o:AI h0 h v t 1 eI xs):I7 h t v xs:=⟨o.sl,λb hb=>by
 rcases o with ⟨rfl,_⟩ | ⟨b1,cap,c,rfl,_,h2,_⟩
 ·cases hb
 ·simp only [B7,Option.some.injEq] at hb;subst hb;exact ⟨_,_,_,h2⟩⟩
section
variable {U:Type} {h h' h0:GH} {v v':Value} {t t':TypeId} {n:Nat} {enc:U->Array Value} {ys:List U}
theorem I7.grown(g:EV h h' v v')(o:AI h0 h v t' n enc ys)(ne:t'≠t){w:Value}{xs:List Int}(x:I7 h t w xs):I7 h' t w xs:=by
 have key:∀b,B7 w=some b->h' b=h b:=λb hb=>by
  obtain ⟨p,c,f,q⟩:=x.2 b hb;rw [q];refine g.1 b _ q λe=>?_;rcases o with ⟨rfl,_⟩ | ⟨b1,cap,c1,rfl,_,h2,_⟩
  ·cases e
  ·simp only [B7,Option.some.injEq] at e;subst e;rw [q] at h2;cases h2;exact ne rfl
 refine ⟨?_,λb hb=>by rw [key b hb];exact x.2 b hb⟩;obtain ⟨a,cap,hv,hc,hm,he⟩:=x.1;refine ⟨a,cap,hv,hc,hm,λi hi=>?_⟩;obtain ⟨b,off,h1,h2⟩:=he i hi;exact ⟨b,off,h1,h2.same (key b (by rw [hv,h1];rfl))⟩
end
theorem MS{P:Program}{E:HB P}{O:Nat->Value}{ds:List Deferred}{h:GH}{T:(Nat->Value)->List Deferred->GH->Prop}{dst:Option Nat}{ty:TypeId}{pos:String}{af:Array Edge}{gd:Option (Nat×Bool)}{U:Type}
  {s x:TypeId} {o1 o2:Operand} {h0:GH} {w:Value} {r e n bytes:Nat} {enc:U->Array Value} {ys:List U} (ht:I9 P s x=some (e,n,bytes)) (h1:AQ O o1=.slice (some ⟨r,0,none⟩) 0 0) (h2:AQ O o2=w)
  (hv:AI h0 h (.slice (some ⟨r,0,none⟩) 0 0) e n enc ([]:List U)) (hw:AE h w n enc ys) (l0:∀q,h q=none->h0 q=none) (hb:(2*(([]:List U).length+ys.length)+512)*bytes<=2 ^ 48) (hfine:∀y ∈ ys,(enc y).toList.all (·.oneCell')=true)
  (k:∀v' h',AI h0 h' v' e n enc ys->EV h h' (.slice (some ⟨r,0,none⟩) 0 0) v'->h.Le h'->T (putS O dst v') ds h'):Bg E ⟨dst,.call ⟨.builtin .append,#[o1,o2],#[s,x]⟩,ty,pos,af,gd⟩ O ds h T:=
 Jg ht h1 h2 hv hw l0 hb hfine λv' h' o g1 g2 g3=>k v' h' o ⟨g1,g2⟩ (.of λb y hb=>by
  by_cases e:b=r
  ·subst e;rcases hv with ⟨q,_⟩ | ⟨b1,cap,c,q,_,q2,q3,_⟩
   ·cases q
   ·simp only [Value.slice.injEq,Option.some.injEq,Addr.mk.injEq,and_true] at q;obtain ⟨rfl,_,rfl⟩:=q;obtain ⟨c',q5,q6⟩:=g3 b c rfl q2;rw [q2] at hb;cases hb;rw [q5,Array.eq_empty_of_size_eq_zero (show c.size=0 by omega),Array.eq_empty_of_size_eq_zero (show c'.size=0 by omega)]
  ·exact g1 b y hb λq=>e (by simpa [B7] using q.symm))
def VW(hs:GH)(k0 ln:Nat)(c:Array Value)(t:TypeId)(k:Nat)(v:Value)(h:GH):Prop:=k=k0->∃r,v=.slice (some ⟨r,0,none⟩) ln ln/\hs r=none/\h r=some (true,.cells c t (0,0))
theorem VW.mono(hs:GH)(k0 ln:Nat)(c:Array Value)(t:TypeId):∀k v h1 h2,GH.Le h1 h2->VW hs k0 ln c t k v h1->VW hs k0 ln c t k v h2:=λ_ _ _ _ l x e=>by
 obtain ⟨r,q1,q2,q3⟩:=x e;exact ⟨r,q1,q2,l.keep q3 rfl⟩
theorem SL{P:Program}{E:HB P}{O:Nat->Value}{ds:List Deferred}{hs hx:GH}{dst:Option Nat}{ty:TypeId}{pos:String}{af:Array Edge}{gd:Option (Nat×Bool)}{t:TypeId}{len n k0 k:Nat}{z cells:Array Value}{e:TypeId}{parts:Array (Nat×Operand)}
  (h0:EI P t=some (n,z,e)) (hl:len*n<=2 ^ 24) (hn:(len*n=0)=False) (hf:Instr.fill (λi=>some (i*n,n)) ((Array.range (len*n)).map (z[·%z.size]!)) (parts.map λ(i,x)=>(i,AQ O x)).toList=some cells) (l:hs.Le hx) :
  Bg E ⟨dst,.buildSlice t len parts,ty,pos,af,gd⟩ O ds hx λσ' ds' h'=>ds'=ds/\∃v,σ'=putS O dst v/\hx.Le h'/\VW hs k0 len cells e k v h':=
 Ab h0 hl hn hf λr h' hr le bx _=>⟨rfl,_,rfl,le,λ_=>⟨r,rfl,GH.Le.nothing l hr,bx⟩⟩
theorem fill_b3{v0 v1 v2:Value}(h0:v0.cells=#[v0])(h1:v1.cells=#[v1])(h2:v2.cells=#[v2]):Instr.fill (λx=>#[(0,1),(1,1),(2,1)][x]?) #[Value.slice none 0 0,Value.slice none 0 0,Value.slice none 0 0] [(0,v0),(1,v1),(2,v2)]=some #[v0,v1,v2]:=by
 simp [Instr.fill,h0,h1,h2]
def E7(h:GH)(t:TypeId)(l:List Sl):Prop:=∀k,I7 h t (l.getD k Sl.z).1 (l.getD k Sl.z).2
theorem E7.le{h h':GH}{t:TypeId}{l:List Sl}(x:E7 h t l)(e:h.Le h'):E7 h' t l:=λk=>(x k).le e
theorem E7.nil(h:GH)(t:TypeId):E7 h t []:=λk=>by
 rw [B8 aD];exact I7.nil _ _
theorem QP{U:Type}(z:U)(a b:List U)(k:Nat):(a++b).getD k z=if k<a.length then a.getD k z else b.getD (k-a.length) z:=by
 simp only [List.getD_eq_getElem?_getD,List.getElem?_append];split <;> rfl
theorem E7.app{h:GH}{t:TypeId}{l l':List Sl}(a:E7 h t l)(b:E7 h t l'):E7 h t (l++l'):=λk=>by
 rw [QP];split
 ·exact a k
 ·exact b _
theorem E7.one{h:GH}{t:TypeId}{x:Sl}(a:I7 h t x.1 x.2):E7 h t [x]:=λk=>by
 cases k with
 | zero=>exact a
 | succ k=>rw [B8 aD];exact I7.nil _ _
theorem E7.grown{U:Type}{h h' h0:GH}{v v':Value}{t t':TypeId}{n:Nat}{enc:U->Array Value}{ys:List U}(g:EV h h' v v')(o:AI h0 h v t' n enc ys)(ne:t'≠t){l:List Sl}(x:E7 h t l):E7 h' t l:=λk=>(x k).grown g o ne
structure PS where
 f:Sl
 y:Sl
 l:Sl
def PS.z:PS:=⟨Sl.z,Sl.z,Sl.z⟩
def ePS(x:PS):Array Value:=#[x.f.1,x.y.1,x.l.1]
def Ef(h:GH)(t:TypeId)(l:List PS):Prop:=∀k,I7 h t (l.getD k PS.z).f.1 (l.getD k PS.z).f.2/\I7 h t (l.getD k PS.z).y.1 (l.getD k PS.z).y.2/\I7 h t (l.getD k PS.z).l.1 (l.getD k PS.z).l.2
theorem Ef.le{h h':GH}{t:TypeId}{l:List PS}(x:Ef h t l)(e:h.Le h'):Ef h' t l:=λk=>⟨(x k).1.le e,(x k).2.1.le e,(x k).2.2.le e⟩
theorem Ef.nil(h:GH)(t:TypeId):Ef h t []:=λk=>by
 rw [B8 aD];exact ⟨I7.nil _ _,I7.nil _ _,I7.nil _ _⟩
theorem Ef.app{h:GH}{t:TypeId}{l l':List PS}(a:Ef h t l)(b:Ef h t l'):Ef h t (l++l'):=λk=>by
 rw [QP];split
 ·exact a k
 ·exact b _
theorem Ef.one{h:GH}{t:TypeId}{x:PS}(a:I7 h t x.f.1 x.f.2)(b:I7 h t x.y.1 x.y.2)(c:I7 h t x.l.1 x.l.2):Ef h t [x]:=λk=>by
 cases k with
 | zero=>exact ⟨a,b,c⟩
 | succ k=>rw [B8 aD];exact ⟨I7.nil _ _,I7.nil _ _,I7.nil _ _⟩
theorem Ef.grown{U:Type}{h h' h0:GH}{v v':Value}{t t':TypeId}{n:Nat}{enc:U->Array Value}{ys:List U}(g:EV h h' v v')(o:AI h0 h v t' n enc ys)(ne:t'≠t){l:List PS}(x:Ef h t l):Ef h' t l:=λk=>⟨(x k).1.grown g o ne,(x k).2.1.grown g o ne,(x k).2.2.grown g o ne⟩
theorem I7.fine{h:GH}{t:TypeId}{v:Value}{xs:List Int}(x:I7 h t v xs):v.oneCell'=true:=(AE.one x.1).2
theorem E7.fine{h:GH}{t:TypeId}{l:List Sl}(a:E7 h t l):∀y ∈ l,(Ht y).toList.all (·.oneCell')=true:=λy hy=>by
 obtain ⟨k,hk,rfl⟩:=JM Sl.z hy;show (((l.getD k Sl.z).1.oneCell') && true)=true;rw [(a k).fine];rfl
theorem Ef.fine{h:GH}{t:TypeId}{l:List PS}(a:Ef h t l):∀y ∈ l,(ePS y).toList.all (·.oneCell')=true:=λy hy=>by
 obtain ⟨k,hk,rfl⟩:=JM PS.z hy;show (((l.getD k PS.z).f.1.oneCell') && (((l.getD k PS.z).y.1.oneCell') && (((l.getD k PS.z).l.1.oneCell') && true)))=true;rw [(a k).1.fine,(a k).2.1.fine,(a k).2.2.fine];rfl
abbrev RP:=List Int×List Int×List Int
def IV(l:List PS):List RP:=l.map λx=>(x.f.2,x.y.2,x.l.2)
theorem ZX(a b:List PS):IV (a++b)=IV a++IV b:=by simp [IV]
theorem SM(a b:List Sl):A1 (a++b)=A1 a++A1 b:=by simp [A1]
theorem VX{l:List PS}{k:Nat}(hk:k<l.length):(IV l).getD k ([],[],[])=((l.getD k PS.z).f.2,(l.getD k PS.z).y.2,(l.getD k PS.z).l.2):=by
 unfold IV;rw [BY _ (by simpa using hk),BY PS.z hk];simp
def eSp(x:Int×Int):Array Value:=#[.int .i64 x.1,.int .i64 x.2]
def CC(gs:List Good):List (Int×Int):=gs.map λg=>(g.low,g.high)
def Cn(ms:List AA):List (Int×Int):=ms.map λg=>(g.low,g.high)
theorem Tt{gs:List Good}{k:Nat}(hk:k<gs.length):CC (gs.take (k+1))=CC (gs.take k)++[((gs.getD k Good.z).low,(gs.getD k Good.z).high)]:=by
 unfold CC;rw [CK Good.z hk,List.map_append];rfl
theorem VY{ms:List AA}{k:Nat}(hk:k<ms.length):Cn (ms.take (k+1))=Cn (ms.take k)++[((ms.getD k AA.z).low,(ms.getD k AA.z).high)]:=by
 unfold Cn;rw [CK AA.z hk,List.map_append];rfl
theorem Oh{gs:List Good}(h:∀k,(gs.getD k Good.z).high-(gs.getD k Good.z).low<3)(k:Nat):((CC gs).getD k (0,0)).2-((CC gs).getD k (0,0)).1<3:=by
 unfold CC;by_cases hk:k<gs.length
 ·have:=h k
  rw [BY _ (by simpa using hk),List.getElem_map];rw [BY Good.z hk] at this;exact this
 ·rw [B8 (by simpa using hk)];decide
theorem QQ{ms:List AA}(h:∀k,(ms.getD k AA.z).high-(ms.getD k AA.z).low<3)(k:Nat):((Cn ms).getD k (0,0)).2-((Cn ms).getD k (0,0)).1<3:=by
 unfold Cn;by_cases hk:k<ms.length
 ·have:=h k
  rw [BY _ (by simpa using hk),List.getElem_map];rw [BY AA.z hk] at this;exact this
 ·rw [B8 (by simpa using hk)];decide
def B4:List (Int×Int)->List Int->List (List Int)
 | [],k=>[k]
 | s ::ss,k=>(Ff s.1 s.2).flatMap λn=>B4 ss (k++[n])
def Ij(ss:List (Int×Int))(kn:List Int)(j:Nat):List (List Int):=(B1 (ss.getD kn.length (0,0)).1 j).flatMap λn=>B4 (ss.drop (kn.length+1)) (kn++[n])
theorem Tu(ss:List (Int×Int))(kn:List Int)(j:Nat):Ij ss kn (j+1)=Ij ss kn j++B4 (ss.drop (kn.length+1)) (kn++[(ss.getD kn.length (0,0)).1+(j:Int)]):=by
 unfold Ij;exact Ic
theorem XI{ss:List (Int×Int)}{kn:List Int}(h:kn.length=ss.length):B4 (ss.drop kn.length) kn=[kn]:=by
 rw [List.drop_eq_nil_of_le aA];rfl
theorem AAa{ss:List (Int×Int)}{kn:List Int}(h:kn.length<ss.length){j:Nat}(hj:¬(ss.getD kn.length (0,0)).1+(j:Int)<=(ss.getD kn.length (0,0)).2)(hk:(j:Int)<=(ss.getD kn.length (0,0)).2-(ss.getD kn.length (0,0)).1+1\/j=0):B4 (ss.drop kn.length) kn=Ij ss kn j:=by
 have e:ss.drop kn.length=ss.getD kn.length (0,0) ::ss.drop (kn.length+1):=by
  rw [List.drop_eq_getElem_cons h,BY _ h]
 rw [e];unfold Ij;rw [Pn hj hk];rfl
theorem HL{U β:Type}{f:U->List β}{B:Nat}:∀{l:List U},(∀x ∈ l,(f x).length<=B)->(l.flatMap f).length<=l.length*B
 | [],_=>aD
 | x ::l,h=>by
  rw [List.flatMap_cons,List.length_append,List.length_cons,Nat.succ_mul];have h1:=h x aD;have h2:=HL (l:=l) λy hy=>h y (by simp [hy]);omega
theorem QR(lo:Int)(k:Nat):(B1 lo k).length=k:=by simp [B1]
theorem QS:∀{ss:List (Int×Int)}{kn:List Int},(∀k,(ss.getD k (0,0)).2-(ss.getD k (0,0)).1<3)->(B4 ss kn).length<=3 ^ ss.length
 | [],kn,_=>by simp [B4]
 | s ::ss,kn,h=>by
  unfold B4;have h1:=h 0;have h2:(Ff s.1 s.2).length<=3:=by unfold Ff;rw [QR];have:s.2-s.1<3:=h1;omega
  have h3:=HL (l:=Ff s.1 s.2) (f:=λn=>B4 ss (kn++[n])) (B:=3 ^ ss.length) λn _=>QS λk=>h (k+1);rw [List.length_cons,Nat.pow_succ,Nat.mul_comm];exact Nat.le_trans h3 (Nat.mul_le_mul_right _ h2)
theorem drop_few{ss:List (Int×Int)}(h:∀k,(ss.getD k (0,0)).2-(ss.getD k (0,0)).1<3)(n:Nat)(k:Nat):((ss.drop n).getD k (0,0)).2-((ss.drop n).getD k (0,0)).1<3:=by
 have e:(ss.drop n).getD k (0,0)=ss.getD (n+k) (0,0):=by simp [List.getD_eq_getElem?_getD]
 rw [e];exact h _
theorem pow_le6{n:Nat}(h:n<=6):3 ^ n<=729:=Nat.pow_le_pow_right aC h
theorem Ik{ss:List (Int×Int)}{kn:List Int}(h:∀k,(ss.getD k (0,0)).2-(ss.getD k (0,0)).1<3)(hl:ss.length<=6)(n:Nat):(B4 (ss.drop n) kn).length<=729:=by
 have h1:=QS (kn:=kn) (drop_few h n);exact Nat.le_trans h1 (pow_le6 (by rw [List.length_drop];omega))
theorem Tv{ss:List (Int×Int)}{kn:List Int}(h:∀k,(ss.getD k (0,0)).2-(ss.getD k (0,0)).1<3)(hl:ss.length<=6)(j:Nat):(Ij ss kn j).length<=j*729:=by
 unfold Ij
 have:=HL (l:=B1 (ss.getD kn.length (0,0)).1 j) (f:=λn=>B4 (ss.drop (kn.length+1)) (kn++[n])) (B:=729) λn _=>Ik h hl _
 rwa [QR] at this
theorem Bf(l:List Sl):(A1 l).length=l.length:=by simp [A1]
def Ak(l:List Int):List (List Int):=l.foldl (λc x=>c++c.map (·++[x])) [[]]
def Eb(l:List Int)(k j:Nat):List (List Int):=Ak (l.take k)++((Ak (l.take k)).take j).map (·++[l.getD k 0])
theorem Tw{l:List Int}{k:Nat}(hk:k<l.length):Ak (l.take (k+1))=Ak (l.take k)++(Ak (l.take k)).map (·++[l.getD k 0]):=by
 rw [CK 0 hk];unfold Ak;rw [List.foldl_append];rfl
theorem XJ(l:List Int)(k:Nat):Eb l k 0=Ak (l.take k):=by simp [Eb]
theorem Tx{l:List Int}{k j:Nat}(hk:k<l.length)(hj:(Ak (l.take k)).length<=j):Eb l k j=Ak (l.take (k+1)):=by
 rw [Tw hk];unfold Eb;rw [List.take_of_length_le hj]
theorem RV{l:List Int}{k j:Nat}(hj:j<(Ak (l.take k)).length):Eb l k (j+1)=Eb l k j++[(Ak (l.take k)).getD j []++[l.getD k 0]]:=by
 unfold Eb;rw [CK [] hj,List.map_append,List.append_assoc];rfl
theorem VZ:∀(l:List Int),(Ak l).length=2 ^ l.length:=λl=>by
 have key:∀(l:List Int)(c:List (List Int)),(l.foldl (λc x=>c++c.map (·++[x])) c).length=c.length*2 ^ l.length:=by
  intro l
  induction l with
  | nil=>intro c;simp
  | cons x l ih=>intro c;rw [List.foldl_cons,ih,List.length_append,List.length_map,List.length_cons,Nat.pow_succ,Nat.mul_comm (2 ^ l.length) 2,<-Nat.mul_assoc];congr 1;omega
 unfold Ak;rw [key];simp
theorem Fb{l:List Int}(h:l.length<=6)(k:Nat):(Ak (l.take k)).length<=64:=by
 rw [VZ]
 have:2 ^ (l.take k).length<=2 ^ 6:=Nat.pow_le_pow_right aC (by rw [List.length_take];omega)
 omega
theorem ES{l:List Int}:∀{c:List Int},c ∈ Ak l->c.Sublist l:=by
 have key:∀(l r:List Int)(cs:List (List Int)),(∀c ∈ cs,c.Sublist r)->∀c ∈ l.foldl (λc x=>c++c.map (·++[x])) cs,c.Sublist (r++l):=by
  intro l
  induction l with
  | nil=>intro r cs h c hc;rw [List.append_nil];exact h c hc
  | cons x l ih=>
   intro r cs h c hc
   have:=ih (r++[x]) (cs++cs.map (·++[x])) (λc hc=>by
    rcases List.mem_append.1 hc with hc | hc
    ·exact (h c hc).trans (List.sublist_append_left _ _)
    ·obtain ⟨c',hc',rfl⟩:=List.mem_map.1 hc;exact (h c' hc').append (List.Sublist.refl _)) c hc
   rwa [List.append_assoc] at this
 intro c hc
 have:=key l [] [[]] (λc hc=>by rw [List.mem_singleton.1 hc];exact List.Sublist.refl _) c hc
 simpa using this
theorem MT{l:List Int}{c:List Int}(h:c.Sublist l):c ∈ Ak l:=by
 have keep:∀(l:List Int)(cs:List (List Int)) c,c ∈ cs->c ∈ l.foldl (λc x=>c++c.map (·++[x])) cs:=by
  intro l
  induction l with
  | nil=>intro cs c h;exact h
  | cons x l ih=>intro cs c h;exact ih _ _ (List.mem_append_left _ h)
 have key:∀(c l:List Int),c.Sublist l->∀(cs:List (List Int)) a,a ∈ cs->a++c ∈ l.foldl (λc x=>c++c.map (·++[x])) cs:=by
  intro c l h
  induction h with
  | slnil=>intro cs a ha;rw [List.append_nil];exact ha
  | cons x _ ih=>intro cs a ha;exact ih _ _ (List.mem_append_left _ ha)
  | cons_cons x _ ih=>
   intro cs a ha
   have:=ih (cs++cs.map (·++[x])) (a++[x]) (List.mem_append_right _ (List.mem_map.2 ⟨a,ha,rfl⟩))
   rwa [List.append_assoc] at this
 exact key c l h [[]] [] aD
theorem AAb{l:List Int}{k:Nat}(h6:l.length<=6){x:List Int}(h:x ∈ Ak (l.take k)):x.length<=6:=by
 have h1:=(ES h).length_le;rw [List.length_take] at h1;omega
theorem AAc{l:List Int}{k j:Nat}{fl fl2:List Sl}(h6:l.length<=6)(h1:A1 fl=Ak (l.take k))(h2:A1 fl2=Eb l k j)(hj:j<=fl.length) :
  fl2.length=fl.length+j/\(j<fl.length->(fl2.getD j Sl.z).2=(Ak (l.take k)).getD j []/\(fl2.getD j Sl.z).2.length<=6):=by
 have e1:(Ak (l.take k)).length=fl.length:=by rw [<-h1,Bf]
 have e2:fl2.length=fl.length+j:=by
  rw [<-Bf fl2,h2];unfold Eb;rw [List.length_append,List.length_map,List.length_take,e1];omega
 refine ⟨e2,λhj2=>?_⟩;have e3:(fl2.getD j Sl.z).2=(Ak (l.take k)).getD j []:=by
  rw [<-CE aA,h2];unfold Eb;rw [QP,if_pos aA]
 exact ⟨e3,by rw [e3];exact AAb h6 (CV aA)⟩
theorem Va{l:List Int}{k j:Nat}{fl fl2:List Sl}{w:Value}(h1:A1 fl=Ak (l.take k))(h2:A1 fl2=Eb l k j)(e:(fl2.getD j Sl.z).2=(Ak (l.take k)).getD j [])(hj:j<fl.length):A1 (fl2++[(w,(fl2.getD j Sl.z).2++[l.getD k 0])])=Eb l k (j+1):=by
 rw [SM,h2,RV (by rw [<-h1,Bf];exact hj),e];rfl
def GQ(ms:List AA)(cs:List AF)(l f:List Int)(ys:List (List Int)):List RP:=(ys.map λy=>(f,y,l)).filter λx=>D9 ms cs x.1 x.2.1 x.2.2
def F6(gs:List Good)(ms:List AA)(cs:List AF)(l:List Int):List RP:=(B4 (CC gs) []).flatMap λf=>GQ ms cs l f (B4 (Cn ms) [])
def ED(ms:List AA)(cs:List AF)(l:List Int)(F Y:List (List Int))(i k:Nat):List RP:=((F.take i).flatMap λf=>GQ ms cs l f Y)++GQ ms cs l (F.getD i []) (Y.take k)
theorem NV(ms:List AA)(cs:List AF)(l:List Int)(F Y:List (List Int))(i:Nat):ED ms cs l F Y i 0=(F.take i).flatMap λf=>GQ ms cs l f Y:=by simp [ED,GQ]
theorem XK{ms:List AA}{cs:List AF}{l:List Int}{F Y:List (List Int)}{i k:Nat}(hi:i<F.length)(hk:Y.length<=k):ED ms cs l F Y i k=(F.take (i+1)).flatMap λf=>GQ ms cs l f Y:=by
 unfold ED;rw [CK [] hi,List.flatMap_append,List.take_of_length_le hk];simp
theorem withTo_t{ms:List AA}{cs:List AF}{l:List Int}{F Y:List (List Int)}{i k:Nat}(hk:k<Y.length)(h:D9 ms cs (F.getD i []) (Y.getD k []) l=true):ED ms cs l F Y i (k+1)=ED ms cs l F Y i k++[(F.getD i [],Y.getD k [],l)]:=by
 unfold ED GQ;rw [CK [] hk,List.map_append,List.filter_append,List.append_assoc];congr 1;congr 1;simp;exact h
theorem withTo_f{ms:List AA}{cs:List AF}{l:List Int}{F Y:List (List Int)}{i k:Nat}(hk:k<Y.length)(h:D9 ms cs (F.getD i []) (Y.getD k []) l=false):ED ms cs l F Y i (k+1)=ED ms cs l F Y i k:=by
 unfold ED GQ;rw [CK [] hk,List.map_append,List.filter_append];congr 1;simp;exact h
theorem QT(ms:List AA)(cs:List AF)(l f:List Int)(ys:List (List Int)):(GQ ms cs l f ys).length<=ys.length:=by
 unfold GQ;exact Nat.le_trans (List.length_filter_le _ _) aD
theorem QU{ms:List AA}{cs:List AF}{l:List Int}{F Y:List (List Int)}(hF:F.length<=729)(hY:Y.length<=729)(i k:Nat):(ED ms cs l F Y i k).length<=532170:=by
 unfold ED;have h1:=HL (l:=F.take i) (f:=λf=>GQ ms cs l f Y) (B:=729) λf _=>Nat.le_trans (QT ..) hY;have h2:=QT ms cs l (F.getD i []) (Y.take k);rw [List.length_take] at h2;have h3:(F.take i).length*729<=729*729:=Nat.mul_le_mul_right _ (by rw [List.length_take];omega);rw [List.length_append];omega
theorem SN{gs:List Good}{ms:List AA}{cs:List AF}{l:List Int}(hF:(B4 (CC gs) []).length<=729)(hY:(B4 (Cn ms) []).length<=729):(F6 gs ms cs l).length<=532170:=by
 have:=QU (ms:=ms) (cs:=cs) (l:=l) hF hY (B4 (CC gs) []).length 0
 rw [NV,List.take_length] at this;exact this
def EL(m:Int)(gs:List Good)(ms:List AA)(cs:List AF)(C:List (List Int)):List RP:=C.flatMap λl=>if (l.length:Int)<=m then F6 gs ms cs l else []
def Bw(m:Int)(gs:List Good)(ms:List AA)(cs:List AF):List RP:=EL m gs ms cs (Ak (BS ms ms.length))
theorem AAd{m:Int}{gs:List Good}{ms:List AA}{cs:List AF}{C:List (List Int)}{k:Nat}(hk:k<C.length)(h:((C.getD k []).length:Int)<=m):EL m gs ms cs (C.take (k+1))=EL m gs ms cs (C.take k)++F6 gs ms cs (C.getD k []):=by
 unfold EL;rw [CK [] hk,List.flatMap_append,List.flatMap_singleton,if_pos h]
theorem AAe{m:Int}{gs:List Good}{ms:List AA}{cs:List AF}{C:List (List Int)}{k:Nat}(hk:k<C.length)(h:¬((C.getD k []).length:Int)<=m):EL m gs ms cs (C.take (k+1))=EL m gs ms cs (C.take k):=by
 unfold EL;rw [CK [] hk,List.flatMap_append,List.flatMap_singleton,if_neg h,List.append_nil]
theorem Oi{m:Int}{gs:List Good}{ms:List AA}{cs:List AF}{C:List (List Int)}(hF:(B4 (CC gs) []).length<=729)(hY:(B4 (Cn ms) []).length<=729)(hC:C.length<=64)(k:Nat):(EL m gs ms cs (C.take k)).length<=34058880:=by
 unfold EL;have h1:=HL (l:=C.take k) (f:=λl=>if (l.length:Int)<=m then F6 gs ms cs l else []) (B:=532170) λf _=>by
  split
  ·exact SN hF hY
  ·simp
 have h3:(C.take k).length*532170<=64*532170:=Nat.mul_le_mul_right _ (by rw [List.length_take];omega);omega
theorem Fp(l:List PS):(IV l).length=l.length:=by simp [IV]
theorem Vb(gs:List Good)(k:Nat):(CC (gs.take k)).length<=k:=by
 unfold CC;rw [List.length_map,List.length_take];omega
theorem XL(ms:List AA)(k:Nat):(Cn (ms.take k)).length<=k:=by
 unfold Cn;rw [List.length_map,List.length_take];omega
theorem AAf{ms:List AA}{cs:List AF}{l:List Int}{F Y:List Sl}{pl:List PS}{i k:Nat}{fv yv lv:Value}(h:IV pl=ED ms cs l (A1 F) (A1 Y) i k)(hi:i<F.length)(hk:k<Y.length)(hp:D9 ms cs (F.getD i Sl.z).2 (Y.getD k Sl.z).2 l=true) :
  IV (pl++[(⟨(fv,(F.getD i Sl.z).2),(yv,(Y.getD k Sl.z).2),(lv,l)⟩:PS)])=ED ms cs l (A1 F) (A1 Y) i (k+1):=by
 have e1:=CE hi;have e2:=CE hk;rw [ZX,h,withTo_t (by rw [Bf];exact hk) (by rw [e1,e2];exact hp),e1,e2];rfl
theorem AAg{ms:List AA}{cs:List AF}{l:List Int}{F Y:List Sl}{pl:List PS}{i k:Nat}(h:IV pl=ED ms cs l (A1 F) (A1 Y) i k)(hi:i<F.length)(hk:k<Y.length)(hp:D9 ms cs (F.getD i Sl.z).2 (Y.getD k Sl.z).2 l=false) :
  IV pl=ED ms cs l (A1 F) (A1 Y) i (k+1):=by
 rw [h,withTo_f (by rw [Bf];exact hk) (by rw [CE hi,CE hk];exact hp)]
theorem AAh{ms:List AA}{cs:List AF}{l:List Int}{F Y:List Sl}{pl:List PS}{i k:Nat}(h:IV pl=ED ms cs l (A1 F) (A1 Y) i k)(hi:i<F.length)(hk:Y.length<=k):IV pl=ED ms cs l (A1 F) (A1 Y) (i+1) 0:=by
 rw [h,XK (by rw [Bf];exact hi) (by rw [Bf];exact hk),NV]
theorem with_all{gs:List Good}{ms:List AA}{cs:List AF}{l:List Int}{F Y:List Sl}{pl:List PS}{i:Nat}(h:IV pl=ED ms cs l (A1 F) (A1 Y) i 0)(hi:F.length<=i)(e1:A1 F=B4 (CC gs) [])(e2:A1 Y=B4 (Cn ms) []):IV pl=F6 gs ms cs l:=by
 rw [h,NV,List.take_of_length_le (by rw [Bf];exact hi),e1,e2];rfl
theorem XM{m:Int}{gs:List Good}{ms:List AA}{cs:List AF}{F:List Sl}{pl pl2:List PS}{k:Nat}(h1:IV pl=EL m gs ms cs ((A1 F).take k))(h2:IV pl2=F6 gs ms cs (F.getD k Sl.z).2)(hk:k<F.length)(hm:(((F.getD k Sl.z).2).length:Int)<=m):IV (pl++pl2)=EL m gs ms cs ((A1 F).take (k+1)):=by
 have e:=CE hk;rw [ZX,h1,h2,AAd (by rw [Bf];exact hk) (by rw [e];exact hm),e]
theorem XN{m:Int}{gs:List Good}{ms:List AA}{cs:List AF}{F:List Sl}{pl:List PS}{k:Nat}(h1:IV pl=EL m gs ms cs ((A1 F).take k))(hk:k<F.length)(hm:¬(((F.getD k Sl.z).2).length:Int)<=m):IV pl=EL m gs ms cs ((A1 F).take (k+1)):=by
 rw [h1,AAe (by rw [Bf];exact hk) (by rw [CE hk];exact hm)]
theorem AAi{G:RP->Int}{al:List PS}{ts:List RP}{k:Nat}(e:IV al=ts)(hk:k<al.length):(ts.take (k+1)).map G=(ts.take k).map G++[G ((al.getD k PS.z).f.2,(al.getD k PS.z).y.2,(al.getD k PS.z).l.2)]:=by
 subst e;rw [CK ([],[],[]) (by rw [Fp];exact hk),List.map_append,VX hk];rfl
theorem great_gs{gs:List Good}{ms:List AA}{cs:List AF}(h:GN gs ms cs=false):gs.length<=1000:=by
 unfold GN at h;rw [Bool.or_eq_false_iff,Bool.or_eq_false_iff,Bool.or_eq_false_iff] at h
 have:=of_decide_eq_false h.1.1.1;omega
theorem great_ms{gs:List Good}{ms:List AA}{cs:List AF}(h:GN gs ms cs=false):ms.length<=1000:=by
 unfold GN at h;rw [Bool.or_eq_false_iff,Bool.or_eq_false_iff,Bool.or_eq_false_iff] at h
 have:=of_decide_eq_false h.1.1.2;omega
end Go.Ns
namespace Go.Ns
open Go.Conc
theorem IJ:∀{ss:List (Int×Int)}{kn x:List Int},x ∈ B4 ss kn↔∃r,x=kn++r/\r.length=ss.length/\∀i,i<ss.length->(ss.getD i (0,0)).1<=r.getD i 0/\r.getD i 0<=(ss.getD i (0,0)).2
 | [],kn,x=>by
  unfold B4;rw [List.mem_singleton];constructor
  ·rintro rfl;exact ⟨[],aD,rfl,λi hi=>by cases hi⟩
  ·rintro ⟨r,rfl,hl,_⟩;rw [List.eq_nil_of_length_eq_zero hl,List.append_nil]
 | s ::ss,kn,x=>by
  unfold B4;rw [List.mem_flatMap];constructor
  ·rintro ⟨n,hn,hx⟩;obtain ⟨r,rfl,hl,hr⟩:=IJ.1 hx;refine ⟨n ::r,aD,by simp [hl],λi hi=>?_⟩;cases i with
   | zero=>exact F0.1 hn
   | succ i=>exact hr i (by simpa using hi)
  ·rintro ⟨r,rfl,hl,hr⟩;cases r with
   | nil=>cases hl
   | cons n r=>
    refine ⟨n,F0.2 (hr 0 aD),IJ.2 ⟨r,aD,by simpa using hl,λi hi=>?_⟩⟩;exact hr (i+1) (by simpa using hi)
theorem QV{ss:List (Int×Int)}{x:List Int}:x ∈ B4 ss []↔x.length=ss.length/\∀i,i<ss.length->(ss.getD i (0,0)).1<=x.getD i 0/\x.getD i 0<=(ss.getD i (0,0)).2:=by
 rw [IJ];constructor
 ·rintro ⟨r,rfl,h⟩;exact h
 ·intro h;exact ⟨x,rfl,h⟩
theorem Gl{gs:List Good}{f:List Int}:f ∈ B4 (CC gs) []↔f.length=gs.length/\∀i,i<gs.length->(gs.getD i Good.z).low<=f.getD i 0/\f.getD i 0<=(gs.getD i Good.z).high:=by
 rw [QV,show (CC gs).length=gs.length by simp [CC]];have e:∀i,i<gs.length->(CC gs).getD i (0,0)=((gs.getD i Good.z).low,(gs.getD i Good.z).high):=λi hi=>by
  unfold CC;rw [BY _ (by simpa using hi),List.getElem_map,BY Good.z hi]
 constructor
 ·rintro ⟨h1,h2⟩;exact ⟨h1,λi hi=>by have:=h2 i hi;rw [e i hi] at this;exact this⟩
 ·rintro ⟨h1,h2⟩;exact ⟨h1,λi hi=>by rw [e i hi];exact h2 i hi⟩
theorem Hy{ms:List AA}{f:List Int}:f ∈ B4 (Cn ms) []↔f.length=ms.length/\∀i,i<ms.length->(ms.getD i AA.z).low<=f.getD i 0/\f.getD i 0<=(ms.getD i AA.z).high:=by
 rw [QV,show (Cn ms).length=ms.length by simp [Cn]];have e:∀i,i<ms.length->(Cn ms).getD i (0,0)=((ms.getD i AA.z).low,(ms.getD i AA.z).high):=λi hi=>by
  unfold Cn;rw [BY _ (by simpa using hi),List.getElem_map,BY AA.z hi]
 constructor
 ·rintro ⟨h1,h2⟩;exact ⟨h1,λi hi=>by have:=h2 i hi;rw [e i hi] at this;exact this⟩
 ·rintro ⟨h1,h2⟩;exact ⟨h1,λi hi=>by rw [e i hi];exact h2 i hi⟩
theorem F7{gs:List Good}{ms:List AA}{cs:List AF}{l:List Int}{t:RP}:t ∈ F6 gs ms cs l↔t.2.2=l/\t.1 ∈ B4 (CC gs) []/\t.2.1 ∈ B4 (Cn ms) []/\D9 ms cs t.1 t.2.1 l=true:=by
 unfold F6 GQ;rw [List.mem_flatMap];constructor
 ·rintro ⟨f,hf,h⟩;obtain ⟨h1,h2⟩:=List.mem_filter.1 h;obtain ⟨y,hy,rfl⟩:=List.mem_map.1 h1;exact ⟨rfl,hf,hy,h2⟩
 ·obtain ⟨f,y,l'⟩:=t;rintro ⟨rfl,hf,hy,h⟩;exact ⟨f,hf,List.mem_filter.2 ⟨List.mem_map.2 ⟨y,hy,rfl⟩,h⟩⟩
theorem JO{m:Int}{gs:List Good}{ms:List AA}{cs:List AF}{t:RP}:t ∈ Bw m gs ms cs↔t.2.2 ∈ Ak (BS ms ms.length)/\(t.2.2.length:Int)<=m/\t.1 ∈ B4 (CC gs) []/\t.2.1 ∈ B4 (Cn ms) []/\D9 ms cs t.1 t.2.1 t.2.2=true:=by
 unfold Bw EL;rw [List.mem_flatMap];constructor
 ·rintro ⟨l,hl,h⟩;split at h
  ·rename_i q
   obtain ⟨rfl,h1,h2,h3⟩:=F7.1 h;exact ⟨hl,q,h1,h2,h3⟩
  ·cases h
 ·rintro ⟨hl,q,h1,h2,h3⟩;exact ⟨_,hl,by rw [if_pos q];exact F7.2 ⟨rfl,h1,h2,h3⟩⟩
theorem Vc{d m:Int}{gs:List Good}{ms:List AA}{cs:List AF}(b:An d m gs ms cs)(k:Nat):0<=((CC gs).getD k (0,0)).1/\((CC gs).getD k (0,0)).2<=99:=by
 unfold CC;by_cases hk:k<gs.length
 ·have:=b.gfew k
  rw [BY _ (by simpa using hk),List.getElem_map];rw [BY Good.z hk] at this;exact ⟨this.1,this.2.2.1⟩
 ·rw [B8 (by simpa using hk)];decide
theorem XO{d m:Int}{gs:List Good}{ms:List AA}{cs:List AF}(b:An d m gs ms cs)(k:Nat):0<=((Cn ms).getD k (0,0)).1/\((Cn ms).getD k (0,0)).2<=99:=by
 unfold Cn;by_cases hk:k<ms.length
 ·have:=b.few k
  rw [BY _ (by simpa using hk),List.getElem_map];rw [BY AA.z hk] at this;exact ⟨this.1,this.2.2.1⟩
 ·rw [B8 (by simpa using hk)];decide
def Ep(t:RP):AV:=⟨λi=>t.1.getD i 0,λi=>t.2.1.getD i 0,λi=>decide ((i:Int) ∈ t.2.2)⟩
theorem MU(t:RP)(a b:Nat):IsP (Ep t) t.1 t.2.1 t.2.2 a b:=⟨λ_ _=>rfl,λ_ _=>rfl,λ_ _=>rfl⟩
theorem NW{ms:List AA}{x:Int}(h:x ∈ BS ms ms.length):0<=x/\x<ms.length/\(ms.getD x.toNat AA.z).kind=0:=by
 obtain ⟨i,hi,rfl⟩:=List.mem_map.1 h;obtain ⟨h1,h2⟩:=List.mem_filter.1 hi
 have:=List.mem_range.1 h1
 exact ⟨aA,aA,by rw [Int.toNat_natCast];exact of_decide_eq_true h2⟩
structure XP(gs:List Good)(ms:List AA)(t:RP):Prop where
 fl:t.1.length=gs.length
 yl:t.2.1.length=ms.length
 fr:∀i,0<=t.1.getD i 0/\t.1.getD i 0<=99
 yr:∀i,0<=t.2.1.getD i 0/\t.2.1.getD i 0<=99
 ln:∀x ∈ t.2.2,0<=x/\x<ms.length/\(ms.getD x.toNat AA.z).kind=0
section
variable {d m:Int} {gs:List Good} {ms:List AA} {cs:List AF}
theorem ZY(b:An d m gs ms cs){t:RP}(h1:t.1 ∈ B4 (CC gs) [])(h2:t.2.1 ∈ B4 (Cn ms) [])(h3:t.2.2 ∈ Ak (BS ms ms.length)):XP gs ms t:=by
 obtain ⟨a1,a2⟩:=Gl.1 h1;obtain ⟨b1,b2⟩:=Hy.1 h2;refine ⟨a1,b1,λi=>?_,λi=>?_,λx hx=>NW ((ES h3).mem hx)⟩
 ·by_cases hi:i<gs.length
  ·have:=a2 i hi;have:=b.gfew i;omega
  ·rw [B8 aA];omega
 ·by_cases hi:i<ms.length
  ·have:=b2 i hi;have:=b.few i;omega
  ·rw [B8 aA];omega
theorem Kr(b:An d m gs ms cs){t:RP}(h:t ∈ Bw m gs ms cs):XP gs ms t:=by
 obtain ⟨h1,_,h3,h4,_⟩:=JO.1 h;exact ZY b h3 h4 h1
theorem QW(ms:List AA)(k:Nat):(BS ms k).Nodup:=by
 unfold BS;exact List.pairwise_map.2 ((List.nodup_range.filter _).imp λq e=>q aA)
theorem QX(b:An d m gs ms cs){t:RP}(h:t ∈ Bw m gs ms cs):Ep t ∈ AU d gs ms cs m:=by
 have P:=Kr b h;obtain ⟨h1,h2,h3,h4,h5⟩:=JO.1 h;have I:=MU t gs.length ms.length;have hk:=λk=>(b.kind k).1;unfold D9 at h5;rw [Bool.and_eq_true,decide_eq_true_iff,decide_eq_true_iff] at h5;refine (N2 b.mlen b.most.1).2 ⟨⟨λi hi=>(Gl.1 h3).2 i hi,λi hi=>(Hy.1 h4).2 i hi,λi hi hq=>?_,?_⟩,b.agrees_iff2.2 ⟨λi hi=>(P.fr i).1,λk hkk=>?_,λx hx=>?_⟩,?_⟩
 ·have hq2:(i:Int) ∈ t.2.2:=of_decide_eq_true hq
  have:=(P.ln _ hq2).2.2
  rw [Int.toNat_natCast] at this;exact (J4 hi).2 this
 ·rw [<-GO];have h6:=NU (l:=((List.range ms.length).filter (Ep t).lies).map λ(i:Nat)=>(i:Int)) (l1:=t.2.2)
   (List.pairwise_map.2 ((List.nodup_range.filter _).imp λq e=>q aA)) λx hx=>by
    obtain ⟨i,hi,rfl⟩:=List.mem_map.1 hx;exact of_decide_eq_true (List.mem_filter.1 hi).2
  rw [List.length_map] at h6;omega
 ·rw [<-I.stock b.up hk (by have:=(b.move' hkk).2.1;omega)];have:=h5.2 k hkk;omega
 ·obtain ⟨k,hkc,rfl⟩:=JM AF.z hx;have hg:=b.cgood' _ (CV (d:=AF.z) hkc);rw [<-I.stock b.up hk aA];exact h5.1 k hkc
 ·unfold HJ Ep;congr 1
  ·funext k;split
   ·rfl
   ·exact (B8 (by have:=P.fl;omega)).symm
  ·funext k;split
   ·rfl
   ·exact (B8 (by have:=P.yl;omega)).symm
  ·funext k;split
   ·rfl
   ·exact (decide_eq_false λe=>by have:=P.ln _ e;omega).symm
def N4(gs:List Good)(ms:List AA)(q:AV):RP:=((List.range gs.length).map q.first,(List.range ms.length).map q.many,(BS ms ms.length).filter λx=>q.lies x.toNat)
theorem rpOf_isP(gs:List Good)(ms:List AA){q:AV}(hn:∀i,i<ms.length->q.lies i=true->(ms.getD i AA.z).kind=0):IsP q (N4 gs ms q).1 (N4 gs ms q).2.1 (N4 gs ms q).2.2 gs.length ms.length:=by
 refine ⟨λi hi=>?_,λi hi=>?_,λi hi=>?_⟩
 ·simp [N4,List.getD_eq_getElem?_getD,hi]
 ·simp [N4,List.getD_eq_getElem?_getD,hi]
 ·cases hq:q.lies i with
  | true=>exact (decide_eq_true (List.mem_filter.2 ⟨XF hi (hn i hi hq),by rw [Int.toNat_natCast];exact hq⟩)).symm
  | false=>exact (decide_eq_false λe=>by have:=(List.mem_filter.1 e).2;rw [Int.toNat_natCast,hq] at this;cases this).symm
theorem AAj(b:An d m gs ms cs){q:AV}(h:q ∈ AU d gs ms cs m):N4 gs ms q ∈ Bw m gs ms cs/\Ep (N4 gs ms q)=q:=by
 obtain ⟨L,ha,hp⟩:=(N2 b.mlen b.most.1).1 h;have hn:∀i,i<ms.length->q.lies i=true->(ms.getD i AA.z).kind=0:=λi hi hq=>(J4 hi).1 (L.note i hi hq);have I:=rpOf_isP gs ms hn;have hk:=λk=>(b.kind k).1;obtain ⟨a1,a2,a3⟩:=b.agrees_iff2.1 ha;have hcur:Ep (N4 gs ms q)=q:=by
  refine Eq.trans ?_ hp;unfold Ep HJ;congr 1
  ·funext k;split
   ·rename_i hk2;exact (I.first k hk2).symm
   ·exact B8 (by simp [N4];omega)
  ·funext k;split
   ·rename_i hk2;exact (I.many k hk2).symm
   ·exact B8 (by simp [N4];omega)
  ·funext k;split
   ·rename_i hk2;exact (I.lies k hk2).symm
   ·exact decide_eq_false λe=>by have:=NW (List.mem_filter.1 e).1;omega
 refine ⟨JO.2 ⟨MT (List.filter_sublist),?_,Gl.2 ⟨by simp [N4],λi hi=>by rw [<-I.first i hi];exact L.first i hi⟩,Hy.2 ⟨by simp [N4],λi hi=>by rw [<-I.many i hi];exact L.many i hi⟩,?_⟩,hcur⟩
 ·have h6:=NU (l:=(N4 gs ms q).2.2) (l1:=((List.range ms.length).filter q.lies).map λ(i:Nat)=>(i:Int)) ((QW ms _).filter _) λx hx=>by
   obtain ⟨h1,h2⟩:=List.mem_filter.1 hx
   have:=NW h1
   exact List.mem_map.2 ⟨x.toNat,List.mem_filter.2 ⟨List.mem_range.2 aA,h2⟩,aA⟩
  rw [List.length_map,GO] at h6
  have:=L.few;omega
 ·unfold D9;rw [Bool.and_eq_true,decide_eq_true_iff,decide_eq_true_iff];refine ⟨λk hkc=>?_,λk hkk=>?_⟩
  ·have hg:=b.cgood' _ (CV (d:=AF.z) hkc);rw [I.stock b.up hk aA];exact a3 _ (CV hkc)
  ·rw [I.stock b.up hk (by have:=(b.move' hkk).2.1;omega)];have:=a2 k hkk;omega
theorem NX(b:An d m gs ms cs){q:AV}:q ∈ AU d gs ms cs m↔∃t ∈ Bw m gs ms cs,Ep t=q:=
 ⟨λh=>⟨_,AAj b h⟩,λ⟨t,h,e⟩=>e▸QX b h⟩
theorem LN(b:An d m gs ms cs):(Bw m gs ms cs).length=0↔(AU d gs ms cs m).length=0:=by
 rw [List.length_eq_zero_iff,List.length_eq_zero_iff];constructor
 ·intro h;rw [List.eq_nil_iff_forall_not_mem];intro q hq;obtain ⟨t,ht,_⟩:=(NX b).1 hq;rw [h] at ht;cases ht
 ·intro h;rw [List.eq_nil_iff_forall_not_mem];intro t ht
  have:=QX b ht
  rw [h] at this;cases this
end
section
variable {d m:Int} {gs:List Good} {ms:List AA} {cs:List AF}
theorem XQ(b:An d m gs ms cs){g:Int}(hg:0<=g/\g<gs.length)(dy:Int)(t:RP)(_:XP gs ms t)(I:IsP (Ep t) t.1 t.2.1 t.2.2 gs.length ms.length):BT ms t.1 t.2.1 t.2.2 g dy ms.length=(AP ms (Ep t) g dy).1:=
 I.stock b.up (λk=>(b.kind k).1) hg dy
theorem first_is(b:An d m gs ms cs){f:List Int}(h:f ∈ B4 (CC gs) []):f.length=gs.length/\∀i,0<=f.getD i 0/\f.getD i 0<=99:=by
 obtain ⟨a1,a2⟩:=Gl.1 h;refine ⟨a1,λi=>?_⟩;by_cases hi:i<gs.length
 ·have:=a2 i hi;have:=b.gfew i;omega
 ·rw [B8 aA];omega
theorem many_is(b:An d m gs ms cs){f:List Int}(h:f ∈ B4 (Cn ms) []):f.length=ms.length/\∀i,0<=f.getD i 0/\f.getD i 0<=99:=by
 obtain ⟨a1,a2⟩:=Hy.1 h;refine ⟨a1,λi=>?_⟩;by_cases hi:i<ms.length
 ·have:=a2 i hi;have:=b.few i;omega
 ·rw [B8 aA];omega
theorem Tz{F:List Sl}{L:List (List Int)}(e:A1 F=L){k:Nat}(hk:k<F.length):(F.getD k Sl.z).2 ∈ L:=by
 subst e;rw [<-CE hk];exact CV (by rw [Bf];exact hk)
theorem cgood_to(b:An d m gs ms cs){f:List Int}(h:f.length=gs.length):∀k,k<cs.length->0<=(cs.getD k AF.z).good/\(cs.getD k AF.z).good<(f.length:Int):=λk hk=>by
 have:=b.cgood' _ (CV (d:=AF.z) hk);omega
theorem mgood_to(b:An d m gs ms cs){f:List Int}(h:f.length=gs.length):∀k,k<ms.length->0<=(ms.getD k AA.z).good/\(ms.getD k AA.z).good<(f.length:Int):=λk hk=>by
 have:=(b.move' hk).2.1;omega
theorem Iz(b:An d m gs ms cs):(B4 (CC gs) []).length<=729/\(B4 (Cn ms) []).length<=729:=by
 have h1:=Ik (ss:=CC gs) (kn:=[]) (Oh λk=>(b.gfew k).2.2.2) (by have:=b.glen;unfold CC;rw [List.length_map];omega) 0;have h2:=Ik (ss:=Cn ms) (kn:=[]) (QQ λk=>(b.few k).2.2.2) (by have:=b.mlen;unfold Cn;rw [List.length_map];omega) 0;exact ⟨h1,h2⟩
theorem AAk(b:An d m gs ms cs){pl:List PS}{l:List Int}(e:IV pl=F6 gs ms cs l):pl.length<=532170:=by
 rw [<-Fp,e];exact SN (Iz b).1 (Iz b).2
theorem XR(b:An d m gs ms cs){pl:List PS}{l:List Int}{F Y:List Sl}{i k:Nat}(e:IV pl=ED ms cs l (A1 F) (A1 Y) i k)(e1:A1 F=B4 (CC gs) [])(e2:A1 Y=B4 (Cn ms) []):pl.length<=532170:=by
 rw [<-Fp,e,e1,e2];exact QU (Iz b).1 (Iz b).2 _ _
theorem AAl(b:An d m gs ms cs){pl:List PS}{F:List Sl}{k:Nat}(e:IV pl=EL m gs ms cs ((A1 F).take k))(e1:A1 F=Ak (BS ms ms.length)):pl.length<=34058880:=by
 rw [<-Fp,e,e1];have h6:=b.mlen;have hc:=Gk ms ms.length;exact Oi (Iz b).1 (Iz b).2 (by have:=Fb (l:=BS ms ms.length) aA (BS ms ms.length).length;rwa [List.take_length] at this) _
theorem J5(b:An d m gs ms cs):(Bw m gs ms cs).length<=34058880:=by
 have h6:=b.mlen;have hc:=Gk ms ms.length
 have:=Oi (m:=m) (gs:=gs) (ms:=ms) (cs:=cs) (C:=Ak (BS ms ms.length)) (Iz b).1 (Iz b).2 (by have:=Fb (l:=BS ms ms.length) aA (BS ms ms.length).length;rwa [List.take_length] at this) (Ak (BS ms ms.length)).length
 rw [List.take_length] at this;exact this
def SO(d m:Int)(gs:List Good)(ms:List AA)(cs:List AF)(o:List Int):List RP:=if Af d m gs ms cs o=0 then Bw m gs ms cs else []
theorem N5{o:List Int}(h:¬Af d m gs ms cs o=0):IV []=SO d m gs ms cs o:=by unfold SO;rw [if_neg h];rfl
theorem open_ok{o:List Int}{al:List PS}(h:Af d m gs ms cs o=0)(e:IV al=SO d m gs ms cs o):An d m gs ms cs/\(∀k,k<o.length->o.getD k 0=0)/\0<al.length/\IV al=Bw m gs ms cs/\al.length=(Bw m gs ms cs).length:=by
 obtain ⟨b,h1,h2⟩:=EJ h;have e2:IV al=Bw m gs ms cs:=by rw [e];unfold SO;rw [if_pos h]
 have e3:al.length=(Bw m gs ms cs).length:=by rw [<-e2,Fp]
 refine ⟨b,h1,?_,e2,e3⟩
 have:=(LN b (d:=d)).1
 rcases Nat.eq_zero_or_pos al.length with h0 | h0
 ·have:=(LN b).1 (e3▸h0);omega
 ·exact h0
theorem past_at(b:An d m gs ms cs){al:List PS}{k:Nat}(e:IV al=Bw m gs ms cs)(hk:k<al.length) :
  (al.getD k PS.z).f.2.length=gs.length/\(al.getD k PS.z).y.2.length=ms.length/\(∀i,0<=(al.getD k PS.z).f.2.getD i 0/\(al.getD k PS.z).f.2.getD i 0<=99)/\(∀i,0<=(al.getD k PS.z).y.2.getD i 0/\(al.getD k PS.z).y.2.getD i 0<=99):=by
 have h:(IV al).getD k ([],[],[]) ∈ Bw m gs ms cs:=by rw [<-e];exact CV (by rw [Fp];exact hk)
 have P:=Kr b h;rw [VX hk] at P;exact ⟨P.fl,P.yl,P.fr,P.yr⟩
def E8(ms:List AA)(g dy:Int)(t:RP):Int:=BT ms t.1 t.2.1 t.2.2 g dy ms.length
theorem take_all{U β:Type}{G:U->β}{ts:List U}{k:Nat}(hk:ts.length<=k):(ts.take k).map G=ts.map G/\((ts.take k).map G).length=ts.length:=by
 rw [List.take_of_length_le hk];simp
end
end Go.Ns
namespace Go.Ns
open Go.Conc
theorem T0(l:List Int)(x:Int):Ak (l++[x])=Ak l++(Ak l).map (·++[x]):=by
 unfold Ak;rw [List.foldl_append];rfl
theorem RW:∀{l:List Int},l.Nodup->(Ak l).Nodup:=by
 have key:∀(n:Nat)(l:List Int),l.length=n->l.Nodup->(Ak l).Nodup:=by
  intro n
  induction n with
  | zero=>intro l hl _;rw [List.eq_nil_of_length_eq_zero hl];exact List.pairwise_singleton ..
  | succ n ih=>
   intro l hl hn;obtain ⟨l',x,rfl⟩:∃l' x,l=l'++[x]:=⟨l.dropLast,l.getLast (by intro e;rw [e] at hl;cases hl),(List.dropLast_concat_getLast _).symm⟩;have hn2:=List.pairwise_append.1 hn;have h1:=ih l' (by simpa using hl) hn2.1;rw [T0];refine List.pairwise_append.2 ⟨h1,List.pairwise_map.2 (h1.imp λq e=>q (List.append_cancel_right e)),λa ha b hb e=>?_⟩;obtain ⟨c,_,rfl⟩:=List.mem_map.1 hb;have hx:x ∈ l':=(ES ha).mem (by rw [e];simp);exact hn2.2.2 x hx x aD rfl
 exact λ{l} h=>key l.length l rfl h
theorem J6:∀(ss:List (Int×Int))(kn:List Int),(B4 ss kn).Nodup
 | [],kn=>List.pairwise_singleton ..
 | s ::ss,kn=>by
  unfold B4;refine List.pairwise_flatMap.2 ⟨λn _=>J6 ss _,(QK _ _).imp λ{n m} hne x hx y hy e=>?_⟩;obtain ⟨r,rfl,_⟩:=IJ.1 hx;obtain ⟨r',e',_⟩:=IJ.1 hy;rw [e',List.append_assoc,List.append_assoc] at e
  have:=List.append_cancel_left e
  simp only [List.singleton_append,List.cons.injEq] at this;exact hne this.1
theorem Vd(gs:List Good)(ms:List AA)(cs:List AF)(l:List Int):(F6 gs ms cs l).Nodup:=by
 unfold F6;refine List.pairwise_flatMap.2 ⟨λf _=>?_,(J6 _ _).imp λ{f g} hne x hx y hy e=>?_⟩
 ·unfold GQ;exact (List.pairwise_map.2 ((J6 _ _).imp λq e=>q (by simpa using e))).filter _
 ·unfold GQ at hx hy;obtain ⟨_,_,rfl⟩:=List.mem_map.1 (List.mem_filter.1 hx).1;obtain ⟨_,_,rfl⟩:=List.mem_map.1 (List.mem_filter.1 hy).1;simp only [Prod.mk.injEq] at e;exact hne e.1
theorem T1(m:Int)(gs:List Good)(ms:List AA)(cs:List AF):(Bw m gs ms cs).Nodup:=by
 unfold Bw EL;refine List.pairwise_flatMap.2 ⟨λl _=>?_,(RW (QW ms _)).imp λ{l l'} hne x hx y hy e=>?_⟩
 ·split
  ·exact Vd ..
  ·exact List.Pairwise.nil
 ·split at hx
  ·split at hy
   ·have h1:=(F7.1 hx).1;have h2:=(F7.1 hy).1;rw [e,h2] at h1;exact hne h1.symm
   ·cases hy
  ·cases hx
theorem QY(ms:List AA)(k:Nat):(BS ms k).Pairwise (· < ·):=by
 unfold BS;exact List.pairwise_map.2 ((List.pairwise_lt_range.filter _).imp λq=>aA)
theorem Ve{a b:List Int}(h:a.length=b.length)(e:∀i,a.getD i 0=b.getD i 0):a=b:=by
 refine List.ext_getElem h λi h1 h2=>?_
 have:=e i
 rw [BY 0 h1,BY 0 h2] at this;exact this
section
variable {d m:Int} {gs:List Good} {ms:List AA} {cs:List AF}
theorem XS(b:An d m gs ms cs){t t':RP}(h:t ∈ Bw m gs ms cs)(h':t' ∈ Bw m gs ms cs)(e:Ep t=Ep t'):t=t':=by
 have P:=Kr b h;have P':=Kr b h';have c:=ES (JO.1 h).1;have c':=ES (JO.1 h').1;unfold Ep at e;simp only [AV.mk.injEq] at e;obtain ⟨e1,e2,e3⟩:=e;obtain ⟨f,y,l⟩:=t;obtain ⟨f',y',l'⟩:=t';have q1:f=f':=Ve (by rw [P.fl,P'.fl]) λi=>congrFun e1 i;have q2:y=y':=Ve (by rw [P.yl,P'.yl]) λi=>congrFun e2 i;have q3:l=l':=PB ((QY ms _).sublist c) ((QY ms _).sublist c') λx=>by
  constructor
  ·intro hx;have hx0:=P.ln x hx
   have:=congrFun e3 x.toNat
   rw [decide_eq_decide,Int.toNat_of_nonneg hx0.1] at this;exact this.1 hx
  ·intro hx;have hx0:=P'.ln x hx
   have:=congrFun e3 x.toNat
   rw [decide_eq_decide,Int.toNat_of_nonneg hx0.1] at this;exact this.2 hx
 rw [q1,q2,q3]
theorem QZ(b:An d m gs ms cs):((Bw m gs ms cs).map Ep).Perm (AU d gs ms cs m):=by
 refine (List.perm_ext_iff_of_nodup ?_ (VV ..)).2 λq=>?_
 ·have hn:=T1 m gs ms cs
  have:∀{l:List RP},l.Nodup->(∀t ∈ l,t ∈ Bw m gs ms cs)->(l.map Ep).Nodup:=by
   intro l
   induction l with
   | nil=>intro _ _;exact List.Pairwise.nil
   | cons t l ih=>
    intro h1 h2;have h3:=List.nodup_cons.1 h1;rw [List.map_cons];refine List.nodup_cons.2 ⟨λhm=>?_,ih h3.2 λt' ht'=>h2 t' (by simp [ht'])⟩;obtain ⟨t',ht',e⟩:=List.mem_map.1 hm;exact h3.1 (XS b (h2 t' (by simp [ht'])) (h2 t aD) e▸ht')
  exact this hn λ_ h=>h
 ·rw [NX b,List.mem_map]
theorem SP(b:An d m gs ms cs):(Bw m gs ms cs).length=(AU d gs ms cs m).length:=by
 rw [<-(QZ b).length_eq,List.length_map]
def FJ(l:List Int):List Int:=Ds (KL l)
theorem MV(l:List Int):FJ l=Ch l.length λi=>l.getD i 0:=by
 unfold FJ Ch;congr 2;refine List.ext_getElem aD λi h1 h2=>?_;simp [List.getD_eq_getElem?_getD,h1]
theorem AAm(l:List Int):(FJ l).Pairwise (· < ·):=by rw [MV];exact SK _ _
theorem SQ{l:List Int}{x:Int}:x ∈ FJ l↔x ∈ l:=by
 rw [MV,SJ];constructor
 ·rintro ⟨i,hi,rfl⟩;exact CV hi
 ·intro h;obtain ⟨i,hi,e⟩:=JM 0 h;exact ⟨i,hi,e⟩
theorem sortD_is{l s:List Int}(h:s.Pairwise (· < ·))(e:∀x,x ∈ s↔x ∈ l):s=FJ l:=PB h (AAm l) λx=>(e x).trans SQ.symm
theorem ins_at{s l:List Int}{x:Int}{k i:Nat}(ha:s.Pairwise (· < ·))(hm:∀y,y ∈ s↔y ∈ l.take i)(hi:i<l.length)(hx:l.getD i 0=x)(hk:k<=s.length)(hge:∀j,k<=j->j<s.length->x<=s.getD j 0)(hlt:k=0\/s.getD (k-1) 0<x)(hne:¬(k<s.length/\s.getD k 0=x)) :
  (s.take k++[x]++s.drop k).Pairwise (· < ·)/\∀y,y ∈ s.take k++[x]++s.drop k↔y ∈ l.take (i+1):=by
 have hs:s=s.take k++s.drop k:=(List.take_append_drop k s).symm;have ha2:=ha;rw [hs] at ha2;obtain ⟨p1,p2,p3⟩:=List.pairwise_append.1 ha2;have mono:∀a b,a<b->b<s.length->s.getD a 0<s.getD b 0:=λa b hab hb=>by
  rw [BY 0 aA,BY 0 hb];exact List.pairwise_iff_getElem.1 ha a b aA hb hab
 have lo:∀y ∈ s.take k,y<x:=λy hy=>by
  obtain ⟨j,hj,e⟩:=List.mem_take_iff_getElem.1 hy;have hj2:j<s.length:=aA
  rcases hlt with rfl | hlt
  ·omega
  ·by_cases q:j=k-1
   ·rw [<-e,<-BY 0 hj2,q];exact hlt
   ·have:=mono j (k-1) aA aA
    rw [<-e,<-BY 0 hj2];omega
 have hi2:∀y ∈ s.drop k,x<y:=λy hy=>by
  obtain ⟨j,hj,e⟩:=List.mem_drop_iff_getElem.1 hy;have hkl:k<s.length:=aA
  have h0:=hge k (Nat.le_refl _) hkl;have h1:s.getD k 0≠x:=λe=>hne ⟨hkl,e⟩;by_cases q:j=0
  ·subst q
   have:s.getD k 0=y:=by rw [BY 0 hkl,<-e];simp
   omega
  ·have h2:=mono k (k+j) aA aA
   have:s.getD (k+j) 0=y:=by rw [BY 0 aA,<-e]
   omega
 refine ⟨List.pairwise_append.2 ⟨List.pairwise_append.2 ⟨p1,List.pairwise_singleton ..,λa h b hb=>by rw [List.mem_singleton.1 hb];exact lo a h⟩,p2,λa h b hb=>?_⟩,λy=>?_⟩
 ·rcases List.mem_append.1 h with h | h
  ·exact p3 a h b hb
  ·rw [List.mem_singleton.1 h];exact hi2 b hb
 ·have e:y ∈ s↔y ∈ s.take k\/y ∈ s.drop k:=by rw [<-List.mem_append,<-hs]
  rw [CK 0 hi,hx];simp only [List.mem_append,List.mem_singleton,<-hm y,e];constructor
  ·rintro ((h | h) | h)
   ·exact .inl (.inl h)
   ·exact .inr h
   ·exact .inl (.inr h)
  ·rintro ((h | h) | h)
   ·exact .inl (.inl h)
   ·exact .inr h
   ·exact .inl (.inr h)
theorem ins_had{s l:List Int}{x:Int}{k i:Nat}(hm:∀y,y ∈ s↔y ∈ l.take i)(hi:i<l.length)(hx:l.getD i 0=x)(h:k<s.length/\s.getD k 0=x):∀y,y ∈ s↔y ∈ l.take (i+1):=λy=>by
 rw [CK 0 hi,hx,List.mem_append,List.mem_singleton,<-hm y];exact ⟨.inl,λq=>q.elim id λe=>by rw [e,<-h.2];exact CV h.1⟩
theorem ge_next{s:List Int}{x:Int}{k:Nat}(h:∀j,k<=j->j<s.length->x<=s.getD j 0)(hk:0<k)(hx:x<=s.getD ((k:Int)-1).toNat 0):∀j,k-1<=j->j<s.length->x<=s.getD j 0:=λj h1 h2=>by
 by_cases q:j=k-1
 ·rw [show ((k:Int)-1).toNat=k-1 by omega] at hx;rw [q];exact hx
 ·exact h j aA h2
theorem AAn(l:List Int):(FJ l).length<=l.length:=by rw [MV];exact AAX _ _
end
end Go.Ns
namespace Go.Ns
open Go.Conc
section
variable {d m:Int} {gs:List Good} {ms:List AA} {cs:List AF}
theorem AAo(b:An d m gs ms cs){al:List PS}(e:IV al=Bw m gs ms cs):SG d m gs ms cs=(al.length:Int)/\al.length=(AU d gs ms cs m).length/\al.length=(Bw m gs ms cs).length/\al.length<=34058880:=by
 have h1:al.length=(Bw m gs ms cs).length:=by rw [<-e,Fp]
 have h2:=SP b;have h3:=J5 b;refine ⟨?_,aA,h1,aA⟩;unfold SG;rw [if_pos (Ig b)];omega
end
end Go.Ns
namespace Go.Ns
open Go.Conc
section
variable {d m:Int} {gs:List Good} {ms:List AA} {cs:List AF} {f y l:List Int}
end
end Go.Ns
namespace Go.Ns
open Go.Conc
section
variable {d m:Int} {gs:List Good} {ms:List AA} {cs:List AF} {f y l:List Int}
end
end Go.Ns
namespace Go.Ns
open Go.Conc
theorem Qa(f:Nat->Int):∀(k:Nat)(b:Int),(D1 f k b).getD 0=(((List.range k).filter λi=>decide (f i=b)).length:Int)
 | 0,b=>by simp [D1]
 | k+1,b=>by
  rw [List.range_succ,List.filter_append,List.length_append];unfold D1;by_cases e:b=f k
  ·rw [if_pos e,Qa f k (f k),<-e];simp [e]
  ·rw [if_neg e,Qa f k b,List.filter_cons,if_neg (by simpa using λq=>e q.symm)];simp
theorem T3(f:Nat->Int):∀(n:Nat)(b:Int),(D1 f n b).getD 0<=F4 f n
 | 0,b=>by simp [D1,F4]
 | k+1,b=>by
  have ih:=T3 f k b;by_cases e:b=f k
  ·subst e;unfold F4;omega
  ·have:D1 f (k+1) b=D1 f k b:=by
    show (if b=f k then _ else _)=_;rw [if_neg e]
   rw [this];unfold F4;omega
theorem Vf{U:Type}(z:U)(p:U->Bool)(l:List U):(l.filter p).length=((List.range l.length).filter λi=>p (l.getD i z)).length:=by
 have e:l=(List.range l.length).map λi=>l.getD i z:=by
  refine List.ext_getElem aD λi h1 h2=>?_;simp [List.getD_eq_getElem?_getD,h1]
 conv=>lhs;rw [e]
 rw [List.filter_map,List.length_map];rfl
section
variable {d m:Int} {gs:List Good} {ms:List AA} {cs:List AF}
end
end Go.Ns
namespace Go.Ns
open Go.Conc
def Cd(ms:List AA)(i:Nat)(lo hi:Int):List AA:=ms.set i { ms.getD i AA.z with low:=lo,high:=hi }
theorem RX(ms:List AA)(i:Nat)(lo hi:Int):(Cd ms i lo hi).length=ms.length:=by unfold Cd;rw [List.length_set]
theorem SR{ms:List AA}{i:Nat}{lo hi:Int}(h:i<ms.length):(Cd ms i lo hi).getD i AA.z={ ms.getD i AA.z with low:=lo,high:=hi }:=by
 unfold Cd;rw [List.getD_eq_getElem?_getD,List.getElem?_set_self h];rfl
def Bs(ms:List AA)(mv xl xh:Int):List AA:=Cd ms mv.toNat (max (ms.getD mv.toNat AA.z).low xl) (min (ms.getD mv.toNat AA.z).high xh)
def BG(d m:Int)(gs:List Good)(ms:List AA)(cs:List AF)(mv xl xh:Int):Int:=
 A4 (AJ d m gs ms cs) (if 0<=mv/\mv<=(ms.length:Int)-1 then (if (0<=xl/\xl<=xh)/\xh<=99 then (if min (ms.getD mv.toNat AA.z).high xh<max (ms.getD mv.toNat AA.z).low xl then 9 else AH d m gs (Bs ms mv xl xh) cs) else 1) else 6)
section
variable {d m:Int} {gs:List Good} {ms:List AA} {cs:List AF} {mv xl xh:Int}
theorem XT(h:¬AJ d m gs ms cs=0):BG d m gs ms cs mv xl xh=AJ d m gs ms cs:=N3 h
theorem XU(h0:AJ d m gs ms cs=0)(h1:¬(0<=mv/\mv<=(ms.length:Int)-1)):BG d m gs ms cs mv xl xh=6:=(EZ h0).trans (if_neg h1)
theorem XV(h0:AJ d m gs ms cs=0)(h1:0<=mv/\mv<=(ms.length:Int)-1)(h2:¬((0<=xl/\xl<=xh)/\xh<=99)):BG d m gs ms cs mv xl xh=1:=(EZ h0).trans ((if_pos h1).trans (if_neg h2))
theorem XW(h0:AJ d m gs ms cs=0)(h1:0<=mv/\mv<=(ms.length:Int)-1)(h2:(0<=xl/\xl<=xh)/\xh<=99)(h3:min (ms.getD mv.toNat AA.z).high xh<max (ms.getD mv.toNat AA.z).low xl):BG d m gs ms cs mv xl xh=9:=
 (EZ h0).trans ((if_pos h1).trans ((if_pos h2).trans (if_pos h3)))
theorem Ks(h0:AJ d m gs ms cs=0)(h1:0<=mv/\mv<=(ms.length:Int)-1)(h2:(0<=xl/\xl<=xh)/\xh<=99)(h3:¬min (ms.getD mv.toNat AA.z).high xh<max (ms.getD mv.toNat AA.z).low xl):BG d m gs ms cs mv xl xh=AH d m gs (Bs ms mv xl xh) cs:=
 (EZ h0).trans ((if_pos h1).trans ((if_pos h2).trans (if_neg h3)))
theorem G2(h:¬AJ d m gs ms cs=0):¬BG d m gs ms cs mv xl xh=0:=by rw [XT h];exact h
theorem G3(h0:AJ d m gs ms cs=0)(h1:¬(0<=mv/\mv<=(ms.length:Int)-1)):¬BG d m gs ms cs mv xl xh=0:=by rw [XU h0 h1];decide
theorem G4(h0:AJ d m gs ms cs=0)(h1:0<=mv/\mv<=(ms.length:Int)-1)(h2:¬((0<=xl/\xl<=xh)/\xh<=99)):¬BG d m gs ms cs mv xl xh=0:=by rw [XV h0 h1 h2];decide
theorem G5(h0:AJ d m gs ms cs=0)(h1:0<=mv/\mv<=(ms.length:Int)-1)(h2:(0<=xl/\xl<=xh)/\xh<=99)(h3:min (ms.getD mv.toNat AA.z).high xh<max (ms.getD mv.toNat AA.z).low xl):¬BG d m gs ms cs mv xl xh=0:=by rw [XW h0 h1 h2 h3];decide
theorem XX(ms:List AA)(mv xl xh:Int):(Bs ms mv xl xh).length=ms.length:=RX ..
theorem Vg(h1:0<=mv/\mv<(ms.length:Int)):((Bs ms mv xl xh).getD mv.toNat AA.z).low=max (ms.getD mv.toNat AA.z).low xl:=by unfold Bs;rw [SR aA]
theorem SS(h1:0<=mv/\mv<(ms.length:Int)):((Bs ms mv xl xh).getD mv.toNat AA.z).high=min (ms.getD mv.toNat AA.z).high xh:=by unfold Bs;rw [SR aA]
end
end Go.Ns
namespace Go.Ns
open Go.Conc
def chk7:Bool:=(List.range 7).all λn=>(List.range (2 ^ n)).all λ(x:Nat)=>(List.range (2 ^ n)).all λ(y:Nat)=> !(JL (A3 (x:Int) n)==JL (A3 (y:Int) n)) || A3 (x:Int) n==A3 (y:Int) n
theorem AAp:chk7=true:=aB
def I0(n:Nat)(x:List Int):Prop:=∃mask:Nat,mask<2 ^ n/\x=A3 (mask:Int) n
theorem key_inj{n:Nat}(hn:n<=6){x y:List Int}(hx:I0 n x)(hy:I0 n y)(e:JL x=JL y):x=y:=by
 obtain ⟨a,ha,rfl⟩:=hx;obtain ⟨b,hb,rfl⟩:=hy;have h:=AAp;unfold chk7 at h;rw [List.all_eq_true] at h;have h2:=List.all_eq_true.1 (List.all_eq_true.1 (h n (List.mem_range.2 aA)) a (List.mem_range.2 ha)) b (List.mem_range.2 hb);rw [Bool.or_eq_true] at h2;rcases h2 with h2 | h2
 ·rw [e] at h2;simp at h2
 ·exact eq_of_beq h2
theorem AAq{n:Nat}(hn:n<=6){x y:List Int}(hx:I0 n x)(hy:I0 n y):Ek x y=decide (JL x<JL y):=by
 obtain ⟨a,ha,rfl⟩:=hx;obtain ⟨b,hb,rfl⟩:=hy;exact AAZ hn ha hb
def B5(n:Nat):List Int:=(List.range n).map λ(i:Nat)=>(i:Int)
theorem Vh(n:Nat):B5 (n+1)=B5 n++[(n:Int)]:=FH _ _
theorem XY(n:Nat):(B5 n).Pairwise (· < ·):=List.pairwise_map.2 (List.pairwise_lt_range.imp λq=>aA)
theorem Qb{n:Nat}(hn:n<=6){x:List Int}(h:x.Sublist (B5 n)):I0 n x:=by
 obtain ⟨mask,hm,hb⟩:=ZW hn λi=>decide ((i:Int) ∈ x);refine ⟨mask,hm,PB ((XY n).sublist h) VT λy=>?_⟩;constructor
 ·intro hy;obtain ⟨i,hi,rfl⟩:=List.mem_map.1 (h.mem hy);have hi:=List.mem_range.1 hi;exact Hx.2 ⟨hi,by rw [hb i hi];exact decide_eq_true hy⟩
 ·intro hy;obtain ⟨k,rfl,hk,hbk⟩:=LM hy;rw [hb k hk] at hbk;exact of_decide_eq_true hbk
theorem came_sub(ms:List AA):(BS ms ms.length).Sublist (B5 ms.length):=by
 unfold BS B5;exact (List.filter_sublist).map _
def IK(G:List (List Int)):List Int:=FB (G.getD 0 []) (G.drop 1)
theorem MW(c:List Int)(G:List (List Int))(x:List Int):FB c (G++[x])=C3 x (FB c G):=by unfold FB;rw [List.foldl_append];rfl
theorem Qc{G:List (List Int)}(h:G≠[])(x:List Int):IK (G++[x])=C3 x (IK G):=by
 cases G with
 | nil=>exact absurd rfl h
 | cons c G=>show FB c (G++[x])=C3 x (FB c G);exact MW _ _ _
theorem ST{n:Nat}(hn:n<=6){G:List (List Int)}(h:G≠[])(hp:∀x ∈ G,I0 n x):IK G ∈ G/\∀x ∈ G,JL (IK G)<=JL x:=by
 cases G with
 | nil=>exact absurd rfl h
 | cons c G=>exact QI G c λx hx y hy=>AAq hn (hp x hx) (hp y hy)
theorem ZZ{n:Nat}(hn:n<=6){G G':List (List Int)}(h:G≠[])(hp:∀x ∈ G,I0 n x)(e:∀x,x ∈ G↔x ∈ G'):IK G=IK G':=by
 have h':G'≠[]:=by
  obtain ⟨x,hx⟩:=List.exists_mem_of_ne_nil _ h;exact List.ne_nil_of_mem ((e x).1 hx)
 have hp':∀x ∈ G',I0 n x:=λx hx=>hp x ((e x).2 hx);obtain ⟨a1,a2⟩:=ST hn h hp;obtain ⟨b1,b2⟩:=ST hn h' hp';exact key_inj hn (hp _ a1) (hp' _ b1) (Nat.le_antisymm (a2 _ ((e _).2 b1)) (b2 _ ((e _).1 a1)))
theorem G6{p:List Int->Bool}{C:List (List Int)}{k:Nat}(hk:k<C.length)(h:p (C.getD k [])=true):(C.take (k+1)).filter p=(C.take k).filter p++[C.getD k []]:=by
 rw [CK [] hk,List.filter_append];simp only [List.filter_cons,h,List.filter_nil,if_true]
theorem G7{p:List Int->Bool}{C:List (List Int)}{k:Nat}(hk:k<C.length)(h:p (C.getD k [])=false):(C.take (k+1)).filter p=(C.take k).filter p:=by
 rw [CK [] hk,List.filter_append];simp only [List.filter_cons,h,List.filter_nil];simp
section
variable {d m:Int} {gs:List Good} {ms:List AA} {cs:List AF}
def Qd(d m:Int)(gs:List Good)(ms:List AA)(cs:List AF)(x:List Int):Bool:= !B3 d gs ms (Cz cs x) m
theorem AAr{x:List Int}{n:Nat}(h:x.Sublist (B5 n)):x.length<=n/\∀i,i<x.length->0<=x.getD i 0/\x.getD i 0<(n:Int):=by
 refine ⟨by have:=h.length_le;simpa [B5] using this,λi hi=>?_⟩;obtain ⟨k,hk,e⟩:=List.mem_map.1 (h.mem (CV (d:=0) hi))
 have:=List.mem_range.1 hk
 rw [<-e];omega
theorem alone_ok(b:An d m gs ms cs){x:List Int}(h:x ∈ Ak (B5 cs.length)):An d m gs ms (Cz cs x)/\x.length<=4/\∀i,i<x.length->0<=x.getD i 0/\x.getD i 0<(cs.length:Int):=by
 obtain ⟨h1,h2⟩:=AAr (ES h)
 have:=b.clen
 exact ⟨b.alone h2 aA,aA,h2⟩
theorem JP{al:List PS}{cs':List AF}(b':An d m gs ms cs')(e:IV al=Bw m gs ms cs'):((al.length:Int)=0↔B3 d gs ms cs' m=false)/\(0<(al.length:Int)↔B3 d gs ms cs' m=true):=by
 have h1:al.length=(Bw m gs ms cs').length:=by rw [<-e,Fp]
 have h2:=SP b';have h3:B3 d gs ms cs' m=false↔(AU d gs ms cs' m).length=0:=by
  unfold B3;cases AU d gs ms cs' m <;> simp
 constructor
 ·rw [h3];omega
 ·rw [<-Bool.not_eq_false,h3];omega
theorem AAs(cs:List AF):Cz cs (B5 cs.length)=cs:=by
 unfold Cz B5;rw [List.map_map];refine List.ext_getElem aD λi h1 h2=>?_;simp [List.getD_eq_getElem?_getD,h2]
theorem AAt(b:An d m gs ms cs)(h:B3 d gs ms cs m=false)(h2:B3 d gs ms (Ce cs 0 cs.length) m=true):FB (B5 cs.length) ((Ak (B5 cs.length)).filter (Qd d m gs ms cs))=DV d m gs ms cs:=by
 have hcl:=b.clen;have hL:DV d m gs ms cs=IK (Dm d m gs ms cs):=by unfold DV IK;rw [if_pos ⟨Ig b,h,h2⟩]
 rw [hL];have hp:∀x ∈ B5 cs.length ::(Ak (B5 cs.length)).filter (Qd d m gs ms cs),I0 cs.length x:=λx hx=>by
  rcases List.mem_cons.1 hx with rfl | hx
  ·exact Qb aA (List.Sublist.refl _)
  ·exact Qb aA (ES (List.mem_filter.1 hx).1)
 refine ZZ (n:=cs.length) aA (G:=B5 cs.length ::(Ak (B5 cs.length)).filter (Qd d m gs ms cs)) aD hp λx=>?_;rw [Tp];constructor
 ·intro hx;obtain ⟨mask,hm,rfl⟩:=hp x hx;refine ⟨mask,hm,rfl,?_⟩;rw [<-Oc];rcases List.mem_cons.1 hx with e | hx
  ·rw [e,AAs];exact h
  ·have:=(List.mem_filter.1 hx).2
   unfold Qd at this;simpa using this
 ·rintro ⟨mask,hm,rfl,hs⟩;refine List.mem_cons_of_mem _ (List.mem_filter.2 ⟨MT ?_,?_⟩)
  ·unfold A3 B5;exact (List.filter_sublist).map _
  ·unfold Qd;rw [Oc,hs];rfl
theorem AAu(b:An d m gs ms cs){l:List Int}{t:RP}(hl:l ∈ Ak (BS ms ms.length))(h:t ∈ F6 gs ms cs l){mo:Int}(h0:0<=mo)(hm:(l.length:Int)<=mo):Ep t ∈ AU d gs ms cs mo:=by
 obtain ⟨rfl,h3,h4,h5⟩:=F7.1 h;have P:=ZY b h3 h4 hl;have I:=MU t gs.length ms.length;have hk:=λk=>(b.kind k).1;unfold D9 at h5;rw [Bool.and_eq_true,decide_eq_true_iff,decide_eq_true_iff] at h5;refine (N2 b.mlen h0).2 ⟨⟨λi hi=>(Gl.1 h3).2 i hi,λi hi=>(Hy.1 h4).2 i hi,λi hi hq=>?_,?_⟩,b.agrees_iff2.2 ⟨λi hi=>(P.fr i).1,λk hkk=>?_,λx hx=>?_⟩,?_⟩
 ·have hq2:(i:Int) ∈ t.2.2:=of_decide_eq_true hq
  have:=(P.ln _ hq2).2.2
  rw [Int.toNat_natCast] at this;exact (J4 hi).2 this
 ·rw [<-GO];have h6:=NU (l:=((List.range ms.length).filter (Ep t).lies).map λ(i:Nat)=>(i:Int)) (l1:=t.2.2)
   (List.pairwise_map.2 ((List.nodup_range.filter _).imp λq e=>q aA)) λx hx=>by
    obtain ⟨i,hi,rfl⟩:=List.mem_map.1 hx;exact of_decide_eq_true (List.mem_filter.1 hi).2
  rw [List.length_map] at h6;omega
 ·rw [<-I.stock b.up hk (by have:=(b.move' hkk).2.1;omega)];have:=h5.2 k hkk;omega
 ·obtain ⟨k,hkc,rfl⟩:=JM AF.z hx;have hg:=b.cgood' _ (CV (d:=AF.z) hkc);rw [<-I.stock b.up hk aA];exact h5.1 k hkc
 ·unfold HJ Ep;congr 1
  ·funext k;split
   ·rfl
   ·exact (B8 (by have:=P.fl;omega)).symm
  ·funext k;split
   ·rfl
   ·exact (B8 (by have:=P.yl;omega)).symm
  ·funext k;split
   ·rfl
   ·exact (decide_eq_false λe=>by have:=P.ln _ e;omega).symm
theorem AAv(b:An d m gs ms cs){x:List Int}(hx:x ∈ C5 d gs ms cs (2 ^ ms.length)):∃q:AV,(∀i,i<gs.length->(gs.getD i Good.z).low<=q.first i/\q.first i<=(gs.getD i Good.z).high)/\(∀i,i<ms.length->(ms.getD i AA.z).low<=q.many i/\q.many i<=(ms.getD i AA.z).high)/\
  (∀k,k<ms.length->q.lies k=decide ((k:Int) ∈ x))/\BA d gs.length ms cs q=true:=by
 obtain ⟨mask,hmask,rfl,hn,hh⟩:=Kn.1 hx;obtain ⟨r,hr⟩:=List.exists_mem_of_ne_nil _ hh;have hx0:∀x ∈ A3 (mask:Int) ms.length,0<=x:=λx hx=>by obtain ⟨k,rfl,_⟩:=LM hx;omega
 obtain ⟨L,ha⟩:=LL (by rw [DW];exact b.mlen) (Int.le_refl 0) hr;have hno:∀k,k<ms.length->r.lies k=false:=λk hk=>by
  cases e:r.lies k with
  | false=>rfl
  | true=>
   have h1:Aw r (k+1)=Aw r k+1:=by show Aw r k+(if r.lies k then 1 else 0)=_;rw [e];rfl
   have h2:=Hk r (i:=k+1) (n:=ms.length) aA;have h3:=L.few;rw [DW] at h3;omega
 refine ⟨⟨r.first,λk=>if DR (mask:Int) k then (ms.getD k AA.z).low else r.many k,DR (mask:Int)⟩,L.first,λi hi=>?_,λk hk=>?_,?_⟩
 ·show _<=(if DR (mask:Int) i then (ms.getD i AA.z).low else r.many i)/\(if DR (mask:Int) i then (ms.getD i AA.z).low else r.many i)<=_;by_cases e:DR (mask:Int) i=true
  ·rw [if_pos e];have:=b.few i;exact ⟨Int.le_refl _,aA⟩
  ·rw [if_neg e]
   have:=L.many i (by rw [DW];exact hi)
   rwa [HK _ _ _ hx0 hi,if_neg (λq=>e (Hx.1 q).2)] at this
 ·show DR (mask:Int) k=_;rw [Bool.eq_iff_iff,decide_eq_true_iff,Hx];exact ⟨λh=>⟨hk,h⟩,λh=>h.2⟩
 ·have hs:∀g dy,AP ms ⟨r.first,λk=>if DR (mask:Int) k then (ms.getD k AA.z).low else r.many k,DR (mask:Int)⟩ g dy=AP (Cy ms (A3 (mask:Int) ms.length)) r g dy:=λg dy=>
   Hl (DW ms _).symm (λk=>by obtain ⟨a,b,c⟩:=Oe (ms:=ms) hx0 k;exact ⟨a.symm,b.symm,c.symm⟩) (λk hk=>by
    unfold CJ;rw [hno k hk];show (if DR (mask:Int) k then (0:Int) else if DR (mask:Int) k then _ else r.many k)=_;by_cases e:DR (mask:Int) k=true
    ·rw [if_pos e]
     have:=L.many k (by rw [DW];exact hk)
     rw [HK _ _ _ hx0 hk,if_pos (Hx.2 ⟨hk,e⟩)] at this;have h1:(0:Int)<=r.many k:=this.1;have h2:r.many k<=0:=this.2;show 0=r.many k;omega
    ·rw [if_neg e,if_neg e];rfl) rfl
  exact MP ha (λj _=>by rw [hs]) (λx _=>by rw [hs])
def L0(gs:List Good)(ms:List AA)(cs:List AF)(x:List Int):Bool:= !(F6 gs ms cs x).isEmpty
theorem lied_iff(b:An d m gs ms cs){x:List Int}:x ∈ (Ak (BS ms ms.length)).filter (L0 gs ms cs)↔x ∈ C5 d gs ms cs (2 ^ ms.length):=by
 rw [List.mem_filter];constructor
 ·rintro ⟨hx,hl⟩;have hne:F6 gs ms cs x≠[]:=by
   intro e;unfold L0 at hl;rw [e] at hl;cases hl
  obtain ⟨t,ht⟩:=List.exists_mem_of_ne_nil _ hne;have hq:=AAu b hx ht (mo:=(x.length:Int)) aA (Int.le_refl _);obtain ⟨mask,hm,hb,hin⟩:=AAQ b aA hq;have e:x=A3 (mask:Int) ms.length:=PB ((QY ms _).sublist (ES hx)) VT λy=>by
   constructor
   ·intro hy;have hc:=NW ((ES hx).mem hy)
    have:=(hb y.toNat).2 ⟨aA,by
     show decide (((y.toNat:Nat):Int) ∈ t.2.2)=true;rw [Int.toNat_of_nonneg hc.1,(F7.1 ht).1];exact decide_eq_true hy⟩
    rwa [Int.toNat_of_nonneg hc.1] at this
   ·intro hy;obtain ⟨k,rfl,hk,_⟩:=LM hy
    have:=((hb k).1 hy).2
    have h2:decide ((k:Int) ∈ t.2.2)=true:=this;rw [(F7.1 ht).1] at h2;exact of_decide_eq_true h2
  rw [e];exact hin
 ·intro hx;obtain ⟨q,q1,q2,q3,q4⟩:=AAv b hx;obtain ⟨mask,hm,e,hn,_⟩:=Kn.1 hx;have hsub:x.Sublist (BS ms ms.length):=by
   rw [e];unfold A3 BS;have e2:(List.range ms.length).filter (DR (mask:Int))=((List.range ms.length).filter λi=>decide ((ms.getD i AA.z).kind=0)).filter (DR (mask:Int)):=by
    rw [List.filter_filter];refine List.filter_congr λi hi=>?_;have hi:=List.mem_range.1 hi;cases hb:DR (mask:Int) i with
    | false=>rfl
    | true=>rw [Bool.true_and];exact (decide_eq_true ((J4 hi).1 (hn i hi hb))).symm
   rw [e2];exact (List.filter_sublist).map _
  refine ⟨MT hsub,?_⟩;have hk:=λk=>(b.kind k).1;have I:IsP q ((List.range gs.length).map q.first) ((List.range ms.length).map q.many) x gs.length ms.length:=by
   refine ⟨λi hi=>?_,λi hi=>?_,λi hi=>q3 i hi⟩
   ·simp [List.getD_eq_getElem?_getD,hi]
   ·simp [List.getD_eq_getElem?_getD,hi]
  obtain ⟨a1,a2,a3⟩:=b.agrees_iff2.1 q4;have ht:((List.range gs.length).map q.first,(List.range ms.length).map q.many,x) ∈ F6 gs ms cs x:=F7.2 ⟨rfl,Gl.2 ⟨aD,λi hi=>by rw [<-I.first i hi];exact q1 i hi⟩,Hy.2 ⟨aD,λi hi=>by rw [<-I.many i hi];exact q2 i hi⟩,by
   unfold D9;rw [Bool.and_eq_true,decide_eq_true_iff,decide_eq_true_iff];refine ⟨λk hkc=>?_,λk hkk=>?_⟩
   ·have hg:=b.cgood' _ (CV (d:=AF.z) hkc);rw [I.stock b.up hk aA];exact a3 _ (CV hkc)
   ·rw [I.stock b.up hk (by have:=(b.move' hkk).2.1;omega)];have:=a2 k hkk;omega⟩
  unfold L0;cases hw:F6 gs ms cs x with
  | nil=>rw [hw] at ht;cases ht
  | cons _ _=>rfl
theorem AAw(b:An d m gs ms cs){G:List (List Int)}(e:G=(Ak (BS ms ms.length)).filter (L0 gs ms cs)):(G=[]->CA d m gs ms cs=9/\Dh d m gs ms cs=[])/\(G≠[]->CA d m gs ms cs=0/\Dh d m gs ms cs=IK G):=by
 subst e;have b0:=Ig b;have hiff:=λx=>lied_iff b (x:=x);constructor
 ·intro h
  have:C5 d gs ms cs (2 ^ ms.length)=[]:=List.eq_nil_iff_forall_not_mem.2 λx hx=>by have:=(hiff x).2 hx;rw [h] at this;cases this
  have hb:CA d m gs ms cs=9:=by rw [Hj b0,this];rfl
  exact ⟨hb,by unfold Dh;rw [if_neg aA]⟩
 ·intro h;have hp:∀x ∈ (Ak (BS ms ms.length)).filter (L0 gs ms cs),I0 ms.length x:=λx hx=>Qb b.mlen ((ES (List.mem_filter.1 hx).1).trans (came_sub ms));have hne:C5 d gs ms cs (2 ^ ms.length)≠[]:=by
   obtain ⟨x,hx⟩:=List.exists_mem_of_ne_nil _ h;exact List.ne_nil_of_mem ((hiff x).1 hx)
  have hb:CA d m gs ms cs=0:=by rw [Hj b0,if_neg λq=>hne (List.eq_nil_of_length_eq_zero q)]
  refine ⟨hb,?_⟩;unfold Dh;rw [if_pos hb];exact (ZZ b.mlen h hp hiff).symm
def HM(l:List Int)(b:Int):Nat:=(l.filter λx=>decide (x=b)).length
def Gm(l s:List Int):Nat->Int
 | 0=>0
 | k+1=>max (Gm l s k) (HM l (s.getD k 0):Int)
def NY(l:List Int):Int:=Gm l (FJ l) (FJ l).length
theorem SU(l s:List Int):∀k i,i<k->(HM l (s.getD i 0):Int)<=Gm l s k
 | k+1,i,hi=>by
  unfold Gm;by_cases e:i=k
  ·subst e;omega
  ·have:=SU l s k i aA;omega
theorem SV(l s:List Int):∀k,Gm l s k=0\/∃i,i<k/\Gm l s k=(HM l (s.getD i 0):Int)
 | 0=>.inl rfl
 | k+1=>by
  unfold Gm;by_cases q:(HM l (s.getD k 0):Int)<=Gm l s k
  ·rw [Int.max_eq_left q];rcases SV l s k with e | ⟨i,hi,e⟩
   ·exact .inl e
   ·exact .inr ⟨i,aA,e⟩
  ·rw [Int.max_eq_right aA];exact .inr ⟨k,aA,rfl⟩
theorem Hm(l s:List Int):∀k,0<=Gm l s k/\Gm l s k<=(l.length:Int)
 | 0=>⟨Int.le_refl _,by unfold Gm;omega⟩
 | k+1=>by
  have h:=Hm l s k;have h2:=List.length_filter_le (λx=>decide (x=s.getD k 0)) l;unfold Gm HM;omega
theorem T4(f:Nat->Int):∀n,(n=0/\F4 f n=0)\/∃b,F4 f n=(D1 f n b).getD 0
 | 0=>.inl ⟨rfl,rfl⟩
 | k+1=>by
  right;have hc:∀b,(D1 f k b).getD 0<=(D1 f (k+1) b).getD 0:=λb=>by
   rw [Qa,Qa,List.range_succ,List.filter_append,List.length_append];omega
  rcases T4 f k with ⟨h0,h1⟩ | ⟨b,hb⟩
  ·exact ⟨f k,by
    have h2:=(HH f (k+1) (f k)).1;show max (F4 f k) ((D1 f (k+1) (f k)).getD 0)=_;omega⟩
  ·have h1:=T3 f (k+1) b;have h2:=T3 f (k+1) (f k);have h3:F4 f (k+1)=max (F4 f k) ((D1 f (k+1) (f k)).getD 0):=rfl;have h4:=hc b;by_cases q:(D1 f (k+1) (f k)).getD 0<=F4 f k
   ·exact ⟨b,aA⟩
   ·exact ⟨f k,aA⟩
theorem Za(b:An d m gs ms cs){k:Nat}(hk:k<gs.length):FD d m gs ms cs k=NY ((Bw m gs ms cs).map (E8 ms (k:Int) d)):=by
 have hcnt:∀z,(D1 (λi=>(AP ms ((AU d gs ms cs m).getD ((i:Int)).toNat AV.zero) (k:Int) d).1) (AU d gs ms cs m).length z).getD 0=(HM ((Bw m gs ms cs).map (E8 ms (k:Int) d)) z:Int):=λz=>by
  rw [Qa];have e1:((List.range (AU d gs ms cs m).length).filter λ(i:Nat)=>decide ((AP ms ((AU d gs ms cs m).getD ((i:Int)).toNat AV.zero) (k:Int) d).1=z)).length=((AU d gs ms cs m).filter λp=>decide ((AP ms p (k:Int) d).1=z)).length:=by
   rw [Vf AV.zero (λp=>decide ((AP ms p (k:Int) d).1=z))];rfl
  rw [e1];unfold HM;rw [List.filter_map,List.length_map,<-((QZ b).filter λp=>decide ((AP ms p (k:Int) d).1=z)).length_eq,List.filter_map,List.length_map];congr 2;refine List.filter_congr λt ht=>?_
  have:=XQ b (g:=(k:Int)) aA d t (Kr b ht) (MU t _ _)
  show decide ((AP ms (Ep t) (k:Int) d).1=z)=decide (E8 ms (k:Int) d t=z);rw [<-this];rfl
 unfold FD;generalize hl:(Bw m gs ms cs).map (E8 ms (k:Int) d)=l at hcnt ⊢;generalize (λ(i:Nat)=>(AP ms ((AU d gs ms cs m).getD ((i:Int)).toNat AV.zero) (k:Int) d).1)=f at hcnt ⊢;generalize (AU d gs ms cs m).length=n at hcnt ⊢;have pos:∀z,0<HM l z->∃i,i<(FJ l).length/\(FJ l).getD i 0=z:=λz hz=>by
  obtain ⟨x,hx⟩:=List.exists_mem_of_ne_nil _ (List.length_pos_iff.1 hz);obtain ⟨h1,h2⟩:=List.mem_filter.1 hx
  have:=of_decide_eq_true h2
  subst this;exact JM 0 (SQ.2 h1)
 unfold NY;refine Int.le_antisymm ?_ ?_
 ·rcases T4 f n with ⟨_,e⟩ | ⟨z,e⟩
  ·rw [e];exact (Hm l _ _).1
  ·rw [e,hcnt];by_cases hz:0<HM l z
   ·obtain ⟨i,hi,rfl⟩:=pos z hz;exact SU l _ _ i hi
   ·have:=(Hm l (FJ l) (FJ l).length).1;omega
 ·rcases SV l (FJ l) (FJ l).length with e | ⟨i,hi,e⟩
  ·rw [e];rcases T4 f n with ⟨_,e⟩ | ⟨z,e⟩
   ·omega
   ·rw [e];exact (HH f n z).1
  ·rw [e,<-hcnt];exact T3 f n _
end
end Go.Ns
namespace Go.Ns
open Go.Conc
section
variable {d m:Int} {gs:List Good} {ms:List AA} {cs:List AF} {fl:List Sl} {al:List PS} {k:Nat} {bl:List Int}
def Fq(d m:Int)(gs:List Good)(ms:List AA)(cs:List AF)(k:Nat):List Int:=FB (B5 cs.length) (((Ak (B5 cs.length)).take k).filter (Qd d m gs ms cs))
theorem AAx(e:A1 fl=Ak (B5 cs.length))(hk:k<fl.length)(hb:bl=Fq d m gs ms cs k)(b':An d m gs ms (Cz cs (fl.getD k Sl.z).2))(e2:IV al=Bw m gs ms (Cz cs (fl.getD k Sl.z).2))(h:(al.length:Int)=0)(hf:Ek (fl.getD k Sl.z).2 bl=true) :
  (fl.getD k Sl.z).2=Fq d m gs ms cs (k+1):=by
 have hk':k<(Ak (B5 cs.length)).length:=by rw [<-e,Bf];exact hk
 have e3:(Ak (B5 cs.length)).getD k []=(fl.getD k Sl.z).2:=by rw [<-e];exact CE hk
 have h1:Qd d m gs ms cs (fl.getD k Sl.z).2=true:=by unfold Qd;rw [((JP b' e2).1.1 h)];rfl
 unfold Fq at hb ⊢;rw [G6 hk' (by rw [e3];exact h1),MW,e3,<-hb];unfold C3;rw [if_pos hf]
theorem XZ(e:A1 fl=Ak (B5 cs.length))(hk:k<fl.length)(hb:bl=Fq d m gs ms cs k)(b':An d m gs ms (Cz cs (fl.getD k Sl.z).2))(e2:IV al=Bw m gs ms (Cz cs (fl.getD k Sl.z).2))(h:¬(al.length:Int)=0) :
  bl=Fq d m gs ms cs (k+1):=by
 have hk':k<(Ak (B5 cs.length)).length:=by rw [<-e,Bf];exact hk
 have e3:(Ak (B5 cs.length)).getD k []=(fl.getD k Sl.z).2:=by rw [<-e];exact CE hk
 have h1:Qd d m gs ms cs (fl.getD k Sl.z).2=false:=by unfold Qd;rw [((JP b' e2).2.1 aA)];rfl
 unfold Fq at hb ⊢;rw [G7 hk' (by rw [e3];exact h1),<-hb]
theorem Xa(e:A1 fl=Ak (B5 cs.length))(hk:k<fl.length)(hb:bl=Fq d m gs ms cs k)(hf:Ek (fl.getD k Sl.z).2 bl=false) :
  bl=Fq d m gs ms cs (k+1):=by
 have hk':k<(Ak (B5 cs.length)).length:=by rw [<-e,Bf];exact hk
 have e3:(Ak (B5 cs.length)).getD k []=(fl.getD k Sl.z).2:=by rw [<-e];exact CE hk
 unfold Fq at hb ⊢;cases q:Qd d m gs ms cs ((Ak (B5 cs.length)).getD k []) with
 | false=>rw [G7 hk' q,<-hb]
 | true=>rw [G6 hk' q,MW,e3,<-hb];unfold C3;rw [if_neg (by rw [hf];decide)]
theorem Vi(b:An d m gs ms cs)(e:A1 fl=Ak (B5 cs.length))(hk:fl.length<=k)(hb:bl=Fq d m gs ms cs k)(h:B3 d gs ms cs m=false)(h2:B3 d gs ms [] m=true):DV d m gs ms cs=bl:=by
 rw [<-AAt b h (by rw [J2];exact h2),hb];unfold Fq;rw [List.take_of_length_le (by rw [<-e,Bf];exact hk)]
theorem alone_at(b:An d m gs ms cs)(e:A1 fl=Ak (B5 cs.length))(hk:k<fl.length):An d m gs ms (Cz cs (fl.getD k Sl.z).2)/\(fl.getD k Sl.z).2.length<=4/\∀i,i<(fl.getD k Sl.z).2.length->0<=(fl.getD k Sl.z).2.getD i 0/\(fl.getD k Sl.z).2.getD i 0<(cs.length:Int):=alone_ok b (Tz e hk)
theorem MX(b:An d m gs ms cs):An d m gs ms (Cz cs []):=b.alone (l:=[]) aD aD
theorem Qe(n:Nat):(B5 n).length=n:=by simp [B5]
def C0(gs:List Good)(ms:List AA)(cs:List AF)(k:Nat):List (List Int):=((Ak (BS ms ms.length)).take k).filter (L0 gs ms cs)
theorem SW{x:List Int}(e2:IV al=F6 gs ms cs x):L0 gs ms cs x=decide (0<(al.length:Int)):=by
 unfold L0;rw [<-e2,<-Fp al];cases IV al with
 | nil=>rfl
 | cons a l=>rw [decide_eq_true (by simp only [List.length_cons];omega)];rfl
theorem NZ(e:A1 fl=Ak (BS ms ms.length))(hk:k<fl.length)(hb:bl=IK (C0 gs ms cs k))(e2:IV al=F6 gs ms cs (fl.getD k Sl.z).2)(h:0<(al.length:Int))(hf:¬0<(C0 gs ms cs k).length\/Ek (fl.getD k Sl.z).2 bl=true) :
  (fl.getD k Sl.z).2=IK (C0 gs ms cs (k+1))/\0<(C0 gs ms cs (k+1)).length:=by
 have hk':k<(Ak (BS ms ms.length)).length:=by rw [<-e,Bf];exact hk
 have e3:(Ak (BS ms ms.length)).getD k []=(fl.getD k Sl.z).2:=by rw [<-e];exact CE hk
 have e4:C0 gs ms cs (k+1)=C0 gs ms cs k++[(fl.getD k Sl.z).2]:=by
  unfold C0;rw [G6 hk' (by rw [e3,SW e2];exact decide_eq_true h),e3]
 rw [e4];refine ⟨?_,aD⟩;rcases hf with hf | hf
 ·rw [List.eq_nil_of_length_eq_zero (aA:(C0 gs ms cs k).length=0)];rfl
 ·by_cases q:C0 gs ms cs k=[]
  ·rw [q];rfl
  ·rw [Qc q,<-hb];unfold C3;rw [if_pos hf]
theorem LO(e:A1 fl=Ak (BS ms ms.length))(hk:k<fl.length)(e2:IV al=F6 gs ms cs (fl.getD k Sl.z).2)(h:¬0<(al.length:Int)):C0 gs ms cs (k+1)=C0 gs ms cs k:=by
 have hk':k<(Ak (BS ms ms.length)).length:=by rw [<-e,Bf];exact hk
 have e3:(Ak (BS ms ms.length)).getD k []=(fl.getD k Sl.z).2:=by rw [<-e];exact CE hk
 unfold C0;exact G7 hk' (by rw [e3,SW e2];exact decide_eq_false h)
theorem SX(e:A1 fl=Ak (BS ms ms.length))(hk:k<fl.length)(hb:bl=IK (C0 gs ms cs k))(hp:0<(C0 gs ms cs k).length)(hf:Ek (fl.getD k Sl.z).2 bl=false) :
  bl=IK (C0 gs ms cs (k+1))/\0<(C0 gs ms cs (k+1)).length:=by
 have hk':k<(Ak (BS ms ms.length)).length:=by rw [<-e,Bf];exact hk
 have e3:(Ak (BS ms ms.length)).getD k []=(fl.getD k Sl.z).2:=by rw [<-e];exact CE hk
 cases q:L0 gs ms cs ((Ak (BS ms ms.length)).getD k []) with
 | false=>
  have e4:C0 gs ms cs (k+1)=C0 gs ms cs k:=by unfold C0;exact G7 hk' q
  rw [e4];exact ⟨hb,hp⟩
 | true=>
  have e4:C0 gs ms cs (k+1)=C0 gs ms cs k++[(fl.getD k Sl.z).2]:=by unfold C0;rw [G6 hk' q,e3]
  rw [e4];refine ⟨?_,aD⟩;rw [Qc (List.ne_nil_of_length_pos hp),<-hb];unfold C3;rw [if_neg (by rw [hf];decide)]
theorem AAy(b:An d m gs ms cs)(e:A1 fl=Ak (BS ms ms.length))(hk:fl.length<=k)(hb:bl=IK (C0 gs ms cs k)) :
  (¬0<(C0 gs ms cs k).length->CA d m gs ms cs=9/\Dh d m gs ms cs=[])/\(0<(C0 gs ms cs k).length->CA d m gs ms cs=0/\Dh d m gs ms cs=bl):=by
 have e2:C0 gs ms cs k=(Ak (BS ms ms.length)).filter (L0 gs ms cs):=by unfold C0;rw [List.take_of_length_le (by rw [<-e,Bf];exact hk)]
 obtain ⟨h1,h2⟩:=AAw b e2;exact ⟨λq=>h1 (List.eq_nil_of_length_eq_zero aA),λq=>by rw [hb];exact h2 (List.ne_nil_of_length_pos q)⟩
theorem cntL_t{l:List Int}{j:Nat}{z:Int}(hj:j<l.length)(h:l.getD j 0=z):(HM (l.take (j+1)) z:Int)=(HM (l.take j) z:Int)+1:=by
 unfold HM;rw [CK 0 hj,List.filter_append,List.length_append];simp only [List.filter_cons,h,List.filter_nil];simp
theorem cntL_f{l:List Int}{j:Nat}{z:Int}(hj:j<l.length)(h:¬l.getD j 0=z):(HM (l.take (j+1)) z:Int)=(HM (l.take j) z:Int):=by
 unfold HM;rw [CK 0 hj,List.filter_append,List.length_append];simp only [List.filter_cons,decide_eq_false h,List.filter_nil];simp
theorem cntL_le(l:List Int)(j:Nat)(z:Int):0<=(HM (l.take j) z:Int)/\(HM (l.take j) z:Int)<=(j:Int):=by
 unfold HM;have h1:=List.length_filter_le (λx=>decide (x=z)) (l.take j);have h2:=List.length_take_le j l;omega
def GE(c:Int)(v:Value):Value:=if c=0 then v else .slice none 0 0
theorem GR{c:Int}{v:Value}(h:c=0):GE c v=v:=if_pos h
theorem D5{c:Int}{v:Value}(h:¬c=0):GE c v=.slice none 0 0:=if_neg h
theorem HX{U:Type}{h:GH}{c:Int}{v:Value}{n:Nat}{enc:U->Array Value}{xs:List U}(x:AE h v n enc xs):AE h (GE c v) n enc (DU c xs):=by
 by_cases q:c=0
 ·rw [GR q,JN q];exact x
 ·rw [D5 q,Cl q];exact AE.nil _ _ _
theorem AAz:Af d m gs ms cs []=AH d m gs ms cs:=by
 by_cases h0:AJ d m gs ms cs=0
 ·rw [AAR (EQ h0) (λx hx=>by cases hx)];by_cases h:(AU d gs ms cs m).length=0
  ·rw [if_pos h,QO h0 (ZN (List.eq_nil_of_length_eq_zero h))]
  ·rw [if_neg h,Em h0 (ZM λe=>h (by rw [e];rfl))]
 ·rw [QN h0];unfold Af;rw [if_pos h0]
theorem AA0{i n:Int}(h:¬(if decide (0<=i/\i<=n-1)=true then (0:Int) else 6)=0):¬(0<=i/\i<=n-1):=λq=>h (by rw [if_pos (decide_eq_true q)])
theorem there_6{i n:Int}(h:¬(0<=i/\i<=n-1)):(if decide (0<=i/\i<=n-1)=true then (0:Int) else 6)=6:=if_neg (by rw [decide_eq_true_iff];exact h)
theorem there_ok{i n:Int}(h:(if decide (0<=i/\i<=n-1)=true then (0:Int) else 6)=0):0<=i/\i<=n-1:=by
 by_cases q:0<=i/\i<=n-1
 ·exact q
 ·rw [if_neg (by rw [decide_eq_true_iff];exact q)] at h;exact absurd h aC
end
end Go.Ns
namespace Go.Ns
open Go.Conc
section
variable {P:Program} {Post:Value->World->Prop}
def Zb(P:Program)(Post:Value->World->Prop):Wk P:=⟨true,EU P Post,Lf⟩
theorem T5:QA (Zb P Post):=⟨Post,rfl⟩
theorem AA1{f:FuncId}{fn:Func}{c:Code}{args:Array Value}{h:GH}{R:Value->GH->Prop}(hf:P.funcs[f]? =some fn)(hb:fn.body=some c)(hsz:args.size<=fn.ntmps)(hin:P.inits.idxOf? f=none)(hpost:∀v h',R v h'->∀w,ET w h'->Post v w)
  (x:Tr ⟨Zb P Post,f,none,fn.ntmps⟩ c (λi=>args.getD i undef) [] h (λe O ds h'=>(e=.normal\/e=.ret)/\GZ P fn O R ds h')):EU P Post (G (Frame.enter P f args .normal) []) h:=by
 have e0:Frame.enter P f args .normal=C2 (Frame.enter P f args .normal) (args++Array.replicate (fn.ntmps-args.size) undef) [] [.code c]:=by
  simp [Frame.enter,C2,hf,hb]
 rw [e0];let L:Lv:=λj t ds h'=>(j=none\/j=some .ret)/\∃O,By t fn.ntmps O/\GZ P fn O R ds h';have fin:∀O ds h' t k,By t fn.ntmps O->GZ P fn O R ds h'->(Zb P Post).K (G (EH (Frame.enter P f args .normal) t ds k) []) h':=by
  intro O ds h' t k hs ho;refine OP (W:=Zb P Post) (R:=R) hf (b:=Frame.enter P f args .normal) rfl (λt k v h h' hr hrun=>?_) ds h' t k hs ho;refine WP rfl λw fw=>?_;obtain ⟨w',es,r1,r2⟩:=hrun w fw;refine ⟨v,w',seen P f es++ #[],h',?_,r2.sub (es':=seen P f es++ #[]) λe he=>?_,hpost v h' hr w' r2.fits⟩
  ·rw [L9];unfold unwind;have hfn:(EH (Frame.enter P f args .normal) t [] k).fn=f:=rfl;have hk:(EH (Frame.enter P f args .normal) t [] k).kind=.normal:=rfl;have hm:(EH (Frame.enter P f args .normal) t [] k).mode=.returning:=rfl;have hd:(EH (Frame.enter P f args .normal) t [] k).defers=[]:=rfl;have ht:(EH (Frame.enter P f args .normal) t [] k).tmps=t:=rfl;simp only [hd,hm,hfn,hf,ht,r1,GStep.after,doReturn,hk,hin];rfl
  ·rw [Array.append_empty] at he;exact mem_seen he
 refine x (Frame.enter P f args .normal) [] [] L _ rfl rfl ⟨?_,?_,?_⟩ ⟨by simp;omega,λi=>?_⟩ ?_
 ·rintro t ds h' ⟨_,O,hs,ho⟩;exact Wk.go (EH (Frame.enter P f args .normal) t ds []) (λw=>by rw [A9];simp [stepG.exec,C2,EH,G,Frame.enter]) (fin O ds h' t [] hs ho)
 ·rintro t ds h' k ⟨_,O,hs,ho⟩;exact Wk.go (EH (Frame.enter P f args .normal) t ds (.code .ret ::k)) (λw=>by rw [A9];simp [stepG.exec,C2,EH,G,Frame.enter]) (fin O ds h' t _ hs ho)
 ·rintro id t ds h' k _ ⟨h1 | h1,_⟩ <;> cases h1
 ·by_cases hi:i<args.size
  ·simp [Array.getD_eq_getD_getElem?,Array.getElem?_append_left hi]
  ·simp only [Array.getD_eq_getD_getElem?];rw [Array.getElem?_append_right aA,Array.getElem?_eq_none (show args.size<=i by omega),Array.getElem?_replicate];split <;> rfl
 ·rintro e O ds h' ⟨he,ho⟩ t' ht';rcases he with rfl | rfl
  ·exact Wk.go (EH (Frame.enter P f args .normal) t' ds []) (λw=>by rw [A9];simp [stepG.exec,C2,EH,G,Frame.enter]) (fin O ds h' t' [] ht' ho)
  ·exact ⟨.inr rfl,O,ht',ho⟩
def GH.of(W:World):GH:=λb=>(W.heap[b]?).map λo=>(false,o)
theorem GH.of_some{W:World}{b:Nat}{o:Obj}(h:W.heap[b]? =some o):GH.of W b=some (false,o):=by unfold GH.of;rw [h];rfl
theorem fits_of(W:World):ET W (GH.of W):=λb p o h=>by
 unfold GH.of at h;cases e:W.heap[b]? with
 | none=>rw [e] at h;cases h
 | some x=>rw [e] at h;cases h;rfl
theorem kept_of{W w:World}{h:GH}(l:(GH.of W).Le h)(f:ET w h){b:Nat}{o:Obj}(hb:W.heap[b]? =some o):w.heap[b]? =some o:=f b _ _ (l.keep (GH.of_some hb) rfl)
theorem Xb{g:Goroutine}{W:World}(hg:EU P Post g (GH.of W)):Bu P (Ja Post W.os W.output) (solo g W) #[]:=by
 have hno:∀k a,touchAt (#[]:Trace) k=some a->False:=λk a h=>by
  obtain ⟨op,h1,_⟩:=touch_of h;simp at h1
 refine hg #[g] W none (λ_=>0) #[] ⟨rfl,?_,fits_of W,?_,?_,λk a b hk=>(hno k a hk).elim,?_,λk a hk=>(hno k a hk).elim,λb p o k a _ _ hk=>(hno k a hk).elim⟩
 ·intro j x hj hx;rw [Array.getElem?_eq_none (by simp;omega)] at hx;cases hx
 ·intro op hop;simp at hop
 ·rintro said ⟨i,j,hij,⟨a,b,ha,_⟩,_⟩;exact hno i a ha
 ·intro op hop;simp at hop
end
end Go.Ns
namespace Go.Ns
open Go.Conc Go.ChangeShapes Go.WideShapes Go.ChangeAt Go.RowKit
section
variable {P:Program} {W:World}
theorem Xc{b off n:Nat}{cs:List Value}(h:W.cells? 0 ⟨b,off,none⟩ n=some cs)(hn:0<n):AX (GH.of W) b off n cs.toArray:=by
 obtain ⟨_,hl,hc⟩:=World.cells?_some h;have hcell:∀i,i<n->W.cell? ⟨b,off+i,none⟩=cs[i]? :=λi hi=>by
  have:=hc i hi
  unfold Addr.add at this;split at this
  ·rename_i e;subst e;exact this
  ·exact this
 have h0:=hcell 0 hn;unfold World.cell? at h0;cases hb:W.heap[b]? with
 | none=>simp [hb,List.getElem?_eq_getElem (show 0<cs.length by omega)] at h0
 | some o=>
  cases o with
  | cells c t f=>
   have hall:∀i,i<n->c[off+i]? =cs[i]? :=λi hi=>by
    have:=hcell i hi
    unfold World.cell? at this;simpa [hb] using this
   have hlast:=hall (n-1) aA;rw [List.getElem?_eq_getElem (show n-1<cs.length by omega)] at hlast;have hsz:=(Array.getElem?_eq_some_iff.1 hlast).1;refine ⟨false,c,t,f,GH.of_some hb,aA,?_⟩;apply Array.ext
   ·simp;omega
   ·intro i h1 h2;have hi:i<n:=by simp at h2;omega
    have:=hall i hi
    rw [Array.getElem?_eq_getElem aA,List.getElem?_eq_getElem aA] at this;simpa using this
  | _=>simp [hb,List.getElem?_eq_getElem (show 0<cs.length by omega)] at h0
def SY(P:Program)(e:TypeId){U:Type}(enc:U->Array Value)(good:U->Prop):Prop:=
 ∀{H:Type}(en:TypeId×Value->H)(W:World)(base:Nat)(sp:Nat->Bool)(held:Bool)(fuel:Nat)(cs:List Value)(x:DataW H×List MemPlace),DataW.trod en P W base sp held fuel e cs=some x->∃a:U,cs=(enc a).toList/\good a
theorem T6{H:Type}{en:TypeId×Value->H}{sp:Nat->Bool}{held:Bool}{fuel:Nat}{t e:TypeId}{n:Nat}{U:Type}{enc:U->Array Value}{good:U->Prop}{v:Value}{d:DataW H}{ps:List MemPlace}(ht:P.underlying t=some (.slice e))(hc:P.cellsOf e=n)(hn:0<n)
  (ho:SY P e enc good) (h:DataW.trod en P W 0 sp held fuel t [v]=some (d,ps)) (hw:∀es rs,d=.slice es rs->es.length<=140737488355328):∃xs:List U,AE (GH.of W) v n enc xs/\∀x ∈ xs,good x:=by
 rcases DataW.trod_slice ht h with ⟨h1,_⟩ | ⟨a,len,cap,elems,rest,m,rfl,h1,h2,_,hl,_,hlen,hel,_,_⟩
 ·simp at h1;subst h1;exact ⟨[],AE.nil _ _ _,λx hx=>by cases hx⟩
 ·simp only [List.cons.injEq,and_true] at h1;subst h1;simp only [Prod.mk.injEq] at h2;have hlim:len<=140737488355328:=by
   have:=hw _ _ h2.1
   simpa [hlen] using this
  have each:∀i,i<len->∃x:U,∃b off,a=⟨b,off,none⟩/\AX (GH.of W) b (off+i*n) n (enc x)/\good x:=λi hi=>by
   have:=hel i hi
   rw [List.getElem?_eq_getElem aA,hc] at this;simp only [Option.bind_eq_some_iff] at this;obtain ⟨cs,hcs,hx⟩:=this;obtain ⟨x,e1,e2⟩:=ho _ _ _ _ _ _ _ _ hx;have hc0:=(World.cells?_some hcs).2.2 0 hn;have hlen2:=(World.cells?_some hcs).2.1;rw [List.getElem?_eq_getElem (show 0<cs.length by omega)] at hc0;have hsp:=World.cell?_spot hc0;obtain ⟨b,off,spot⟩:=a;have hspot:spot=none\/i≠0:=by
    by_cases e0:i=0
    ·subst e0;left;simpa [Addr.add] using hsp
    ·exact .inr e0
   have hfirst:spot=none:=by
    rcases hspot with e | e
    ·exact e
    ·have h00:=hel 0 aA;rw [List.getElem?_eq_getElem aA,hc] at h00;simp only [Option.bind_eq_some_iff] at h00;obtain ⟨c0,hc00,_⟩:=h00;have z:=(World.cells?_some hc00).2.2 0 hn;have zl:=(World.cells?_some hc00).2.1;rw [List.getElem?_eq_getElem (show 0<c0.length by omega)] at z
     have:=World.cell?_spot z
     simpa [Addr.add] using this
   subst hfirst;refine ⟨x,b,off,rfl,?_,e2⟩;have ea:(Addr.add ⟨b,off,none⟩ (i*n))=⟨b,off+i*n,none⟩:=by
    unfold Addr.add;split
    ·rename_i e;rw [e];rfl
    ·rfl
   rw [ea] at hcs
   have:=Xc hcs hn
   rw [e1] at this;simpa using this
  by_cases hz:len=0
  ·subst hz;exact ⟨[],⟨some a,cap,rfl,Nat.zero_le _,Nat.zero_le _,λi hi=>by simp at hi⟩,λx hx=>by cases hx⟩
  ·have hch:∀i:Fin len,∃x:U,∃b off,a=⟨b,off,none⟩/\AX (GH.of W) b (off+i.val*n) n (enc x)/\good x:=λi=>each i.val i.isLt;refine ⟨List.ofFn λi=>Classical.choose (hch i),⟨some a,cap,by rw [List.length_ofFn],by rw [List.length_ofFn];exact hl,by rw [List.length_ofFn];exact hlim,λi hi=>?_⟩,λx hx=>?_⟩
   ·rw [List.length_ofFn] at hi;obtain ⟨b,off,e1,e2,_⟩:=Classical.choose_spec (hch ⟨i,hi⟩);refine ⟨b,off,by rw [e1],?_⟩;rw [List.getElem_ofFn];exact e2
   ·obtain ⟨i,rfl⟩:=List.mem_ofFn.1 hx;obtain ⟨_,_,_,_,e3⟩:=Classical.choose_spec (hch i);exact e3
theorem JQ{H:Type}{en:TypeId×Value->H}{t:TypeId}(hl:laidOutB P=true)(hr:P.readableRec t=true)(hrow:t<P.types.size){W':World}{v:Value}{d:DataW H}{ps:List MemPlace}(h:DataW.Trod en P W 0 (λ_=>true) true t v d ps)
  (hk:∀(b:Nat)(o:Obj),W.heap[b]? =some o->W'.heap[b]? =some o) (hlt:∀x ∈ ps,x.block<W.heap.size):DataW.Trod en P W' 0 (λb=>decide (b<W.heap.size)) true t v d ps:=by
 let W2:World:={ W' with os:=W.os,tape:=W.tape,output:=W.output };have hsz:W.heap.size<=W'.heap.size:=by
  rcases Nat.lt_or_ge W'.heap.size W.heap.size with x | x
  ·have:=hk W'.heap.size _ (Array.getElem?_eq_getElem x)
   rw [Array.getElem?_eq_none (Nat.le_refl _)] at this;cases this
  ·exact x
 have hb:Below W.heap.size W W2:=⟨rfl,rfl,rfl,hsz,λk hk'=>by
  show W'.heap[k]? =_;rw [Array.getElem?_eq_getElem hk'];exact hk k _ (Array.getElem?_eq_getElem hk')⟩
 exact DataW.Trod.of_heap (w:=W2) (w':=W') rfl (Below.trod hl hr hrow h hb hlt)
theorem kept_but{W':World}(hk:∀(b:Nat)(o:Obj),W.heap[b]? =some o->W'.heap[b]? =some o)(ho:W'.os=W.os)(hp:W'.output=W.output)(may:MemPlace->Prop):W.keptBut W' may:=by
 refine ⟨ho,hp,λi hi=>?_⟩;rw [hk i _ (Array.getElem?_eq_getElem hi),Array.getElem?_eq_getElem hi];split <;> simp_all
end
end Go.Ns
namespace Go.Ns
open Go.Conc
universe u
theorem Z{U:Sort u}{a:U}:a=a:=rfl
theorem Lr{h:GH}:GH.Le h h:=GH.Le.refl h
theorem Ln{h h':GH}(l:h.Le h'){r:Nat}(hr:h' r=none):h r=none:=l.nothing hr
theorem Cp{h:GH}{b r:Nat}{p:Bool}{o:Obj}(hb:h b=some (p,o))(hr:h r=none):b≠r:=GH.ne_of hb hr
theorem Nb{a b:Nat}(h:Nat.ble a b=true):a<=b:=Nat.le_of_ble_eq_true h
theorem Dn{p:Prop}[Decidable p](h:¬¬p):p:=Decidable.not_not.1 h
theorem Et{U:Sort u}{a b c:U}(x:a=b)(y:b=c):a=c:=x.trans y
theorem Kl{h0 h:GH}(k:EX (λb=>h0 b=none) h0 h):h0.Le h:=k.leOf
theorem Bx{h:GH}{b:Nat}{p:Bool}{c:Array Value}{t:TypeId}{f:Nat×Nat}(hb:h b=some (p,.cells c t f)){n:Nat}(hn:c.size=n):AX h b 0 n c:=AX.box hb hn
abbrev lE(v:Value):IC:=λ_ u _=>u=v
abbrev lF(v:Value):RF:=λu _=>u=v
abbrev zP:Array Value:=#[.int .i64 0,.int .i64 0,.slice none 0 0,.slice none 0 0,.slice none 0 0,.slice none 0 0,.map none]
section
variable {P:Program} {E:HB P} {O:Nat->Value} {ds:List Deferred} {h:GH} {Q:Post} {T:(Nat->Value)->List Deferred->GH->Prop}
variable {dst:Option Nat} {ty:TypeId} {pos:String} {af:Array Edge} {ops:Array Oper} {o:Oper} {l:List Oper}
theorem Sq{x y:Code}(a:Tr E x O ds h (λe σ' ds' h'=>match e with | .normal=>Tr E y σ' ds' h' Q | e=>Q e σ' ds' h')):Tr E (.seq x y) O ds h Q:=tr_seq a
theorem Rg{id:Nat}{l:List Oper}(a:Dp E l.toArray l O ds h Q):Tr E (.region id l.toArray false) O ds h Q:=Zk a
theorem Nl(q:Q .normal O ds h):Dp E ops [] O ds h Q:=trL_nil q
abbrev Rt:=@tr_ret
abbrev Bk:=@tr_block
abbrev Sk:=@tr_skip
abbrev Xt:=@tr_exit
def plainB(N:Nat)(o:Oper):Bool:=o.guard.isNone && !Ei o.op && Dj o.dst N
theorem Pl(hp:plainB E.N o=true)(x:Bg E o O ds h λσ' ds' h'=>Dp E ops l σ' ds' h' Q):Dp E ops (o ::l) O ds h Q:=by
 simp only [plainB,Bool.and_eq_true,Option.isNone_iff_eq_none,Bool.not_eq_true'] at hp;exact Ga hp.1.1 hp.1.2 hp.2 x
theorem Mv{x:Operand}(v:Value)(hp:Dj dst E.N=true)(hx:AQ O x=v)(k:Dp E ops l (putS O dst v) ds h Q):Dp E ops (⟨dst,.move x,ty,pos,af,none⟩ ::l) O ds h Q:=Ga rfl rfl hp (FX hx k)
theorem As{x:Operand}(v:Value)(hp:Dj dst E.N=true)(hx:AQ O x=v)(k:Dp E ops l (putS O dst v) ds h Q):Dp E ops (⟨dst,.assign x,ty,pos,af,none⟩ ::l) O ds h Q:=Ga rfl rfl hp (K9 hx k)
theorem Ld{t:TypeId}{x:Operand}{b off:Nat}(v:Value)(hp:Dj dst E.N=true)(hx:AQ O x=.pointer (some ⟨b,off,none⟩))(hr:Rd P h t b off v)(k:Dp E ops l (putS O dst v) ds h Q):Dp E ops (⟨dst,.load t x,ty,pos,af,none⟩ ::l) O ds h Q:=
 Ga rfl rfl hp (BW hx hr k)
theorem Fa{s:TypeId}{x:Operand}{f o b off:Nat}(hf:Dl P s f=some o)(hp:Dj dst E.N=true)(hx:AQ O x=.pointer (some ⟨b,off,none⟩))(k:Dp E ops l (putS O dst (.pointer (some ⟨b,off+o,none⟩))) ds h Q) :
  Dp E ops (⟨dst,.fieldAddr s x f,ty,pos,af,none⟩ ::l) O ds h Q:=Ga rfl rfl hp (AG hf hx k)
theorem Pk{c a b:Operand}(t:Bool)(v:Value)(hp:Dj dst E.N=true)(hc:AQ O c=.bool t)(hv:(if t then AQ O a else AQ O b)=v)(k:Dp E ops l (putS O dst v) ds h Q):Dp E ops (⟨dst,.pick c a b,ty,pos,af,none⟩ ::l) O ds h Q:=
 Ga rfl rfl hp (BV hc hv k)
theorem Ad{xt yt:TypeId}{x y:Operand}(a b:Int)(hp:Dj dst E.N=true)(hx:AQ O x=.int .i64 a)(hy:AQ O y=.int .i64 b)(hr: -9223372036854775808<=a+b/\a+b<=9223372036854775807)(k:Dp E ops l (putS O dst (.int .i64 (a+b))) ds h Q) :
  Dp E ops (⟨dst,.binOp .add xt x y yt,ty,pos,af,none⟩ ::l) O ds h Q:=Ga rfl rfl hp (DY hx hy hr k)
def skipB(N:Nat)(ops:Array Oper)(o:Oper)(j d:Nat)(is:Bool):Bool:=(match o.guard with
 | some (i,w)=>i==j && w !=is
 | none=>false) && (match ops[j]? with
 | some oj=>(match oj.dst with
  | some e=>e==d
  | none=>false)
 | none=>false) && Nat.blt d N && Dj o.dst N
theorem Gs(j d:Nat){is:Bool}(hv:O d=.bool is)(hs:skipB E.N ops o j d is=true)(x:Dp E ops l (putS O o.dst undef) ds h Q):Dp E ops (o ::l) O ds h Q:=by
 simp only [skipB,Bool.and_eq_true] at hs;obtain ⟨⟨⟨h1,h2⟩,h3⟩,h4⟩:=hs;cases hg:o.guard with
 | none=>rw [hg] at h1;cases h1
 | some q=>
  obtain ⟨i,w⟩:=q;rw [hg] at h1;simp only [Bool.and_eq_true,beq_iff_eq,bne_iff_ne,ne_eq] at h1;obtain ⟨rfl,hne⟩:=h1;cases hj:ops[i]? with
  | none=>rw [hj] at h2;cases h2
  | some oj=>
   cases hd:oj.dst with
   | none=>simp [hj,hd] at h2
   | some e=>
    obtain rfl:e=d:=by simpa [hj,hd] using h2
    exact PG hg hj hd hv h3 hne h4 x
def goB(N:Nat)(ops:Array Oper)(o:Oper)(j d:Nat)(is:Bool):Bool:=(match o.guard with
 | some (i,w)=>i==j && w==is
 | none=>false) && (match ops[j]? with
 | some oj=>(match oj.dst with
  | some e=>e==d
  | none=>false)
 | none=>false) && Nat.blt d N && !Ei o.op && Dj o.dst N
theorem Gg(j d:Nat){is:Bool}(hv:O d=.bool is)(hs:goB E.N ops o j d is=true)(x:Bg E o O ds h λσ' ds' h'=>Dp E ops l σ' ds' h' Q):Dp E ops (o ::l) O ds h Q:=by
 simp only [goB,Bool.and_eq_true,Bool.not_eq_true'] at hs;obtain ⟨⟨⟨⟨h1,h2⟩,h3⟩,h5⟩,h4⟩:=hs;cases hg:o.guard with
 | none=>rw [hg] at h1;cases h1
 | some q=>
  obtain ⟨i,w⟩:=q;rw [hg] at h1;simp only [Bool.and_eq_true,beq_iff_eq] at h1;obtain ⟨rfl,rfl⟩:=h1;cases hj:ops[i]? with
  | none=>rw [hj] at h2;cases h2
  | some oj=>
   cases hd:oj.dst with
   | none=>simp [hj,hd] at h2
   | some e=>
    obtain rfl:e=d:=by simpa [hj,hd] using h2
    exact trL_opg hg hj hd hv h3 (.inr h5) h4 x
end
section
variable {S:Nat->Prop} {Pre:Nat->GH->Prop} {Φ:List IC} {cl:List Nat} {k d:Nat} {h h':GH} {O:Nat->Value} {ds:List Deferred} {v:Value}
theorem fS(p:Gf Φ k (putS O (some d) v) v h):ds=ds/\St (EX S) Pre Φ cl k h h/\∃w,putS O (some d) v=putS O (some d) w/\Gf Φ k (putS O (some d) v) w h/\((some d:Option Nat)=none->w=undef):=
 ⟨rfl,St.same,_,rfl,p,λe=>by cases e⟩
theorem fT(l:h.Le h')(m:Dr GH.Le Φ)(p:Gf Φ k (putS O (some d) v) v h'):ds=ds/\St (EX S) (λ_ _=>True) Φ cl k h h'/\∃w,putS O (some d) v=putS O (some d) w/\Gf Φ k (putS O (some d) v) w h'/\((some d:Option Nat)=none->w=undef):=
 ⟨rfl,St.ofLe l m (λ_ _ _ _ _=>trivial),_,rfl,p,λe=>by cases e⟩
theorem fL{Φ:List RF}(p:M6 Φ k v h):ds=ds/\GH.Le h h/\∃w,putS O (some d) v=putS O (some d) w/\M6 Φ k w h:=⟨rfl,GH.Le.refl _,_,rfl,p⟩
theorem L1{R:GH->GH->Prop}{a:Value}(x:Dr R Φ):Dr R (lE a ::Φ):=⟨λ_ _ _ _ _ y=>y,x⟩
theorem L2{R:GH->GH->Prop}{a b:Value}(x:Dr R Φ):Dr R (lE a ::lE b ::Φ):=L1 (L1 x)
theorem L4{R:GH->GH->Prop}{a b c d:Value}(x:Dr R Φ):Dr R (lE a ::lE b ::lE c ::lE d ::Φ):=L2 (L2 x)
theorem L8{R:GH->GH->Prop}{a b c d a' b' c' d':Value}(x:Dr R Φ):Dr R (lE a ::lE b ::lE c ::lE d ::lE a' ::lE b' ::lE c' ::lE d' ::Φ):=L4 (L4 x)
theorem K1{R:GH->GH->Prop}{Φ:List RF}{a:Value}(x:Ft R Φ):Ft R (lF a ::Φ):=⟨λ_ _ _ _ y=>y,x⟩
theorem K2{R:GH->GH->Prop}{Φ:List RF}{a b:Value}(x:Ft R Φ):Ft R (lF a ::lF b ::Φ):=K1 (K1 x)
theorem K4{R:GH->GH->Prop}{Φ:List RF}{a b c d:Value}(x:Ft R Φ):Ft R (lF a ::lF b ::lF c ::lF d ::Φ):=K2 (K2 x)
theorem K8{R:GH->GH->Prop}{Φ:List RF}{a b c d a' b' c' d':Value}(x:Ft R Φ):Ft R (lF a ::lF b ::lF c ::lF d ::lF a' ::lF b' ::lF c' ::lF d' ::Φ):=K4 (K4 x)
end
theorem Dk{P:Program}{E:HB P}{S:Nat->Prop}{id:Nat}{l:List Oper}{O:Nat->Value}{ds:List Deferred}{h:GH}{Q:Post}{Φ:List IC}(_:Dr GH.Le Φ)(n:Nat)(cls:List (List Nat))(Pre:Nat->GH->Prop)
  (hm:P.follows .mixedOrders=true) (ok:Fm E.N l n cls=true) (p0:∀k,k<n->Pre k h) (ind:TV l n cls Φ) (x:Iu (EX S) Pre E l n Φ O ds h Q n 0 l cls):Tr E (.region id l.toArray true) O ds h Q:=
 Nw n cls Φ Pre hm ok p0 ind x
end Go.Ns
namespace Go.Ns
open Go.Conc
section
variable {P:Program} {E:HB P} {O:Nat->Value} {ds:List Deferred} {h:GH} {Q:Post} {T:(Nat->Value)->List Deferred->GH->Prop}
variable {dst:Option Nat} {ty:TypeId} {pos:String} {af:Array Edge} {ops:Array Oper} {o:Oper} {l:List Oper} {gd:Option (Nat×Bool)}
theorem Mz{x:Operand}(v:Value)(e:(Dj dst E.N,AQ O x)=(true,v))(k:Dp E ops l (putS O dst v) ds h Q):Dp E ops (⟨dst,.move x,ty,pos,af,none⟩ ::l) O ds h Q:=Mv v (congrArg Prod.fst e) (congrArg Prod.snd e) k
theorem Az{x:Operand}(v:Value)(e:(Dj dst E.N,AQ O x)=(true,v))(k:Dp E ops l (putS O dst v) ds h Q):Dp E ops (⟨dst,.assign x,ty,pos,af,none⟩ ::l) O ds h Q:=As v (congrArg Prod.fst e) (congrArg Prod.snd e) k
theorem Lz{t:TypeId}{x:Operand}{b off:Nat}(v:Value)(e:(Dj dst E.N,AQ O x)=(true,.pointer (some ⟨b,off,none⟩)))(hr:Rd P h t b off v)(k:Dp E ops l (putS O dst v) ds h Q):Dp E ops (⟨dst,.load t x,ty,pos,af,none⟩ ::l) O ds h Q:=
 Ld v (congrArg Prod.fst e) (congrArg Prod.snd e) hr k
theorem Fz{s:TypeId}{x:Operand}{f o b off:Nat}(hf:Dl P s f=some o)(e:(Dj dst E.N,AQ O x)=(true,.pointer (some ⟨b,off,none⟩)))(k:Dp E ops l (putS O dst (.pointer (some ⟨b,off+o,none⟩))) ds h Q) :
  Dp E ops (⟨dst,.fieldAddr s x f,ty,pos,af,none⟩ ::l) O ds h Q:=Fa hf (congrArg Prod.fst e) (congrArg Prod.snd e) k
theorem Pz{c a b:Operand}(t:Bool)(v:Value)(e:(Dj dst E.N,AQ O c,(if t then AQ O a else AQ O b))=(true,.bool t,v))(k:Dp E ops l (putS O dst v) ds h Q):Dp E ops (⟨dst,.pick c a b,ty,pos,af,none⟩ ::l) O ds h Q:=
 Pk t v (congrArg Prod.fst e) (congrArg (λq=>q.2.1) e) (congrArg (λq=>q.2.2) e) k
theorem Yd{xt yt:TypeId}{x y:Operand}{a b:Int}(e:(Dj dst E.N,AQ O x,AQ O y)=(true,.int .i64 a,.int .i64 b))(hr: -9223372036854775808<=a+b/\a+b<=9223372036854775807)(k:Dp E ops l (putS O dst (.int .i64 (a+b))) ds h Q) :
  Dp E ops (⟨dst,.binOp .add xt x y yt,ty,pos,af,none⟩ ::l) O ds h Q:=Ad a b (congrArg Prod.fst e) (congrArg (λq=>q.2.1) e) (congrArg (λq=>q.2.2) e) hr k
theorem Mo{x:Operand}(v:Value)(hx:AQ O x=v)(k:T (putS O dst v) ds h):Bg E ⟨dst,.move x,ty,pos,af,gd⟩ O ds h T:=FX hx k
theorem Lo{t:TypeId}{x:Operand}{b off:Nat}(v:Value)(hx:AQ O x=.pointer (some ⟨b,off,none⟩))(hr:Rd P h t b off v)(k:T (putS O dst v) ds h):Bg E ⟨dst,.load t x,ty,pos,af,gd⟩ O ds h T:=BW hx hr k
theorem Ex{x:Operand}{n:Nat}{vs:Array Value}(v:Value)(e:(AQ O x,vs[n]?)=(.tuple vs,some v))(k:T (putS O dst v) ds h):Bg E ⟨dst,.extract x n,ty,pos,af,gd⟩ O ds h T:=WU (congrArg Prod.fst e) (congrArg Prod.snd e) k
theorem Bo{t:TypeId}{x:Operand}{v:Value}(c:Array Value)(hx:AQ O x=v)(hc:v.cells=c)
  (k:∀r h',h r=none->h.Le h'->h' r=some (true,.cells c t (0,0))->(∀b,b≠r->h' b=h b)->T (putS O dst (.pointer (some ⟨r,0,none⟩))) ds h'):Bg E ⟨dst,.box t x,ty,pos,af,gd⟩ O ds h T:=ok_box' hx hc k
theorem So{t:TypeId}{a x:Operand}{b off n:Nat}{g:Bool}{c:Array Value}{et:TypeId}(v:Value)(c':Array Value)(ht:Cj P t=some (g,n))(e:(AQ O a,AQ O x)=(.pointer (some ⟨b,off,none⟩),v))(hb:h b=some (true,.cells c et (0,0)))
  (e2:(v.cells.size,Value.fine v)=(n,true)) (hn:off+n<=c.size) (hc:Bz c off v.cells.toList=c') (k:∀h',h' b=some (true,.cells c' et (0,0))->(∀x,x≠b->h' x=h x)->T (putS O dst undef) ds h') :
  Bg E ⟨dst,.store t a x,ty,pos,af,gd⟩ O ds h T:=Aa ht (congrArg Prod.fst e) (congrArg Prod.snd e) hb (congrArg Prod.fst e2) (congrArg Prod.snd e2) hn hc k
theorem Ot{fn:Func}{R:Value->GH->Prop}{t:Tmp}(v:Value)(e:(fn.results,O t)=(#[.tmp t],v))(x:R v h):GZ P fn O R [] h:=IY (congrArg Prod.fst e) (congrArg Prod.snd e) x
theorem Ou{fn:Func}{R:Value->GH->Prop}{t u:Tmp}(v v':Value)(e:(fn.results,O t,O u)=(#[.tmp t,.tmp u],v,v'))(x:R (.tuple #[v,v']) h):GZ P fn O R [] h:=outs2 (congrArg Prod.fst e) (congrArg (λq=>q.2.1) e) (congrArg (λq=>q.2.2) e) x
theorem Sr{id:Nat}{y:Code}(a:Dp E l.toArray l O ds h (λe σ' ds' h'=>match e with | .normal=>Tr E y σ' ds' h' Q | e=>Q e σ' ds' h')):Tr E (.seq (.region id l.toArray false) y) O ds h Q:=Sq (Rg a)
theorem S2{id:Nat}{y z:Code}(a:Dp E l.toArray l O ds h (λe σ' ds' h'=>match e with | .normal=>Tr E y σ' ds' h' (λe σ' ds' h'=>match e with | .normal=>Tr E z σ' ds' h' Q | e=>Q e σ' ds' h') | e=>(λe σ' ds' h'=>match e with | .normal=>Tr E z σ' ds' h' Q | e=>Q e σ' ds' h') e σ' ds' h')) :
  Tr E (.seq (.seq (.region id l.toArray false) y) z) O ds h Q:=Sq (Sq (Rg a))
theorem Zr{U:Type}{a b:U}:a=b\/a=a:=.inr rfl
theorem M2{x x':Operand}{dst':Option Nat}{ty':TypeId}{pos':String}{af':Array Edge}(v v':Value)(e:(Dj dst E.N,AQ O x,Dj dst' E.N,AQ (putS O dst v) x')=(true,v,true,v'))(k:Dp E ops l (putS (putS O dst v) dst' v') ds h Q):Dp E ops (⟨dst,.move x,ty,pos,af,none⟩ ::⟨dst',.move x',ty',pos',af',none⟩ ::l) O ds h Q:=
 Mv v (congrArg Prod.fst e) (congrArg (λq=>q.2.1) e) (Mv v' (congrArg (λq=>q.2.2.1) e) (congrArg (λq=>q.2.2.2) e) k)
theorem A2{x x':Operand}{dst':Option Nat}{ty':TypeId}{pos':String}{af':Array Edge}(v v':Value)(e:(Dj dst E.N,AQ O x,Dj dst' E.N,AQ (putS O dst v) x')=(true,v,true,v'))(k:Dp E ops l (putS (putS O dst v) dst' v') ds h Q):Dp E ops (⟨dst,.assign x,ty,pos,af,none⟩ ::⟨dst',.assign x',ty',pos',af',none⟩ ::l) O ds h Q:=
 As v (congrArg Prod.fst e) (congrArg (λq=>q.2.1) e) (As v' (congrArg (λq=>q.2.2.1) e) (congrArg (λq=>q.2.2.2) e) k)
theorem Ct{W:Wk P}{f:FuncId}{fn:Func}{c:Code}{args:Array Value}{R:Value->GH->Prop}(hf:P.funcs[f]? =some fn)(e:(fn.body,Nat.ble args.size fn.ntmps)=(some c,true))
  (x:Tr ⟨W,f,none,fn.ntmps⟩ c (λi=>args.getD i undef) [] h (λe O ds h'=>(e=.normal\/e=.ret)/\GZ P fn O R ds h')):AY W f args h R:=WT hf (congrArg Prod.fst e) (Nat.le_of_ble_eq_true (congrArg Prod.snd e)) x
end
section
variable {P:Program} {E:HB P} {l:List Oper} {n:Nat} {fl:Bool} {hs:GH} {ds:List Deferred} {Lw:Nat->Value->GH->Prop} {F:(Nat->Value)->GH->Prop} {V:List Nat} {O:Nat->Value} {h:GH} {m k g d:Nat} {dst:Option Nat} {op:Op} {ty:TypeId} {pos:String} {af:Array Edge} {v:Value} {w is:Bool} {og:Oper}
theorem Rz(e:(O3 m,l[k]?)=((.r,k),some ⟨dst,op,ty,pos,af,none⟩))(x:Uj E ⟨dst,op,ty,pos,af,none⟩ O ds h v)(y:TD E l n fl hs ds Lw F (dK V) (putS O dst v) h):TD E l n fl hs ds Lw F (dK (m ::V)) O h:=tR (congrArg Prod.fst e) (congrArg Prod.snd e) x y
theorem Rm{x:Operand}(v:Value)(e:(O3 m,l[k]?,AQ O x)=((.r,k),some ⟨dst,.move x,ty,pos,af,none⟩,v))(y:TD E l n fl hs ds Lw F (dK V) (putS O dst v) h):TD E l n fl hs ds Lw F (dK (m ::V)) O h:=
 tR (congrArg Prod.fst e) (congrArg (λq=>q.2.1) e) (FX (congrArg (λq=>q.2.2) e) vz) y
theorem Rl{t:TypeId}{x:Operand}{b off:Nat}(v:Value)(e:(O3 m,l[k]?,AQ O x)=((.r,k),some ⟨dst,.load t x,ty,pos,af,none⟩,.pointer (some ⟨b,off,none⟩)))(hr:Rd P h t b off v)(y:TD E l n fl hs ds Lw F (dK V) (putS O dst v) h):TD E l n fl hs ds Lw F (dK (m ::V)) O h:=
 tR (congrArg Prod.fst e) (congrArg (λq=>q.2.1) e) (BW (congrArg (λq=>q.2.2) e) hr vz) y
theorem Py(e:(O3 m,l[k]?)=((.p,k),some ⟨dst,op,ty,pos,af,none⟩))(x:∀hx,Uj E ⟨dst,op,ty,pos,af,none⟩ O ds hx v)(y:TD E l n fl hs ds Lw F (dK V) (putS O dst v) h):TD E l n fl hs ds Lw F (dK (m ::V)) O h:=tP (congrArg Prod.fst e) (congrArg Prod.snd e) x y
theorem Ry(e:(O3 m,l[k]?,l[g]?,og.dst)=((.r,k),some ⟨dst,op,ty,pos,af,some (g,w)⟩,some og,some d))(h3:O d=.bool w)(x:Uj E ⟨dst,op,ty,pos,af,some (g,w)⟩ O ds h v)
  (y:TD E l n fl hs ds Lw F (dK V) (putS O dst v) h):TD E l n fl hs ds Lw F (dK (m ::V)) O h:=tRg (congrArg Prod.fst e) (congrArg (λq=>q.2.1) e) (congrArg (λq=>q.2.2.1) e) (congrArg (λq=>q.2.2.2) e) h3 x y
theorem Sz{kd:Kd}(e:(O3 m,l[k]?,l[g]?,og.dst)=((kd,k),some ⟨dst,op,ty,pos,af,some (g,w)⟩,some og,some d))(h3:O d=.bool is)(hne:(is==w)=false)
  (y:TD E l n fl hs ds Lw F (dK V) (putS O dst undef) h):TD E l n fl hs ds Lw F (dK (m ::V)) O h:=tS (congrArg Prod.fst e) (congrArg (λq=>q.2.1) e) (congrArg (λq=>q.2.2.1) e) (congrArg (λq=>q.2.2.2) e) h3 hne y
end
end Go.Ns
namespace Go.Ns
open Go.Conc
abbrev J(x:Int):Value:=.int .i64 x
abbrev Pt(b:Nat):Value:=.pointer (some ⟨b,0,none⟩)
abbrev Sc(b:Nat)(n c:Nat):Value:=.slice (some ⟨b,0,none⟩) n c
abbrev EO:Array Value:=#[J 0,J 0,.slice none 0 0,.slice none 0 0,.slice none 0 0]
abbrev J7(a:Int)(b:Int)(c:List Good)(d:List AA)(e:List AF)(f:Int)(g:Int)(h:Int)(k:Int)(l:Int):=A4 (AJ a b c d e) (AH a b c (d++[(⟨f,g,h,k,l⟩:AA)]) e)
abbrev J8(a:Int)(b:Int)(c:List Good)(d:List AA)(e:List AF)(f:AF):=A4 (AJ a b c d e) (AH a b c d (e++[f]))
abbrev Q25(a:List Good)(b:Nat):=decide (((¬(0<=((a.getD b Good.z).cost)/\((a.getD b Good.z).cost)<=999))\/(¬(1<=((a.getD b Good.z).pack)/\((a.getD b Good.z).pack)<=20)))\/(¬(Ha ((a.getD b Good.z).low) ((a.getD b Good.z).high))))
abbrev Q26:Array Value:=#[J 0,J 0,J 0,J 0,J 0,J 0,J 0,J 0,J 0,.bool false,.bool false,.bool false,.bool false,.bool false,.bool false]
abbrev Q27(a:Int)(b:Int)(c:List Good)(d:List AA)(e:List AF)(f:Int)(g:Int)(h:Int):=Af a b c d e [if (decide (0<=f/\f<=(c.length:Int)-1)) then (0:Int) else 6,if (decide (1<=g/\g<=a)) then (0:Int) else 1,if (decide (g<=h/\h<=a)) then (0:Int) else 1]
abbrev MY(a:Int)(b:List Good)(c:List AA)(d:List AF)(e:Int)(f:Nat):=(AU a b c d e).getD ((f:Int)).toNat AV.zero
abbrev FS:Value:=.slice none 0 0
abbrev UR(a:Int):=LY (LY a (Fh a 13)) ((LY a (Fh a 13)) / 128)
abbrev Q2b(a:Int)(b:List AA):=decide ((0<=a/\a<=(b.length:Int)-1)/\(b.getD a.toNat AA.z).kind=0)
abbrev Q2c(a:Int)(b:Int)(c:List Good)(d:List AA)(e:List AF)(f:Int)(g:Int):=Af a b c d e [if (decide (0<=f/\f<=(c.length:Int)-1)) then (0:Int) else 6,if (decide (0<=g/\g<=a)) then (0:Int) else 1]
abbrev LZ(a:List AA)(b:Int):=(a.getD (b.toNat) AA.z).high
abbrev La(a:List AA)(b:Int):=(a.getD (b.toNat) AA.z).low
abbrev Q2f(a:List AA)(b:Nat):Array Value:=#[J ((a.getD b AA.z).kind),J ((a.getD b AA.z).good),J ((a.getD b AA.z).day),J ((a.getD b AA.z).low),J ((a.getD b AA.z).high)]
abbrev Q2g(a:List Good)(b:Nat):Array Value:=#[.string ((a.getD b Good.z).name),J ((a.getD b Good.z).cost),J ((a.getD b Good.z).pack),J ((a.getD b Good.z).low),J ((a.getD b Good.z).high)]
abbrev US(a:Int)(b:List AA):=decide (0<=a/\a<=(b.length:Int)-1)
abbrev Q2i(a:List AA)(b:Nat):Array Value:=#[J ((a.getD (b+1) AA.z).kind),J ((a.getD (b+1) AA.z).good),J ((a.getD (b+1) AA.z).day),J ((a.getD (b+1) AA.z).low),J ((a.getD (b+1) AA.z).high)]
abbrev Q2j(a:List AF)(b:Nat):Array Value:=#[J ((a.getD b AF.z).good),J ((a.getD b AF.z).day),J ((a.getD b AF.z).low),J ((a.getD b AF.z).high)]
abbrev Q2k(a:List Int)(b:List Int):=decide (((a.length:Int)<(b.length:Int))\/(((a.length:Int)=(b.length:Int))/\((Ka a b)<0)))
abbrev Q2l(a:List Value)(b:Array Int)(c:Nat)(d:Nat):=Bl a ((b.setIfInBounds c (b[d]!)).setIfInBounds d (b[c]!))
abbrev EP(a:Nat)(b:Array Int)(c:Nat):=Sc a b.size c
abbrev Q2n(a:List Int)(b:List Int):=decide (((a.length:Int)<(b.length:Int))\/(((a.length:Int)=(b.length:Int))/\(Ka a b<0)))
abbrev Q2o(a:Int)(b:Int)(c:List Good)(d:List AA)(e:List AF)(f:Int):=Af a b c d e [if (decide (0<=f/\f<=a)) then (0:Int) else 1]
abbrev Q2p(a:Int)(b:Int):=decide (((0<=a/\a<=b)/\b<=99)/\((b-a)<3))
abbrev Q2q(a:AF):Array Value:=#[J a.good,J a.day,J a.low,J a.high]
abbrev Vj(a:List AV)(b:Int):=a.getD (b.toNat) AV.zero
abbrev Q2s(a:List Good)(b:Nat):=Ha ((a.getD b Good.z).low) ((a.getD b Good.z).high)
abbrev Q2t(a:List AA)(b:Nat):Array Value:=#[J ((a.getD b AA.z).low),J ((a.getD b AA.z).high)]
abbrev Q2u(a:List Good)(b:Nat):Array Value:=#[J ((a.getD b Good.z).low),J ((a.getD b Good.z).high)]
abbrev Q2v(a:ByteArray)(b:Nat):=decide ((¬(HD ((bytesOf a).getD b 0)))/\(((b:Int)=0)\/(¬(G1 ((bytesOf a).getD b 0)))))
abbrev Q2w(a:Int)(b:List Good):=decide (0<=a/\a<=(b.length:Int)-1)
abbrev Q2x(a:List Int)(b:List Int):=(AV.zero.setFirsts a).setManys b
abbrev UT(a:List Good)(b:Nat):=(a.getD b Good.z).pack
abbrev Q2z(a:Int)(b:Int)(c:Int)(d:Int):=decide (((a<=b)/\(b<=c))/\(c<=d))
abbrev L3(a:Int)(b:Int)(c:List Good)(d:List AA)(e:List AF):=J (AJ a b c d e)
abbrev WM(a:Int)(b:Int):Value:=.bool (decide (a<=b))
abbrev Q32(a:Int)(b:Int):=decide ((¬(1<=a/\a<=99))\/(¬(0<=b/\b<=2)))
abbrev Lb(a:List Int)(b:Nat):=J (a.getD b 0)
abbrev Q34(a:List Good)(b:Nat):Value:=.bool (decide (¬(1<=((a.getD b Good.z).pack)/\((a.getD b Good.z).pack)<=20)))
abbrev WN(a:List AA)(b:Nat):=(a.getD b AA.z).kind
abbrev Q36(a:Int)(b:List AA)(c:List Good)(d:List AF)(e:Int)(f:Int)(g:Int):Array Value:=#[J ((CT (LJ a b (AU a c b d e) f)).tdiv g),J ((D0 (LJ a b (AU a c b d e) f)).tdiv g)]
abbrev Zc(a:List Good)(b:Nat):=(a.getD b Good.z).name
abbrev Zd(a:List Good)(b:Nat):=(a.getD b Good.z).cost
abbrev Q39(a:Nat)(b:Nat)(c:Array Int)(d:Nat):=decide (((a:Int)<=(b:Int))/\(¬((c[b]!)<(c[d]!))))
abbrev Q3a(a:List AA)(b:Nat):=(a.getD (((b:Int)-1).toNat) AA.z).day
abbrev Q3b(a:Int)(b:Int)(c:List Good)(d:List AA)(e:Int)(f:Int)(g:Int)(h:Int)(k:Int)(l:List AF):=AH a b c (d++[(⟨e,f,g,h,k⟩:AA)]) l
abbrev Q3c:=Av AV.zero
abbrev Q3d(a:List Good)(b:List AA)(c:List AF):=decide (((20<(a.length:Int))\/(20<(b.length:Int)))\/(20<(c.length:Int)))
abbrev Q3e(a:List AA)(b:Nat):=(a.getD b AA.z).day
abbrev Q3f(a:AF)(b:Int):=decide ((¬(0<=a.day/\a.day<=b))\/(¬((0<=a.low/\a.low<=a.high)/\a.high<=999)))
abbrev Q3g(a:List Int):=a.getD (((a.length:Int)-1).toNat) 0
abbrev Q3h(a:Int)(b:Int):=decide (0<=a/\a<=b)
abbrev Q3i(a:List AA)(b:AV)(c:AF):=(AP a b c.good c.day).1
abbrev Q3j(a:List Value)(b:Array Int)(c:Nat)(d:Nat):=Bl a (b.setIfInBounds c (b[d]!))
abbrev Q3k(a:Nat):=J ((2*(a:Int))+1)
abbrev Q3l(a:Nat)(b:Int)(c:Array Int)(d:Nat):=decide (((((2*(a:Int))+1)+1)<b)/\((c[(d+((2*a)+1))]!)<(c[((d+((2*a)+1))+1)]!)))
abbrev Ze(a:Nat):=J ((a:Int)+1)
abbrev Q3n(a:Int)(b:Int)(c:Int):=decide ((a<=b)/\(b<=c))
abbrev Q3o(a:Nat)(b:Nat):Value:=.bool (decide ((a:Int)<=(b:Int)))
abbrev Q3p(a:List Int)(b:Nat):=(FJ a).getD b 0
abbrev J9(a:Int)(b:Int)(c:List Good)(d:List AA)(e:List AF)(f:Int)(g:Int)(h:Int):=BG a b c d e f g h
abbrev Q3r(a:List Good)(b:Nat):=BC (a.getD b Good.z)
abbrev Q3s(a:List AF)(b:Nat):=a.getD b AF.z
abbrev Q3t(a:Int):Value:=.bool (decide (¬(0<=a/\a<=99)))
abbrev Q3u(a:Nat)(b:Nat):=J ((a:Int)-(b:Int))
abbrev Q3v(a:List AA)(b:Int)(c:Int)(d:Int):=Cd a (b.toNat) c d
abbrev Q3w(a:Nat)(b:Nat)(c:Array Int):=decide (((a:Int)<(b:Int))/\((c[b]!)<(c[((b:Int)-1).toNat]!)))
abbrev Q3x(a:List AA)(b:Nat):=Ao (a.getD b AA.z)
abbrev Q3y(a:Nat):=J (((2*(a:Int))+1)+1)
abbrev Q3z(a:Nat)(b:Array Int)(c:Nat):=decide ((0<(a:Int))/\(¬((b[((a:Int)-1).toNat]!)<(b[c]!))))
abbrev Q40(a:List Int)(b:Nat):=Gm a (FJ a) b
abbrev Q41(a:ByteArray)(b:Nat):=(bytesOf a).getD b 0
abbrev Q42(a:ByteArray):=decide (((a.size:Int)<1)\/(10<(a.size:Int)))
abbrev Q43(a:List Int)(b:List Int):=decide ((a.length:Int)<(b.length:Int))
abbrev Q44(a:Int):=decide ((97<=a)/\(a<=122))
abbrev Q45(a:Array Int)(b:Nat)(c:Nat):=decide (¬((a[b]!)<(a[c]!)))
abbrev Q46(a:Nat)(b:List Int)(c:List Int):=decide (((a:Int)<(b.length:Int))/\((a:Int)<(c.length:Int)))
abbrev Q47(a:List Int)(b:Nat)(c:List Int):=J (Pu (a.getD b 0) (c.getD b 0))
abbrev Q48(a:Int):=decide ((48<=a)/\(a<=57))
abbrev Q49(a:Int)(b:Int)(c:List Good)(d:List AA)(e:Int)(f:Int)(g:Int)(h:List AF):=AH a b c (Cd d e.toNat f g) h
abbrev Q4a:=Value.int .i64
abbrev Q4b(a:Int):=decide (¬(0<=a/\a<=2))
abbrev Q4c(a:List Good)(b:List AA)(c:List AF)(d:Nat):=decide (0<(C0 a b c d).length)
abbrev Q4d(a:List AA)(b:Int):=a.getD (b.toNat) AA.z
abbrev Q4e(a:List AA)(b:Nat):=(a.getD b AA.z).good
end Go.Ns
namespace Go.Ns
open Go.Conc Go.Proofs Go.Proofs.Tryz
theorem G8:I9 prog 102 102=some (27,1,24):=aB
theorem RY:I9 prog 105 105=some (119,15,80):=aB
theorem L5:I9 prog 182 182=some (31,2,16):=aB
theorem Vk:I9 prog 22 22=some (99,5,48):=aB
theorem HN:I9 prog 23 23=some (75,5,40):=aB
theorem F8:I9 prog 24 24=some (79,4,32):=aB
theorem CZ:I9 prog 27 27=some (3,1,8):=aB
theorem Oj:I9 prog 69 69=some (57,3,72):=aB
theorem fx_arr117:ZF prog 117=some (6,false,1):=aB
theorem fx_arr135:ZF prog 135=some (4,false,1):=aB
theorem N6:OR prog 115=some (3,1):=aB
theorem N7:OR prog 116=some (6,1):=aB
theorem Hz:OR prog 117=some (6,1):=aB
theorem fx_asz174:OR prog 174=some (5,2):=aB
theorem Xd:AN Tryz.f100=true:=aB
theorem Xe:AN Tryz.f101=true:=aB
theorem Xf:AN Tryz.f102=true:=aB
theorem Xg:AN Tryz.f104=true:=aB
theorem MZ:AN Tryz.f105=true:=aB
theorem Xh:AN Tryz.f106=true:=aB
theorem Xi:AN Tryz.f107=true:=aB
theorem Ma:AN Tryz.f108=true:=aB
theorem Xj:AN Tryz.f109=true:=aB
theorem KA:AN Tryz.f110=true:=aB
theorem Qf:AN Tryz.f111=true:=aB
theorem fx_call112:AN Tryz.f112=true:=aB
theorem fx_call113:AN Tryz.f113=true:=aB
theorem Qg:AN Tryz.f114=true:=aB
theorem Gn:AN Tryz.f115=true:=aB
theorem Xk:AN Tryz.f116=true:=aB
theorem Qh:AN Tryz.f117=true:=aB
theorem Xl:AN Tryz.f118=true:=aB
theorem KB:AN Tryz.f119=true:=aB
theorem fx_call12:AN Tryz.f12=true:=aB
theorem Mb:AN Tryz.f120=true:=aB
theorem Xm:AN Tryz.f121=true:=aB
theorem Xn:AN Tryz.f122=true:=aB
theorem Mc:AN Tryz.f124=true:=aB
theorem Md:AN Tryz.f125=true:=aB
theorem Me:AN Tryz.f126=true:=aB
theorem Xo:AN Tryz.f127=true:=aB
theorem Xp:AN Tryz.f128=true:=aB
theorem Mf:AN Tryz.f129=true:=aB
theorem SZ:AN Tryz.f13=true:=aB
theorem Xq:AN Tryz.f130=true:=aB
theorem Xr:AN Tryz.f131=true:=aB
theorem Qi:AN Tryz.f132=true:=aB
theorem Xs:AN Tryz.f133=true:=aB
theorem Xu:AN Tryz.f134=true:=aB
theorem Gp:AN Tryz.f135=true:=aB
theorem Xv:AN Tryz.f136=true:=aB
theorem Xw:AN Tryz.f137=true:=aB
theorem Xx:AN Tryz.f138=true:=aB
theorem Xy:AN Tryz.f139=true:=aB
theorem fx_call14:AN Tryz.f14=true:=aB
theorem Qj:AN Tryz.f140=true:=aB
theorem Xz:AN Tryz.f142=true:=aB
theorem Qk:AN Tryz.f143=true:=aB
theorem X2:AN Tryz.f144=true:=aB
theorem X3:AN Tryz.f145=true:=aB
theorem X4:AN Tryz.f146=true:=aB
theorem Mg:AN Tryz.f147=true:=aB
theorem Ql:AN Tryz.f148=true:=aB
theorem Mh:AN Tryz.f149=true:=aB
theorem Mi:AN Tryz.f150=true:=aB
theorem Mj:AN Tryz.f151=true:=aB
theorem Mk:AN Tryz.f152=true:=aB
theorem Ml:AN Tryz.f153=true:=aB
theorem Qm:AN Tryz.f154=true:=aB
theorem X5:AN Tryz.f155=true:=aB
theorem X6:AN Tryz.f156=true:=aB
theorem X7:AN Tryz.f157=true:=aB
theorem X8:AN Tryz.f158=true:=aB
theorem X9:AN Tryz.f159=true:=aB
theorem fx_call16:AN Tryz.f16=true:=aB
theorem YA:AN Tryz.f160=true:=aB
theorem YB:AN Tryz.f161=true:=aB
theorem YC:AN Tryz.f162=true:=aB
theorem YD:AN Tryz.f163=true:=aB
theorem YE:AN Tryz.f164=true:=aB
theorem YF:AN Tryz.f165=true:=aB
theorem C1:AN Tryz.f166=true:=aB
theorem YG:AN Tryz.f167=true:=aB
theorem YH:AN Tryz.f168=true:=aB
theorem YI:AN Tryz.f170=true:=aB
theorem Mm:AN Tryz.f171=true:=aB
theorem Qn:AN Tryz.f172=true:=aB
theorem YJ:AN Tryz.f173=true:=aB
theorem YK:AN Tryz.f174=true:=aB
theorem Mn:AN Tryz.f175=true:=aB
theorem Qo:AN Tryz.f176=true:=aB
theorem Mp:AN Tryz.f177=true:=aB
theorem fx_call18:AN Tryz.f18=true:=aB
theorem YL:AN Tryz.f194=true:=aB
theorem YM:AN Tryz.f195=true:=aB
theorem YN:AN Tryz.f196=true:=aB
theorem YO:AN Tryz.f197=true:=aB
theorem YP:AN Tryz.f198=true:=aB
theorem YQ:AN Tryz.f199=true:=aB
theorem fx_call20:AN Tryz.f20=true:=aB
theorem YR:AN Tryz.f200=true:=aB
theorem Qp:AN Tryz.f201=true:=aB
theorem YS:AN Tryz.f202=true:=aB
theorem Qq:AN Tryz.f203=true:=aB
theorem Mq:AN Tryz.f204=true:=aB
theorem N8:AN Tryz.f22=true:=aB
theorem fx_call23:AN Tryz.f23=true:=aB
theorem EF:AN Tryz.f25=true:=aB
theorem H0:AN Tryz.f26=true:=aB
theorem fx_call27:AN Tryz.f27=true:=aB
theorem fx_call29:AN Tryz.f29=true:=aB
theorem fx_call31:AN Tryz.f31=true:=aB
theorem fx_call33:AN Tryz.f33=true:=aB
theorem Sa:AN Tryz.f35=true:=aB
theorem fx_call37:AN Tryz.f37=true:=aB
theorem Sb:AN Tryz.f40=true:=aB
theorem Sd:AN Tryz.f41=true:=aB
theorem fx_call42:AN Tryz.f42=true:=aB
theorem N9:AN Tryz.f43=true:=aB
theorem fx_call45:AN Tryz.f45=true:=aB
theorem Se:AN Tryz.f46=true:=aB
theorem fx_call47:AN Tryz.f47=true:=aB
theorem LP:AN Tryz.f49=true:=aB
theorem fx_call50:AN Tryz.f50=true:=aB
theorem fx_call51:AN Tryz.f51=true:=aB
theorem fx_call52:AN Tryz.f52=true:=aB
theorem fx_call53:AN Tryz.f53=true:=aB
theorem fx_call54:AN Tryz.f54=true:=aB
theorem fx_call55:AN Tryz.f55=true:=aB
theorem OA:AN Tryz.f56=true:=aB
theorem Sf:AN Tryz.f58=true:=aB
theorem Ec:AN Tryz.f59=true:=aB
theorem Ed:AN Tryz.f60=true:=aB
theorem fx_call61:AN Tryz.f61=true:=aB
theorem fx_call62:AN Tryz.f62=true:=aB
theorem fx_call63:AN Tryz.f63=true:=aB
theorem fx_call64:AN Tryz.f64=true:=aB
theorem OB:AN Tryz.f65=true:=aB
theorem fx_call66:AN Tryz.f66=true:=aB
theorem fx_call67:AN Tryz.f67=true:=aB
theorem fx_call68:AN Tryz.f68=true:=aB
theorem fx_call69:AN Tryz.f69=true:=aB
theorem fx_call70:AN Tryz.f70=true:=aB
theorem fx_call71:AN Tryz.f71=true:=aB
theorem fx_call72:AN Tryz.f72=true:=aB
theorem fx_call73:AN Tryz.f73=true:=aB
theorem fx_call74:AN Tryz.f74=true:=aB
theorem DJ:AN Tryz.f75=true:=aB
theorem JR:AN Tryz.f76=true:=aB
theorem JS:AN Tryz.f77=true:=aB
theorem Gq:AN Tryz.f78=true:=aB
theorem CL:AN Tryz.f79=true:=aB
theorem OC:AN Tryz.f80=true:=aB
theorem JT:AN Tryz.f81=true:=aB
theorem fx_call82:AN Tryz.f82=true:=aB
theorem OD:AN Tryz.f83=true:=aB
theorem Sg:AN Tryz.f84=true:=aB
theorem fx_call85:AN Tryz.f85=true:=aB
theorem fx_call86:AN Tryz.f86=true:=aB
theorem fx_call87:AN Tryz.f87=true:=aB
theorem fx_call88:AN Tryz.f88=true:=aB
theorem LQ:AN Tryz.f89=true:=aB
theorem Sh:AN Tryz.f90=true:=aB
theorem fx_call91:AN Tryz.f91=true:=aB
theorem Si:AN Tryz.f92=true:=aB
theorem fx_call93:AN Tryz.f93=true:=aB
theorem fx_call94:AN Tryz.f94=true:=aB
theorem LR:AN Tryz.f95=true:=aB
theorem fx_call98:AN Tryz.f98=true:=aB
theorem fx_call99:AN Tryz.f99=true:=aB
theorem fx_eqg115:prog.eqGuardType prog.depth 115=false:=aB
theorem fx_eqg116:prog.eqGuardType prog.depth 116=false:=aB
theorem Qr:prog.eqGuardType prog.depth 31=false:=aB
theorem fx_eqg75:prog.eqGuardType prog.depth 75=false:=aB
theorem fx_eqg79:prog.eqGuardType prog.depth 79=false:=aB
theorem fx_eqg99:prog.eqGuardType prog.depth 99=false:=aB
theorem Cf:Eg prog 102=some 1:=aB
theorem LS:Eg prog 105=some 15:=aB
theorem LT:Eg prog 165=some 1:=aB
theorem Sj:Eg prog 182=some 2:=aB
theorem Ee:Eg prog 22=some 5:=aB
theorem CP:Eg prog 23=some 5:=aB
theorem fx_esz230:Eg prog 230=some 1:=aB
theorem HO:Eg prog 24=some 4:=aB
theorem AR:Eg prog 27=some 1:=aB
theorem fx_esz55:Eg prog 55=some 1:=aB
theorem fx_esz69:Eg prog 69=some 3:=aB
theorem A5:Dl prog 104 0=some 0:=aB
theorem Il:Dl prog 108 0=some 0:=aB
theorem DL:Dl prog 108 1=some 5:=aB
theorem Ok:Dl prog 108 2=some 6:=aB
theorem Kt:Dl prog 119 0=some 0:=aB
theorem Ku:Dl prog 119 1=some 3:=aB
theorem FK:Dl prog 119 2=some 9:=aB
theorem Vl:Dl prog 173 1=some 1:=aB
theorem Ci:Dl prog 26 0=some 0:=aB
theorem FL:Dl prog 26 1=some 1:=aB
theorem BB:Dl prog 26 2=some 2:=aB
theorem Ah:Dl prog 26 3=some 3:=aB
theorem BJ:Dl prog 26 4=some 4:=aB
theorem Cb:Dl prog 31 0=some 0:=aB
theorem Cc:Dl prog 31 1=some 1:=aB
theorem YT:Dl prog 57 0=some 0:=aB
theorem YU:Dl prog 57 1=some 1:=aB
theorem YV:Dl prog 57 2=some 2:=aB
theorem FM:Dl prog 75 0=some 0:=aB
theorem Gr:Dl prog 75 1=some 1:=aB
theorem DG:Dl prog 75 2=some 2:=aB
theorem Di:Dl prog 75 3=some 3:=aB
theorem KC:Dl prog 79 0=some 0:=aB
theorem KD:Dl prog 79 1=some 1:=aB
theorem Gt:Dl prog 79 2=some 2:=aB
theorem Fv:Dl prog 99 0=some 0:=aB
theorem KE:Dl prog 99 1=some 1:=aB
theorem IL:Dl prog 99 2=some 2:=aB
theorem IM:Dl prog 99 3=some 3:=aB
theorem fx_infs27:(prog.info? 27).isSome=true:=aB
theorem Sm:(prog.info? 27).map (·.zero)=some (some (.slice none 0 0)):=aB
theorem Qs:Nq prog 188=some .u64:=aB
theorem YW:Nq prog 204=some .u64:=aB
theorem FN:Nq prog 3=some .i64:=aB
theorem HP:Nq prog 5=some .u8:=aB
theorem Sn:Lh prog 106=some (168,3):=aB
theorem OE:Lh prog 159=some (3,3):=aB
theorem Ss:∀a:Key,ckP prog 3 168 (LX a)=true:=by intros;kernel_rfl
theorem OF:∀a:Int,ckP prog 3 3 (E6 a)=true:=by intros;kernel_rfl
theorem OG:∀a b:Int,RC prog 3 3 (E6 a) (E6 b)=some (a==b):=by intros;kernel_rfl
theorem Su:∀a b:Key,RC prog 3 168 (LX a) (LX b)=some (a.1==b.1 && (a.2.1==b.2.1 && (a.2.2==b.2.2 && true))):=by intros;kernel_rfl
theorem Ac:prog.follows .mixedOrders=true:=aB
theorem fx_mz106:(prog.info? 3).bind (·.zero)=some (.int .i64 0):=aB
theorem Vm:(prog.info? 3).bind (·.zero)=some (.int .i64 0):=aB
theorem DS:Ev prog 104=some [(0,5)]:=aB
theorem HQ:Ev prog 108=some [(0,5),(5,1),(6,1)]:=aB
theorem JU:Ev prog 119=some [(0,3),(3,6),(9,6)]:=aB
theorem fx_pl168:Ev prog 168=some [(0,1),(1,1),(2,1)]:=aB
theorem De:Ev prog 26=some [(0,1),(1,1),(2,1),(3,1),(4,1)]:=aB
theorem Hn:Ev prog 31=some [(0,1),(1,1)]:=aB
theorem fx_pl57:Ev prog 57=some [(0,1),(1,1),(2,1)]:=aB
theorem PC:Ev prog 75=some [(0,1),(1,1),(2,1),(3,2)]:=aB
theorem Zf:Ev prog 79=some [(0,1),(1,1),(2,2)]:=aB
theorem Zg:Ev prog 99=some [(0,1),(1,1),(2,1),(3,2)]:=aB
theorem Vn:s2bOf prog 9 230=some 5:=aB
theorem Gu:EI prog 102=some (1,#[.slice none 0 0],27):=aB
theorem fx_sel105:EI prog 105=some (15,#[.int .i64 0,.int .i64 0,.int .i64 0,.int .i64 0,.int .i64 0,.int .i64 0,.int .i64 0,.int .i64 0,.int .i64 0,.bool false,.bool false,.bool false,.bool false,.bool false,.bool false],119):=aB
theorem Gv:EI prog 165=some (1,#[.int .i64 0],32):=aB
theorem Sv:EI prog 182=some (2,#[.int .i64 0,.int .i64 0],31):=aB
theorem Vo:EI prog 22=some (5,#[.string ⟨#[]⟩,.int .i64 0,.int .i64 0,.int .i64 0,.int .i64 0],99):=aB
theorem JV:EI prog 23=some (5,#[.int .i64 0,.int .i64 0,.int .i64 0,.int .i64 0,.int .i64 0],75):=aB
theorem IN:EI prog 24=some (4,#[.int .i64 0,.int .i64 0,.int .i64 0,.int .i64 0],79):=aB
theorem CM:EI prog 27=some (1,#[.int .i64 0],3):=aB
theorem fx_sel69:EI prog 69=some (3,#[.slice none 0 0,.slice none 0 0,.slice none 0 0],57):=aB
theorem FO:KV prog 102=true:=aB
theorem HR:KV prog 105=true:=aB
theorem Qt:KV prog 165=true:=aB
theorem fx_sl182:KV prog 182=true:=aB
theorem C6:KV prog 22=true:=aB
theorem DH:KV prog 23=true:=aB
theorem fx_sl230:KV prog 230=true:=aB
theorem FC:KV prog 24=true:=aB
theorem Bt:KV prog 27=true:=aB
theorem fx_sl55:KV prog 55=true:=aB
theorem Im:KV prog 69=true:=aB
theorem Er:PO prog 9=true:=aB
theorem Kv:Cj prog 102=some (false,1):=aB
theorem CD:Cj prog 104=some (true,5):=aB
theorem D6:Cj prog 105=some (false,1):=aB
theorem Vp:Cj prog 106=some (false,1):=aB
theorem BN:Cj prog 108=some (true,7):=aB
theorem fx_ty115:Cj prog 115=some (true,3):=aB
theorem fx_ty116:Cj prog 116=some (true,6):=aB
theorem fx_ty117:Cj prog 117=some (true,6):=aB
theorem Bv:Cj prog 119=some (true,15):=aB
theorem fx_ty120:Cj prog 120=some (false,1):=aB
theorem fx_ty135:Cj prog 135=some (true,4):=aB
theorem fx_ty138:Cj prog 138=some (false,1):=aB
theorem Na:Cj prog 147=some (false,1):=aB
theorem Qu:Cj prog 168=some (true,3):=aB
theorem fx_ty179:Cj prog 179=some (false,1):=aB
theorem IO:Cj prog 181=some (false,1):=aB
theorem FP:Cj prog 204=some (false,1):=aB
theorem B2:Cj prog 22=some (false,1):=aB
theorem BD:Cj prog 23=some (false,1):=aB
theorem CG:Cj prog 24=some (false,1):=aB
theorem AM:Cj prog 26=some (true,5):=aB
theorem Cv:Cj prog 27=some (false,1):=aB
theorem AO:Cj prog 3=some (false,1):=aB
theorem BP:Cj prog 31=some (true,2):=aB
theorem PD:Cj prog 32=some (false,1):=aB
theorem I2:Cj prog 4=some (false,1):=aB
theorem fx_ty5:Cj prog 5=some (false,1):=aB
theorem KF:Cj prog 57=some (true,3):=aB
theorem In:Cj prog 73=some (false,1):=aB
theorem Es:Cj prog 75=some (true,5):=aB
theorem EM:Cj prog 79=some (true,4):=aB
theorem Mr:Cj prog 9=some (false,1):=aB
theorem GS:Cj prog 99=some (true,5):=aB
theorem fx_und179:(prog.underlying 179).isSome=true:=aB
theorem fx_und188:(prog.underlying 188).isSome=true:=aB
theorem F9:(prog.underlying 203).isSome=true:=aB
theorem T7:(prog.underlying 3).isSome=true:=aB
theorem G9:(prog.underlying 5).isSome=true:=aB
theorem IP:prog.underlying 147=some (.chan .both 27):=aB
theorem YX:CS prog 102=some #[.slice none 0 0]:=aB
theorem Bh:CS prog 104=some #[.int .i64 0,.int .i64 0,.slice none 0 0,.slice none 0 0,.slice none 0 0]:=aB
theorem YY:CS prog 105=some #[.slice none 0 0]:=aB
theorem BX:CS prog 108=some #[.int .i64 0,.int .i64 0,.slice none 0 0,.slice none 0 0,.slice none 0 0,.slice none 0 0,.map none]:=aB
theorem D7:CS prog 119=some #[.int .i64 0,.int .i64 0,.int .i64 0,.int .i64 0,.int .i64 0,.int .i64 0,.int .i64 0,.int .i64 0,.int .i64 0,.bool false,.bool false,.bool false,.bool false,.bool false,.bool false]:=aB
theorem YZ:CS prog 147=some #[.chan none]:=aB
theorem Qv:CS prog 168=some #[.int .i64 0,.int .i64 0,.int .i64 0]:=aB
theorem Qw:CS prog 181=some #[.nilFunc]:=aB
theorem Ya:CS prog 204=some #[.int .u64 0]:=aB
theorem A7:CS prog 26=some #[.int .i64 0,.int .i64 0,.slice none 0 0,.slice none 0 0,.slice none 0 0]:=aB
theorem fx_zero27:CS prog 27=some #[.slice none 0 0]:=aB
theorem fx_zero3:CS prog 3=some #[.int .i64 0]:=aB
theorem CQ:CS prog 31=some #[.int .i64 0,.int .i64 0]:=aB
theorem fx_zero32:CS prog 32=some #[.int .i64 0]:=aB
theorem fx_zero4:CS prog 4=some #[.bool false]:=aB
theorem Sw:CS prog 57=some #[.slice none 0 0,.slice none 0 0,.slice none 0 0]:=aB
theorem GA:CS prog 75=some #[.int .i64 0,.int .i64 0,.int .i64 0,.int .i64 0,.int .i64 0]:=aB
theorem JW:CS prog 79=some #[.int .i64 0,.int .i64 0,.int .i64 0,.int .i64 0]:=aB
theorem H1:CS prog 99=some #[.string ⟨#[]⟩,.int .i64 0,.int .i64 0,.int .i64 0,.int .i64 0]:=aB
end Go.Ns
