/- Rules and walks, part 2 of 6. No conditions. -/
import Derived.Sort.AssemblyPlain
import Derived.Sort.LotD3
import Derived.Test.YthccgklboafliaaDoorBoA
set_option linter.unusedVariables false
set_option linter.unusedSimpArgs false
set_option linter.unnecessarySimpa false
set_option linter.unusedSectionVars false
namespace Go.Ns
open Go.Conc
section
variable {P:Program} {E:Env P} {σ:Nat→Value} {ds:List Deferred} {h:GH} {T:(Nat→Value)→List Deferred→GH→Prop}
variable {dst:Option Nat} {ty:TypeId} {pos:String} {af:Array Edge} {gd:Option (Nat×Bool)}
variable {α:Type}
def LawsOK (R:GH→GH→Prop):List Law→Prop
 | []=>True
 | φ ::l=>(∀v h h',R h h'→φ v h→φ v h')∧LawsOK R l
theorem LawsOK.mono {R:GH→GH→Prop}:∀{Φ:List Law},LawsOK R Φ→∀k v h h',R h h'→lawAt Φ k v h→lawAt Φ k v h'
 | [],_,k,v,h,h',_,x=>by cases k <;> exact x
 | φ ::l,ok,0,v,h,h',r,x=>ok.1 v h h' r x
 | φ ::l,ok,k+1,v,h,h',r,x=>LawsOK.mono ok.2 k v h h' r x
theorem tr_drawn {R:GH→GH→Prop} (rr:∀h,R h h) (rt:∀a b c,R a b→R b c→R a c) {id:Nat} {l:List Oper} {Q:Post} (n:Nat) (cls:List (List Nat)) (Φ:List Law)
  (hm:P.follows .mixedOrders=true) (ok:drawOK E.N l n cls=true) (mono:LawsOK R Φ) (x:DrAll R E l n Φ σ ds h Q n 0 l cls):Tr E (.region id l.toArray true) σ ds h Q:=
 tr_draw R n cls Φ hm ok rr rt mono.mono x
theorem tr_drawnLe {id:Nat} {l:List Oper} {Q:Post} (n:Nat) (cls:List (List Nat)) (Φ:List Law)
  (hm:P.follows .mixedOrders=true) (ok:drawOK E.N l n cls=true) (mono:LawsOK GH.Le Φ) (x:DrAll GH.Le E l n Φ σ ds h Q n 0 l cls):Tr E (.region id l.toArray true) σ ds h Q:=
 tr_drawn GH.Le.refl (fun _ _ _=>GH.Le.trans) n cls Φ hm ok mono x
theorem trL_opg {ops:Array Oper} {o:Oper} {l:List Oper} {Q:Post} {j d:Nat} {want:Bool} {oj:Oper} (hg:o.guard=some (j,want)) (hj:ops[j]? =some oj) (hjd:oj.dst=some d) (hv:σ d=.bool want) (hdj:Nat.blt d E.N=true)
  (hdf:E.rd=none∨isDefer o.op=false) (hd:dstOK o.dst E.N=true) (x:OpK E o σ ds h fun σ' ds' h'=>TrL E ops l σ' ds' h' Q):TrL E ops (o ::l) σ ds h Q:=trL_op_guard hg hj hjd hv hdj hdf hd x
theorem trL_skip_undef {ops:Array Oper} {o:Oper} {l:List Oper} {Q:Post} {j d:Nat} {want:Bool} {oj:Oper} (hg:o.guard=some (j,want)) (hj:ops[j]? =some oj) (hjd:oj.dst=some d) (hv:σ d=undef) (hdj:Nat.blt d E.N=true)
  (hd:dstOK o.dst E.N=true) (x:TrL E ops l (putS σ o.dst undef) ds h Q):TrL E ops (o ::l) σ ds h Q:=by
 intro i b k cs L t hi hb hr hl hs hc;have ho:ops[i]? =some o:=by simpa using (hi 0).symm
 have hy:yielded ops t j=none:=by
  have hlt:d<t.size:=by rw [hs.1];exact Nat.blt_eq▸hdj
  have h2:=hs.2 d;rw [hv] at h2;have h3:t[d]? =some undef:=by
   simp only [Array.getD_eq_getD_getElem?,Array.getElem?_eq_getElem hlt,Option.getD_some] at h2;rw [Array.getElem?_eq_getElem hlt,h2]
  simp [yielded,hj,hjd,h3,undef]
 refine Wk.go (fat b (putT t o.dst undef) ds (.inRegion ops (List.range' (i+1) l.length) ::k)) (fun w=>?_) ?_
 ·have hw':((ops[i]?).map (Region.wanted · (yielded ops t))).getD false=false:=by
   simp only [ho,Option.map_some,Option.getD_some,Region.wanted,hg,hy];cases want <;> rfl
  rw [←finish_fat ho (rest:=List.range' (i+1) l.length),List.length_cons,List.range'_succ,stepG_fat];unfold stepG.exec;simp only [fat,hw',Bool.false_eq_true,↓reduceIte];rfl
 ·exact x (i+1) b k cs L _ (fun j=>by have:=hi (j+1);simpa [Nat.add_assoc,Nat.add_comm 1 j] using this) hb hr hl (hs.putS hd undef) hc
theorem trL_case {ops:Array Oper} {l:List Oper} {Q:Post} {p:Prop} [Decidable p] (a:p→TrL E ops l σ ds h Q) (a':¬p→TrL E ops l σ ds h Q):TrL E ops l σ ds h Q:=if h:p then a h else a' h
theorem trL_caseb {ops:Array Oper} {l:List Oper} {Q:Post} {b:Bool} (a:b=true→TrL E ops l σ ds h Q) (a':b=false→TrL E ops l σ ds h Q):TrL E ops l σ ds h Q:=by
 cases b with
 | true=>exact a rfl
 | false=>exact a' rfl
theorem ok_makeFunc1 {f:Fn} {x1:Operand} {v1:Value} (h1:evalS σ x1=v1) (k:T (putS σ dst (.func f #[] #[v1])) ds h):OpK E ⟨dst,.makeFunc f #[] #[x1],ty,pos,af,gd⟩ σ ds h T:=ok_makeFunc (by simp [h1]) k
theorem ok_makeFunc2 {f:Fn} {x1 x2:Operand} {v1 v2:Value} (h1:evalS σ x1=v1) (h2:evalS σ x2=v2) (k:T (putS σ dst (.func f #[] #[v1,v2])) ds h):OpK E ⟨dst,.makeFunc f #[] #[x1,x2],ty,pos,af,gd⟩ σ ds h T:=ok_makeFunc (by simp [h1,h2]) k
theorem ok_makeFunc3 {f:Fn} {x1 x2 x3:Operand} {v1 v2 v3:Value} (h1:evalS σ x1=v1) (h2:evalS σ x2=v2) (h3:evalS σ x3=v3) (k:T (putS σ dst (.func f #[] #[v1,v2,v3])) ds h):OpK E ⟨dst,.makeFunc f #[] #[x1,x2,x3],ty,pos,af,gd⟩ σ ds h T:=ok_makeFunc (by simp [h1,h2,h3]) k
theorem ok_makeFunc4 {f:Fn} {x1 x2 x3 x4:Operand} {v1 v2 v3 v4:Value} (h1:evalS σ x1=v1) (h2:evalS σ x2=v2) (h3:evalS σ x3=v3) (h4:evalS σ x4=v4) (k:T (putS σ dst (.func f #[] #[v1,v2,v3,v4])) ds h):OpK E ⟨dst,.makeFunc f #[] #[x1,x2,x3,x4],ty,pos,af,gd⟩ σ ds h T:=ok_makeFunc (by simp [h1,h2,h3,h4]) k
theorem ok_makeFunc5 {f:Fn} {x1 x2 x3 x4 x5:Operand} {v1 v2 v3 v4 v5:Value} (h1:evalS σ x1=v1) (h2:evalS σ x2=v2) (h3:evalS σ x3=v3) (h4:evalS σ x4=v4) (h5:evalS σ x5=v5) (k:T (putS σ dst (.func f #[] #[v1,v2,v3,v4,v5])) ds h):OpK E ⟨dst,.makeFunc f #[] #[x1,x2,x3,x4,x5],ty,pos,af,gd⟩ σ ds h T:=ok_makeFunc (by simp [h1,h2,h3,h4,h5]) k
theorem bool_np {v:Value} {p:Prop} [Decidable p] (e:v=.bool (decide p)) (g:v=.bool false):¬p:=by
 rw [e] at g;simpa using g
theorem OwnSl.fresh {h0 h:GH} {v:Value} {t:TypeId} {n:Nat} {enc:α→Array Value} {xs:List α} (x:OwnSl h0 h v t n enc xs):∀b,back v=some b→h0 b=none:=by
 intro b hb;rcases x with ⟨rfl,_⟩ | ⟨b',cap,c,rfl,h1,_⟩
 ·cases hb
 ·simp [back] at hb;subst hb;exact h1
theorem OwnSl.inDom {h0 h:GH} {v:Value} {t:TypeId} {n:Nat} {enc:α→Array Value} {xs:List α} (x:OwnSl h0 h v t n enc xs):∀b,back v=some b→∃o,h b=some o:=by
 intro b hb;rcases x with ⟨rfl,_⟩ | ⟨b',cap,c,rfl,h1,h2,_⟩
 ·cases hb
 ·simp [back] at hb;subst hb;exact ⟨_,h2⟩
def Off (v:Value) (b:Nat):Prop:=back v≠some b
def Apart (v w:Value):Prop:=∀b,back v=some b→back w≠some b
theorem Apart.symm {v w:Value} (a:Apart v w):Apart w v:=fun b h h'=>a b h' h
theorem Off.nil {b:Nat}:Off (.slice none 0 0) b:=by intro h;cases h
theorem Apart.nil {w:Value}:Apart (.slice none 0 0) w:=by intro b h;cases h
theorem Off.old {h0 h:GH} {v:Value} {t:TypeId} {n:Nat} {enc:α→Array Value} {xs:List α} (x:OwnSl h0 h v t n enc xs) {b:Nat} {o:Bool×Obj} (hb:h0 b=some o):Off v b:=fun e=>by
 rw [x.fresh b e] at hb;cases hb
theorem Off.new {h0 h:GH} {v:Value} {t:TypeId} {n:Nat} {enc:α→Array Value} {xs:List α} (x:OwnSl h0 h v t n enc xs) {b:Nat} (hb:h b=none):Off v b:=fun e=>by
 obtain ⟨o,ho⟩:=x.inDom b e;rw [hb] at ho;cases ho
def Grown (h h':GH) (v v':Value):Prop:=(∀b o,h b=some o→back v≠some b→h' b=some o)∧(back v'=back v∨((∃r,back v'=some r∧h r=none)∧∀b o,h b=some o→h' b=some o))
theorem Off.grown {h h':GH} {v v':Value} (g:Grown h h' v v') {b:Nat} {o:Bool×Obj} (hb:h b=some o) (x:Off v b):Off v' b:=fun e=>by
 rcases g.2 with q | ⟨⟨r,q1,q2⟩,_⟩
 ·exact x (q▸e)
 ·rw [q1] at e;cases e;rw [q2] at hb;cases hb
theorem Apart.grown {h h' h0:GH} {v v' w:Value} (g:Grown h h' v v') {t:TypeId} {n:Nat} {enc:α→Array Value} {xs:List α} (y:OwnSl h0 h w t n enc xs) (x:Apart v w):Apart v' w:=fun b e e'=>by
 obtain ⟨o,ho⟩:=y.inDom b e';rcases g.2 with q | ⟨⟨r,q1,q2⟩,_⟩
 ·exact x b (q▸e) e'
 ·rw [q1] at e;cases e;rw [q2] at ho;cases ho
theorem OwnSl.grown {h h' h0:GH} {v v' w:Value} (g:Grown h h' v v') {t:TypeId} {n:Nat} {enc:α→Array Value} {xs:List α} (y:OwnSl h0 h w t n enc xs) (x:Apart v w):OwnSl h0 h' w t n enc xs:=
 y.keep fun b o hb ho=>g.1 b o ho fun e=>x b e hb
theorem GH.Le.grown {h1 h h':GH} {v v':Value} (g:Grown h h' v v') (l:h1.Le h) (f:∀b,back v=some b→h1 b=none):h1.Le h':=fun b p o hb=>by
 obtain ⟨o',h2,h3⟩:=l b p o hb;exact ⟨o',g.1 b _ h2 fun e=>(by rw [f b e] at hb;cases hb),h3⟩
theorem box_grown {h h':GH} {v v':Value} (g:Grown h h' v v') {b:Nat} {o:Bool×Obj} (hb:h b=some o) (x:Off v b):h' b=some o:=g.1 b o hb x
theorem OwnSl.stored {h0 h h':GH} {v:Value} {t:TypeId} {n:Nat} {enc:α→Array Value} {xs:List α} (y:OwnSl h0 h v t n enc xs) {r:Nat} (x:Off v r) (ho:∀b,b≠r→h' b=h b):OwnSl h0 h' v t n enc xs:=
 y.keep fun b o hb hb'=>by rw [ho b fun e=>by subst e;exact x hb];exact hb'
theorem ok_appendG {s x:TypeId} {o1 o2:Operand} {h0:GH} {v w:Value} {e n bytes:Nat} {enc:α→Array Value} {xs ys:List α} (ht:appOf P s x=some (e,n,bytes)) (h1:evalS σ o1=v) (h2:evalS σ o2=w)
  (hv:OwnSl h0 h v e n enc xs) (hw:SlIs h w n enc ys) (l0:∀r,h r=none→h0 r=none) (hb:(2*(xs.length+ys.length)+512)*bytes≤2 ^ 48) (hfine:∀y ∈ ys,(enc y).toList.all (·.oneCell')=true)
  (k:∀v' h',OwnSl h0 h' v' e n enc (xs++ys)→Grown h h' v v'→T (putS σ dst v') ds h') :
  OpK E ⟨dst,.call ⟨.builtin .append,#[o1,o2],#[s,x]⟩,ty,pos,af,gd⟩ σ ds h T:=
 ok_append ht h1 h2 hv hw l0 hb hfine fun v' h' a b c=>k v' h' a ⟨b,c⟩
theorem ok_indexS0 {h0:GH} {t:TypeId} {x ix:Operand} {n:Nat} {enc:α→Array Value} {xs:List α} {v:Value} {kd:IntKind} {i:Int} (ht:eszOf P t=some n) (hs:SlIs h0 v n enc xs) (hx:evalS σ x=v) (hi:evalS σ ix=.int kd i) (h0':0≤i) (h1:i<xs.length)
  (k:∀b off,Elem h0 b off n (enc (xs[i.toNat]'(by omega)))→T (putS σ dst (.pointer (some ⟨b,off,none⟩))) ds h):OpK E ⟨dst,.indexAddr t x ix,ty,pos,af,gd⟩ σ ds h T:=by
 obtain ⟨a,cap,rfl,_,_,he⟩:=hs;obtain ⟨b,off,rfl,hb⟩:=he i.toNat (by omega);exact ok_indexAddr ht hx hi h0' h1 (k b _ hb)
theorem OwnSl.built {h h':GH} {r:Nat} {t:TypeId} {n:Nat} {enc:α→Array Value} {xs:List α} {c:Array Value} {m:Nat} (hr:h r=none) (hb:h' r=some (true,.cells c t (0,0))) (hm:xs.length=m) (hml:Nat.ble m 16777216=true) (hn:∀x ∈ xs,(enc x).size=n) (hc:c.toList=flat enc xs) :
  OwnSl h h' (.slice (some ⟨r,0,none⟩) m m) t n enc xs:=by
 subst hm
 have:=Nat.le_of_ble_eq_true hml
 refine .inr ⟨r,_,c,rfl,hr,hb,?_,Nat.le_refl _,by omega,?_,hn⟩
 ·rw [←flat_length hn,←hc,Array.length_toList]
 ·rw [hc,←flat_length hn,List.take_length]
theorem ok_buildSlice' {t:TypeId} {len n:Nat} {z cells:Array Value} {e:TypeId} {parts:Array (Nat×Operand)} (hs:selemOf P t=some (n,z,e)) (hl:len*n≤2 ^ 24) (hn:(len*n=0)=False)
  (hf:Instr.fill (fun i=>some (i*n,n)) ((Array.range (len*n)).map (z[·%z.size]!)) (parts.map fun (i,x)=>(i,evalS σ x)).toList=some cells)
  (k:∀r h',h r=none→h.Le h'→h' r=some (true,.cells cells e (0,0))→(∀b,b≠r→h' b=h b)→T (putS σ dst (.slice (some ⟨r,0,none⟩) len len)) ds h'):OpK E ⟨dst,.buildSlice t len parts,ty,pos,af,gd⟩ σ ds h T:=
 ok_buildSlice hs hl hn hf fun r hr=>k r _ hr (GH.Le.new hr _ _) (GH.set_same _ _ _ _) fun b hb=>GH.set_ne _ _ _ hb
theorem ok_copy' {s x:TypeId} {o1 o2:Operand} {b off dl cap n:Nat} {e:TypeId} {enc:α→Array Value} {ys:List α} {w:Value} {c c':Array Value} (ht:eszOf P s=some n) (h1:evalS σ o1=.slice (some ⟨b,off,none⟩) dl cap) (h2:evalS σ o2=w)
  (hb:h b=some (true,.cells c e (0,0))) (hn:off+dl*n≤c.size) (hw:SlIs h w n enc ys) (hl:ys.length≤dl) (hfine:∀y ∈ ys,(enc y).toList.all (·.oneCell')=true) (hsz:∀y ∈ ys,(enc y).size=n) (hc:putCells c off (flat enc ys)=c')
  (k:∀h',h' b=some (true,.cells c' e (0,0))→(∀x,x≠b→h' x=h x)→T (putS σ dst (.int .i64 ys.length)) ds h') :
  OpK E ⟨dst,.call ⟨.builtin .copy,#[o1,o2],#[s,x]⟩,ty,pos,af,gd⟩ σ ds h T:=
 ok_copy ht h1 h2 hb hn hw hl hfine hsz (k _ (by rw [hc];exact GH.set_same _ _ _ _) fun x hx=>GH.set_ne _ _ _ hx)
theorem ok_buildSlice0 {t:TypeId} {n:Nat} {z:Array Value} {e:TypeId} (hs:selemOf P t=some (n,z,e)) (k:∀r h',h r=none→h.Le h'→h' r=some (true,.cells #[] e (0,0))→(∀b,b≠r→h' b=h b)→T (putS σ dst (.slice (some ⟨r,0,none⟩) 0 0)) ds h') :
  OpK E ⟨dst,.buildSlice t 0 #[],ty,pos,af,gd⟩ σ ds h T:=by
 unfold OpK execOp;refine gh_v ?_;unfold selemOf at hs;unfold Instr.buildSlice;cases hu:P.underlying t with
 | none=>rw [hu] at hs;cases hs
 | some d=>
  rw [hu] at hs;cases d <;> first | (cases hs;done) | skip
  rename_i e'
  simp only at hs;cases ht:tyOf P e' with
  | none=>rw [ht] at hs;cases hs
  | some x=>
   cases hz:zeroOf P e' with
   | none=>rw [ht,hz] at hs;cases hs
   | some z'=>
    rw [ht,hz] at hs;simp only [Option.some.injEq,Prod.mk.injEq] at hs;obtain ⟨rfl,rfl,rfl⟩:=hs;refine gh_bind _ _ (gh_underlying hu ?_);refine gh_bind _ _ (gh_sizeOf2 (by rw [ht];rfl) ?_);rw [Nat.zero_mul,if_neg (by decide)];dsimp only;rw [if_pos rfl];refine gh_bind _ _ (gh_pure ?_);have e0:Instr.fill (fun i=>some (i*x.snd,x.snd)) (Array.map (fun y=>(#[]:Array Value)[y%(#[]:Array Value).size]!) (Array.range 0)) (Array.map (fun y:Nat×Operand=>(y.fst,evalS σ y.snd)) #[]).toList=some #[]:=by
     simp [Instr.fill]
    rw [e0];dsimp only;refine gh_bind _ _ ?_;unfold newRow;refine gh_bind _ _ (fun r hr=>?_);exact k r _ hr (GH.Le.new hr _ _) (GH.set_same _ _ _ _) fun b hb=>GH.set_ne _ _ _ hb
end
end Go.Ns
namespace Go.Ns
open Go.Conc
section
variable {P:Program} {E:Env P}
def drawOK2 (N:Nat) (ops:List Oper) (n:Nat) (cls:List (List Nat)):Bool:=
 Nat.ble n ops.length && cls.length==n && decide (dsts ops n).Nodup &&
 (List.range ops.length).all fun i=>match ops[i]? with
  | none=>false
  | some o=>(o.after.all fun e=> !Region.binds .any e || Nat.blt e.on i) &&
   if Nat.blt i n then
    dstOK o.dst N && !isDefer o.op && (match o.guard with | none=>true | some (j,_)=>anyOn o j) &&
    ((cls.getD i []).all fun j=>Nat.blt j i && (anyOn o j || (List.range i).any fun e=>anyOn o e && (cls.getD e []).contains j))
   else (List.range i).all fun j=>anyOn o j || (Nat.blt j n && (List.range n).any fun e=>anyOn o e && (cls.getD e []).contains j) || (List.range i).any fun e=>Nat.ble n e && Nat.blt j e && anyOn o e
theorem go_suffix2 {ops:Array Oper} {N n:Nat} {l:List Oper} {cls:List (List Nat)} (hl:ops=l.toArray) (ok:drawOK2 N l n cls=true) :
  ∀(fuel t i:Nat) (listed:Array Bool),n≤i→i≤l.length→l.length-i≤fuel→listed.size=l.length→(∀j,j<l.length→listed.getD j false=decide (j<i))→
   Region.linearise.go .any ops fuel t listed []=List.range' i (l.length-i):=by
 subst hl;unfold drawOK2 at ok;simp only [Bool.and_eq_true] at ok;obtain ⟨⟨⟨ok1,ok2⟩,ok3⟩,ok4⟩:=ok;intro fuel
 induction fuel with
 | zero=>intro t i listed _ _ h0 _ _;rw [show l.length-i=0 by omega];rfl
 | succ fuel ih=>
  intro t i listed hn hi hf hsz hL;by_cases hil0:i=l.length
  ·have hnone:Region.ready .any l.toArray listed=[]:=by
    unfold Region.ready;rw [List.filter_eq_nil_iff];intro j hj;have hj':j<l.length:=by simpa using hj
    have hg:listed.getD j true=decide (j<i):=by
     rw [←hL j hj'];simp [Array.getD_eq_getD_getElem?,hsz,hj']
    rw [hg];simp [show j<i by omega]
   simp only [Region.linearise.go];change (match (Region.ready .any l.toArray listed)[t%(Region.ready .any l.toArray listed).length]? with
    | some i=>Region.linearise.go .any l.toArray fuel (t / (Region.ready .any l.toArray listed).length) (listed.setIfInBounds i true) [i]
    | none=>[].reverse)=_
   rw [hnone,show l.length-i=0 by omega];rfl
  have hready:Region.ready .any l.toArray listed=[i]:=by
   unfold Region.ready;have key:∀j,j<l.length→((!listed.getD j true && ((l.toArray[j]?).map (·.after.all fun e=> !Region.binds .any e || listed.getD e.on false)).getD false)=decide (j=i)):=by
    intro j hj;have hg:listed.getD j true=decide (j<i):=by
     rw [←hL j hj];simp [Array.getD_eq_getD_getElem?,hsz,hj]
    have hoj:l[j]? =some l[j]:=List.getElem?_eq_getElem hj;have o4:=all_range ok4 hj;simp only [hoj,Bool.and_eq_true] at o4;rcases Nat.lt_trichotomy j i with hlt | heq | hgt
    ·rw [hg];simp [hlt];omega
    ·subst heq;rw [hg];simp only [Nat.lt_irrefl,decide_false,Bool.not_false,Bool.true_and,decide_true]
     have:l.toArray[j]? =some l[j]:=by simpa using hoj
     rw [this];simp only [Option.map_some,Option.getD_some];have o5:=o4.1;rw [Array.all_eq_true] at o5 ⊢;intro k hk
     have:=o5 k hk
     simp only [Bool.or_eq_true,Bool.not_eq_true'] at this ⊢;rcases this with e | e
     ·exact .inl e
     ·right;have e':(l[j].after[k]).on<j:=Nat.blt_eq▸e;rw [hL _ (by omega)];simpa using e'
    ·rw [hg];have h1:¬j<i:=by omega
     have h2:Nat.blt j n=false:=by
      cases h:Nat.blt j n with
      | false=>rfl
      | true=>have:j<n:=Nat.blt_eq▸h;omega
     have o5:=o4.2;rw [h2] at o5;simp only [Bool.false_eq_true,if_false] at o5;have o6':=all_range o5 hgt;have hin':Nat.blt i n=false:=by
      cases h:Nat.blt i n with
      | false=>rfl
      | true=>have:i<n:=Nat.blt_eq▸h;omega
     rw [hin'] at o6';simp only [Bool.false_and,Bool.or_false,Bool.or_eq_true] at o6';obtain ⟨i',hi',hij',o6⟩:∃i',i≤i'∧i'<j∧anyOn l[j] i'=true:=by
      rcases o6' with q | q
      ·exact ⟨i,Nat.le_refl _,hgt,q⟩
      ·rw [List.any_eq_true] at q;obtain ⟨e,he,q2⟩:=q;simp only [Bool.and_eq_true] at q2;have q3:i<e:=Nat.blt_eq▸q2.1.2;exact ⟨e,by omega,List.mem_range.1 he,q2.2⟩
     have:l.toArray[j]? =some l[j]:=by simpa using hoj
     rw [this];simp only [Option.map_some,Option.getD_some];have hne:¬j=i:=by omega
     simp only [hne,decide_false,Bool.and_eq_false_iff];right;unfold anyOn at o6;rw [Array.any_eq_true] at o6;obtain ⟨k,hk,e⟩:=o6;simp only [Bool.and_eq_true,beq_iff_eq] at e;rw [Array.all_eq_false];refine ⟨k,hk,?_⟩
     have:=hL i' (by omega)
     rw [decide_eq_false (by omega)] at this;simp [e.1,e.2,this]
   have:(List.range l.toArray.size).filter (fun j=> !listed.getD j true && ((l.toArray[j]?).map (·.after.all fun e=> !Region.binds .any e || listed.getD e.on false)).getD false)=(List.range l.length).filter (fun j=>decide (j=i)):=by
    rw [List.size_toArray];exact List.filter_congr fun j hj=>key j (List.mem_range.1 hj)
   rw [this];have hil:i<l.length:=by omega
   clear this key ih hL ok4
   have:∀m,(List.range m).filter (fun j=>decide (j=i))=if i<m then [i] else []:=by
    intro m
    induction m with
    | zero=>simp
    | succ m ih=>
     rw [List.range_succ,List.filter_append,ih];by_cases h1:i<m
     ·have h2:i<m+1:=by omega
      have h3:¬m=i:=by omega
      simp [h1,h2,h3]
     ·by_cases h2:m=i
      ·subst h2;simp
      ·have h3:¬i<m+1:=by omega
       simp [h1,h2,h3]
   rw [this,if_pos hil]
  simp only [Region.linearise.go];change (match (Region.ready .any l.toArray listed)[t%(Region.ready .any l.toArray listed).length]? with
   | some i=>Region.linearise.go .any l.toArray fuel (t / (Region.ready .any l.toArray listed).length) (listed.setIfInBounds i true) [i]
   | none=>[].reverse)=_
  rw [hready];simp only [List.length_singleton,Nat.mod_one,List.getElem?_cons_zero,Nat.div_one];rw [linearise_go_acc,List.reverse_singleton,List.singleton_append,show l.length-i=(l.length-(i+1))+1 by omega,List.range'_succ];rw [ih t (i+1) _ (by omega) (by omega) (by omega) (by simpa using hsz)];intro j hj;rw [Array.getD_eq_getD_getElem?,Array.getElem?_setIfInBounds];by_cases hij:i=j
  ·subst hij;simp [hsz,hj]
  ·rw [if_neg hij,←Array.getD_eq_getD_getElem?,hL j hj];by_cases h1:j<i
   ·have:j<i+1:=by omega
    simp [h1,this]
   ·have:¬j<i+1:=by omega
    simp [h1,this]
def addD (D:Nat→Bool) (i:Nat):Nat→Bool:=fun j=>if i=j then true else D j
structure SInv (l:List Oper) (n:Nat) (cls:List (List Nat)) (J:(Nat→Bool)→(Nat→Value)→GH→Prop) (listed:Array Bool) (σ':Nat→Value) (h':GH):Prop where
 inv:J (fun j=>listed.getD j false) σ' h'
 size:listed.size=l.length
 clos:∀j,j<n→listed.getD j false=true→∀i ∈ cls.getD j [],i<n∧listed.getD i false=true
 suf:∀j,n≤j→j<l.length→listed.getD j false=false
theorem tr_drawS {id:Nat} {l:List Oper} {σ:Nat→Value} {ds:List Deferred} {h:GH} {Q:Post} (n:Nat) (cls:List (List Nat)) (J:(Nat→Bool)→(Nat→Value)→GH→Prop)
  (hm:P.follows .mixedOrders=true) (ok:drawOK2 E.N l n cls=true) (i0:J (fun _=>false) σ h)
  (step:∀D σ' h' i o,J D σ' h'→i<n→D i=false→l[i]? =some o→(∀q ∈ cls.getD i [],D q=true)→(∀g w,o.guard=some (g,w)→D g=true)→
   (GuardIs l o σ'→OpK E o σ' ds h' fun σ'' ds'' h''=>ds''=ds∧J (addD D i) σ'' h'')∧(¬GuardIs l o σ'→J (addD D i) (putS σ' o.dst undef) h'))
  (fin:∀D σ' h',J D σ' h'→(∀i,i<n→D i=true)→TrL E l.toArray (l.drop n) σ' ds h' Q):Tr E (.region id l.toArray true) σ ds h Q:=by
 have ok':=ok;unfold drawOK2 at ok;simp only [Bool.and_eq_true] at ok;obtain ⟨⟨⟨ok1,ok2⟩,ok3⟩,ok4⟩:=ok;have nd:(dsts l n).Nodup:=of_decide_eq_true ok3;have hnl:n≤l.length:=Nat.ble_eq▸ok1;intro b k cs L t hb hr hl hs hq;have suffix:∀(fuel tp:Nat) (listed:Array Bool) (σ':Nat→Value) (h':GH) (t:Array Value),SInv l n cls J listed σ' h'→(∀j,j<n→listed.getD j false=true)→listed.toList.count false≤fuel→SlotsAre t E.N σ'→
   E.wk.K (G (fat b t ds (.inRegion l.toArray (Region.linearise.go .any l.toArray fuel tp listed []) ::k)) cs) h':=by
  intro fuel tp listed σ' h' t I hall hcnt hst;have hsz:=I.size;have hL:∀j,j<l.length→listed.getD j false=decide (j<n):=fun j hj=>by
   by_cases h1:j<n
   ·rw [hall j h1];simp [h1]
   ·rw [I.suf j (by omega) hj];simp [h1]
  have e:Region.linearise.go .any l.toArray fuel tp listed []=List.range' n (l.drop n).length:=by
   have hcl:listed.toList=List.replicate n true++List.replicate (l.length-n) false:=by
    refine List.ext_getElem (by simp [hsz];omega) fun j h1 h2=>?_;have h1':j<l.length:=by simpa [hsz] using h1
    have hb:=hL j h1';have h1'':j<listed.size:=by omega
    rw [Array.getD_eq_getD_getElem?,Array.getElem?_eq_getElem h1'',Option.getD_some] at hb;rw [Array.getElem_toList,hb,List.getElem_append];split
    ·rename_i h3;have h4:j<n:=by simpa using h3
     simp [h4]
    ·rename_i h3;have h4:¬j<n:=by simpa using h3
     simp [h4]
   have hc:l.length-n≤fuel:=by rw [hcl] at hcnt;simpa [List.count_append,List.count_replicate] using hcnt
   rw [List.length_drop];exact go_suffix2 (ops:=l.toArray) rfl ok' fuel tp n listed (Nat.le_refl _) hnl hc hsz hL
  rw [e];exact fin _ σ' h' I.inv hall n b k cs L t (fun j=>by simp) hb hr hl hst hq
 have key:∀(fuel tp:Nat) (listed:Array Bool) (σ':Nat→Value) (h':GH) (t:Array Value),SInv l n cls J listed σ' h'→listed.toList.count false≤fuel→SlotsAre t E.N σ'→
   E.wk.K (G (fat b t ds (.inRegion l.toArray (Region.linearise.go .any l.toArray fuel tp listed []) ::k)) cs) h':=by
  intro fuel
  induction fuel with
  | zero=>
   intro tp listed σ' h' t I hcnt hst;exact suffix 0 tp listed σ' h' t I (by
    intro j hj;cases hb:listed.getD j false with
    | true=>rfl
    | false=>
     have hsz:=I.size;have hlt:j<listed.size:=by omega
     have:false ∈ listed.toList:=by
      rw [Array.getD_eq_getD_getElem?,Array.getElem?_eq_getElem hlt,Option.getD_some] at hb;rw [←hb];simp
     have:=List.count_pos_iff.2 this
     omega) hcnt hst
  | succ fuel ih=>
   intro tp listed σ' h' t I hcnt hst;by_cases hall:∀j,j<n→listed.getD j false=true
   ·exact suffix (fuel+1) tp listed σ' h' t I hall hcnt hst
   have hsz:=I.size;have hready:∃i0,i0<n∧listed.getD i0 false=false∧∀j,j<i0→listed.getD j false=true:=by
    have hex:∃j,j<n∧listed.getD j false=false:=by
     refine Classical.byContradiction fun hc=>hall fun j hj=>?_;cases hb:listed.getD j false with
     | true=>rfl
     | false=>exact absurd ⟨j,hj,hb⟩ hc
    obtain ⟨j,hj⟩:=hex
    induction j using Nat.strongRecOn with
    | ind j ihj=>
     by_cases hz:∃i,i<j∧listed.getD i false=false
     ·obtain ⟨i,hi,hi'⟩:=hz;exact ihj i hi ⟨by omega,hi'⟩
     ·refine ⟨j,hj.1,hj.2,fun i hi=>?_⟩;cases hb:listed.getD i false with
      | true=>rfl
      | false=>exact absurd ⟨i,hi,hb⟩ hz
   obtain ⟨i0,hi0,hl0,hb0⟩:=hready;have hget:∀j,j<l.length→listed.getD j true=listed.getD j false:=fun j hj=>by
    have hlt:j<listed.size:=by omega
    simp [Array.getD_eq_getD_getElem?,Array.getElem?_eq_getElem hlt]
   have hmem:∀i,i ∈ Region.ready .any l.toArray listed↔i<l.length∧listed.getD i false=false∧∀o,l[i]? =some o→∀e ∈ o.after,Region.binds .any e=true→listed.getD e.on false=true:=by
    intro i;unfold Region.ready;rw [List.mem_filter,List.mem_range,List.size_toArray];constructor
    ·rintro ⟨hi,x⟩;rw [hget i hi] at x;have hoi:l.toArray[i]? =some l[i]:=by simp [hi]
     rw [hoi] at x;simp only [Option.map_some,Option.getD_some,Bool.and_eq_true,Bool.not_eq_true'] at x;refine ⟨hi,x.1,fun o ho e he hbd=>?_⟩;rw [List.getElem?_eq_getElem hi] at ho;cases ho
     have:=(Array.all_eq_true_iff_forall_mem.1 x.2) e he
     simpa [hbd] using this
    ·rintro ⟨hi,x1,x2⟩;refine ⟨hi,?_⟩;rw [hget i hi];have hoi:l.toArray[i]? =some l[i]:=by simp [hi]
     rw [hoi];simp only [Option.map_some,Option.getD_some,Bool.and_eq_true,Bool.not_eq_true'];refine ⟨x1,Array.all_eq_true_iff_forall_mem.2 fun e he=>?_⟩;cases hbd:Region.binds .any e with
     | false=>rfl
     | true=>simpa using x2 _ (List.getElem?_eq_getElem hi) e he hbd
   have hi0r:i0 ∈ Region.ready .any l.toArray listed:=by
    rw [hmem];refine ⟨by omega,hl0,fun o ho e he hbd=>?_⟩;have o4:=all_range ok4 (show i0<l.length by omega);simp only [ho,Bool.and_eq_true] at o4
    have:=(Array.all_eq_true_iff_forall_mem.1 o4.1) e he
    simp only [hbd,Bool.not_true,Bool.false_or] at this;exact hb0 _ (Nat.blt_eq▸this)
   simp only [Region.linearise.go];change E.wk.K (G (fat b t ds (.inRegion l.toArray (match (Region.ready .any l.toArray listed)[tp%(Region.ready .any l.toArray listed).length]? with
    | some i=>Region.linearise.go .any l.toArray fuel (tp / (Region.ready .any l.toArray listed).length) (listed.setIfInBounds i true) [i]
    | none=>[].reverse) ::k)) cs) h'
   cases hi:(Region.ready .any l.toArray listed)[tp%(Region.ready .any l.toArray listed).length]? with
   | none=>
    exfalso;have hpos:0<(Region.ready .any l.toArray listed).length:=List.length_pos_of_mem hi0r
    have:=Nat.mod_lt tp hpos
    rw [List.getElem?_eq_none_iff] at hi;omega
   | some i=>
    simp only [];have him:=(hmem i).1 (List.mem_of_getElem? hi);obtain ⟨hil,hiu,hie⟩:=him;obtain ⟨o,ho⟩:∃o,l[i]? =some o:=⟨_,List.getElem?_eq_getElem hil⟩;have o4:=all_range ok4 hil;simp only [ho,Bool.and_eq_true] at o4;have hin:i<n:=by
     refine Classical.byContradiction fun hc=>?_;have h2:Nat.blt i n=false:=by
      cases h:Nat.blt i n with
      | false=>rfl
      | true=>exact absurd (Nat.blt_eq▸h) hc
     have o5:=o4.2;rw [h2] at o5;simp only [Bool.false_eq_true,if_false] at o5;have o6:=all_range o5 (show i0<i by omega);have onL:∀j,anyOn o j=true→listed.getD j false=true:=fun j hj=>by
      unfold anyOn at hj;rw [Array.any_eq_true] at hj;obtain ⟨q,hq',e⟩:=hj;simp only [Bool.and_eq_true,beq_iff_eq] at e
      have:=hie o ho _ (Array.getElem_mem hq') e.1
      rw [e.2] at this;exact this
     simp only [Bool.or_eq_true,Bool.and_eq_true] at o6;rcases o6 with (o6 | ⟨_,o6⟩) | o6
     rotate_left 2
     ·rw [List.any_eq_true] at o6;obtain ⟨e,he,h2⟩:=o6;simp only [Bool.and_eq_true] at h2;have h3:=onL e h2.2;have h4:n≤e:=Nat.ble_eq▸h2.1.1;have h5:e<i:=List.mem_range.1 he;rw [I.suf e h4 (by omega)] at h3;cases h3
     ·have:=onL _ o6
      rw [hl0] at this;cases this
     ·rw [List.any_eq_true] at o6;obtain ⟨e,he,h2⟩:=o6;simp only [Bool.and_eq_true] at h2
      have:=(I.clos e (List.mem_range.1 he) (onL e h2.1) i0 (by simpa using h2.2)).2
      rw [hl0] at this;cases this
    have hbl:Nat.blt i n=true:=by rw [Nat.blt_eq];exact hin
    have o5:=o4.2;rw [hbl] at o5;simp only [if_true,Bool.and_eq_true,Bool.not_eq_true'] at o5;obtain ⟨⟨⟨d2,d3⟩,d4⟩,d5⟩:=o5;have anyL:∀j,anyOn o j=true→listed.getD j false=true:=fun j hj=>by
     unfold anyOn at hj;rw [Array.any_eq_true] at hj;obtain ⟨q,hq',e⟩:=hj;simp only [Bool.and_eq_true,beq_iff_eq] at e
     have:=hie o ho _ (Array.getElem_mem hq') e.1
     rw [e.2] at this;exact this
    have hgl:∀g w,o.guard=some (g,w)→listed.getD g false=true:=fun g w hg=>by
     rw [hg] at d4;exact anyL g d4
    have hlt:∀j,listed.getD j false=true→j<n:=fun j hj=>by
     by_cases h1:j<l.length
     ·by_cases h2:j<n
      ·exact h2
      ·rw [I.suf j (by omega) h1] at hj;cases hj
     ·have:listed.getD j false=false:=by
       rw [Array.getD_eq_getD_getElem?,Array.getElem?_eq_none (by omega)];rfl
      rw [this] at hj;cases hj
    have hcl:∀j ∈ cls.getD i [],j<n∧listed.getD j false=true:=fun j hj=>by
     have:=(List.all_eq_true.1 d5) j hj
     simp only [Bool.and_eq_true,Bool.or_eq_true] at this;rcases this.2 with h1 | h1
     ·exact ⟨hlt j (anyL j h1),anyL j h1⟩
     ·rw [List.any_eq_true] at h1;obtain ⟨e,_,h2⟩:=h1;simp only [Bool.and_eq_true] at h2;have hle:=anyL e h2.1;exact I.clos e (hlt e hle) hle j (by simpa using h2.2)
    rw [linearise_go_acc,List.reverse_singleton,List.singleton_append];have hset:∀j,(listed.setIfInBounds i true).getD j false=addD (fun j=>listed.getD j false) i j:=fun j=>by
     show _=if i=j then true else listed.getD j false
     rw [Array.getD_eq_getD_getElem?,Array.getElem?_setIfInBounds];by_cases hij:i=j
     ·subst hij;simp [hsz,hil]
     ·rw [if_neg hij,if_neg hij,Array.getD_eq_getD_getElem?]
    have next:∀(σ2:Nat→Value) (h2:GH),J (addD (fun j=>listed.getD j false) i) σ2 h2→SInv l n cls J (listed.setIfInBounds i true) σ2 h2:=by
     intro σ2 h2 hj2;refine ⟨by rw [show (fun j=>(listed.setIfInBounds i true).getD j false)=addD (fun j=>listed.getD j false) i from funext hset];exact hj2,by simpa using hsz,fun j hj hjl q hq'=>?_,fun j hj hjl=>?_⟩
     ·rw [hset] at hjl
      have:q<n∧listed.getD q false=true:=by
       by_cases hij:i=j
       ·subst hij;exact hcl q hq'
       ·exact I.clos j hj (by simpa [addD,hij] using hjl) q hq'
      refine ⟨this.1,?_⟩;rw [hset];unfold addD;split
      ·rfl
      ·exact this.2
     ·rw [hset];unfold addD;rw [if_neg (by omega)];exact I.suf j hj hjl
    obtain ⟨stepT,stepF⟩:=step _ σ' h' i o I.inv hin hiu ho (fun q hq'=>(hcl q hq').2) hgl;have hcnt':(listed.setIfInBounds i true).toList.count false≤fuel:=by
     rw [Array.toList_setIfInBounds];have hlt':i<listed.toList.length:=by simpa [hsz] using hil
     rw [List.count_set hlt'];have hlt2:i<listed.size:=by simpa using hlt'
     have h3:listed.toList[i]=false:=by
      rw [Array.getD_eq_getD_getElem?,Array.getElem?_eq_getElem hlt2,Option.getD_some] at hiu;simpa using hiu
     rw [h3];simp;have h4:=List.count_pos_iff.2 (List.getElem_mem hlt');rw [h3] at h4;have h5:Array.count false listed=listed.toList.count false:=by simp
     omega
    have hgN:∀g w og dg,o.guard=some (g,w)→l[g]? =some og→og.dst=some dg→dg<E.N:=fun g w og dg hgw hog hdg=>by
     have hgn:=hlt g (hgl g w hgw);have o6:=all_range ok4 (show g<l.length by omega);simp only [hog,Bool.and_eq_true] at o6;have hbg:Nat.blt g n=true:=by rw [Nat.blt_eq];exact hgn
     have o7:=o6.2;rw [hbg] at o7;simp only [if_true,Bool.and_eq_true] at o7
     have:=o7.1.1.1
     rw [hdg] at this;exact Nat.blt_eq▸this
    have hwant:Region.wanted o (yielded l.toArray t)=true↔GuardIs l o σ':=by
     unfold Region.wanted GuardIs;cases hg:o.guard with
     | none=>simp
     | some x=>
      obtain ⟨g,w⟩:=x;simp only [yielded];have e0:l.toArray[g]? =l[g]? :=by simp
      rw [e0];cases hog:l[g]? with
      | none=>simp
      | some og=>
       simp only [Option.bind_some];cases hdg:og.dst with
       | none=>simp
       | some dg=>
        simp only [Option.bind_some];have hN:=hgN g w og dg hg hog hdg;have hts:dg<t.size:=by rw [hst.1];exact hN
        have hv:=hst.2 dg;rw [Array.getD_eq_getD_getElem?,Array.getElem?_eq_getElem hts,Option.getD_some] at hv;rw [Array.getElem?_eq_getElem hts,hv];cases σ' dg <;> simp
    cases hw:Region.wanted o (yielded l.toArray t) with
    | true=>
     have hG:=hwant.1 hw;refine step_op (E:=E) (by simpa using ho) hw (.inr d3) d2 hst (stepT hG) fun σ2 ds2 h2 y t2 ht2=>?_;obtain ⟨rfl,hj2⟩:=y;exact ih _ _ σ2 h2 t2 (next σ2 h2 hj2) hcnt' ht2
    | false=>
     have hnG:¬GuardIs l o σ':=fun x=>by rw [hwant.2 x] at hw;cases hw
     refine Wk.go (fat b (putT t o.dst undef) ds (.inRegion l.toArray (Region.linearise.go .any l.toArray fuel (tp / (Region.ready .any l.toArray listed).length) (listed.setIfInBounds i true) []) ::k)) (fun w=>?_) ?_
     ·rw [←finish_fat (show l.toArray[i]? =some o by simpa using ho),stepG_fat];unfold stepG.exec;have hw':((l.toArray[i]?).map (Region.wanted · (yielded l.toArray t))).getD false=false:=by
       rw [show l.toArray[i]? =some o by simpa using ho];simp [hw]
      simp only [fat,hw',Bool.false_eq_true,↓reduceIte];rfl
     ·exact ih _ _ (putS σ' o.dst undef) h' _ (next _ _ (stepF hnG)) hcnt' (hst.putS d2 undef)
 refine E.wk.closed _ _ rfl fun w f=>?_;obtain ⟨tp,w',h',es,r1,r2,r3⟩:=gh_run (P:=P) f (e:=choose (.order b.fn id)) (Q:=fun _ h'=>h'=h) (by exact ⟨fun _=>rfl,fun _ _=>rfl⟩);subst r3;refine ⟨G (fat b t ds (.inRegion l.toArray (Region.linearise.go .any l.toArray l.length tp (Array.replicate l.length false) []) ::k)) cs,w',#[],h',?_,r2.sub fun e he=>by simp at he,?_⟩
 ·rw [stepG_fat];unfold stepG.exec;have r1':(choose (.order b.fn id)).run P w=.ok tp w':=by
   have:=congrArg Prod.fst r1
   simpa [Sem.runT_eq] using this
  simp only [fat,Bool.not_true,Bool.false_eq_true,↓reduceIte,r1',Region.schedule,hm,Bool.true_or,Region.linearise,List.size_toArray];rfl
 ·refine key l.length tp _ σ h' t ⟨?_,by simp,fun j _ hj=>?_,fun j _ _=>?_⟩ ?_ hs
  ·have e:(fun j=>(Array.replicate l.length false).getD j false)=fun _:Nat=>false:=funext fun j=>by
    rw [Array.getD_eq_getD_getElem?,Array.getElem?_replicate];split <;> rfl
   rw [e];exact i0
  ·rw [Array.getD_eq_getD_getElem?,Array.getElem?_replicate] at hj;split at hj <;> cases hj
  ·rw [Array.getD_eq_getD_getElem?,Array.getElem?_replicate];split <;> rfl
  ·simp
def opndsOf:Op→Option (List Operand)
 | .move x | .assign x | .box _ x | .unOp _ _ x | .convert _ _ x | .load _ x | .fieldAddr _ x _ | .field _ x _ | .nilCheck x | .extract x _ | .makeInterface _ x | .makeChan _ x | .typeAssert x _ _ _=>some [x]
 | .pick c a b=>some [c,a,b]
 | .alloc _=>some []
 | .build _ ps | .buildSlice _ _ ps=>some (ps.toList.map (·.2))
 | .store _ a x | .binOp _ _ a x _ | .indexAddr _ a x | .index _ a x | .lookup _ a x _ | .makeSlice _ a x=>some [a,x]
 | .makeFunc _ f c=>some (f.toList++c.toList)
 | .makeMap _ r=>some r.toList
 | .slice _ x lo hi mx=>some (x ::(lo.toList++(hi.toList++mx.toList)))
 | .mapUpdate _ m k x=>some [m,k,x]
 | .call c=>some (c.args.toList++match c.callee with | .value f=>[f] | .invoke r _=>[r] | .builtin _=>[])
 | _=>none
theorem map_opnd {ρ ρ':Operand→Value} {a:Array Operand} (e:∀x ∈ a.toList,ρ x=ρ' x):a.map ρ=a.map ρ':=by
 apply Array.toList_inj.1;rw [Array.toList_map,Array.toList_map];exact List.map_congr_left e
theorem map_part {ρ ρ':Operand→Value} {a:Array (Nat×Operand)} (e:∀x ∈ a.toList.map (·.2),ρ x=ρ' x):(a.map fun (i,x)=>(i,ρ x))=a.map fun (i,x)=>(i,ρ' x):=by
 apply Array.toList_inj.1;rw [Array.toList_map,Array.toList_map];exact List.map_congr_left fun x hx=>by
  have:=e x.2 (List.mem_map.2 ⟨x,hx,rfl⟩)
  obtain ⟨i,y⟩:=x;exact congrArg (Prod.mk i) this
theorem map_o {ρ ρ':Operand→Value} {a:Option Operand} (e:∀x ∈ a.toList,ρ x=ρ' x):a.map ρ=a.map ρ':=by
 cases a with
 | none=>rfl
 | some x=>simp [e x (by simp)]
theorem execOp_congr {ρ ρ':Operand→Value} {o:Oper} {xs:List Operand} (hx:opndsOf o.op=some xs) (e:∀x ∈ xs,ρ x=ρ' x):execOp ρ o=execOp ρ' o:=by
 obtain ⟨dst,op,ty,pos,af,gd⟩:=o;cases op <;> simp only [opndsOf,Option.some.injEq,reduceCtorEq] at hx
 case call c=>
  subst hx;have e1:=map_opnd (a:=c.args) fun x hx=>e x (List.mem_append_left _ hx);simp only [execOp,resolve,e1];cases hc:c.callee with
  | builtin b=>rfl
  | value f=>simp only [];rw [e f (List.mem_append_right _ (by rw [hc];simp))]
  | invoke r m=>simp only [];rw [e r (List.mem_append_right _ (by rw [hc];simp))]
 case makeFunc f a b=>
  subst hx;simp only [execOp];rw [map_opnd (a:=a) fun x hx=>e x (List.mem_append_left _ hx),map_opnd (a:=b) fun x hx=>e x (List.mem_append_right _ hx)]
 case slice t x lo hi mx=>
  subst hx;simp only [execOp];rw [e x (by simp),map_o (a:=lo) fun y hy=>e y (by simp_all),map_o (a:=hi) fun y hy=>e y (by simp_all),map_o (a:=mx) fun y hy=>e y (by simp_all)]
 case build t ps=>subst hx;simp only [execOp];rw [map_part e]
 case buildSlice t n ps=>subst hx;simp only [execOp];rw [map_part e]
 case makeMap t r=>subst hx;simp only [execOp];rw [map_o e]
 all_goals
  subst hx;simp only [List.mem_cons,or_false,forall_eq_or_imp,forall_eq,List.not_mem_nil,false_implies,implies_true] at e;simp [execOp,e]
def slotsOf (xs:List Operand):List Nat:=xs.filterMap fun x=>match x with | .tmp t=>some t | _=>none
theorem evalS_congr {σ σ':Nat→Value} {xs:List Operand} (e:∀t ∈ slotsOf xs,σ t=σ' t):∀x ∈ xs,evalS σ x=evalS σ' x:=fun x hx=>by
 cases x with
 | tmp t=>exact e t (List.mem_filterMap.2 ⟨_,hx,rfl⟩)
 | const v=>rfl
 | global g=>rfl
 | func f=>rfl
def isVal:Op→Bool
 | .call c=>match c.callee with
  | .builtin b=>b==.len || b==.cap || b==.min || b==.max
  | _=>false
 | .move _ | .assign _ | .nilCheck _ | .pick .. | .build .. | .load .. | .binOp .. | .unOp .. | .convert .. | .makeFunc .. | .fieldAddr .. | .field .. | .indexAddr .. | .index .. | .extract .. | .lookup .. | .slice .. | .makeInterface .. | .typeAssert .. =>true
 | _=>false
theorem leaf_bind {β:Type} {s:Sem β} {f:β→Value} {h:GH} {Q:Next→GH→Prop}:(s.bind fun x=>(Sem.pure (Next.value (f x)):Sem Next)).gh P h Q→(s.bind fun x=>(Sem.pure (Next.value (f x)):Sem Next)).gh P h fun a h'=>Q a h'∧∃v,a=.value v:=by
 induction s generalizing h with
 | pure a=>intro x;exact ⟨x,_,rfl⟩
 | load m a k ih=>rintro ⟨x1,x2,p,c,t,f,v,y1,y2,z⟩;exact ⟨x1,x2,p,c,t,f,v,y1,y2,ih v z⟩
 | store m a v k ih=>rintro ⟨x1,x2,x3,c,t,f,y1,y2,y3,z⟩;exact ⟨x1,x2,x3,c,t,f,y1,y2,y3,ih z⟩
 | new o k ih=>intro x r hr;exact ih r (x r hr)
 | shape r k ih=>rintro ⟨p,c,t,f,y,z⟩;exact ⟨p,c,t,f,y,ih _ z⟩
 | freeze a n k ih=>
  rintro (⟨y,z⟩ | ⟨y,c,t,f,y2,z⟩)
  ·exact .inl ⟨y,ih z⟩
  ·exact .inr ⟨y,c,t,f,y2,ih z⟩
 | frozen a k ih=>rintro ⟨p,c,t,f,y,z⟩;exact ⟨p,c,t,f,y,ih _ z⟩
 | getObj r k ih=>rintro ⟨p,o,y1,y2,y3,z⟩;exact ⟨p,o,y1,y2,y3,ih _ z⟩
 | setObj r o k ih=>rintro ⟨o',y1,y2,y2',y3,z⟩;exact ⟨o',y1,y2,y2',y3,ih z⟩
 | choose q k ih=>rintro ⟨y,z⟩;exact ⟨fun x=>ih _ (y x),fun x t=>ih _ (z x t)⟩
 | sys c k ih=>intro x;exact x.elim
 | program k ih=>intro x;exact ih _ x
 | mark m k ih=>rintro ⟨y,z⟩;exact ⟨y,ih z⟩
 | halt x=>intro y;exact y.elim
def LeafV (P:Program) (e:Sem Next):Prop:=∀(h:GH) (Q:Next→GH→Prop),e.gh P h Q→e.gh P h fun a h'=>Q a h'∧∃v,a=.value v
theorem LeafV.bind {β:Type} {s:Sem β} {f:β→Sem Next} (hf:∀a,LeafV P (f a)):LeafV P (s.bind f):=by
 induction s with
 | pure a=>exact hf a
 | load m a k ih=>rintro h Q ⟨x1,x2,p,c,t,f,v,y1,y2,z⟩;exact ⟨x1,x2,p,c,t,f,v,y1,y2,ih v _ _ z⟩
 | store m a v k ih=>rintro h Q ⟨x1,x2,x3,c,t,f,y1,y2,y3,z⟩;exact ⟨x1,x2,x3,c,t,f,y1,y2,y3,ih _ _ z⟩
 | new o k ih=>intro h Q x r hr;exact ih r _ _ (x r hr)
 | shape r k ih=>rintro h Q ⟨p,c,t,f,y,z⟩;exact ⟨p,c,t,f,y,ih _ _ _ z⟩
 | freeze a n k ih=>
  rintro h Q (⟨y,z⟩ | ⟨y,c,t,f,y2,z⟩)
  ·exact .inl ⟨y,ih _ _ z⟩
  ·exact .inr ⟨y,c,t,f,y2,ih _ _ z⟩
 | frozen a k ih=>rintro h Q ⟨p,c,t,f,y,z⟩;exact ⟨p,c,t,f,y,ih _ _ _ z⟩
 | getObj r k ih=>rintro h Q ⟨p,o,y1,y2,y3,z⟩;exact ⟨p,o,y1,y2,y3,ih _ _ _ z⟩
 | setObj r o k ih=>rintro h Q ⟨o',y1,y2,y2',y3,z⟩;exact ⟨o',y1,y2,y2',y3,ih _ _ z⟩
 | choose q k ih=>rintro h Q ⟨y,z⟩;exact ⟨fun x=>ih _ _ _ (y x),fun x t=>ih _ _ _ (z x t)⟩
 | sys c k ih=>intro h Q x;exact x.elim
 | program k ih=>intro h Q x;exact ih _ _ _ x
 | mark m k ih=>rintro h Q ⟨y,z⟩;exact ⟨y,ih _ _ z⟩
 | halt x=>intro h Q y;exact y.elim
theorem LeafV.value (v:Value):LeafV P (pure (.value v)):=fun _ _ x=>⟨x,v,rfl⟩
theorem leaf_val {ρ:Operand→Value} {o:Oper} (hv:isVal o.op=true) {h:GH} {Q:Next→GH→Prop} (x:(execOp ρ o).gh P h Q):(execOp ρ o).gh P h fun a h'=>Q a h'∧∃v,a=.value v:=by
 obtain ⟨dst,op,ty,pos,af,gd⟩:=o;cases op
 case nilCheck a=>
  have hp:LeafV P (runtimePanic .nilDeref:Sem Next):=fun _ _ y=>by first | exact y.elim | exact LeafV.bind (fun _=>fun _ _ z=>z.elim) _ _ y
  have key:LeafV P (execOp ρ ⟨dst,.nilCheck a,ty,pos,af,gd⟩):=by
   unfold execOp;dsimp only;split
   ·exact hp
   ·exact hp
   ·exact hp
   ·split
    ·exact hp
    ·refine LeafV.bind fun p=>LeafV.bind fun r=>?_;split
     ·exact LeafV.bind fun _=>LeafV.value _
     ·exact LeafV.value _
    ·exact LeafV.value _
   ·exact LeafV.value _
  exact key _ _ x
 case call c=>
  simp only [isVal] at hv;have e:∀s:Sem Value,execOp ρ ⟨dst,.call c,ty,pos,af,gd⟩=s.bind (fun x=>Sem.pure (Next.value x))→(execOp ρ ⟨dst,.call c,ty,pos,af,gd⟩).gh P h fun a h'=>Q a h'∧∃v,a=.value v:=fun s q=>by
   rw [q] at x ⊢;exact leaf_bind (f:=fun x=>x) x
  cases hc:c.callee with
  | value f=>rw [hc] at hv;cases hv
  | invoke r m=>rw [hc] at hv;cases hv
  | builtin b=>
   rw [hc] at hv;have q:execOp ρ ⟨dst,.call c,ty,pos,af,gd⟩=builtin b c.argTypes ty (c.args.map fun | .const _=>true | _=>false) (c.args.map ρ):=by
    show (resolve ρ c ty).bind _=_;unfold resolve;rw [hc];rfl
   cases b <;> first | (simp at hv;done) | exact e _ q
 all_goals first | (simp [isVal] at hv;done) | skip
 all_goals first | exact leaf_bind (s:=Sem.pure _) (f:=fun _=>_) x | exact leaf_bind (f:=fun x=>x) x | exact leaf_bind (β:=Bool) x
theorem GH.Le.get {h h':GH} (l:h.Le h') {b:Nat} {x:Bool×Obj} (hb:h b=some x):h' b=some x:=l.keep (p:=x.1) (o:=x.2) hb rfl
theorem GH.Le.of {h h':GH} (x:∀b y,h b=some y→h' b=some y):h.Le h':=fun b p o hb=>⟨o,x b _ hb,.inl rfl⟩
def over (h' h2:GH):GH:=fun b=>match h' b with
 | some x=>some x
 | none=>h2 b
theorem over_self {h h2:GH} (l:h.Le h2):over h h2=h2:=funext fun b=>by
 unfold over;split
 ·rename_i x hb;exact (l.get hb).symm
 ·rfl
theorem GH.Le.set2 {h h2:GH} (l:h.Le h2) (r:Nat) (p:Bool) (o:Obj):(h.set r p o).Le (h2.set r p o):=.of fun b y hb=>by
 by_cases e:b=r
 ·subst e;rw [GH.set_same] at hb ⊢;exact hb
 ·rw [GH.set_ne h p o e] at hb;rw [GH.set_ne h2 p o e];exact l.get hb
def DomIn (h h':GH):Prop:=∀b,(∃x,h b=some x)→∃x,h' b=some x
theorem over_set {h h' h2:GH} {r:Nat} {p:Bool} {o:Obj} (d:DomIn (h.set r p o) h'):over h' (h2.set r p o)=over h' h2:=funext fun b=>by
 unfold over;by_cases e:b=r
 ·subst e;obtain ⟨x,hx⟩:=d b ⟨_,GH.set_same h b p o⟩;rw [hx]
 ·rw [GH.set_ne h2 p o e]
theorem DomIn.set {h h':GH} {r:Nat} {p:Bool} {o:Obj} (d:DomIn (h.set r p o) h'):DomIn h h':=fun b ⟨x,hx⟩=>by
 by_cases e:b=r
 ·subst e;exact d b ⟨_,GH.set_same h b p o⟩
 ·exact d b ⟨x,by rw [GH.set_ne h p o e];exact hx⟩
theorem gh_over {α:Type} (e:Sem α) {Q:α→GH→Prop}:∀{h h2:GH},h.Le h2→e.gh P h Q→e.gh P h2 fun a h3=>∃h',DomIn h h'∧Q a h'∧h3=over h' h2:=by
 induction e with
 | pure a=>intro h h2 l x;exact ⟨h,fun _ y=>y,x,(over_self l).symm⟩
 | load m a k ih=>rintro h h2 l ⟨x1,x2,p,c,t,f,v,y1,y2,z⟩;exact ⟨x1,x2,p,c,t,f,v,l.get y1,y2,ih v l z⟩
 | store m a v k ih=>
  rintro h h2 l ⟨x1,x2,x3,c,t,f,y1,y2,y3,z⟩;exact ⟨x1,x2,x3,c,t,f,l.get y1,y2,y3,gh_mono _ (fun _ _ ⟨h',d,q,r⟩=>⟨h',d.set,q,r.trans (over_set d)⟩) _ (ih (l.set2 _ _ _) z)⟩
 | new o k ih=>
  intro h h2 l x r hr;have hr0:h r=none:=by
   cases hb:h r with
   | none=>rfl
   | some y=>rw [l.get hb] at hr;cases hr
  exact gh_mono _ (fun _ _ ⟨h',d,q,r⟩=>⟨h',d.set,q,r.trans (over_set d)⟩) _ (ih r (l.set2 _ _ _) (x r hr0))
 | shape r k ih=>rintro h h2 l ⟨p,c,t,f,y,z⟩;exact ⟨p,c,t,f,l.get y,ih _ l z⟩
 | freeze a n k ih=>
  rintro h h2 l (⟨y,z⟩ | ⟨y,c,t,f,y2,z⟩)
  ·exact .inl ⟨y,ih l z⟩
  ·exact .inr ⟨y,c,t,f,l.get y2,gh_mono _ (fun _ _ ⟨h',d,q,r⟩=>⟨h',d.set,q,r.trans (over_set d)⟩) _ (ih (l.set2 _ _ _) z)⟩
 | frozen a k ih=>rintro h h2 l ⟨p,c,t,f,y,z⟩;exact ⟨p,c,t,f,l.get y,ih _ l z⟩
 | getObj r k ih=>rintro h h2 l ⟨p,o,y1,y2,y3,z⟩;exact ⟨p,o,l.get y1,y2,y3,ih _ l z⟩
 | setObj r o k ih=>
  rintro h h2 l ⟨o',y1,y2,y2',y3,z⟩;exact ⟨o',l.get y1,y2,y2',y3,gh_mono _ (fun _ _ ⟨h',d,q,r⟩=>⟨h',d.set,q,r.trans (over_set d)⟩) _ (ih (l.set2 _ _ _) z)⟩
 | choose q k ih=>rintro h h2 l ⟨y,z⟩;exact ⟨fun x=>ih _ l (y x),fun x t=>ih _ l (z x t)⟩
 | sys c k ih=>intro h h2 l x;exact x.elim
 | program k ih=>intro h h2 l x;exact ih _ l x
 | mark m k ih=>rintro h h2 l ⟨y,z⟩;exact ⟨y,ih l z⟩
 | halt x=>intro h h2 l y;exact y.elim
def VOp (E:Env P) (o:Oper) (σ:Nat→Value) (ds:List Deferred) (h:GH) (v:Value):Prop:=OpK E o σ ds h fun σ' ds' h'=>σ'=putS σ o.dst v∧ds'=ds∧h'=h
theorem VOp.move {o:Oper} {xs:List Operand} {σ σ2:Nat→Value} {ds:List Deferred} {h h2:GH} {v:Value} (hv:isVal o.op=true) (hx:opndsOf o.op=some xs) (e:∀t ∈ slotsOf xs,σ t=σ2 t) (l:h.Le h2)
  (y:VOp E o σ ds h v):VOp E o σ2 ds h2 v:=by
 unfold VOp OpK at y ⊢;rw [←execOp_congr hx (evalS_congr e)];refine gh_mono _ ?_ _ (gh_over _ l (leaf_val hv y));rintro a h3 ⟨h',_,⟨q,v',rfl⟩,rfl⟩;obtain ⟨q1,_,rfl⟩:=q;refine ⟨?_,rfl,over_self l⟩;cases hd:o.dst with
 | none=>rfl
 | some d=>
  have:=congrFun q1 d
  simp only [hd,putS,upd_same] at this;rw [this]
theorem OpK.move {o:Oper} {xs:List Operand} {σ σ2:Nat→Value} {ds:List Deferred} {h:GH} {T T2:(Nat→Value)→List Deferred→GH→Prop} (hx:opndsOf o.op=some xs) (e:∀t ∈ slotsOf xs,σ t=σ2 t)
  (ht:∀x ds' h',T (putS σ o.dst x) ds' h'→T2 (putS σ2 o.dst x) ds' h') (y:OpK E o σ ds h T):OpK E o σ2 ds h T2:=by
 unfold OpK at y ⊢;rw [←execOp_congr hx (evalS_congr e)];refine gh_mono _ (fun nx h' q=>?_) _ y;cases nx <;> first | exact ht _ _ _ q | exact CallK.mono q fun v h'' r=>ht _ _ _ r | exact RoundK.mono q fun v h'' r=>ht _ _ _ r | exact q
inductive Kd where
 | p | r | e | w | a
 deriving DecidableEq
def Gd (l:List Oper) (o:Oper) (σ:Nat→Value) (b:Bool):Prop:=match o.guard with
 | none=>b=true
 | some (g,w)=>∃og d is,l[g]? =some og∧og.dst=some d∧σ d=.bool is∧b=(is==w)
theorem Gd.iff {l:List Oper} {o:Oper} {σ:Nat→Value} {b:Bool} (x:Gd l o σ b):GuardIs l o σ↔b=true:=by
 unfold Gd at x;unfold GuardIs;cases hg:o.guard with
 | none=>rw [hg] at x;simp only at x;simp [x]
 | some y=>
  obtain ⟨g,w⟩:=y;rw [hg] at x;obtain ⟨og,d,is,h1,h2,h3,rfl⟩:=x;simp only [h1,h2,h3];simp
def Gw (fl:Bool) (h hx:GH):Prop:=h.Le hx∧(fl=false→hx=h)
theorem Gw.refl (fl:Bool) (h:GH):Gw fl h h:=⟨GH.Le.refl h,fun _=>rfl⟩
def zOf (P:Program) (t:TypeId):Array Value:=(zeroOf P t).getD #[]
def TD (E:Env P) (l:List Oper) (n:Nat) (fl:Bool) (hs:GH) (ds:List Deferred) (F:(Nat→Value)→GH→Prop):List (Kd×Nat)→(Nat→Value)→GH→Prop
 | [],σ,h=>∀hx,Gw fl h hx→F σ hx
 | (kd,k) ::π,σ,h=>∃o b,l[k]? =some o∧Gd l o σ b∧(b=false→TD E l n fl hs ds F π (putS σ o.dst undef) h)∧(b=true→match kd with
  | .p=>∃v,(∀hx,VOp E o σ ds hx v)∧TD E l n fl hs ds F π (putS σ o.dst v) h
  | .r=>∃v,VOp E o σ ds h v∧TD E l n fl hs ds F π (putS σ o.dst v) h
  | .e=>∀hx,Gw fl h hx→OpK E o σ ds hx fun σ' ds' h'=>ds'=ds∧∃v,σ'=putS σ o.dst v∧hx.Le h'∧TD E l n fl hs ds F π (putS σ o.dst v) h'
  | .w=>∀hx,Gw fl h hx→OpK E o σ ds hx fun σ' ds' h'=>ds'=ds∧∃v,σ'=putS σ o.dst v∧TD E l n fl hs ds F π (putS σ o.dst v) h'
  | .a=>∀t r hx,o.op=.alloc t→h.Le hx→hs r=none→hx r=some (true,.cells (zOf P t) t (0,0))→TD E l n fl hs ds F π (putS σ o.dst (.pointer (some ⟨r,0,none⟩))) hx)
def slotOK (l:List Oper) (n:Nat) (cl seen:List Nat) (t:Nat):Bool:= !(dsts l n).contains t || seen.any fun j=>cl.contains j && match l[j]? with
 | some oj=>oj.dst==some t
 | none=>false
def allocOK (P:Program):Op→Bool
 | .alloc t=>(zeroOf P t).isSome
 | _=>false
def tdOK (P:Program) (l:List Oper) (n:Nat) (cls:List (List Nat)) (fl:Bool):List (Kd×Nat)→List Nat→List Nat→List Nat→Bool→Bool
 | [],seen,_,_,_=>(List.range n).all seen.contains
 | (kd,k) ::π,seen,effs,rds,wr=>match l[k]? with
  | none=>false
  | some o=>(match opndsOf o.op with
    | none=>false
    | some xs=>Nat.blt k n && !seen.contains k && (slotsOf xs).all (slotOK l n (cls.getD k []) seen)) &&
   (match o.guard with
    | none=>true
    | some (g,_)=>seen.contains g && (cls.getD k []).contains g) &&
   (match kd with
    | .p=>isVal o.op && effs.all (cls.getD k []).contains && tdOK P l n cls fl π (k ::seen) effs rds wr
    | .r=>isVal o.op && effs.all (cls.getD k []).contains && tdOK P l n cls fl π (k ::seen) effs (k ::rds) wr
    | .e=>effs.all (cls.getD k []).contains && tdOK P l n cls fl π (k ::seen) (k ::effs) rds wr
    | .w=>effs.all (cls.getD k []).contains && rds.all (cls.getD k []).contains && tdOK P l n cls fl π (k ::seen) (k ::effs) rds true
    | .a=>fl && !wr && allocOK P o.op && o.dst.isSome && o.guard.isNone && tdOK P l n cls fl π (k ::seen) (k ::effs) rds wr)
structure PF (E:Env P) (l:List Oper) (n:Nat) (cls:List (List Nat)) (ds:List Deferred) (seen rds:List Nat) (σr:Nat→Value) (h':GH) (k:Nat) (o:Oper) (xs:List Operand) (b:Bool) (v:Value):Prop where
 at':l[k]? =some o
 op:opndsOf o.op=some xs
 val:isVal o.op=true
 fix:∀t ∈ slotsOf xs,slotOK l n (cls.getD k []) seen t=true
 gfix:∀g w,o.guard=some (g,w)→g ∈ seen∧g ∈ cls.getD k []
 gd:Gd l o σr b
 vop:b=true→VOp E o σr ds h' v∧(k ∈ rds∨∀hx,VOp E o σr ds hx v)
 is:∀d,o.dst=some d→σr d=if b=true then v else undef
structure TdI (E:Env P) (l:List Oper) (n:Nat) (cls:List (List Nat)) (fl:Bool) (hs:GH) (ds:List Deferred) (F:(Nat→Value)→GH→Prop) (seen effs rds:List Nat) (wr:Bool) (π:List (Kd×Nat)) (σr:Nat→Value) (hr:GH)
  (D:Nat→Bool) (σ':Nat→Value) (h':GH):Prop where
 td:TD E l n fl hs ds F π σr hr
 ok:tdOK P l n cls fl π seen effs rds wr=true
 gw:Gw fl hr h'
 base:∀t,(dsts l n).contains t=false→σ' t=σr t
 lt:∀k ∈ seen,k<n
 eff:∀k ∈ effs,D k=true
 rest:∀kd k,(kd,k) ∈ π→kd≠.a→D k=false
 done:∀k ∈ seen,D k=true→∀o d,l[k]? =some o→o.dst=some d→σ' d=σr d
 pend:∀k ∈ seen,D k=false→∃o xs b v,PF E l n cls ds seen rds σr h' k o xs b v
 flo:∀k,(Kd.a,k) ∈ π→D k=true→∀o t d,l[k]? =some o→o.op=.alloc t→o.dst=some d→∃r,σ' d=.pointer (some ⟨r,0,none⟩)∧hs r=none∧h' r=some (true,.cells (zOf P t) t (0,0))
 pre:wr=false→hs.Le h'
 clos:∀k,k<n→D k=true→∀q ∈ cls.getD k [],D q=true
theorem slotOK_mono {l:List Oper} {n:Nat} {cl seen:List Nat} {k t:Nat} (x:slotOK l n cl seen t=true):slotOK l n cl (k ::seen) t=true:=by
 unfold slotOK at x ⊢;rw [Bool.or_eq_true] at x ⊢;rcases x with x | x
 ·exact .inl x
 ·exact .inr (by rw [List.any_cons,x];simp)
theorem slotOK_ne {l:List Oper} {n:Nat} {cl seen:List Nat} {k t d:Nat} {o:Oper} (nd:(dsts l n).Nodup) (hlt:∀k ∈ seen,k<n) (hk:k<n) (hs:k ∉ seen) (ho:l[k]? =some o) (hd:o.dst=some d) (x:slotOK l n cl seen t=true):t≠d:=by
 intro e;subst e;unfold slotOK at x;rw [Bool.or_eq_true] at x;rcases x with x | x
 ·have:t ∈ dsts l n:=by
   simp only [dsts,List.mem_filterMap];refine ⟨o,?_,hd⟩
   have:(l.take n)[k]? =some o:=by rw [List.getElem?_take];simp [hk,ho]
   exact List.mem_of_getElem? this
  simp [this] at x
 ·rw [List.any_eq_true] at x;obtain ⟨j,hj,y⟩:=x;rw [Bool.and_eq_true] at y;cases hoj:l[j]? with
  | none=>rw [hoj] at y;simp at y
  | some oj=>
   rw [hoj] at y;have y2:oj.dst=some t:=by simpa using y.2
   exact dst_ne nd hk (hlt j hj) (fun e=>hs (e▸hj)) ho hoj hd y2 rfl
theorem put_ne {σ:Nat→Value} {o:Oper} {v:Value} {t:Nat} (h:∀d,o.dst=some d→t≠d):putS σ o.dst v t=σ t:=by
 cases hd:o.dst with
 | none=>rfl
 | some d=>exact upd_ne σ v (beq_ne (h d hd))
theorem mem_dsts {l:List Oper} {n k d:Nat} {o:Oper} (hk:k<n) (ho:l[k]? =some o) (hd:o.dst=some d):(dsts l n).contains d=true:=by
 rw [List.contains_iff_mem];simp only [dsts,List.mem_filterMap];exact ⟨o,List.mem_of_getElem? (show (l.take n)[k]? =some o by rw [List.getElem?_take];simp [hk,ho]),hd⟩
theorem base_ne {l:List Oper} {n k t:Nat} {o:Oper} (hk:k<n) (ho:l[k]? =some o) (ht:(dsts l n).contains t=false):∀d,o.dst=some d→t≠d:=fun d hd e=>by
 subst e;rw [mem_dsts hk ho hd] at ht;cases ht
section
variable {l:List Oper} {n:Nat} {cls:List (List Nat)} {fl:Bool} {hs:GH} {ds:List Deferred} {F:(Nat→Value)→GH→Prop} {seen effs rds:List Nat} {wr:Bool} {π:List (Kd×Nat)} {σr σ':Nat→Value} {hr h':GH} {D:Nat→Bool}
theorem Gd.put {o ok:Oper} {k:Nat} {b:Bool} {v:Value} (nd:(dsts l n).Nodup) (hlt:∀k ∈ seen,k<n) (hk:k<n) (hks:k ∉ seen) (hok:l[k]? =some ok) (hg:∀g w,o.guard=some (g,w)→g ∈ seen) (x:Gd l o σr b):Gd l o (putS σr ok.dst v) b:=by
 unfold Gd at x ⊢;cases hgd:o.guard with
 | none=>rw [hgd] at x;exact x
 | some y=>
  obtain ⟨g,w⟩:=y;rw [hgd] at x;obtain ⟨og,d,is,h1,h2,h3,h4⟩:=x;have hgs:=hg g w hgd;exact ⟨og,d,is,h1,h2,by rw [put_ne fun d' hd'=>dst_ne nd hk (hlt g hgs) (fun e=>hks (e▸hgs)) hok h1 hd' h2];exact h3,h4⟩
theorem PF.put {k j:Nat} {o ok:Oper} {xs:List Operand} {b:Bool} {v w:Value} (nd:(dsts l n).Nodup) (hlt:∀k ∈ seen,k<n) (hk:k<n) (hks:k ∉ seen) (hok:l[k]? =some ok) (hj:j ∈ seen) (l2:hr.Le h')
  (x:PF E l n cls ds seen rds σr hr j o xs b v):PF E l n cls ds (k ::seen) rds (putS σr ok.dst w) h' j o xs b v where
 at':=x.at'
 op:=x.op
 val:=x.val
 fix:=fun t ht=>slotOK_mono (x.fix t ht)
 gfix:=fun g w' hg=>⟨List.mem_cons_of_mem _ (x.gfix g w' hg).1,(x.gfix g w' hg).2⟩
 gd:=x.gd.put nd hlt hk hks hok fun g w' hg=>(x.gfix g w' hg).1
 vop:=fun hb=>by
  have e:∀t ∈ slotsOf xs,σr t=putS σr ok.dst w t:=fun t ht=>(put_ne fun d hd=>slotOK_ne nd hlt hk hks hok hd (x.fix t ht)).symm;obtain ⟨y1,y2⟩:=x.vop hb;exact ⟨y1.move x.val x.op e l2,y2.imp id fun y hx=>(y hx).move x.val x.op e (GH.Le.refl _)⟩
 is:=fun d hd=>by rw [put_ne fun d' hd'=>dst_ne nd hk (hlt j hj) (fun e=>hks (e▸hj)) hok x.at' hd' hd];exact x.is d hd
theorem PF.more {j:Nat} {o:Oper} {xs:List Operand} {b:Bool} {v:Value} {k:Nat} (x:PF E l n cls ds seen rds σr h' j o xs b v):PF E l n cls ds seen (k ::rds) σr h' j o xs b v:=
 { x with vop:=fun hb=>⟨(x.vop hb).1,(x.vop hb).2.imp (List.mem_cons_of_mem _) id⟩ }
def headOK (P:Program) (l:List Oper) (n:Nat) (cls:List (List Nat)) (fl:Bool) (π:List (Kd×Nat)) (seen effs rds:List Nat) (wr:Bool) (k:Nat) (o:Oper):Kd→Prop
 | .p=>isVal o.op=true∧(∀q ∈ effs,q ∈ cls.getD k [])∧tdOK P l n cls fl π (k ::seen) effs rds wr=true
 | .r=>isVal o.op=true∧(∀q ∈ effs,q ∈ cls.getD k [])∧tdOK P l n cls fl π (k ::seen) effs (k ::rds) wr=true
 | .e=>(∀q ∈ effs,q ∈ cls.getD k [])∧tdOK P l n cls fl π (k ::seen) (k ::effs) rds wr=true
 | .w=>(∀q ∈ effs,q ∈ cls.getD k [])∧(∀q ∈ rds,q ∈ cls.getD k [])∧tdOK P l n cls fl π (k ::seen) (k ::effs) rds true=true
 | .a=>fl=true∧wr=false∧allocOK P o.op=true∧o.dst.isSome=true∧o.guard=none∧tdOK P l n cls fl π (k ::seen) (k ::effs) rds wr=true
theorem tdOK_head {kd:Kd} {k:Nat} (x:tdOK P l n cls fl ((kd,k) ::π) seen effs rds wr=true) :
  ∃o xs,l[k]? =some o∧opndsOf o.op=some xs∧k<n∧k ∉ seen∧(∀t ∈ slotsOf xs,slotOK l n (cls.getD k []) seen t=true)∧(∀g w,o.guard=some (g,w)→g ∈ seen∧g ∈ cls.getD k [])∧
  headOK P l n cls fl π seen effs rds wr k o kd:=by
 unfold tdOK at x;cases ho:l[k]? with
 | none=>rw [ho] at x;cases x
 | some o=>
  rw [ho] at x;simp only [Bool.and_eq_true] at x;obtain ⟨⟨x1,x2⟩,x3⟩:=x;cases hx:opndsOf o.op with
  | none=>rw [hx] at x1;cases x1
  | some xs=>
   rw [hx] at x1;simp only [Bool.and_eq_true,Bool.not_eq_true',List.all_eq_true] at x1;obtain ⟨⟨y1,y2⟩,y3⟩:=x1;refine ⟨o,xs,rfl,hx,Nat.blt_eq▸y1,(fun hm=>by rw [List.contains_iff_mem.2 hm] at y2;cases y2),y3,fun g w hg=>?_,?_⟩
   ·rw [hg] at x2;simp only [Bool.and_eq_true] at x2;exact ⟨List.contains_iff_mem.1 x2.1,List.contains_iff_mem.1 x2.2⟩
   ·cases kd <;> unfold headOK <;> simp only [Bool.and_eq_true,List.all_eq_true,List.contains_iff_mem,Bool.not_eq_true',Option.isNone_iff_eq_none] at x3 ⊢
    ·exact ⟨x3.1.1,x3.1.2,x3.2⟩
    ·exact ⟨x3.1.1,x3.1.2,x3.2⟩
    ·exact x3
    ·exact ⟨x3.1.1,x3.1.2,x3.2⟩
    ·exact ⟨x3.1.1.1.1.1,x3.1.1.1.1.2,x3.1.1.1.2,x3.1.1.2,x3.1.2,x3.2⟩
theorem tdOK_tail {kd:Kd} {k:Nat} (x:tdOK P l n cls fl ((kd,k) ::π) seen effs rds wr=true):∃effs' rds' wr',tdOK P l n cls fl π (k ::seen) effs' rds' wr'=true∧(∀q ∈ effs,q ∈ effs')∧(kd=.e∨kd=.w∨kd=.a→k ∈ effs'):=by
 obtain ⟨o,xs,_,_,_,_,_,_,y⟩:=tdOK_head x;cases kd with
 | p=>exact ⟨_,_,_,y.2.2,fun _ q=>q,fun e=>by rcases e with e | e | e <;> cases e⟩
 | r=>exact ⟨_,_,_,y.2.2,fun _ q=>q,fun e=>by rcases e with e | e | e <;> cases e⟩
 | e=>exact ⟨_,_,_,y.2,fun _ q=>List.mem_cons_of_mem _ q,fun _=>List.mem_cons_self⟩
 | w=>exact ⟨_,_,_,y.2.2,fun _ q=>List.mem_cons_of_mem _ q,fun _=>List.mem_cons_self⟩
 | a=>exact ⟨_,_,_,y.2.2.2.2.2,fun _ q=>List.mem_cons_of_mem _ q,fun _=>List.mem_cons_self⟩
theorem tdOK_new:∀{π:List (Kd×Nat)} {seen effs rds:List Nat} {wr:Bool},tdOK P l n cls fl π seen effs rds wr=true→∀kd k,(kd,k) ∈ π→k ∉ seen∧k<n
 | [],_,_,_,_,_,kd,k,h=>by cases h
 | (kd',k') ::π,seen,effs,rds,wr,x,kd,k,h=>by
  obtain ⟨o,xs,_,_,h1,h2,_⟩:=tdOK_head x;rcases List.mem_cons.1 h with e | h
  ·cases e;exact ⟨h2,h1⟩
  ·obtain ⟨effs',rds',wr',y,_⟩:=tdOK_tail x
   have:=tdOK_new y kd k h
   exact ⟨fun q=>this.1 (List.mem_cons_of_mem _ q),this.2⟩
theorem tdOK_all:∀{π:List (Kd×Nat)} {seen effs rds:List Nat} {wr:Bool},tdOK P l n cls fl π seen effs rds wr=true→∀i,i<n→i ∈ seen∨∃kd,(kd,i) ∈ π
 | [],seen,_,_,_,x,i,hi=>by
  unfold tdOK at x;exact .inl (List.contains_iff_mem.1 (List.all_eq_true.1 x i (List.mem_range.2 hi)))
 | (kd',k') ::π,seen,effs,rds,wr,x,i,hi=>by
  obtain ⟨effs',rds',wr',y,_⟩:=tdOK_tail x;rcases tdOK_all y i hi with h | ⟨kd,h⟩
  ·rcases List.mem_cons.1 h with e | h
   ·exact .inr ⟨kd',e▸List.mem_cons_self⟩
   ·exact .inl h
  ·exact .inr ⟨kd,List.mem_cons_of_mem _ h⟩
theorem tdOK_eff:∀{π:List (Kd×Nat)} {seen effs rds:List Nat} {wr:Bool},tdOK P l n cls fl π seen effs rds wr=true→∀kd k,(kd,k) ∈ π→kd≠.a→∀q ∈ effs,q ∈ cls.getD k []
 | [],_,_,_,_,_,kd,k,h=>by cases h
 | (kd',k') ::π,seen,effs,rds,wr,x,kd,k,h=>by
  intro hne q hq;rcases List.mem_cons.1 h with e | h
  ·cases e;obtain ⟨o,xs,_,_,_,_,_,_,y⟩:=tdOK_head x;cases kd' with
   | p=>exact y.2.1 q hq
   | r=>exact y.2.1 q hq
   | e=>exact y.1 q hq
   | w=>exact y.1 q hq
   | a=>exact absurd rfl hne
  ·obtain ⟨effs',rds',wr',y,z,_⟩:=tdOK_tail x;exact tdOK_eff y kd k h hne q (z q hq)
theorem tdOK_float:∀{π:List (Kd×Nat)} {seen effs rds:List Nat} {wr:Bool},tdOK P l n cls fl π seen effs rds wr=true→∀k,(Kd.a,k) ∈ π→fl=true∧wr=false∧k<n∧∃o,l[k]? =some o∧allocOK P o.op=true∧o.dst.isSome=true∧o.guard=none
 | [],_,_,_,_,_,k,h=>by cases h
 | (kd',k') ::π,seen,effs,rds,wr,x,k,h=>by
  obtain ⟨o,xs,ho,hx,h1,h2,h3,h4,hh⟩:=tdOK_head x;rcases List.mem_cons.1 h with e | h6
  ·cases e;exact ⟨hh.1,hh.2.1,h1,o,ho,hh.2.2.1,hh.2.2.2.1,hh.2.2.2.2.1⟩
  ·cases kd' with
   | p=>exact tdOK_float hh.2.2 k h6
   | r=>exact tdOK_float hh.2.2 k h6
   | e=>exact tdOK_float hh.2 k h6
   | w=>have:=(tdOK_float hh.2.2 k h6).2.1;cases this
   | a=>exact tdOK_float hh.2.2.2.2.2 k h6
theorem addD_self {k:Nat}:addD D k k=true:=by simp [addD]
theorem addD_ne {k j:Nat} (h:j≠k):addD D k j=D j:=by unfold addD;rw [if_neg (fun e=>h e.symm)]
theorem addD_of {k j:Nat} (h:D j=true):addD D k j=true:=by unfold addD;split <;> simp [h]
theorem TdI.agree (x:TdI E l n cls fl hs ds F seen effs rds wr π σr hr D σ' h') {cl:List Nat} (hcl:∀q ∈ cl,D q=true) {t:Nat} (y:slotOK l n cl seen t=true):σr t=σ' t:=by
 unfold slotOK at y;rw [Bool.or_eq_true] at y;rcases y with y | y
 ·exact (x.base t (by simpa using y)).symm
 ·rw [List.any_eq_true] at y;obtain ⟨j,hj,z⟩:=y;rw [Bool.and_eq_true] at z;cases hoj:l[j]? with
  | none=>rw [hoj] at z;simp at z
  | some oj=>
   rw [hoj] at z;exact (x.done j hj (hcl j (List.contains_iff_mem.1 z.1)) oj t hoj (by simpa using z.2)).symm
theorem TdI.guard (x:TdI E l n cls fl hs ds F seen effs rds wr π σr hr D σ' h') {cl:List Nat} (hcl:∀q ∈ cl,D q=true) {o:Oper} {b:Bool} (hg:∀g w,o.guard=some (g,w)→g ∈ seen∧g ∈ cl) (y:Gd l o σr b):Gd l o σ' b:=by
 unfold Gd at y ⊢;cases hgd:o.guard with
 | none=>rw [hgd] at y;exact y
 | some z=>
  obtain ⟨g,w⟩:=z;rw [hgd] at y;obtain ⟨og,d,is,h1,h2,h3,h4⟩:=y;exact ⟨og,d,is,h1,h2,by rw [x.done g (hg g w hgd).1 (hcl g (hg g w hgd).2) og d h1 h2];exact h3,h4⟩
theorem TdI.unfoldV {kd:Kd} {k:Nat} (nd:(dsts l n).Nodup) (hkd:kd=.p∨kd=.r) (x:TdI E l n cls fl hs ds F seen effs rds wr ((kd,k) ::π) σr hr D σ' h') :
  ∃rds' σr',TdI E l n cls fl hs ds F (k ::seen) effs rds' wr π σr' hr D σ' h':=by
 obtain ⟨o,xs,ho,hx,hkn,hks,hfix,hg,hh⟩:=tdOK_head x.ok;obtain ⟨o2,b,ho2,hgd,hF,hT⟩:=x.td;obtain rfl:o2=o:=Option.some.inj (ho2.symm.trans ho);have hkD:D k=false:=x.rest kd k List.mem_cons_self (by rintro rfl;rcases hkd with e | e <;> cases e);have hval:isVal o2.op=true:=by rcases hkd with rfl | rfl <;> exact hh.1
 have key:∀(v:Value) (rds':List Nat),(rds'=rds∨rds'=k ::rds)→tdOK P l n cls fl π (k ::seen) effs rds' wr=true→TD E l n fl hs ds F π (putS σr o2.dst (if b=true then v else undef)) hr→
   (b=true→VOp E o2 σr ds hr v∧(k ∈ rds'∨∀hx,VOp E o2 σr ds hx v))→TdI E l n cls fl hs ds F (k ::seen) effs rds' wr π (putS σr o2.dst (if b=true then v else undef)) hr D σ' h':=by
  intro v rds' hrds ok' td' hv;refine ⟨td',ok',x.gw,fun t ht=>?_,fun j hj=>?_,x.eff,fun kd' j hj hne=>x.rest kd' j (List.mem_cons_of_mem _ hj) hne,fun j hj hDj o' d ho' hd=>?_,fun j hj hDj=>?_,fun j hj=>x.flo j (List.mem_cons_of_mem _ hj),x.pre,x.clos⟩
  ·rw [put_ne (base_ne hkn ho ht)];exact x.base t ht
  ·rcases List.mem_cons.1 hj with rfl | hj
   ·exact hkn
   ·exact x.lt j hj
  ·rcases List.mem_cons.1 hj with rfl | hj
   ·rw [hkD] at hDj;cases hDj
   ·rw [put_ne fun d' hd'=>dst_ne nd hkn (x.lt j hj) (fun e=>hks (e▸hj)) ho ho' hd' hd];exact x.done j hj hDj o' d ho' hd
  ·rcases List.mem_cons.1 hj with rfl | hj
   ·refine ⟨o2,xs,b,v,ho,hx,hval,fun t ht=>slotOK_mono (hfix t ht),fun g w hgg=>⟨List.mem_cons_of_mem _ (hg g w hgg).1,(hg g w hgg).2⟩,hgd.put nd x.lt hkn hks ho fun g w hgg=>(hg g w hgg).1,fun hb=>?_,fun d hd=>?_⟩
    ·have e:∀t ∈ slotsOf xs,σr t=putS σr o2.dst (if b=true then v else undef) t:=fun t ht=>(put_ne fun d hd=>slotOK_ne nd x.lt hkn hks ho hd (hfix t ht)).symm;obtain ⟨y1,y2⟩:=hv hb;exact ⟨y1.move hval hx e x.gw.1,y2.imp id fun y hx'=>(y hx').move hval hx e (GH.Le.refl _)⟩
    ·rw [hd];exact upd_same _ _ _
   ·obtain ⟨o',xs',b',v',pf⟩:=x.pend j hj hDj
    have:=pf.put (w:=if b=true then v else undef) nd x.lt hkn hks ho hj (GH.Le.refl _)
    rcases hrds with rfl | rfl
    ·exact ⟨o',xs',b',v',this⟩
    ·exact ⟨o',xs',b',v',this.more⟩
 cases b with
 | false=>
  rcases hkd with rfl | rfl
  ·exact ⟨_,_,key undef _ (.inl rfl) hh.2.2 (hF rfl) (fun e=>by cases e)⟩
  ·exact ⟨_,_,key undef _ (.inr rfl) hh.2.2 (hF rfl) (fun e=>by cases e)⟩
 | true=>
  rcases hkd with rfl | rfl
  ·obtain ⟨v,h1,h2⟩:=hT rfl;exact ⟨_,_,key v _ (.inl rfl) hh.2.2 h2 (fun _=>⟨h1 _,.inr h1⟩)⟩
  ·obtain ⟨v,h1,h2⟩:=hT rfl;exact ⟨_,_,key v _ (.inr rfl) hh.2.2 h2 (fun _=>⟨h1,.inl List.mem_cons_self⟩)⟩
theorem TdI.unfoldA {k:Nat} (nd:(dsts l n).Nodup) (hD:D k=true) (x:TdI E l n cls fl hs ds F seen effs rds wr ((Kd.a,k) ::π) σr hr D σ' h') :
  ∃σr',TdI E l n cls fl hs ds F (k ::seen) (k ::effs) rds wr π σr' h' D σ' h':=by
 obtain ⟨o,xs,ho,hx,hkn,hks,hfix,hg,hh⟩:=tdOK_head x.ok;obtain ⟨o2,b,ho2,hgd,hF,hT⟩:=x.td;obtain rfl:o2=o:=Option.some.inj (ho2.symm.trans ho);obtain ⟨hfl,hwr,hal,hds,hgn,ok'⟩:=hh;obtain rfl:b=true:=by unfold Gd at hgd;rw [hgn] at hgd;exact hgd
 obtain ⟨t,hop⟩:∃t,o2.op=.alloc t:=by
  cases hq:o2.op <;> rw [hq] at hal <;> first | exact ⟨_,rfl⟩ | cases hal
 obtain ⟨d,hd⟩:=Option.isSome_iff_exists.1 hds;obtain ⟨r,h1,h2,h3⟩:=x.flo k List.mem_cons_self hD o2 t d ho hop hd;refine ⟨putS σr o2.dst (.pointer (some ⟨r,0,none⟩)),hT rfl t r h' hop x.gw.1 h2 h3,ok',Gw.refl _ _,fun t ht=>?_,fun j hj=>?_,fun j hj=>?_,fun kd' j hj hne=>x.rest kd' j (List.mem_cons_of_mem _ hj) hne,fun j hj hDj o' d' ho' hd'=>?_,fun j hj hDj=>?_,
  fun j hj=>x.flo j (List.mem_cons_of_mem _ hj),x.pre,x.clos⟩
 ·rw [put_ne (base_ne hkn ho ht)];exact x.base t ht
 ·rcases List.mem_cons.1 hj with rfl | hj
  ·exact hkn
  ·exact x.lt j hj
 ·rcases List.mem_cons.1 hj with rfl | hj
  ·exact hD
  ·exact x.eff j hj
 ·rcases List.mem_cons.1 hj with rfl | hj
  ·obtain rfl:o'=o2:=Option.some.inj (ho'.symm.trans ho);obtain rfl:d'=d:=Option.some.inj (hd'.symm.trans hd);rw [h1,hd];exact (upd_same _ _ _).symm
  ·rw [put_ne fun e he=>dst_ne nd hkn (x.lt j hj) (fun e=>hks (e▸hj)) ho ho' he hd'];exact x.done j hj hDj o' d' ho' hd'
 ·rcases List.mem_cons.1 hj with rfl | hj
  ·rw [hD] at hDj;cases hDj
  ·obtain ⟨o',xs',b',v',pf⟩:=x.pend j hj hDj;exact ⟨o',xs',b',v',pf.put nd x.lt hkn hks ho hj (GH.Le.refl _)⟩
theorem TdI.ran {kd:Kd} {k:Nat} {o:Oper} {xs:List Operand} {v:Value} {hr2 h2:GH} {wr':Bool} (nd:(dsts l n).Nodup) (ho:l[k]? =some o) (hkn:k<n) (hks:k ∉ seen) (hcl:∀q ∈ cls.getD k [],D q=true)
  (x:TdI E l n cls fl hs ds F seen effs rds wr ((kd,k) ::π) σr hr D σ' h') (td:TD E l n fl hs ds F π (putS σr o.dst v) hr2) (ok':tdOK P l n cls fl π (k ::seen) (k ::effs) rds wr'=true) (gw:Gw fl hr2 h2)
  (how:(wr'=wr∧h'.Le h2)∨(wr'=true∧∀q ∈ rds,D q=true)) :
  TdI E l n cls fl hs ds F (k ::seen) (k ::effs) rds wr' π (putS σr o.dst v) hr2 (addD D k) (putS σ' o.dst v) h2:=by
 refine ⟨td,ok',gw,fun t ht=>?_,fun j hj=>?_,fun j hj=>?_,fun kd' j hj hne=>?_,fun j hj hDj o' d' ho' hd'=>?_,fun j hj hDj=>?_,fun j hj hDj o' t d' ho' hop hd'=>?_,fun hw=>?_,fun j hjn hDj q hq=>?_⟩
 ·rw [put_ne (base_ne hkn ho ht),put_ne (base_ne hkn ho ht)];exact x.base t ht
 ·rcases List.mem_cons.1 hj with rfl | hj
  ·exact hkn
  ·exact x.lt j hj
 ·rcases List.mem_cons.1 hj with rfl | hj
  ·exact addD_self
  ·exact addD_of (x.eff j hj)
 ·have hnew:=(tdOK_new ok' kd' j hj).1;rw [addD_ne fun e=>hnew (by rw [e];exact List.mem_cons_self)];exact x.rest kd' j (List.mem_cons_of_mem _ hj) hne
 ·rcases List.mem_cons.1 hj with rfl | hj
  ·obtain rfl:o'=o:=Option.some.inj (ho'.symm.trans ho);rw [hd'];exact (upd_same _ _ _).trans (upd_same _ _ _).symm
  ·have hjk:j≠k:=fun e=>hks (e▸hj);rw [addD_ne hjk] at hDj;have hne:∀e,o.dst=some e→d'≠e:=fun e he=>dst_ne nd hkn (x.lt j hj) (fun e=>hjk e.symm) ho ho' he hd';rw [put_ne hne,put_ne hne];exact x.done j hj hDj o' d' ho' hd'
 ·rcases List.mem_cons.1 hj with rfl | hj
  ·rw [addD_self] at hDj;cases hDj
  ·have hjk:j≠k:=fun e=>hks (e▸hj);rw [addD_ne hjk] at hDj;obtain ⟨o',xs',b',v',pf⟩:=x.pend j hj hDj;rcases how with ⟨_,l2⟩ | ⟨_,hrd⟩
   ·exact ⟨o',xs',b',v',pf.put nd x.lt hkn hks ho hj l2⟩
   ·have pf2:PF E l n cls ds seen rds σr h2 j o' xs' b' v':=⟨pf.at',pf.op,pf.val,pf.fix,pf.gfix,pf.gd,fun hb=>(pf.vop hb).2.elim (fun hm=>by rw [hrd j hm] at hDj;cases hDj) fun hall=>⟨hall h2,.inr hall⟩,pf.is⟩;exact ⟨o',xs',b',v',pf2.put nd x.lt hkn hks ho hj (GH.Le.refl _)⟩
 ·have hnew:=(tdOK_new ok' _ j hj);have hjk:j≠k:=fun e=>hnew.1 (by rw [e];exact List.mem_cons_self);rw [addD_ne hjk] at hDj;obtain ⟨r,h1,h3,h4⟩:=x.flo j (List.mem_cons_of_mem _ hj) hDj o' t d' ho' hop hd';rcases how with ⟨_,l2⟩ | ⟨hw,_⟩
  ·exact ⟨r,by rw [put_ne fun e he=>dst_ne nd hkn hnew.2 (fun e=>hjk e.symm) ho ho' he hd'];exact h1,h3,l2.get h4⟩
  ·have:=(tdOK_float ok' j hj).2.1;rw [hw] at this;cases this
 ·rcases how with ⟨e,l2⟩ | ⟨e,_⟩
  ·exact (x.pre (e▸hw)).trans l2
  ·rw [e] at hw;cases hw
 ·by_cases e:j=k
  ·subst e;exact addD_of (hcl q hq)
  ·rw [addD_ne e] at hDj;exact addD_of (x.clos j hjn hDj q hq)
def TdAt (E:Env P) (l:List Oper) (n:Nat) (cls:List (List Nat)) (fl:Bool) (hs:GH) (ds:List Deferred) (F:(Nat→Value)→GH→Prop) (D:Nat→Bool) (σ':Nat→Value) (h':GH):Prop:=
 ∃seen effs rds wr π σr hr,TdI E l n cls fl hs ds F seen effs rds wr π σr hr D σ' h'
abbrev RunK (E:Env P) (l:List Oper) (n:Nat) (cls:List (List Nat)) (fl:Bool) (hs:GH) (ds:List Deferred) (F:(Nat→Value)→GH→Prop) (D:Nat→Bool) (σ':Nat→Value) (h':GH) (k:Nat) (o:Oper):Prop:=
 (GuardIs l o σ'→OpK E o σ' ds h' fun σ'' ds'' h''=>ds''=ds∧TdAt E l n cls fl hs ds F (addD D k) σ'' h'')∧(¬GuardIs l o σ'→TdAt E l n cls fl hs ds F (addD D k) (putS σ' o.dst undef) h')
theorem TdI.runV {k:Nat} {o:Oper} (nd:(dsts l n).Nodup) (ho:l[k]? =some o) (hks:k ∈ seen) (hkD:D k=false) (hcl:∀q ∈ cls.getD k [],D q=true) (x:TdI E l n cls fl hs ds F seen effs rds wr π σr hr D σ' h') :
  RunK E l n cls fl hs ds F D σ' h' k o:=by
 obtain ⟨o2,xs,b,v,pf⟩:=x.pend k hks hkD;obtain rfl:o2=o:=Option.some.inj (pf.at'.symm.trans ho);have hkn:=x.lt k hks;have hgi:=(x.guard hcl pf.gfix pf.gd).iff;have key:TdI E l n cls fl hs ds F seen effs rds wr π σr hr (addD D k) (putS σ' o2.dst (if b=true then v else undef)) h':=by
  refine ⟨x.td,x.ok,x.gw,fun t ht=>?_,x.lt,fun j hj=>addD_of (x.eff j hj),fun kd' j hj hne=>?_,fun j hj hDj o' d' ho' hd'=>?_,fun j hj hDj=>?_,fun j hj hDj o' t d' ho' hop hd'=>?_,x.pre,fun j hjn hDj q hq=>?_⟩
  ·rw [put_ne (base_ne hkn ho ht)];exact x.base t ht
  ·have hnew:=(tdOK_new x.ok kd' j hj).1;rw [addD_ne fun (e:j=k)=>hnew (by rw [e];exact hks)];exact x.rest kd' j hj hne
  ·by_cases hjk:j=k
   ·subst hjk;obtain rfl:o'=o2:=Option.some.inj (ho'.symm.trans ho);rw [pf.is d' hd',hd'];exact upd_same _ _ _
   ·rw [addD_ne hjk] at hDj;rw [put_ne fun e he=>dst_ne nd hkn (x.lt j hj) (fun e=>hjk e.symm) ho ho' he hd'];exact x.done j hj hDj o' d' ho' hd'
  ·by_cases hjk:j=k
   ·subst hjk;rw [addD_self] at hDj;cases hDj
   ·rw [addD_ne hjk] at hDj;exact x.pend j hj hDj
  ·have hnew:=tdOK_new x.ok _ j hj;have hjk:j≠k:=fun e=>hnew.1 (by rw [e];exact hks);rw [addD_ne hjk] at hDj;obtain ⟨r,h1,h3⟩:=x.flo j hj hDj o' t d' ho' hop hd';exact ⟨r,by rw [put_ne fun e he=>dst_ne nd hkn hnew.2 (fun e=>hjk e.symm) ho ho' he hd'];exact h1,h3⟩
  ·by_cases e:j=k
   ·subst e;exact addD_of (hcl q hq)
   ·rw [addD_ne e] at hDj;exact addD_of (x.clos j hjn hDj q hq)
 refine ⟨fun hG=>?_,fun hG=>?_⟩
 ·obtain rfl:=hgi.1 hG;have y:=(pf.vop rfl).1.move pf.val pf.op (fun t ht=>x.agree hcl (pf.fix t ht)) (GH.Le.refl _);refine OpK.move pf.op (fun _ _=>rfl) (fun z ds' h'' q=>?_) y;obtain ⟨q1,rfl,rfl⟩:=q;exact ⟨rfl,_,_,_,_,_,_,_,by rw [q1];exact key⟩
 ·cases b with
  | true=>exact absurd (hgi.2 rfl) hG
  | false=>exact ⟨_,_,_,_,_,_,_,key⟩
theorem TdI.runE {kd:Kd} {k:Nat} {o:Oper} (nd:(dsts l n).Nodup) (hkd:kd=.e∨kd=.w) (ho:l[k]? =some o) (hcl:∀q ∈ cls.getD k [],D q=true) (x:TdI E l n cls fl hs ds F seen effs rds wr ((kd,k) ::π) σr hr D σ' h') :
  RunK E l n cls fl hs ds F D σ' h' k o:=by
 obtain ⟨o1,xs,ho1,hx,hkn,hks,hfix,hg,hh⟩:=tdOK_head x.ok;obtain rfl:o1=o:=Option.some.inj (ho1.symm.trans ho);obtain ⟨o2,b,ho2,hgd,hF,hT⟩:=x.td;obtain rfl:o2=o1:=Option.some.inj (ho2.symm.trans ho);have hgi:=(x.guard hcl hg hgd).iff;refine ⟨fun hG=>?_,fun hG=>?_⟩
 ·obtain rfl:=hgi.1 hG;rcases hkd with rfl | rfl
  ·refine (hT rfl h' x.gw).move hx (fun t ht=>x.agree hcl (hfix t ht)) fun z ds' h'' q=>?_;obtain ⟨rfl,v,hv,l2,td⟩:=q;refine ⟨rfl,?_⟩;have e:putS σ' o2.dst z=putS σ' o2.dst v:=by
    cases hd:o2.dst with
    | none=>rfl
    | some d=>
     have:=congrFun hv d
     simp only [hd,putS,upd_same] at this;rw [this]
   rw [e];exact ⟨_,_,_,_,_,_,_,x.ran (xs:=xs) nd ho hkn hks hcl td hh.2 (Gw.refl _ _) (.inl ⟨rfl,l2⟩)⟩
  ·refine (hT rfl h' x.gw).move hx (fun t ht=>x.agree hcl (hfix t ht)) fun z ds' h'' q=>?_;obtain ⟨rfl,v,hv,td⟩:=q;refine ⟨rfl,?_⟩;have e:putS σ' o2.dst z=putS σ' o2.dst v:=by
    cases hd:o2.dst with
    | none=>rfl
    | some d=>
     have:=congrFun hv d
     simp only [hd,putS,upd_same] at this;rw [this]
   rw [e];exact ⟨_,_,_,_,_,_,_,x.ran (xs:=xs) nd ho hkn hks hcl td hh.2.2 (Gw.refl _ _) (.inr ⟨rfl,fun q hq=>hcl q (hh.2.1 q hq)⟩)⟩
 ·cases b with
  | true=>exact absurd (hgi.2 rfl) hG
  | false=>
   rcases hkd with rfl | rfl
   ·exact ⟨_,_,_,_,_,_,_,x.ran (xs:=xs) nd ho hkn hks hcl (hF rfl) hh.2 x.gw (.inl ⟨rfl,GH.Le.refl _⟩)⟩
   ·exact ⟨_,_,_,_,_,_,_,x.ran (xs:=xs) nd ho hkn hks hcl (hF rfl) hh.2.2 x.gw (.inr ⟨rfl,fun q hq=>hcl q (hh.2.1 q hq)⟩)⟩
theorem TdI.runA {k:Nat} {o:Oper} (nd:(dsts l n).Nodup) (hk:(Kd.a,k) ∈ π) (hkD:D k=false) (ho:l[k]? =some o) (hcl:∀q ∈ cls.getD k [],D q=true) (x:TdI E l n cls fl hs ds F seen effs rds wr π σr hr D σ' h') :
  RunK E l n cls fl hs ds F D σ' h' k o:=by
 obtain ⟨hfl,hwr,hkn,o2,ho2,hal,hds,hgn⟩:=tdOK_float x.ok k hk;obtain rfl:o2=o:=Option.some.inj (ho2.symm.trans ho);have hks:=(tdOK_new x.ok _ k hk).1;obtain ⟨t,hop⟩:∃t,o2.op=.alloc t:=by
  cases hq:o2.op <;> rw [hq] at hal <;> first | exact ⟨_,rfl⟩ | cases hal
 have hz:zeroOf P t=some (zOf P t):=by
  rw [hop] at hal;obtain ⟨z,hz⟩:=Option.isSome_iff_exists.1 (show (zeroOf P t).isSome=true from hal);unfold zOf;rw [hz];rfl
 refine ⟨fun _=>?_,fun hG=>absurd (by unfold GuardIs;rw [hgn];trivial) hG⟩;obtain ⟨dst,op,ty,pos,af,gd⟩:=o2;simp only at hop hds hgn;subst hop;obtain ⟨d,rfl⟩:=Option.isSome_iff_exists.1 hds;refine ok_alloc' hz fun r h2 hr0 l2 hnb hoth=>⟨rfl,seen,effs,rds,wr,π,σr,hr,x.td,x.ok,⟨x.gw.1.trans l2,fun e=>by rw [hfl] at e;cases e⟩,fun t' ht=>?_,x.lt,fun j hj=>addD_of (x.eff j hj),fun kd' j hj hne=>?_,fun j hj hDj o' d' ho' hd'=>?_,fun j hj hDj=>?_,fun j hj hDj o' t' d' ho' hop' hd'=>?_,fun hw=>(x.pre hw).trans l2,fun j hjn hDj q hq=>?_⟩
 ·rw [put_ne (base_ne hkn ho ht)];exact x.base t' ht
 ·by_cases e:j=k
  ·subst e;refine absurd (x.rest kd' j hj hne) fun _=>?_;exact hne (by
    have:∀{π:List (Kd×Nat)} {seen effs rds:List Nat} {wr:Bool},tdOK P l n cls fl π seen effs rds wr=true→(Kd.a,j) ∈ π→(kd',j) ∈ π→kd'=.a:=by
     intro π
     induction π with
     | nil=>intro _ _ _ _ _ h;cases h
     | cons y π ih=>
      intro seen effs rds wr ok h1 h2;obtain ⟨kd2,k2⟩:=y;obtain ⟨e',r',w',ok2,_⟩:=tdOK_tail ok;rcases List.mem_cons.1 h1 with e1 | h3 <;> rcases List.mem_cons.1 h2 with e2 | h4
      ·cases e1;cases e2;rfl
      ·cases e1;exact absurd List.mem_cons_self (tdOK_new ok2 _ _ h4).1
      ·cases e2;exact absurd List.mem_cons_self (tdOK_new ok2 _ _ h3).1
      ·exact ih ok2 h3 h4
    exact this x.ok hk hj)
  ·rw [addD_ne e];exact x.rest kd' j hj hne
 ·have hjk:j≠k:=fun e=>hks (e▸hj);rw [addD_ne hjk] at hDj;rw [put_ne fun e he=>dst_ne nd hkn (x.lt j hj) (fun e=>hjk e.symm) ho ho' he hd'];exact x.done j hj hDj o' d' ho' hd'
 ·have hjk:j≠k:=fun e=>hks (e▸hj);rw [addD_ne hjk] at hDj;obtain ⟨o',xs',b',v',pf⟩:=x.pend j hj hDj;exact ⟨o',xs',b',v',pf.at',pf.op,pf.val,pf.fix,pf.gfix,pf.gd,fun hb=>⟨(pf.vop hb).1.move pf.val pf.op (fun _ _=>rfl) l2,(pf.vop hb).2⟩,pf.is⟩
 ·by_cases e:j=k
  ·subst e;cases ho'.symm.trans ho;cases hd';cases hop';have hb0:hs r=none:=by
    cases hb:hs r with
    | none=>rfl
    | some y=>rw [(x.pre hwr).get hb] at hr0;cases hr0
   exact ⟨r,upd_same _ _ _,hb0,hnb⟩
  ·rw [addD_ne e] at hDj;have hnew:=tdOK_new x.ok _ j hj;obtain ⟨r',h1,h3,h4⟩:=x.flo j hj hDj o' t' d' ho' hop' hd';exact ⟨r',by rw [put_ne fun e' he=>dst_ne nd hkn hnew.2 (fun q=>e q.symm) ho ho' he hd'];exact h1,h3,l2.get h4⟩
 ·by_cases e:j=k
  ·subst e;exact addD_of (hcl q hq)
  ·rw [addD_ne e] at hDj;exact addD_of (x.clos j hjn hDj q hq)
theorem TdI.reach {kd:Kd} {i:Nat} (nd:(dsts l n).Nodup) (hne:kd≠.a) (hcl:∀q ∈ cls.getD i [],D q=true):∀{π:List (Kd×Nat)} {seen effs rds:List Nat} {wr:Bool} {σr:Nat→Value} {hr:GH},
  TdI E l n cls fl hs ds F seen effs rds wr π σr hr D σ' h'→(kd,i) ∈ π→∃seen effs rds wr π' σr hr,TdI E l n cls fl hs ds F seen effs rds wr ((kd,i) ::π') σr hr D σ' h':=by
 intro π
 induction π with
 | nil=>intro _ _ _ _ _ _ _ h;cases h
 | cons y π ih=>
  intro seen effs rds wr σr hr x hm;obtain ⟨kd2,k2⟩:=y;rcases List.mem_cons.1 hm with e | hm2
  ·cases e;exact ⟨_,_,_,_,_,_,_,x⟩
  ·have hv:kd2=.p∨kd2=.r→∃seen effs rds wr π' σr hr,TdI E l n cls fl hs ds F seen effs rds wr ((kd,i) ::π') σr hr D σ' h':=fun hk=>by
    obtain ⟨rds',σr',x'⟩:=x.unfoldV nd hk;exact ih x' hm2
   have heff:kd2=.e∨kd2=.w∨kd2=.a→D k2=true:=fun hk=>by
    obtain ⟨e',r',w',ok2,_,z⟩:=tdOK_tail x.ok;exact hcl _ (tdOK_eff ok2 kd i hm2 hne k2 (z hk))
   cases kd2 with
   | p=>exact hv (.inl rfl)
   | r=>exact hv (.inr rfl)
   | e=>have:=x.rest _ _ List.mem_cons_self (fun e=>by cases e);rw [heff (.inl rfl)] at this;cases this
   | w=>have:=x.rest _ _ List.mem_cons_self (fun e=>by cases e);rw [heff (.inr (.inl rfl))] at this;cases this
   | a=>
    obtain ⟨σr',x'⟩:=x.unfoldA nd (heff (.inr (.inr rfl)));exact ih x' hm2
theorem TdI.ends (nd:(dsts l n).Nodup) (hall:∀i,i<n→D i=true):∀{π:List (Kd×Nat)} {seen effs rds:List Nat} {wr:Bool} {σr:Nat→Value} {hr:GH},
  TdI E l n cls fl hs ds F seen effs rds wr π σr hr D σ' h'→F σ' h':=by
 intro π
 induction π with
 | nil=>
  intro seen effs rds wr σr hr x;have e:σ'=σr:=funext fun t=>by
   cases hc:(dsts l n).contains t with
   | false=>exact x.base t hc
   | true=>
    rw [List.contains_iff_mem] at hc;simp only [dsts,List.mem_filterMap] at hc;obtain ⟨o,ho,hd⟩:=hc;obtain ⟨k,hk⟩:=List.mem_iff_getElem?.1 ho;have hkn:k<n:=by
     have:=(List.getElem?_eq_some_iff.1 hk).1
     simp at this;omega
    have hok:l[k]? =some o:=by rw [List.getElem?_take] at hk;simpa [hkn] using hk
    rcases tdOK_all x.ok k hkn with h | ⟨_,h⟩
    ·exact x.done k h (hall k hkn) o t hok hd
    ·cases h
  rw [e];exact x.td h' x.gw
 | cons y π ih=>
  intro seen effs rds wr σr hr x;obtain ⟨kd,k⟩:=y;have hk:=(tdOK_new x.ok kd k List.mem_cons_self).2;by_cases hne:kd=.a
  ·subst hne;obtain ⟨σr',x'⟩:=x.unfoldA nd (hall k hk);exact ih x'
  ·have:=x.rest kd k List.mem_cons_self hne
   rw [hall k hk] at this;cases this
end
def forceC (c:List Nat) (k:List Nat→Bool):Bool:=match c with
 | []=>k []
 | x ::xs=>forceC xs fun xs'=>k (x ::xs')
theorem forceC_eq:∀(c:List Nat) (k:List Nat→Bool),forceC c k=k c
 | [],_=>rfl
 | x ::xs,k=>by unfold forceC;rw [forceC_eq xs]
def forceN (cls:List (List Nat)) (k:List (List Nat)→Bool):Bool:=match cls with
 | []=>k []
 | c ::cs=>forceN cs fun cs'=>k (c ::cs')
theorem forceN_eq:∀(cls:List (List Nat)) (k:List (List Nat)→Bool),forceN cls k=k cls
 | [],_=>rfl
 | c ::cs,k=>by unfold forceN;exact forceN_eq cs _
def clsGo (l:List Oper):List Oper→Nat→List (List Nat)→(List (List Nat)→Bool)→Bool
 | [],_,acc,c=>forceN acc.reverse c
 | o ::os,k,acc,c=>forceC ((List.range k).filter fun j=>anyOn o j || (List.range k).any fun e=>anyOn o e && (acc.getD (k-1-e) []).contains j) fun x=>clsGo l os (k+1) (x ::acc) c
theorem clsGo_some {l:List Oper} {c:List (List Nat)→Bool}:∀{os:List Oper} {k:Nat} {acc:List (List Nat)},clsGo l os k acc c=true→∃cls,c cls=true
 | [],k,acc,h=>⟨acc.reverse,(forceN_eq acc.reverse c).symm.trans h⟩
 | o ::os,k,acc,h=>by unfold clsGo at h;rw [forceC_eq] at h;exact clsGo_some h
def tdChk (P:Program) (N:Nat) (l:List Oper) (n:Nat) (cls:List (List Nat)) (fl:Bool) (π:List (Kd×Nat)):Bool:=drawOK2 N l n cls && tdOK P l n cls fl π [] [] [] false
theorem tr_td {F:(Nat→Value)→GH→Prop} {id:Nat} {l:List Oper} {σ:Nat→Value} {ds:List Deferred} {h:GH} {Q:Post} (n:Nat) (cls:List (List Nat)) (fl:Bool) (π:List (Kd×Nat)) (hm:P.follows .mixedOrders=true)
  (ok:tdChk P E.N l n cls fl π=true) (x:TD E l n fl h ds F π σ h) (y:∀σ' h',F σ' h'→TrL E l.toArray (l.drop n) σ' ds h' Q):Tr E (.region id l.toArray true) σ ds h Q:=by
 unfold tdChk at ok;rw [Bool.and_eq_true] at ok;obtain ⟨ok1,ok2⟩:=ok;have nd:(dsts l n).Nodup:=by
  have:=ok1
  unfold drawOK2 at this;simp only [Bool.and_eq_true] at this;exact of_decide_eq_true this.1.2
 refine tr_drawS n cls (TdAt E l n cls fl h ds F) hm ok1 ?_ ?_ ?_
 ·exact ⟨[],[],[],false,π,σ,h,x,ok2,Gw.refl _ _,fun _ _=>rfl,(fun _ hk=>by cases hk),(fun _ hk=>by cases hk),(fun _ _ _ _=>rfl),(fun _ hk=>by cases hk),(fun _ hk=>by cases hk),(fun _ _ hD=>by cases hD),(fun _=>GH.Le.refl _),(fun _ _ hD=>by cases hD)⟩
 ·rintro D σ' h' i o ⟨seen,effs,rds,wr,π',σr,hr,z0⟩ hin hiD ho hcl hgl;rcases tdOK_all z0.ok i hin with hs | ⟨kd,hk⟩
  ·exact z0.runV nd ho hs hiD hcl
  ·by_cases hne:kd=.a
   ·subst hne;exact z0.runA nd hk hiD ho hcl
   ·obtain ⟨seen,effs,rds,wr,π'',σr,hr,z⟩:=z0.reach nd hne hcl hk;cases kd with
    | p=>
     obtain ⟨rds',σr',z'⟩:=z.unfoldV nd (.inl rfl);exact z'.runV nd ho List.mem_cons_self hiD hcl
    | r=>
     obtain ⟨rds',σr',z'⟩:=z.unfoldV nd (.inr rfl);exact z'.runV nd ho List.mem_cons_self hiD hcl
    | e=>exact z.runE nd (.inl rfl) ho hcl
    | w=>exact z.runE nd (.inr rfl) ho hcl
    | a=>exact absurd rfl hne
 ·rintro D σ' h' ⟨seen,effs,rds,wr,π',σr,hr,z0⟩ hall;exact y _ _ (z0.ends nd hall)
abbrev LoIs (σ:Nat→Value) (o:Option Operand) (lo d:Nat):Prop:=match o with
 | none=>lo=d
 | some o=>∃kd,evalS σ o=.int kd lo
def dK1 (m:Nat):Kd×Nat:=(match m%5 with | 0=>.p | 1=>.r | 2=>.e | 3=>.w | _=>.a,m / 5)
def dK:List Nat→List (Kd×Nat)
 | []=>[]
 | m ::l=>dK1 m ::dK l
theorem tr_tdG {id:Nat} {l:List Oper} {σ:Nat→Value} {ds:List Deferred} {h:GH} {Q:Post} (n:Nat) (fl:Bool) (π:List Nat) (hm:P.follows .mixedOrders=true)
  (ok:clsGo l (l.take n) 0 [] (fun cls=>tdChk P E.N l n cls fl (dK π))=true) (x:TD E l n fl h ds (fun σ' h'=>TrL E l.toArray (l.drop n) σ' ds h' Q) (dK π) σ h):Tr E (.region id l.toArray true) σ ds h Q:=
 let ⟨cls,h1⟩:=clsGo_some ok
 tr_td n cls fl (dK π) hm h1 x fun _ _ y=>y
theorem tr_tdV {id:Nat} {l:List Oper} {σ:Nat→Value} {ds:List Deferred} {h:GH} {Q:Post} (F:(Nat→Value)→GH→Prop) (n:Nat) (fl:Bool) (π:List Nat) (hm:P.follows .mixedOrders=true)
  (ok:clsGo l (l.take n) 0 [] (fun cls=>tdChk P E.N l n cls fl (dK π))=true) (x:TD E l n fl h ds F (dK π) σ h) (y:∀σ' h',F σ' h'→TrL E l.toArray (l.drop n) σ' ds h' Q):Tr E (.region id l.toArray true) σ ds h Q:=
 let ⟨cls,h1⟩:=clsGo_some ok
 tr_td n cls fl (dK π) hm h1 x y
section
variable {l:List Oper} {n:Nat} {fl:Bool} {hs:GH} {ds:List Deferred} {F:(Nat→Value)→GH→Prop} {π:List Nat} {σ:Nat→Value} {h:GH} {m k g d:Nat} {dst:Option Nat} {op:Op} {ty:TypeId} {pos:String} {af:Array Edge} {v:Value} {w is:Bool} {og:Oper}
theorem vz {α β γ:Type} {a:α} {b:β} {c:γ}:a=a∧b=b∧c=c:=⟨rfl,rfl,rfl⟩
theorem tP (hk:dK1 m=(.p,k)) (ho:l[k]? =some ⟨dst,op,ty,pos,af,none⟩) (x:∀hx,VOp E ⟨dst,op,ty,pos,af,none⟩ σ ds hx v) (y:TD E l n fl hs ds F (dK π) (putS σ dst v) h):TD E l n fl hs ds F (dK (m ::π)) σ h:=by
 unfold dK;rw [hk];exact ⟨_,true,ho,rfl,fun e=>(by cases e),fun _=>⟨v,x,y⟩⟩
theorem tR (hk:dK1 m=(.r,k)) (ho:l[k]? =some ⟨dst,op,ty,pos,af,none⟩) (x:VOp E ⟨dst,op,ty,pos,af,none⟩ σ ds h v) (y:TD E l n fl hs ds F (dK π) (putS σ dst v) h):TD E l n fl hs ds F (dK (m ::π)) σ h:=by
 unfold dK;rw [hk];exact ⟨_,true,ho,rfl,fun e=>(by cases e),fun _=>⟨v,x,y⟩⟩
theorem tE (hk:dK1 m=(.e,k)) (ho:l[k]? =some ⟨dst,op,ty,pos,af,none⟩)
  (x:OpK E ⟨dst,op,ty,pos,af,none⟩ σ ds h fun σ' ds' h'=>ds'=ds∧∃v,σ'=putS σ dst v∧h.Le h'∧TD E l n false hs ds F (dK π) (putS σ dst v) h'):TD E l n false hs ds F (dK (m ::π)) σ h:=by
 unfold dK;rw [hk];exact ⟨_,true,ho,rfl,fun e=>(by cases e),fun _ hx hg=>by rw [hg.2 rfl];exact x⟩
theorem tEf (hk:dK1 m=(.e,k)) (ho:l[k]? =some ⟨dst,op,ty,pos,af,none⟩)
  (x:∀hx,h.Le hx→OpK E ⟨dst,op,ty,pos,af,none⟩ σ ds hx fun σ' ds' h'=>ds'=ds∧∃v,σ'=putS σ dst v∧hx.Le h'∧TD E l n true hs ds F (dK π) (putS σ dst v) h'):TD E l n true hs ds F (dK (m ::π)) σ h:=by
 unfold dK;rw [hk];exact ⟨_,true,ho,rfl,fun e=>(by cases e),fun _ hx hg=>x hx hg.1⟩
theorem tW (hk:dK1 m=(.w,k)) (ho:l[k]? =some ⟨dst,op,ty,pos,af,none⟩)
  (x:OpK E ⟨dst,op,ty,pos,af,none⟩ σ ds h fun σ' ds' h'=>ds'=ds∧∃v,σ'=putS σ dst v∧TD E l n false hs ds F (dK π) (putS σ dst v) h'):TD E l n false hs ds F (dK (m ::π)) σ h:=by
 unfold dK;rw [hk];exact ⟨_,true,ho,rfl,fun e=>(by cases e),fun _ hx hg=>by rw [hg.2 rfl];exact x⟩
theorem tWf (hk:dK1 m=(.w,k)) (ho:l[k]? =some ⟨dst,op,ty,pos,af,none⟩)
  (x:∀hx,h.Le hx→OpK E ⟨dst,op,ty,pos,af,none⟩ σ ds hx fun σ' ds' h'=>ds'=ds∧∃v,σ'=putS σ dst v∧TD E l n true hs ds F (dK π) (putS σ dst v) h'):TD E l n true hs ds F (dK (m ::π)) σ h:=by
 unfold dK;rw [hk];exact ⟨_,true,ho,rfl,fun e=>(by cases e),fun _ hx hg=>x hx hg.1⟩
theorem tA {t:TypeId} {z:Array Value} (hk:dK1 m=(.a,k)) (ho:l[k]? =some ⟨dst,.alloc t,ty,pos,af,none⟩) (hz:zeroOf P t=some z)
  (x:∀r hx,h.Le hx→hs r=none→hx r=some (true,.cells z t (0,0))→TD E l n true hs ds F (dK π) (putS σ dst (.pointer (some ⟨r,0,none⟩))) hx):TD E l n true hs ds F (dK (m ::π)) σ h:=by
 unfold dK;rw [hk];refine ⟨_,true,ho,rfl,fun e=>(by cases e),fun _ t' r hx e l2 hr hb=>?_⟩;cases e;exact x r hx l2 hr (by rw [hb];unfold zOf;rw [hz];rfl)
theorem gd_true (h1:l[g]? =some og) (h2:og.dst=some d) (h3:σ d=.bool w):Gd l ⟨dst,op,ty,pos,af,some (g,w)⟩ σ true:=⟨og,d,w,h1,h2,h3,by cases w <;> rfl⟩
theorem tPg (hk:dK1 m=(.p,k)) (ho:l[k]? =some ⟨dst,op,ty,pos,af,some (g,w)⟩) (h1:l[g]? =some og) (h2:og.dst=some d) (h3:σ d=.bool w) (x:∀hx,VOp E ⟨dst,op,ty,pos,af,some (g,w)⟩ σ ds hx v)
  (y:TD E l n fl hs ds F (dK π) (putS σ dst v) h):TD E l n fl hs ds F (dK (m ::π)) σ h:=by
 unfold dK;rw [hk];exact ⟨_,true,ho,gd_true h1 h2 h3,fun e=>(by cases e),fun _=>⟨v,x,y⟩⟩
theorem tRg (hk:dK1 m=(.r,k)) (ho:l[k]? =some ⟨dst,op,ty,pos,af,some (g,w)⟩) (h1:l[g]? =some og) (h2:og.dst=some d) (h3:σ d=.bool w) (x:VOp E ⟨dst,op,ty,pos,af,some (g,w)⟩ σ ds h v)
  (y:TD E l n fl hs ds F (dK π) (putS σ dst v) h):TD E l n fl hs ds F (dK (m ::π)) σ h:=by
 unfold dK;rw [hk];exact ⟨_,true,ho,gd_true h1 h2 h3,fun e=>(by cases e),fun _=>⟨v,x,y⟩⟩
theorem tEg (hk:dK1 m=(.e,k)) (ho:l[k]? =some ⟨dst,op,ty,pos,af,some (g,w)⟩) (h1:l[g]? =some og) (h2:og.dst=some d) (h3:σ d=.bool w)
  (x:OpK E ⟨dst,op,ty,pos,af,some (g,w)⟩ σ ds h fun σ' ds' h'=>ds'=ds∧∃v,σ'=putS σ dst v∧h.Le h'∧TD E l n false hs ds F (dK π) (putS σ dst v) h'):TD E l n false hs ds F (dK (m ::π)) σ h:=by
 unfold dK;rw [hk];exact ⟨_,true,ho,gd_true h1 h2 h3,fun e=>(by cases e),fun _ hx hg=>by rw [hg.2 rfl];exact x⟩
theorem tS {kd:Kd} (hk:dK1 m=(kd,k)) (ho:l[k]? =some ⟨dst,op,ty,pos,af,some (g,w)⟩) (h1:l[g]? =some og) (h2:og.dst=some d) (h3:σ d=.bool is) (hne:(is==w)=false)
  (y:TD E l n fl hs ds F (dK π) (putS σ dst undef) h):TD E l n fl hs ds F (dK (m ::π)) σ h:=by
 unfold dK;rw [hk];exact ⟨_,false,ho,⟨og,d,is,h1,h2,h3,hne.symm⟩,fun _=>y,fun e=>(by cases e)⟩
theorem tN (x:F σ h):TD E l n false hs ds F (dK []) σ h:=fun hx hg=>by rw [hg.2 rfl];exact x
theorem tNf (x:∀hx,h.Le hx→F σ hx):TD E l n true hs ds F (dK []) σ h:=fun hx hg=>x hx hg.1
section
variable {α:Type} {enc:α→Array Value} {xs:List α} {h0:GH} {t:TypeId} {a ix:Operand} {z:Nat} {sv:Value} {kd:IntKind} {i:Int}
theorem tI (hk:dK1 m=(.p,k)) (ho:l[k]? =some ⟨dst,.indexAddr t a ix,ty,pos,af,none⟩) (ht:eszOf P t=some z) (hs':SlIs h0 sv z enc xs) (hx:evalS σ a=sv) (hi:evalS σ ix=.int kd i) (h0':0≤i) (h1:i<xs.length)
  (y:∀b off,Elem h0 b off z (enc (xs[i.toNat]'(by omega)))→TD E l n fl hs ds F (dK π) (putS σ dst (.pointer (some ⟨b,off,none⟩))) h):TD E l n fl hs ds F (dK (m ::π)) σ h:=by
 obtain ⟨p,cap,rfl,_,_,he⟩:=hs';obtain ⟨b,off,rfl,hb⟩:=he i.toNat (by omega);exact tP hk ho (fun _=>ok_indexAddr ht hx hi h0' h1 vz) (y b _ hb)
theorem tSl {olo ohi:Option Operand} (lo hi:Nat) (hk:dK1 m=(.p,k)) (ho:l[k]? =some ⟨dst,.slice t a olo ohi none,ty,pos,af,none⟩) (ht:eszOf P t=some z) (hs':SlIs h0 sv z enc xs) (hx:evalS σ a=sv)
  (hlo:LoIs σ olo lo 0) (hhi:LoIs σ ohi hi xs.length) (h1:lo≤hi) (h2:hi≤xs.length)
  (y:∀v',SlIs h0 v' z enc ((xs.take hi).drop lo)→TD E l n fl hs ds F (dK π) (putS σ dst v') h):TD E l n fl hs ds F (dK (m ::π)) σ h:=by
 have h3:=hs';obtain ⟨p,cap,rfl,hc,_,_⟩:=hs';exact tP hk ho (fun _=>ok_sliceE lo hi ht hc hx hlo hhi h1 h2 vz) (y _ (h3.part h1 h2))
theorem tIg (hk:dK1 m=(.p,k)) (ho:l[k]? =some ⟨dst,.indexAddr t a ix,ty,pos,af,some (g,w)⟩) (h1':l[g]? =some og) (h2':og.dst=some d) (h3':σ d=.bool w) (ht:eszOf P t=some z) (hs':SlIs h0 sv z enc xs) (hx:evalS σ a=sv) (hi:evalS σ ix=.int kd i) (h0':0≤i) (h1:i<xs.length)
  (y:∀b off,Elem h0 b off z (enc (xs[i.toNat]'(by omega)))→TD E l n fl hs ds F (dK π) (putS σ dst (.pointer (some ⟨b,off,none⟩))) h):TD E l n fl hs ds F (dK (m ::π)) σ h:=by
 obtain ⟨p,cap,rfl,_,_,he⟩:=hs';obtain ⟨b,off,rfl,hb⟩:=he i.toNat (by omega);exact tPg hk ho h1' h2' h3' (fun _=>ok_indexAddr ht hx hi h0' h1 vz) (y b _ hb)
end
theorem eT {h':GH} {π':List (Kd×Nat)} (l2:h.Le h') (y:TD E l n fl hs ds F π' (putS σ dst v) h'):ds=ds∧∃v',putS σ dst v=putS σ dst v'∧h.Le h'∧TD E l n fl hs ds F π' (putS σ dst v') h':=⟨rfl,v,rfl,l2,y⟩
theorem wT {h':GH} {π':List (Kd×Nat)} (y:TD E l n fl hs ds F π' (putS σ dst v) h'):ds=ds∧∃v',putS σ dst v=putS σ dst v'∧TD E l n fl hs ds F π' (putS σ dst v') h':=⟨rfl,v,rfl,y⟩
end
theorem td_case {X:Prop} {p:Prop} [Decidable p] (a:p→X) (b:¬p→X):X:=if h:p then a h else b h
end
end Go.Ns
namespace Go.Ns
def eI (i:Int):Array Value:=#[.int .i64 i]
def eB (i:Int):Array Value:=#[.int .u8 i]
structure Good where
 name:ByteArray
 cost:Int
 pack:Int
 low:Int
 high:Int
structure Move where
 kind:Int
 good:Int
 day:Int
 low:Int
 high:Int
structure Count where
 good:Int
 day:Int
 low:Int
 high:Int
def eGood (x:Good):Array Value:=#[.string x.name,.int .i64 x.cost,.int .i64 x.pack,.int .i64 x.low,.int .i64 x.high]
def eMove (x:Move):Array Value:=#[.int .i64 x.kind,.int .i64 x.good,.int .i64 x.day,.int .i64 x.low,.int .i64 x.high]
def eCount (x:Count):Array Value:=#[.int .i64 x.good,.int .i64 x.day,.int .i64 x.low,.int .i64 x.high]
structure Past where
 first:Nat→Int
 many:Nat→Int
 lies:Nat→Bool
def Past.zero:Past:=⟨fun _=>0,fun _=>0,fun _=>false⟩
def ePast (p:Past):Array Value:=#[.int .i64 (p.first 0),.int .i64 (p.first 1),.int .i64 (p.first 2),.int .i64 (p.many 0),.int .i64 (p.many 1),.int .i64 (p.many 2),.int .i64 (p.many 3),.int .i64 (p.many 4),.int .i64 (p.many 5),
 .bool (p.lies 0),.bool (p.lies 1),.bool (p.lies 2),.bool (p.lies 3),.bool (p.lies 4),.bool (p.lies 5)]
def Past.setFirst (p:Past) (i:Nat) (n:Int):Past:={ p with first:=fun k=>if k=i then n else p.first k }
def Past.setMany (p:Past) (i:Nat) (n:Int):Past:={ p with many:=fun k=>if k=i then n else p.many k }
def Past.setLie (p:Past) (i:Nat) (b:Bool):Past:={ p with lies:=fun k=>if k=i then b else p.lies k }
theorem ePast_first {p:Past} {i:Nat} (h:i<3):(ePast p)[i*1]? =some (.int .i64 (p.first i)):=by
 match i,h with
 | 0,_=>rfl
 | 1,_=>rfl
 | 2,_=>rfl
theorem ePast_many {p:Past} {i:Nat} (h:i<6):(ePast p)[3+i*1]? =some (.int .i64 (p.many i)):=by
 match i,h with
 | 0,_=>rfl
 | 1,_=>rfl
 | 2,_=>rfl
 | 3,_=>rfl
 | 4,_=>rfl
 | 5,_=>rfl
theorem ePast_lies {p:Past} {i:Nat} (h:i<6):(ePast p)[9+i*1]? =some (.bool (p.lies i)):=by
 match i,h with
 | 0,_=>rfl
 | 1,_=>rfl
 | 2,_=>rfl
 | 3,_=>rfl
 | 4,_=>rfl
 | 5,_=>rfl
theorem ePast_lies6 {p:Past} {i:Nat} (h:i<6):(if false=true then some (Value.agg ((#[.bool (p.lies 0),.bool (p.lies 1),.bool (p.lies 2),.bool (p.lies 3),.bool (p.lies 4),.bool (p.lies 5)]:Array Value).extract (i*1) (i*1+1))) else (#[.bool (p.lies 0),.bool (p.lies 1),.bool (p.lies 2),.bool (p.lies 3),.bool (p.lies 4),.bool (p.lies 5)]:Array Value)[i*1]?)=some (.bool (p.lies i)):=by
 match i,h with
 | 0,_=>rfl
 | 1,_=>rfl
 | 2,_=>rfl
 | 3,_=>rfl
 | 4,_=>rfl
 | 5,_=>rfl
theorem ePast_setFirst {p:Past} {i:Nat} {n:Int} (h:i<3):putCells (ePast p) (i*1) [.int .i64 n]=ePast (p.setFirst i n):=by
 match i,h with
 | 0,_=>rfl
 | 1,_=>rfl
 | 2,_=>rfl
theorem ePast_setFirst0 {p:Past} {i:Nat} {n:Int} (h:i<3):putCells (ePast p) (0+i*1) [.int .i64 n]=ePast (p.setFirst i n):=by rw [Nat.zero_add];exact ePast_setFirst h
theorem ePast_setMany {p:Past} {i:Nat} {n:Int} (h:i<6):putCells (ePast p) (3+i*1) [.int .i64 n]=ePast (p.setMany i n):=by
 match i,h with
 | 0,_=>rfl
 | 1,_=>rfl
 | 2,_=>rfl
 | 3,_=>rfl
 | 4,_=>rfl
 | 5,_=>rfl
theorem ePast_setLie {p:Past} {i:Nat} {b:Bool} (h:i<6):putCells (ePast p) (9+i*1) [.bool b]=ePast (p.setLie i b):=by
 match i,h with
 | 0,_=>rfl
 | 1,_=>rfl
 | 2,_=>rfl
 | 3,_=>rfl
 | 4,_=>rfl
 | 5,_=>rfl
theorem ePast_first0 {p:Past} {i:Nat} (h:i<3):(ePast p)[0+i*1]? =some (.int .i64 (p.first i)):=by rw [Nat.zero_add];exact ePast_first h
def lyingTo (p:Past):Nat→Nat
 | 0=>0
 | k+1=>lyingTo p k+if p.lies k then 1 else 0
theorem lyingTo_le (p:Past):∀k,lyingTo p k≤k
 | 0=>Nat.le_refl _
 | k+1=>by have:=lyingTo_le p k;unfold lyingTo;split <;> omega
def realOf (p:Past) (i:Nat):Int:=if p.lies i then 0 else p.many i
def Good.z:Good:=⟨⟨#[]⟩,0,0,0,0⟩
def Move.z:Move:=⟨0,0,0,0,0⟩
def Count.z:Count:=⟨0,0,0,0⟩
theorem getD_at {α:Type} {xs:List α} {i:Nat} (d:α) (hi:i<xs.length):xs.getD i d=xs[i]'hi:=by
 simp [List.getD_eq_getElem?_getD,List.getElem?_eq_getElem hi]
theorem Elem.getD {α:Type} {h:GH} {b off n:Nat} {enc:α→Array Value} {xs:List α} {i:Nat} {hi:i<xs.length} (d:α) (x:Elem h b off n (enc (xs[i]'hi))):Elem h b off n (enc (xs.getD i d)):=by
 rw [getD_at d hi];exact x
theorem take_getD {α:Type} {a:List α} {k:Nat} (d:α) (ha:k<a.length):a.take (k+1)=a.take k++[a.getD k d]:=by
 rw [List.take_succ_eq_append_getElem ha,getD_at d ha]
theorem take_eq_of {α:Type} {a b:List α} {k:Nat} (d:α) (h:a.take k=b.take k) (ha:k<a.length) (hb:k<b.length) (e:a.getD k d=b.getD k d):a.take (k+1)=b.take (k+1):=by
 rw [take_getD d ha,take_getD d hb,h,e]
theorem sameList_end {a b:List Int} {k:Nat} (h:a.take k=b.take k) (hk:k≤a.length) (hk':¬(k:Int)<a.length) (hl:(a.length:Int)=b.length):a=b:=by
 have h1:k=a.length:=by omega
 have h2:b.length=a.length:=by omega
 rw [h1,List.take_length,←h2,List.take_length] at h;exact h
theorem ne_len {α:Type} {a b:List α} (h:¬(a.length:Int)=b.length):¬a=b:=fun e=>h (by rw [e])
theorem ne_getD {α:Type} {a b:List α} {k:Nat} {d:α} (e:¬a.getD k d=b.getD k d):¬a=b:=fun h=>e (by rw [h])
def isLetter (c:Int):Prop:=97≤c∧c≤122
def isDigit (c:Int):Prop:=48≤c∧c≤57
instance (c:Int):Decidable (isLetter c):=inferInstanceAs (Decidable (_∧_))
instance (c:Int):Decidable (isDigit c):=inferInstanceAs (Decidable (_∧_))
def headBell (d m:Int):Int:=if¬(1≤d∧d≤99)∨¬(0≤m∧m≤2) then 1 else 0
def idxOf {α:Type} (p:α→Bool):List α→Int
 | []=> -1
 | x ::l=>if p x then 0 else if idxOf p l<0 then-1 else idxOf p l+1
theorem idxOf_ge {α:Type} (p:α→Bool):∀l:List α,-1≤idxOf p l
 | []=>by simp [idxOf]
 | x ::l=>by have:=idxOf_ge p l;unfold idxOf;split <;> (try split) <;> omega
theorem idxOf_any {α:Type} (p:α→Bool):∀l:List α,(0≤idxOf p l)↔l.any p=true
 | []=>by simp [idxOf]
 | x ::l=>by
  have:=idxOf_any p l
  have h2:=idxOf_ge p l;unfold idxOf;cases hp:p x with
  | true=>simp [hp]
  | false=>
   simp only [Bool.false_eq_true,if_false,List.any_cons,hp,Bool.false_or];rw [←this];split <;> omega
theorem idxOf_hit {α:Type} {p:α→Bool} {l:List α} {k:Nat} {d:α} (hk:(k:Int)<l.length) (h:(l.take k).any p=false) (e:p (l.getD k d)=true):idxOf p l=k:=by
 induction l generalizing k with
 | nil=>simp at hk;omega
 | cons x l ih=>
  unfold idxOf;cases k with
  | zero=>simp at e;simp [e]
  | succ k=>
   simp only [List.take_succ_cons,List.any_cons,Bool.or_eq_false_iff] at h;rw [h.1]
   have:=ih (k:=k) (by simp at hk;omega) h.2 (by simpa using e)
   rw [this];simp only [Bool.false_eq_true,if_false];rw [if_neg (by omega)];omega
theorem idxOf_miss {α:Type} {p:α→Bool} {l:List α} {k:Nat} (hk:¬(k:Int)<l.length) (h:(l.take k).any p=false):idxOf p l= -1:=by
 rw [List.take_of_length_le (by omega)] at h
 have:=idxOf_any p l
 have h2:=idxOf_ge p l;rw [h] at this;simp at this;omega
theorem any_next {α:Type} {p:α→Bool} {l:List α} {k:Nat} {d:α} (hk:(k:Int)<l.length) (h:(l.take k).any p=false) (e:p (l.getD k d)=false):(l.take (k+1)).any p=false:=by
 rw [take_getD d (by omega),List.any_append,h];simp only [Bool.false_or,List.any_cons,List.any_nil,Bool.or_false,e]
theorem getD_mem {α:Type} {l:List α} {k:Nat} {d:α} (hk:k<l.length):l.getD k d ∈ l:=by
 rw [getD_at d hk];exact List.getElem_mem hk
def numsBell (l:List Int) (m:Int):Int:=if¬(l.length:Int)=m then 2 else if l.any (fun x=>decide (¬(0≤x∧x≤99))) then 1 else 0
def firstB (f:Nat→Int):Nat→Nat→Int
 | _,0=>0
 | i,n+1=>if f i=0 then firstB f (i+1) n else f i
theorem firstB_hit {f:Nat→Int} {c:Int}:∀{n i k:Nat},(∀j,i≤j→j<i+k→f j=0)→k<n→f (i+k)=c→c≠0→firstB f i n=c
 | 0,i,k,_,hk,_,_=>by omega
 | n+1,i,0,_,_,e,hc=>by unfold firstB;rw [Nat.add_zero] at e;rw [e,if_neg hc]
 | n+1,i,k+1,h,hk,e,hc=>by
  unfold firstB;rw [if_pos (h i (Nat.le_refl _) (by omega))];exact firstB_hit (k:=k) (fun j h1 h2=>h j (by omega) (by omega)) (by omega) (by rw [←e];congr 1;omega) hc
theorem firstB_miss {f:Nat→Int}:∀{n i:Nat},(∀j,i≤j→j<i+n→f j=0)→firstB f i n=0
 | 0,_,_=>rfl
 | n+1,i,h=>by
  unfold firstB;rw [if_pos (h i (Nat.le_refl _) (by omega))];exact firstB_miss fun j h1 h2=>h j (by omega) (by omega)
theorem allB_next {f:Nat→Int} {k:Nat} (h:∀j,j<k→f j=0) (e:f k=0):∀j,j<k+1→f j=0:=fun j hj=>by
 rcases Nat.lt_or_ge j k with q | q
 ·exact h j q
 ·rw [show j=k by omega];exact e
theorem firstB_hit0 {f:Nat→Int} {c:Int} {n k:Nat} (h:∀j,j<k→f j=0) (hk:k<n) (e:f k=c) (hc:c≠0):firstB f 0 n=c:=
 firstB_hit (i:=0) (k:=k) (fun j _ hj=>h j (by omega)) hk (by rw [Nat.zero_add];exact e) hc
theorem firstB_miss0 {f:Nat→Int} {n k:Nat} (h:∀j,j<k→f j=0) (hk:n≤k):firstB f 0 n=0:=firstB_miss fun j _ hj=>h j (by omega)
def nameAt (s:ByteArray) (k:Nat):Int:=if¬isLetter ((bytesOf s).getD k 0)∧(k=0∨¬isDigit ((bytesOf s).getD k 0)) then 1 else 0
def nameOK (s:ByteArray):Bool:=decide (firstB (nameAt s) 0 s.size=0) && decide (1≤(s.size:Int)∧(s.size:Int)≤10)
def isFew (l h:Int):Prop:=((0≤l∧l≤h)∧h≤99)∧h-l<3
instance (l h:Int):Decidable (isFew l h):=inferInstanceAs (Decidable (_∧_))
def goodAt (gs:List Good) (k:Nat):Int:=
 if nameOK (gs.getD k Good.z).name=false then 4
 else if (gs.take k).any (fun x=>x.name.toList==(gs.getD k Good.z).name.toList) then 5
 else if (¬(0≤(gs.getD k Good.z).cost∧(gs.getD k Good.z).cost≤999)∨¬(1≤(gs.getD k Good.z).pack∧(gs.getD k Good.z).pack≤20))∨¬isFew (gs.getD k Good.z).low (gs.getD k Good.z).high then 1 else 0
def goodsBell (gs:List Good):Int:=if¬(1≤(gs.length:Int)∧(gs.length:Int)≤3) then 2 else firstB (goodAt gs) 0 gs.length
def lastDay (ms:List Move) (k:Nat):Int:=if k=0 then 0 else (ms.getD (k-1) Move.z).day
def moveAt (d:Int) (gs:List Good) (ms:List Move) (k:Nat):Int:=
 if¬(0≤(ms.getD k Move.z).kind∧(ms.getD k Move.z).kind≤4) then 1
 else if¬(0≤(ms.getD k Move.z).good∧(ms.getD k Move.z).good≤(gs.length:Int)-1) then 6
 else if¬(1≤(ms.getD k Move.z).day∧(ms.getD k Move.z).day≤d) then 1
 else if (ms.getD k Move.z).day<lastDay ms k then 7
 else if¬isFew (ms.getD k Move.z).low (ms.getD k Move.z).high then 1 else 0
def movesBell (d:Int) (gs:List Good) (ms:List Move):Int:=if (6:Int)<ms.length then 2 else firstB (moveAt d gs ms) 0 ms.length
def countAt (d:Int) (gs:List Good) (cs:List Count) (k:Nat):Int:=
 if¬(0≤(cs.getD k Count.z).good∧(cs.getD k Count.z).good≤(gs.length:Int)-1) then 6
 else if¬(0≤(cs.getD k Count.z).day∧(cs.getD k Count.z).day≤d)∨¬((0≤(cs.getD k Count.z).low∧(cs.getD k Count.z).low≤(cs.getD k Count.z).high)∧(cs.getD k Count.z).high≤999) then 1 else 0
def countsBell (d:Int) (gs:List Good) (cs:List Count):Int:=if (4:Int)<cs.length then 2 else firstB (countAt d gs cs) 0 cs.length
theorem bytesOf_range (s:ByteArray) (k:Nat):0≤(bytesOf s).getD k 0∧(bytesOf s).getD k 0≤255:=by
 by_cases h:k<(bytesOf s).length
 ·rw [getD_at 0 h];have h2:k<s.data.toList.length:=by rw [bytesOf_length] at h;rw [Array.length_toList];exact h
  have e:(bytesOf s)[k]'h=((s.data.toList[k]'h2).toNat:Int):=List.getElem_map _;rw [e]
  have:=(s.data.toList[k]'h2).toNat_lt
  omega
 ·simp only [List.getD_eq_getElem?_getD];rw [List.getElem?_eq_none (by omega)];decide
theorem nameOK_bad {s:ByteArray} {k:Nat} (h:∀j,j<k→nameAt s j=0) (hk:k<s.size) (e:nameAt s k=1):nameOK s=false:=by
 unfold nameOK;rw [firstB_hit0 h hk e (by decide)];simp
theorem nameOK_end {s:ByteArray} {k:Nat} (h:∀j,j<k→nameAt s j=0) (hk:s.size≤k):nameOK s=decide (1≤(s.size:Int)∧(s.size:Int)≤10):=by
 unfold nameOK;rw [firstB_miss0 h hk];simp
theorem rd_at0 {P:Program} {h:GH} {t:TypeId} {b n m o:Nat} {vs:Array Value} {v:Value} (ht:tyOf P t=some (false,m)) (x:Elem h b 0 n vs) (hv:vs[o]? =some v):Rd P h t b o v:=by
 have:=rd_one (o:=o) ht x hv
 rwa [Nat.zero_add] at this
def checkBell (d m:Int) (gs:List Good) (ms:List Move) (cs:List Count):Nat→Int
 | 0=>headBell d m
 | 1=>goodsBell gs
 | 2=>movesBell d gs ms
 | _=>countsBell d gs cs
def bookBell (d m:Int) (gs:List Good) (ms:List Move) (cs:List Count):Int:=firstB (checkBell d m gs ms cs) 0 4
def signed (k:Nat) (n:Int):Int:=if k=0∨k=4 then n else-n
theorem signed_range {k:Nat} {n:Int} (h:0≤n∧n≤99): -99≤signed k n∧signed k n≤99:=by unfold signed;split <;> omega
def PastOK (p:Past):Prop:=(∀i,0≤p.first i∧p.first i≤99)∧∀i,0≤p.many i∧p.many i≤99
theorem realOf_range {p:Past} (h:PastOK p) (i:Nat):0≤realOf p i∧realOf p i≤99:=by
 unfold realOf;have:=h.2 i;split <;> omega
def nNext (ms:List Move) (p:Past) (g:Int) (k:Nat) (n:Int):Int:=if (ms.getD k Move.z).good=g then n+signed (ms.getD k Move.z).kind.toNat (realOf p k) else n
def lowNext (ms:List Move) (k:Nat) (low n:Int):Int:=if (k:Int)+1=ms.length∨(ms.getD k Move.z).day<(ms.getD (k+1) Move.z).day then min low n else low
def stockRun (ms:List Move) (p:Past) (g dy:Int):Nat→Nat→Int→Int→Int×Int
 | 0,_,n,low=>(n,low)
 | f+1,k,n,low=>if dy<(ms.getD k Move.z).day then (n,low) else stockRun ms p g dy f (k+1) (nNext ms p g k n) (lowNext ms k low (nNext ms p g k n))
def stockOf (ms:List Move) (p:Past) (g dy:Int):Int×Int:=stockRun ms p g dy ms.length 0 (p.first g.toNat) (p.first g.toNat)
theorem stockRun_next {ms:List Move} {p:Past} {g dy:Int} {k:Nat} {n low:Int} (hk:k<ms.length) (hd:¬dy<(ms.getD k Move.z).day) :
  stockRun ms p g dy (ms.length-k) k n low=stockRun ms p g dy (ms.length-(k+1)) (k+1) (nNext ms p g k n) (lowNext ms k low (nNext ms p g k n)):=by
 rw [show ms.length-k=(ms.length-(k+1))+1 by omega]
 conv=>lhs;unfold stockRun
 rw [if_neg hd]
theorem stockRun_stop {ms:List Move} {p:Past} {g dy:Int} {k:Nat} {n low:Int} (hk:k<ms.length) (hd:dy<(ms.getD k Move.z).day):stockRun ms p g dy (ms.length-k) k n low=(n,low):=by
 rw [show ms.length-k=(ms.length-(k+1))+1 by omega]
 conv=>lhs;unfold stockRun
 rw [if_pos hd]
theorem stockRun_end {ms:List Move} {p:Past} {g dy:Int} {k:Nat} {n low:Int} (hk:¬(k:Int)<ms.length):stockRun ms p g dy (ms.length-k) k n low=(n,low):=by
 rw [show ms.length-k=0 by omega];rfl
def agreesB (d:Int) (ng:Nat) (ms:List Move) (cs:List Count) (p:Past):Bool:=
 decide (∀j,j<ng→¬(stockOf ms p (j:Int) d).2<0) && !(cs.any fun x=>decide (¬(x.low≤(stockOf ms p x.good x.day).1∧(stockOf ms p x.good x.day).1≤x.high)))
theorem agreesB_no {d:Int} {ng:Nat} {ms:List Move} {cs:List Count} {p:Past} {k:Nat} (hk:k<ng) (h:(stockOf ms p (k:Int) d).2<0):agreesB d ng ms cs p=false:=by
 unfold agreesB;rw [decide_eq_false (fun q=>q k hk h)];rfl
theorem agreesB_end {d:Int} {ng:Nat} {ms:List Move} {cs:List Count} {p:Past} {k:Nat} (hk:ng≤k) (h:∀j,j<k→¬(stockOf ms p (j:Int) d).2<0) :
  agreesB d ng ms cs p= !(cs.any fun x=>decide (¬(x.low≤(stockOf ms p x.good x.day).1∧(stockOf ms p x.good x.day).1≤x.high))):=by
 unfold agreesB;rw [decide_eq_true (fun j hj=>h j (by omega))];rfl
theorem allP_next {q:Nat→Prop} {k:Nat} (h:∀j,j<k→q j) (e:q k):∀j,j<k+1→q j:=fun j hj=>by
 rcases Nat.lt_or_ge j k with r | r
 ·exact h j r
 ·rw [show j=k by omega];exact e
def Past.setFirsts (p:Past) (l:List Int):Past:={ p with first:=fun k=>if k<l.length then l.getD k 0 else p.first k }
def Past.setManys (p:Past) (l:List Int):Past:={ p with many:=fun k=>if k<l.length then l.getD k 0 else p.many k }
theorem ePast_setFirsts {p:Past} {l:List Int} (h:l.length≤3):putCells (ePast p) 0 (flat eI l)=ePast (p.setFirsts l):=by
 match l,h with
 | [],_=>rfl
 | [_],_=>rfl
 | [_,_],_=>rfl
 | [_,_,_],_=>rfl
 | _ ::_ ::_ ::_ ::_,h=>simp at h
theorem ePast_setManys {p:Past} {l:List Int} (h:l.length≤6):putCells (ePast p) 3 (flat eI l)=ePast (p.setManys l):=by
 match l,h with
 | [],_=>rfl
 | [_],_=>rfl
 | [_,_],_=>rfl
 | [_,_,_],_=>rfl
 | [_,_,_,_],_=>rfl
 | [_,_,_,_,_],_=>rfl
 | [_,_,_,_,_,_],_=>rfl
 | _ ::_ ::_ ::_ ::_ ::_ ::_ ::_,h=>simp at h
end Go.Ns
namespace Go.Ns
open Go.Conc
def spanTo (lo:Int) (k:Nat):List Int:=(List.range k).map fun (j:Nat)=>lo+(j:Int)
def spanL (lo hi:Int):List Int:=spanTo lo (hi-lo+1).toNat
theorem spanTo_succ (lo:Int) (k:Nat):spanTo lo (k+1)=spanTo lo k++[lo+(k:Int)]:=by
 simp [spanTo,List.range_succ]
theorem mem_spanTo {lo n:Int} {k:Nat}:n ∈ spanTo lo k↔lo≤n∧n<lo+k:=by
 simp only [spanTo,List.mem_map,List.mem_range];constructor
 ·rintro ⟨j,hj,rfl⟩;omega
 ·rintro ⟨h1,h2⟩;exact ⟨(n-lo).toNat,by omega,by omega⟩
theorem mem_spanL {lo hi n:Int}:n ∈ spanL lo hi↔lo≤n∧n≤hi:=by
 unfold spanL;rw [mem_spanTo];omega
theorem spanL_flat {β:Type} {f:Int→List β} {lo hi:Int} {k:Nat} (h:¬lo+(k:Int)≤hi) (hk:(k:Int)≤hi-lo+1∨k=0):(spanTo lo k).flatMap f=(spanL lo hi).flatMap f:=by
 unfold spanL;congr 2;omega
theorem spanTo_flat {β:Type} {f:Int→List β} {lo:Int} {k:Nat}:(spanTo lo (k+1)).flatMap f=(spanTo lo k).flatMap f++f (lo+k):=by
 rw [spanTo_succ,List.flatMap_append];simp
def Past.setMove (p:Past) (i:Nat) (n:Int) (b:Bool):Past:=(p.setMany i n).setLie i b
theorem setMove_setMove (p:Past) (i:Nat) (n n':Int) (b b':Bool):(p.setMove i n b).setMove i n' b'=p.setMove i n' b':=by
 unfold Past.setMove Past.setMany Past.setLie;congr 1 <;> funext k <;> simp only [] <;> split <;> rfl
theorem setMove_setLie (p:Past) (i:Nat) (n:Int) (b b':Bool):(p.setMove i n b).setLie i b'=p.setMove i n b':=by
 unfold Past.setMove Past.setMany Past.setLie;congr 1;funext k;simp only [];split <;> rfl
theorem setFirst_setFirst (p:Past) (i:Nat) (n n':Int):(p.setFirst i n).setFirst i n'=p.setFirst i n':=by
 unfold Past.setFirst;congr 1;funext k;simp only [];split <;> rfl
theorem PastOK.zero:PastOK Past.zero:=⟨fun _=>⟨Int.le_refl 0,(by decide:(0:Int)≤99)⟩,fun _=>⟨Int.le_refl 0,(by decide:(0:Int)≤99)⟩⟩
theorem PastOK.setFirst {p:Past} (h:PastOK p) {i:Nat} {n:Int} (hn:0≤n∧n≤99):PastOK (p.setFirst i n):=
 ⟨fun k=>by unfold Past.setFirst;simp only [];split;exact hn;exact h.1 k,h.2⟩
theorem PastOK.setMany {p:Past} (h:PastOK p) {i:Nat} {n:Int} (hn:0≤n∧n≤99):PastOK (p.setMany i n):=
 ⟨h.1,fun k=>by unfold Past.setMany;simp only [];split;exact hn;exact h.2 k⟩
theorem PastOK.setMove {p:Past} (h:PastOK p) {i:Nat} {n:Int} {b:Bool} (hn:0≤n∧n≤99):PastOK (p.setMove i n b):=h.setMany hn
def isNoteB (ms:List Move) (i:Int):Bool:=decide ((0≤i∧i≤(ms.length:Int)-1)∧(ms.getD i.toNat Move.z).kind=0)
def movesFrom (ag:Past→Bool) (ms:List Move) (most:Int):Nat→Nat→Past→List Past
 | 0,_,p=>if ag p then [p] else []
 | f+1,i,p=>(spanL (ms.getD i Move.z).low (ms.getD i Move.z).high).flatMap fun n=>
   movesFrom ag ms most f (i+1) (p.setMove i n false)++
    if isNoteB ms i && decide ((lyingTo (p.setMove i n false) 6:Int)<most) then movesFrom ag ms most f (i+1) (p.setMove i n true) else []
def goodsFrom (ag:Past→Bool) (gs:List Good) (ms:List Move) (most:Int):Nat→Nat→Past→List Past
 | 0,_,p=>movesFrom ag ms most ms.length 0 p
 | f+1,i,p=>(spanL (gs.getD i Good.z).low (gs.getD i Good.z).high).flatMap fun n=>goodsFrom ag gs ms most f (i+1) (p.setFirst i n)
def hists (d:Int) (gs:List Good) (ms:List Move) (cs:List Count) (most:Int):List Past:=goodsFrom (agreesB d gs.length ms cs) gs ms most gs.length 0 Past.zero
def moveRound (ag:Past→Bool) (ms:List Move) (most:Int) (f i:Nat) (p:Past) (n:Int):List Past:=
 movesFrom ag ms most f (i+1) (p.setMove i n false)++
  if isNoteB ms i && decide ((lyingTo (p.setMove i n false) 6:Int)<most) then movesFrom ag ms most f (i+1) (p.setMove i n true) else []
theorem movesFrom_succ (ag:Past→Bool) (ms:List Move) (most:Int) (f i:Nat) (p:Past) :
  movesFrom ag ms most (f+1) i p=(spanL (ms.getD i Move.z).low (ms.getD i Move.z).high).flatMap (moveRound ag ms most f i p):=rfl
theorem goodsFrom_succ (ag:Past→Bool) (gs:List Good) (ms:List Move) (most:Int) (f i:Nat) (p:Past) :
  goodsFrom ag gs ms most (f+1) i p=(spanL (gs.getD i Good.z).low (gs.getD i Good.z).high).flatMap (fun n=>goodsFrom ag gs ms most f (i+1) (p.setFirst i n)):=rfl
def KeepX (X:Nat→Prop) (h h':GH):Prop:=∀b p o,h b=some (p,o)→¬X b→∃o',h' b=some (p,o')∧(o'=o∨(isMapO o=true∧isMapO o'=true))
theorem KeepX.refl (X:Nat→Prop) (h:GH):KeepX X h h:=fun _ _ o x _=>⟨o,x,.inl rfl⟩
theorem GH.Le.keepX {h h':GH} (l:h.Le h') (X:Nat→Prop):KeepX X h h':=fun b p o x _=>l b p o x
theorem KeepX.trans {X X1:Nat→Prop} {a b c:GH} (x:KeepX X a b) (hX:∀r,X1 r→X r∨a r=none) (y:KeepX X1 b c):KeepX X a c:=fun r p o hr hn=>by
 obtain ⟨o1,h1,h2⟩:=x r p o hr hn;obtain ⟨o2,h3,h4⟩:=y r p o1 h1 fun q=>(hX r q).elim hn fun e=>by rw [e] at hr;cases hr
 refine ⟨o2,h3,?_⟩;rcases h2 with rfl | h2
 ·exact h4
 ·rcases h4 with rfl | h4
  ·exact .inr h2
  ·exact .inr ⟨h2.1,h4.2⟩
theorem KeepX.box {X:Nat→Prop} {h h':GH} (x:KeepX X h h') {b:Nat} {p:Bool} {o:Obj} (hb:h b=some (p,o)) (hX:¬X b) (ho:isMapO o=false):h' b=some (p,o):=by
 obtain ⟨o',h1,rfl | ⟨h2,_⟩⟩:=x b p o hb hX
 ·exact h1
 ·rw [ho] at h2;cases h2
theorem KeepX.store {X:Nat→Prop} {h h1 h2:GH} (x:KeepX X h h1) {r:Nat} (hr:h r=none) (ho:∀b,b≠r→h2 b=h1 b):KeepX X h h2:=fun b p o hb hn=>by
 rw [ho b fun e=>by subst e;rw [hr] at hb;cases hb];exact x b p o hb hn
structure Prom {α:Type} (hB:GH) (I:List α→(Nat→Prop)→GH→Prop):Prop where
 dom:∀pre X h b,I pre X h→X b→∃p o,h b=some (p,o)∧isMapO o=false
 stable:∀pre X h h',I pre X h→(∀b,X b→h' b=h b)→hB.Le h'→I pre X h'
theorem Prom.le {α:Type} {hB:GH} {I:List α→(Nat→Prop)→GH→Prop} (P:Prom hB I) {pre:List α} {X:Nat→Prop} {h h':GH} (x:I pre X h) (l:h.Le h') (lB:hB.Le h'):I pre X h':=
 P.stable pre X h h' x (fun b hb=>by
  obtain ⟨p,o,h1,h2⟩:=P.dom pre X h b x hb;rw [l.keep h1 h2,h1]) lB
theorem Prom.store {α:Type} {hB:GH} {I:List α→(Nat→Prop)→GH→Prop} (P:Prom hB I) {pre:List α} {X:Nat→Prop} {h h':GH} (x:I pre X h) {r:Nat} (hr:¬X r) (ho:∀b,b≠r→h' b=h b) (lB:hB.Le h'):I pre X h':=
 P.stable pre X h h' x (fun b hb=>ho b fun e=>hr (e▸hb)) lB
theorem Prom.off {α:Type} {hB:GH} {I:List α→(Nat→Prop)→GH→Prop} (P:Prom hB I) {pre:List α} {X:Nat→Prop} {h:GH} (x:I pre X h) {r:Nat} (hr:h r=none):¬X r:=fun q=>by
 obtain ⟨p,o,h1,_⟩:=P.dom pre X h r x q;rw [hr] at h1;cases h1
theorem offX {X X1:Nat→Prop} {h:GH} (hX:∀r,X1 r→X r∨h r=none) {r:Nat} {o:Bool×Obj} (hr:h r=some o) (n:¬X r):¬X1 r:=fun q=>(hX r q).elim n fun e=>by rw [e] at hr;cases hr
def YRes {α:Type} (hB:GH) (I:List α→(Nat→Prop)→GH→Prop) (S:GH→Prop) (pre:List α) (X:Nat→Prop) (h:GH) (l:List α) (v:Value) (h':GH):Prop:=
 ∃ok X',v=.bool ok∧(∀b,X' b→X b∨h b=none)∧KeepX X h h'∧hB.Le h'∧(ok=true→I (pre++l) X' h')∧(ok=false→S h')
structure YieldK {α:Type} {P:Program} (W:Wk P) (hB:GH) (yv:Value) (enc:α→Array Value) (I:List α→(Nat→Prop)→GH→Prop) (S:GH→Prop) (all:List α):Prop where
 prom:Prom hB I
 one:yv.cells=#[yv]
 call:∀pre p post X h,all=pre++p ::post→I pre X h→hB.Le h→ValK W yv #[.agg (enc p)] h (YRes hB I S pre X h [p])
structure YSt {α:Type} (hB:GH) (I:List α→(Nat→Prop)→GH→Prop) (X0:Nat→Prop) (h:GH) (pre:List α) (X:Nat→Prop) (hc:GH):Prop where
 inv:I pre X hc
 sub:∀b,X b→X0 b∨h b=none
 keep:KeepX X0 h hc
 base:hB.Le hc
section
variable {α:Type} {hB:GH} {I:List α→(Nat→Prop)→GH→Prop} {S:GH→Prop} {X0 X X1:Nat→Prop} {h hc h':GH} {pre l:List α}
theorem YSt.start (x:I pre X h) (lB:hB.Le h):YSt hB I X h pre X h:=⟨x,fun _ q=>.inl q,KeepX.refl _ _,lB⟩
theorem YSt.le (P:Prom hB I) (y:YSt hB I X0 h pre X hc) (l:hc.Le h'):YSt hB I X0 h pre X h':=
 ⟨P.le y.inv l (y.base.trans l),y.sub,y.keep.trans (fun _ q=>.inl q) (l.keepX X0),y.base.trans l⟩
theorem YSt.store (P:Prom hB I) (y:YSt hB I X0 h pre X hc) {r:Nat} (hr:h r=none) (rB:hB r=none) (hn:¬X r) (ho:∀b,b≠r→h' b=hc b):YSt hB I X0 h pre X h':=
 ⟨P.store y.inv hn ho (y.base.upd rB ho),y.sub,y.keep.store hr ho,y.base.upd rB ho⟩
theorem subX (s:∀b,X b→X0 b∨h b=none) (k:KeepX X0 h hc) (s':∀b,X1 b→X b∨hc b=none):∀b,X1 b→X0 b∨h b=none:=fun b q=>by
 rcases s' b q with q | q
 ·exact s b q
 ·by_cases q0:X0 b
  ·exact .inl q0
  ·refine .inr ?_;cases hb:h b with
   | none=>rfl
   | some x=>
    obtain ⟨o',h1,_⟩:=k b x.1 x.2 hb q0;rw [h1] at q;cases q
theorem YSt.call (y:YSt hB I X0 h pre X hc) {v:Value} (r:YRes hB I S pre X hc l v h') :
  ∃ok X',v=.bool ok∧(∀b,X' b→X b∨hc b=none)∧KeepX X hc h'∧(ok=true→YSt hB I X0 h (pre++l) X' h')∧(ok=false→∀l',YRes hB I S pre X0 h l' (.bool false) h'):=by
 obtain ⟨ok,X',hv,hs,hk,hl,h1,h2⟩:=r;have kk:KeepX X0 h h':=y.keep.trans y.sub hk;have ss:=subX y.sub y.keep hs;exact ⟨ok,X',hv,hs,hk,fun e=>⟨h1 e,ss,kk,hl⟩,fun e l'=>⟨false,X',rfl,ss,kk,hl,(fun x=>by cases x),fun _=>h2 e⟩⟩
theorem YSt.done (y:YSt hB I X0 h (pre++l) X hc):YRes hB I S pre X0 h l (.bool true) hc:=⟨true,X,rfl,y.sub,y.keep,y.base,fun _=>y.inv,fun x=>by cases x⟩
theorem YSt.pass {α:Type} {hB:GH} {I:List α→(Nat→Prop)→GH→Prop} {S:GH→Prop} {X0 X:Nat→Prop} {h hc h':GH} {pre:List α} {l:List α} {v:Value} (y:YSt hB I X0 h pre X hc) (r:YRes hB I S pre X hc l v h'):YRes hB I S pre X0 h l v h':=by
 obtain ⟨ok,X',hv,hs,hk,hl,h1,h2⟩:=r;exact ⟨ok,X',hv,subX y.sub y.keep hs,y.keep.trans y.sub hk,hl,h1,h2⟩
theorem YRes.stopped {pre':List α} {v:Value} (hv:v=.bool false) (r:∀l',YRes hB I S pre X0 h l' (.bool false) h'):YRes hB I S pre' X0 h l v h':=by
 obtain ⟨ok,X',e,hs,hk,hl,_,h2⟩:=r [];cases e;exact ⟨false,X',hv,hs,hk,hl,(fun x=>by cases x),h2⟩
end
def Within {α:Type} (all pre l:List α):Prop:=∃post,all=pre++l++post
section
variable {α:Type} {all pre a b:List α}
theorem Within.left (w:Within all pre (a++b)):Within all pre a:=by
 obtain ⟨post,h⟩:=w;exact ⟨b++post,by rw [h];simp⟩
theorem Within.right (w:Within all pre (a++b)):Within all (pre++a) b:=by
 obtain ⟨post,h⟩:=w;exact ⟨post,by rw [h];simp⟩
theorem Within.one {p:α} (w:Within all pre [p]):∃post,all=pre++p ::post:=by
 obtain ⟨post,h⟩:=w;exact ⟨post,by rw [h];simp⟩
theorem spanTo_add (lo:Int) (i j:Nat):spanTo lo (i+j)=spanTo lo i++spanTo (lo+i) j:=by
 unfold spanTo;rw [List.range_add,List.map_append,List.map_map];congr 1;apply List.map_congr_left;intro x _;simp only [Function.comp];omega
theorem Within.round {lo hi:Int} {k:Nat} {F:Int→List α} (w:Within all pre ((spanL lo hi).flatMap F)) (hk:lo+(k:Int)≤hi):Within all (pre++(spanTo lo k).flatMap F) (F (lo+k)):=by
 have e:spanL lo hi=spanTo lo k++([lo+(k:Int)]++spanTo (lo+((k+1:Nat):Int)) ((hi-lo+1).toNat-(k+1))):=by
  unfold spanL;rw [←List.append_assoc,←spanTo_succ,←spanTo_add];congr 1;omega
 rw [e,List.flatMap_append,List.flatMap_append] at w;have w2:=w.right.left;simpa using w2
theorem Within.roundEnd {lo hi:Int} {k:Nat} {F:Int→List α} (h:¬lo+(k:Int)≤hi) (hk:(k:Int)≤hi-lo+1∨k=0):(spanL lo hi).flatMap F=(spanTo lo k).flatMap F:=(spanL_flat h hk).symm
end
section
variable {ag:Past→Bool} {gs:List Good} {ms:List Move} {mo:Int} {f i k:Nat} {p pc:Past} {all pre:List Past} {lo hi x:Int}
theorem moves_pc {b1 b2:Bool} (hpc:∀n b,pc.setMove i n b=p.setMove i n b):∀n b,(((pc.setMany i x).setLie i b1).setLie i b2).setMove i n b=p.setMove i n b:=fun n b=>by
 rw [←hpc,show ((pc.setMany i x).setLie i b1)=pc.setMove i x b1 from rfl,setMove_setLie,setMove_setMove]
theorem goods_pc (hpc:∀n,pc.setFirst i n=p.setFirst i n):∀n,(pc.setFirst i x).setFirst i n=p.setFirst i n:=fun n=>by rw [←hpc,setFirst_setFirst]
def lieC (ms:List Move) (mo:Int) (i:Nat) (q:Past):Prop:=((0≤(i:Int)∧(i:Int)≤(ms.length:Int)-1)∧(ms.getD ((i:Int)).toNat Move.z).kind=0)∧((lyingTo q 6:Int)<mo)
instance (ms:List Move) (mo:Int) (i:Nat) (q:Past):Decidable (lieC ms mo i q):=inferInstanceAs (Decidable (_∧_))
theorem lieC_eq {q:Past}:(isNoteB ms i && decide ((lyingTo q 6:Int)<mo))=decide (lieC ms mo i q):=by
 unfold isNoteB lieC;rw [←Bool.decide_and];exact decide_eq_decide.2 Iff.rfl
theorem lie_self {q:Past} {b:Bool}:(q.setLie i b).lies i=b:=by simp [Past.setLie]
theorem moves_next1 (hpc:∀n b,pc.setMove i n b=p.setMove i n b) (hC:(((pc.setMany i x).setLie i false).setLie i (decide (lieC ms mo i ((pc.setMany i x).setLie i false)))).lies i=true) (hx:x=lo+(k:Int)) :
  pre++(spanTo lo (k+1)).flatMap (moveRound ag ms mo f i p)=((pre++(spanTo lo k).flatMap (moveRound ag ms mo f i p))++movesFrom ag ms mo f (i+1) ((pc.setMany i x).setLie i false))++
   movesFrom ag ms mo f (i+1) (((pc.setMany i x).setLie i false).setLie i (decide (lieC ms mo i ((pc.setMany i x).setLie i false)))):=by
 rw [lie_self] at hC;rw [hC,show ((pc.setMany i x).setLie i false)=pc.setMove i x false from rfl,setMove_setLie,hpc,hpc,spanTo_flat,←hx];rw [show ((pc.setMany i x).setLie i false)=pc.setMove i x false from rfl,hpc] at hC;unfold moveRound;rw [lieC_eq,hC];simp
theorem moves_next0 (hpc:∀n b,pc.setMove i n b=p.setMove i n b) (hC:(((pc.setMany i x).setLie i false).setLie i (decide (lieC ms mo i ((pc.setMany i x).setLie i false)))).lies i=false) (hx:x=lo+(k:Int)) :
  pre++(spanTo lo (k+1)).flatMap (moveRound ag ms mo f i p)=(pre++(spanTo lo k).flatMap (moveRound ag ms mo f i p))++movesFrom ag ms mo f (i+1) ((pc.setMany i x).setLie i false):=by
 rw [lie_self] at hC;rw [show ((pc.setMany i x).setLie i false)=pc.setMove i x false from rfl,hpc,spanTo_flat,←hx];rw [show ((pc.setMany i x).setLie i false)=pc.setMove i x false from rfl,hpc] at hC;unfold moveRound;rw [lieC_eq,hC];simp
theorem goods_next (hpc:∀n,pc.setFirst i n=p.setFirst i n) (hx:x=lo+(k:Int)) :
  pre++(spanTo lo (k+1)).flatMap (fun n=>goodsFrom ag gs ms mo f (i+1) (p.setFirst i n))=(pre++(spanTo lo k).flatMap (fun n=>goodsFrom ag gs ms mo f (i+1) (p.setFirst i n)))++goodsFrom ag gs ms mo f (i+1) (pc.setFirst i x):=by
 rw [hpc,spanTo_flat,←hx];simp
theorem moves_within1 (hpc:∀n b,pc.setMove i n b=p.setMove i n b) (hw:Within all pre (movesFrom ag ms mo (f+1) i p)) (hx:x=(ms.getD i Move.z).low+(k:Int)) (hk:x≤(ms.getD i Move.z).high) :
  Within all (pre++(spanTo (ms.getD i Move.z).low k).flatMap (moveRound ag ms mo f i p)) (movesFrom ag ms mo f (i+1) ((pc.setMany i x).setLie i false)):=by
 rw [movesFrom_succ] at hw;have w:=hw.round (k:=k) (by omega);rw [←hx] at w;unfold moveRound at w;rw [←hpc] at w;exact w.left
theorem moves_within2 (hpc:∀n b,pc.setMove i n b=p.setMove i n b) (hw:Within all pre (movesFrom ag ms mo (f+1) i p)) (hC:(((pc.setMany i x).setLie i false).setLie i (decide (lieC ms mo i ((pc.setMany i x).setLie i false)))).lies i=true) (hx:x=(ms.getD i Move.z).low+(k:Int)) (hk:x≤(ms.getD i Move.z).high) :
  Within all ((pre++(spanTo (ms.getD i Move.z).low k).flatMap (moveRound ag ms mo f i p))++movesFrom ag ms mo f (i+1) ((pc.setMany i x).setLie i false)) (movesFrom ag ms mo f (i+1) (((pc.setMany i x).setLie i false).setLie i (decide (lieC ms mo i ((pc.setMany i x).setLie i false))))):=by
 rw [lie_self] at hC;rw [hC,show ((pc.setMany i x).setLie i false)=pc.setMove i x false from rfl,setMove_setLie,hpc,hpc];rw [show ((pc.setMany i x).setLie i false)=pc.setMove i x false from rfl,hpc] at hC;rw [movesFrom_succ] at hw;have w:=hw.round (k:=k) (by omega);rw [←hx] at w;have w2:Within all (pre++(spanTo (ms.getD i Move.z).low k).flatMap (moveRound ag ms mo f i p)) (movesFrom ag ms mo f (i+1) (p.setMove i x false)++movesFrom ag ms mo f (i+1) (p.setMove i x true)):=by
  have e:moveRound ag ms mo f i p x=movesFrom ag ms mo f (i+1) (p.setMove i x false)++movesFrom ag ms mo f (i+1) (p.setMove i x true):=by
   unfold moveRound;rw [lieC_eq,hC,if_pos rfl]
  rw [←e];exact w
 exact w2.right
theorem goods_within (hpc:∀n,pc.setFirst i n=p.setFirst i n) (hw:Within all pre (goodsFrom ag gs ms mo (f+1) i p)) (hx:x=(gs.getD i Good.z).low+(k:Int)) (hk:x≤(gs.getD i Good.z).high) :
  Within all (pre++(spanTo (gs.getD i Good.z).low k).flatMap (fun n=>goodsFrom ag gs ms mo f (i+1) (p.setFirst i n))) (goodsFrom ag gs ms mo f (i+1) (pc.setFirst i x)):=by
 rw [goodsFrom_succ] at hw;have w:=hw.round (k:=k) (by omega);rw [←hx] at w;rw [hpc];exact w
end
def lastLie (l:List Int) (k:Nat):Int:=if k=0 then-1 else l.getD (k-1) 0
def lieAt (ms:List Move) (l:List Int) (k:Nat):Int:=if¬isNoteB ms (l.getD k 0)=true then 6 else if l.getD k 0≤lastLie l k then 7 else 0
def liesTo (p:Past) (l:List Int) (k:Nat):Past:=(l.take k).foldl (fun p i=>p.setLie i.toNat true) p
theorem liesTo_succ {p:Past} {l:List Int} {k:Nat} (hk:k<l.length):liesTo p l (k+1)=(liesTo p l k).setLie (l.getD k 0).toNat true:=by
 unfold liesTo;rw [take_getD 0 hk,List.foldl_append];rfl
def handedBell (d m:Int) (gs:List Good) (ms:List Move) (cs:List Count) (f y l:List Int):Int:=
 if¬bookBell d m gs ms cs=0 then bookBell d m gs ms cs
 else if¬numsBell f gs.length=0 then numsBell f gs.length
 else if¬numsBell y ms.length=0 then numsBell y ms.length
 else firstB (lieAt ms l) 0 l.length
def handedPast (f y l:List Int):Past:=liesTo ((Past.zero.setFirsts f).setManys y) l l.length
theorem firstB_zero {f:Nat→Int}:∀{n i:Nat},firstB f i n=0→∀j,i≤j→j<i+n→f j=0
 | 0,i,_,j,h1,h2=>by omega
 | n+1,i,h,j,h1,h2=>by
  unfold firstB at h;split at h
  ·rename_i e
   rcases Nat.eq_or_lt_of_le h1 with rfl | h3
   ·exact e
   ·exact firstB_zero h j h3 (by omega)
  ·rename_i e;exact absurd h e
structure BookOK (d m:Int) (gs:List Good) (ms:List Move) (cs:List Count):Prop where
 days:1≤d∧d≤99
 most:0≤m∧m≤2
 glen:1≤gs.length∧gs.length≤3
 good:∀k,k<gs.length→goodAt gs k=0
 mlen:ms.length≤6
 move:∀k,k<ms.length→moveAt d gs ms k=0
 clen:cs.length≤4
 count:∀k,k<cs.length→countAt d gs cs k=0
theorem bookOK {d m:Int} {gs:List Good} {ms:List Move} {cs:List Count} (h:bookBell d m gs ms cs=0):BookOK d m gs ms cs:=by
 have z:=fun j hj=>firstB_zero (f:=checkBell d m gs ms cs) h j (Nat.zero_le _) (by omega:j<0+4);have z0:headBell d m=0:=z 0 (by decide);have z1:goodsBell gs=0:=z 1 (by decide);have z2:movesBell d gs ms=0:=z 2 (by decide);have z3:countsBell d gs cs=0:=z 3 (by decide);unfold headBell at z0;unfold goodsBell at z1;unfold movesBell at z2;unfold countsBell at z3;split at z0 <;> first | (cases z0;done) | skip
 split at z1 <;> first | (cases z1;done) | skip
 split at z2 <;> first | (cases z2;done) | skip
 split at z3 <;> first | (cases z3;done) | skip
 exact ⟨by omega,by omega,by omega,fun k hk=>firstB_zero z1 k (Nat.zero_le _) (by omega),by omega,fun k hk=>firstB_zero z2 k (Nat.zero_le _) (by omega),by omega,fun k hk=>firstB_zero z3 k (Nat.zero_le _) (by omega)⟩
section
variable {d m:Int} {gs:List Good} {ms:List Move} {cs:List Count}
theorem BookOK.move' (b:BookOK d m gs ms cs) {k:Nat} (hk:k<ms.length):(0≤(ms.getD k Move.z).kind∧(ms.getD k Move.z).kind≤4)∧(0≤(ms.getD k Move.z).good∧(ms.getD k Move.z).good≤(gs.length:Int)-1)∧
  (1≤(ms.getD k Move.z).day∧(ms.getD k Move.z).day≤d)∧lastDay ms k≤(ms.getD k Move.z).day∧isFew (ms.getD k Move.z).low (ms.getD k Move.z).high:=by
 have z:=b.move k hk;unfold moveAt at z;split at z <;> first | (cases z;done) | skip
 split at z <;> first | (cases z;done) | skip
 split at z <;> first | (cases z;done) | skip
 split at z <;> first | (cases z;done) | skip
 split at z <;> first | (cases z;done) | skip
 rename_i a1 a2 a3 a4 a5
 exact ⟨Decidable.not_not.1 a1,Decidable.not_not.1 a2,Decidable.not_not.1 a3,by omega,Decidable.not_not.1 a5⟩
theorem getD_out {α:Type} {l:List α} {k:Nat} {z:α} (h:l.length≤k):l.getD k z=z:=by
 simp [List.getD_eq_getElem?_getD,List.getElem?_eq_none h]
theorem BookOK.kind (b:BookOK d m gs ms cs):∀k,0≤(ms.getD k Move.z).kind∧(ms.getD k Move.z).kind≤4:=fun k=>by
 by_cases h:k<ms.length
 ·exact (b.move' h).1
 ·rw [getD_out (by omega)];decide
theorem BookOK.few (b:BookOK d m gs ms cs):∀k,0≤(ms.getD k Move.z).low∧(ms.getD k Move.z).low≤(ms.getD k Move.z).high∧(ms.getD k Move.z).high≤99∧(ms.getD k Move.z).high-(ms.getD k Move.z).low<3:=fun k=>by
 by_cases h:k<ms.length
 ·have:=(b.move' h).2.2.2.2;unfold isFew at this;omega
 ·rw [getD_out (by omega)];decide
theorem BookOK.good' (b:BookOK d m gs ms cs) {k:Nat} (hk:k<gs.length):(0≤(gs.getD k Good.z).cost∧(gs.getD k Good.z).cost≤999)∧(1≤(gs.getD k Good.z).pack∧(gs.getD k Good.z).pack≤20)∧isFew (gs.getD k Good.z).low (gs.getD k Good.z).high:=by
 have z:=b.good k hk;unfold goodAt at z;split at z <;> first | (cases z;done) | skip
 split at z <;> first | (cases z;done) | skip
 split at z <;> first | (cases z;done) | skip
 rename_i a1 a2 a3
 exact ⟨by omega,by omega,Decidable.byContradiction fun q=>a3 (.inr q)⟩
theorem BookOK.gfew (b:BookOK d m gs ms cs):∀k,0≤(gs.getD k Good.z).low∧(gs.getD k Good.z).low≤(gs.getD k Good.z).high∧(gs.getD k Good.z).high≤99∧(gs.getD k Good.z).high-(gs.getD k Good.z).low<3:=fun k=>by
 by_cases h:k<gs.length
 ·have:=(b.good' h).2.2;unfold isFew at this;omega
 ·rw [getD_out (by omega)];decide
theorem BookOK.cgood (b:BookOK d m gs ms cs):∀x ∈ cs,0≤x.good∧x.good<3:=fun x hx=>by
 obtain ⟨k,hk,rfl⟩:=List.getElem_of_mem hx;have z:=b.count k hk;unfold countAt at z;rw [getD_at Count.z hk] at z
 have:=b.glen
 split at z <;> first | (cases z;done) | skip
 omega
theorem numsBell_ok {l:List Int} {n:Int} (h:numsBell l n=0):(l.length:Int)=n∧∀k,0≤l.getD k 0∧l.getD k 0≤99:=by
 unfold numsBell at h;split at h <;> first | (cases h;done) | skip
 split at h <;> first | (cases h;done) | skip
 rename_i a1 a2
 refine ⟨Decidable.not_not.1 a1,fun k=>?_⟩;by_cases hk:k<l.length
 ·refine Decidable.byContradiction fun q=>a2 ?_;rw [List.any_eq_true];exact ⟨l.getD k 0,getD_mem hk,decide_eq_true q⟩
 ·rw [getD_out (by omega)];decide
variable {f y l:List Int}
def handedP (d m:Int) (gs:List Good) (ms:List Move) (cs:List Count) (f y l:List Int):Past:=if handedBell d m gs ms cs f y l=0 then handedPast f y l else Past.zero
theorem handedBell_1 (h:¬bookBell d m gs ms cs=0):handedBell d m gs ms cs f y l=bookBell d m gs ms cs:=by unfold handedBell;rw [if_pos h]
theorem handedBell_2 (h:¬¬bookBell d m gs ms cs=0) (h2:¬numsBell f gs.length=0):handedBell d m gs ms cs f y l=numsBell f gs.length:=by unfold handedBell;rw [if_neg h,if_pos h2]
theorem handedBell_3 (h:¬¬bookBell d m gs ms cs=0) (h2:¬¬numsBell f gs.length=0) (h3:¬numsBell y ms.length=0):handedBell d m gs ms cs f y l=numsBell y ms.length:=by unfold handedBell;rw [if_neg h,if_neg h2,if_pos h3]
theorem handedBell_4 (h:¬¬bookBell d m gs ms cs=0) (h2:¬¬numsBell f gs.length=0) (h3:¬¬numsBell y ms.length=0) {c:Int} (h4:firstB (lieAt ms l) 0 l.length=c):handedBell d m gs ms cs f y l=c:=by unfold handedBell;rw [if_neg h,if_neg h2,if_neg h3,h4]
theorem handed_bad {c:Int} (e:handedBell d m gs ms cs f y l=c) (hc:¬c=0):(.tuple #[.agg (ePast Past.zero),.int .i64 c]:Value)=.tuple #[.agg (ePast (handedP d m gs ms cs f y l)),.int .i64 (handedBell d m gs ms cs f y l)]:=by
 unfold handedP;rw [e,if_neg hc]
theorem handed_good (e:handedBell d m gs ms cs f y l=0) {k:Nat} (hk:¬(k:Int)<l.length) (hk':k≤l.length):(.tuple #[.agg (ePast (liesTo ((Past.zero.setFirsts f).setManys y) l k)),.int .i64 0]:Value)=.tuple #[.agg (ePast (handedP d m gs ms cs f y l)),.int .i64 (handedBell d m gs ms cs f y l)]:=by
 unfold handedP handedPast;rw [e,if_pos rfl,show k=l.length by omega]
theorem lieAt_6 {k:Nat} (h:¬((0≤l.getD k 0∧l.getD k 0≤(ms.length:Int)-1)∧(ms.getD (l.getD k 0).toNat Move.z).kind=0)):lieAt ms l k=6:=by
 unfold lieAt isNoteB;rw [if_pos (by simpa using h)]
theorem lieAt_7 {k:Nat} (h:¬¬((0≤l.getD k 0∧l.getD k 0≤(ms.length:Int)-1)∧(ms.getD (l.getD k 0).toNat Move.z).kind=0)) (h2:l.getD k 0≤lastLie l k):lieAt ms l k=7:=by
 unfold lieAt isNoteB;rw [if_neg (by simpa using h),if_pos h2]
theorem lieAt_0 {k:Nat} (h:¬¬((0≤l.getD k 0∧l.getD k 0≤(ms.length:Int)-1)∧(ms.getD (l.getD k 0).toNat Move.z).kind=0)) (h2:¬l.getD k 0≤lastLie l k):lieAt ms l k=0:=by
 unfold lieAt isNoteB;rw [if_neg (by simpa using h),if_neg h2]
end
theorem ePast_size (p:Past):(Value.agg (ePast p)).cells.size=15:=rfl
theorem ePast_fine (p:Past):Value.fine (.agg (ePast p))=true:=rfl
theorem ePast_all (p:Past):0+15≤(ePast p).size:=Nat.le_refl 15
theorem ePast_put (p q:Past):putCells (ePast p) 0 (Value.agg (ePast q)).cells.toList=ePast q:=by
 show putCells (ePast p) 0 (ePast q).toList=ePast q;apply Array.toList_inj.1;rw [putCells_toList _ _ _ (Nat.le_refl 15)];show []++(ePast q).toList++[]=_;simp
theorem range_map_succ {β:Type} (f:Nat→β) (k:Nat):(List.range (k+1)).map f=(List.range k).map f++[f k]:=by
 rw [List.range_succ,List.map_append];rfl
section
variable {d m:Int} {gs:List Good} {ms:List Move} {cs:List Count} {f y l:List Int}
theorem PastOK.lies {p:Past} (h:PastOK p) (l:List Int) (k:Nat):PastOK (liesTo p l k):=by
 unfold liesTo;generalize l.take k=t
 induction t generalizing p with
 | nil=>exact h
 | cons x t ih=>exact ih (p:=p.setLie x.toNat true) h
theorem handed_ok (h:handedBell d m gs ms cs f y l=0):BookOK d m gs ms cs∧PastOK (handedP d m gs ms cs f y l):=by
 have h0:=h;unfold handedBell at h;split at h <;> first | (rename_i q;exact absurd h q) | skip
 split at h <;> first | (rename_i q;exact absurd h q) | skip
 split at h <;> first | (rename_i q;exact absurd h q) | skip
 rename_i a1 a2 a3
 refine ⟨bookOK (Decidable.not_not.1 a1),?_⟩;unfold handedP;rw [if_pos h0];unfold handedPast;refine PastOK.lies ?_ _ _;have b2:=(numsBell_ok (Decidable.not_not.1 a2)).2;have b3:=(numsBell_ok (Decidable.not_not.1 a3)).2;refine ⟨fun i=>?_,fun i=>?_⟩
 ·show 0≤(if i<f.length then f.getD i 0 else 0)∧(if i<f.length then f.getD i 0 else 0)≤99;split
  ·exact b2 i
  ·decide
 ·show 0≤(if i<y.length then y.getD i 0 else 0)∧(if i<y.length then y.getD i 0 else 0)≤99;split
  ·exact b3 i
  ·decide
def playLeft (d m:Int) (gs:List Good) (ms:List Move) (cs:List Count) (f y l:List Int):List Int:=if handedBell d m gs ms cs f y l=0 then (List.range gs.length).map (fun (i:Nat)=>(stockOf ms (handedP d m gs ms cs f y l) (i:Int) d).1) else []
def playLow (d m:Int) (gs:List Good) (ms:List Move) (cs:List Count) (f y l:List Int):List Int:=if handedBell d m gs ms cs f y l=0 then (List.range gs.length).map (fun (i:Nat)=>(stockOf ms (handedP d m gs ms cs f y l) (i:Int) d).2) else []
theorem playLeft_bad (h:¬handedBell d m gs ms cs f y l=0):playLeft d m gs ms cs f y l=[]:=if_neg h
theorem playLow_bad (h:¬handedBell d m gs ms cs f y l=0):playLow d m gs ms cs f y l=[]:=if_neg h
theorem playLeft_good (h:¬¬handedBell d m gs ms cs f y l=0) {k:Nat} (hk:k≤gs.length) (hk':¬(k:Int)<gs.length):playLeft d m gs ms cs f y l=(List.range k).map (fun (i:Nat)=>(stockOf ms (handedP d m gs ms cs f y l) (i:Int) d).1):=by
 unfold playLeft;rw [if_pos (Decidable.not_not.1 h),show gs.length=k by omega]
theorem playLow_good (h:¬¬handedBell d m gs ms cs f y l=0) {k:Nat} (hk:k≤gs.length) (hk':¬(k:Int)<gs.length):playLow d m gs ms cs f y l=(List.range k).map (fun (i:Nat)=>(stockOf ms (handedP d m gs ms cs f y l) (i:Int) d).2):=by
 unfold playLow;rw [if_pos (Decidable.not_not.1 h),show gs.length=k by omega]
end
theorem flat_len {α β:Type} {f:α→List β} {c:Nat}:∀{l:List α},(∀x ∈ l,(f x).length≤c)→(l.flatMap f).length≤l.length*c
 | [],_=>by simp
 | x ::l,h=>by
  rw [List.flatMap_cons,List.length_append,List.length_cons,Nat.succ_mul];have h1:=h x (by simp);have h2:=flat_len (l:=l) fun y hy=>h y (by simp [hy]);omega
theorem spanL_len {lo hi:Int} (h:hi-lo<3):(spanL lo hi).length≤3:=by
 unfold spanL spanTo;rw [List.length_map,List.length_range];omega
theorem movesFrom_len {ag:Past→Bool} {ms:List Move} {mo:Int} (hf:∀k,(ms.getD k Move.z).high-(ms.getD k Move.z).low<3):∀f i p,(movesFrom ag ms mo f i p).length≤6 ^ f
 | 0,_,p=>by unfold movesFrom;split <;> simp
 | f+1,i,p=>by
  rw [movesFrom_succ];have h1:=flat_len (f:=moveRound ag ms mo f i p) (c:=2*6 ^ f) (l:=spanL (ms.getD i Move.z).low (ms.getD i Move.z).high) fun n _=>by
   unfold moveRound;rw [List.length_append];have a:=movesFrom_len (ag:=ag) (mo:=mo) hf f (i+1) (p.setMove i n false);have b:=movesFrom_len (ag:=ag) (mo:=mo) hf f (i+1) (p.setMove i n true);split
   ·omega
   ·simp only [List.length_nil];omega
  have h2:=Nat.mul_le_mul_right (2*6 ^ f) (spanL_len (hf i));rw [Nat.pow_succ];omega
theorem goodsFrom_len {ag:Past→Bool} {gs:List Good} {ms:List Move} {mo:Int} (hg:∀k,(gs.getD k Good.z).high-(gs.getD k Good.z).low<3) (hf:∀k,(ms.getD k Move.z).high-(ms.getD k Move.z).low<3) :
  ∀f i p,(goodsFrom ag gs ms mo f i p).length≤3 ^ f*6 ^ ms.length
 | 0,_,p=>by unfold goodsFrom;have:=movesFrom_len (ag:=ag) (mo:=mo) hf ms.length 0 p;omega
 | f+1,i,p=>by
  rw [goodsFrom_succ];have h1:=flat_len (f:=fun n=>goodsFrom ag gs ms mo f (i+1) (p.setFirst i n)) (c:=3 ^ f*6 ^ ms.length) (l:=spanL (gs.getD i Good.z).low (gs.getD i Good.z).high) fun n _=>goodsFrom_len hg hf f (i+1) _;have h2:=Nat.mul_le_mul_right (3 ^ f*6 ^ ms.length) (spanL_len (hg i));rw [Nat.pow_succ,Nat.mul_comm (3 ^ f) 3,Nat.mul_assoc];omega
theorem hists_len {d m:Int} {gs:List Good} {ms:List Move} {cs:List Count} (b:BookOK d m gs ms cs) (mo:Int):(hists d gs ms cs mo).length≤2000000:=by
 unfold hists;have h:=goodsFrom_len (ag:=agreesB d gs.length ms cs) (mo:=mo) (fun k=>(b.gfew k).2.2.2) (fun k=>(b.few k).2.2.2) gs.length 0 Past.zero;have h1:3 ^ gs.length≤3 ^ 3:=Nat.pow_le_pow_right (by decide) b.glen.2;have h2:6 ^ ms.length≤6 ^ 6:=Nat.pow_le_pow_right (by decide) b.mlen;have h3:=Nat.mul_le_mul h1 h2
 have:3 ^ 3*6 ^ 6≤2000000:=by decide
 omega
theorem pre_len {α:Type} {all pre post:List α} {p:α} (h:all=pre++p ::post) {n:Nat} (hn:all.length≤n):pre.length+1≤n:=by
 rw [h,List.length_append,List.length_cons] at hn;omega
theorem SlIs.one {α:Type} {h:GH} {v:Value} {n:Nat} {enc:α→Array Value} {xs:List α} (x:SlIs h v n enc xs):v.cells=#[v]∧v.oneCell'=true:=by
 obtain ⟨a,cap,rfl,_⟩:=x;exact ⟨rfl,rfl⟩
theorem fine_of {v:Value} (h:v.cells=#[v]∧v.oneCell'=true):Value.fine v=true:=by unfold Value.fine;rw [h.1];simp [h.2]
theorem size_of {v:Value} (h:v.cells=#[v]∧v.oneCell'=true):v.cells.size=1:=by rw [h.1];rfl
theorem put_of {v:Value} (h:v.cells=#[v]∧v.oneCell'=true) {c c':Array Value} {o:Nat} (e:putCells c o [v]=c'):putCells c o v.cells.toList=c':=by rw [h.1];exact e
end Go.Ns
namespace Go.Ns
open Go.Conc
section
variable {P:Program} {E:Env P} {σ:Nat→Value} {ds:List Deferred} {α:Type}
def RoundEnd (hB:GH) (J:List α→(Nat→Prop)→GH→Prop) (Stop:Code→GH→Prop) (pre:List α) (Y:Nat→Prop) (h:GH) (l:Nat) (lo:Loop):Post:=fun e _ _ h3=>
 h3 l=some (true,.loop { lo with state:=.busy })∧∃Y',(∀b,Y' b→Y b∨h b=none)∧KeepX (fun b=>Y b∨b=l) h h3∧hB.Le h3∧match e with
  | .normal=>J pre Y' h3
  | .exit id=>Stop (.exit id) h3
  | .ret=>Stop .ret h3
  | _=>False
def LoopI (J:List α→(Nat→Prop)→GH→Prop) (l d:Nat) (lo:Loop) (pre:List α) (X:Nat→Prop) (h:GH):Prop:=
 ∃Y,J pre Y h∧(∀b,X b↔Y b∨b=l∨b=d)∧¬Y l∧¬Y d∧h l=some (true,.loop lo)∧h d=some (true,.deferred (some []))
def LoopS (Stop:Code→GH→Prop) (l d:Nat) (lo:Loop) (h:GH):Prop:=
 ∃c,Stop c h∧h l=some (true,.loop { lo with state:=.done,pending:=some c })∧h d=some (true,.deferred (some []))
def YEnd (hB:GH) (I:List α→(Nat→Prop)→GH→Prop) (Sp:GH→Prop) (all:List α) (X:Nat→Prop) (h h':GH):Prop:=
 ∃X',(∀b,X' b→X b∨h b=none)∧KeepX X h h'∧hB.Le h'∧(I all X' h'∨Sp h')
theorem YRes.final {hB:GH} {I:List α→(Nat→Prop)→GH→Prop} {Sp:GH→Prop} {all:List α} {X:Nat→Prop} {h h':GH} {v:Value} (r:YRes hB I Sp [] X h all v h'):YEnd hB I Sp all X h h':=by
 obtain ⟨ok,X',hv,hs,hk,hl,h1,h2⟩:=r;cases ok with
 | true=>exact ⟨X',hs,hk,hl,.inl (h1 rfl)⟩
 | false=>exact ⟨X',hs,hk,hl,.inr (h2 rfl)⟩
theorem tr_range {enc:α→Array Value} {all:List α} {hB hc:GH} {J:List α→(Nat→Prop)→GH→Prop} {Stop:Code→GH→Prop} {Y0:Nat→Prop} {par:Tmp} {f:Operand} {assign body:Code} {Q:Post}
  (hrd:E.rd=none) (hpar:Nat.blt par E.N=true) (hJ:Prom hB J) (hB0:hB.Le hc) (j0:J [] Y0 hc)
  (hS:∀c (h h':GH) l lo,Stop c h→h l=some (true,.loop lo)→(∀b,b≠l→h' b=h b)→Stop c h')
  (src:∀(yv:Value) (I:List α→(Nat→Prop)→GH→Prop) (Sp:GH→Prop) (X:Nat→Prop) (h:GH),YieldK E.wk hB yv enc I Sp all→hB.Le h→I [] X h→ValK E.wk (evalS σ f) #[yv] h fun _ h'=>YEnd hB I Sp all X h h')
  (round:∀(l d:Nat) (lo:Loop) (pre:List α) (p:α) (post:List α) (Y:Nat→Prop) (h:GH),all=pre++p ::post→J pre Y h→hB.Le h→hB l=none→¬Y l→h l=some (true,.loop lo)→
   Tr ⟨E.wk,E.fn,some l,E.N⟩ assign (upd σ par (.agg (enc p))) [] h fun e σ' ds' h1=>e=.normal∧h1 l=some (true,.loop lo)∧∀h2,h2 l=some (true,.loop { lo with state:=.busy })→(∀b,b≠l→h2 b=h1 b)→
    Tr ⟨E.wk,E.fn,some l,E.N⟩ body σ' ds' h2 (RoundEnd hB J Stop (pre++[p]) Y h l lo))
  (fin:∀(d l:Nat) (h':GH),hB.Le h'→hB d=none→hB l=none→hc d=none→h' d=some (true,.deferred (some []))→
   (∀Y,J all Y h'→(∀b,Y b→b≠d)→Q .normal σ ({ target:=.collected d,args:=#[] } ::ds) h')∧
   (∀c,Stop c h'→match c with
    | .exit id=>Q (.exit id) σ ({ target:=.collected d,args:=#[] } ::ds) h'
    | .ret=>Q .ret σ ({ target:=.collected d,args:=#[] } ::ds) h'
    | _=>False)):Tr E (.rangeFunc f #[par] assign body) σ ds hc Q:=by
 refine tr_rangeFunc hrd fun t d l hs hd hl hne=>?_;have hl':hB l=none:=hB0.nothing hl;have hd':hB d=none:=hB0.nothing hd;let lo:Loop:={ state:=.ready,pending:=none,fn:=E.fn,tmps:=t,params:=#[par],assign,body,defers:=d };have nYl:¬Y0 l:=hJ.off j0 hl;have nYd:¬Y0 d:=hJ.off j0 hd;have hL1:((hc.set d true (.deferred (some []))).set l true (.loop lo)) l=some (true,.loop lo):=GH.set_same _ _ _ _;have hL2:((hc.set d true (.deferred (some []))).set l true (.loop lo)) d=some (true,.deferred (some [])):=by rw [GH.set_ne _ _ _ (Ne.symm hne)];exact GH.set_same _ _ _ _
 have hL3:∀b,b≠l→b≠d→((hc.set d true (.deferred (some []))).set l true (.loop lo)) b=hc b:=fun b h1 h2=>by rw [GH.set_ne _ _ _ h1,GH.set_ne _ _ _ h2]
 have hLB:hB.Le ((hc.set d true (.deferred (some []))).set l true (.loop lo)):=(hB0.trans (GH.Le.new hd _ _)).trans (GH.Le.new (by rw [GH.set_ne _ _ _ hne];exact hl) _ _);have hI0:LoopI J l d lo [] (fun b=>Y0 b∨b=l∨b=d) ((hc.set d true (.deferred (some []))).set l true (.loop lo)):=by
  refine ⟨Y0,hJ.stable _ _ hc _ j0 (fun b hb=>hL3 b (fun e=>nYl (e▸hb)) (fun e=>nYd (e▸hb))) hLB,fun b=>Iff.rfl,nYl,nYd,hL1,hL2⟩
 have prom:Prom hB (LoopI J l d lo):=by
  refine ⟨?_,?_⟩
  ·rintro pre X h b ⟨Y,j,hX,_,_,h1,h2⟩ hb;rcases (hX b).1 hb with h3 | rfl | rfl
   ·exact hJ.dom _ _ _ _ j h3
   ·exact ⟨_,_,h1,rfl⟩
   ·exact ⟨_,_,h2,rfl⟩
  ·rintro pre X h h' ⟨Y,j,hX,n1,n2,h1,h2⟩ same lB;refine ⟨Y,hJ.stable _ _ h h' j (fun b hb=>same b ((hX b).2 (.inl hb))) lB,hX,n1,n2,?_,?_⟩
   ·rw [same l ((hX l).2 (.inr (.inl rfl)))];exact h1
   ·rw [same d ((hX d).2 (.inr (.inr rfl)))];exact h2
 have yk:YieldK E.wk hB (.func (.yield l) #[] #[]) enc (LoopI J l d lo) (LoopS Stop l d lo) all:=by
  refine ⟨prom,rfl,?_⟩;rintro pre p post X h hall ⟨Y,j,hX,n1,n2,h1,h2⟩ lB;refine valK_yield h1 rfl ?_;have ef:(lo.params.zip #[Value.agg (enc p)]).foldl (fun tmps x=>tmps.setIfInBounds x.1 x.2) lo.tmps=t.setIfInBounds par (.agg (enc p)):=by simp [lo]
  rw [ef];show RoundK E.wk l E.fn (t.setIfInBounds par (.agg (enc p))) assign body h _;have hs':=hs.put hpar (.agg (enc p));refine round_of_tr (N:=E.N) hs'.1 ?_;have e0:(fun i=>(t.setIfInBounds par (.agg (enc p))).getD i undef)=upd σ par (.agg (enc p)):=funext hs'.2;rw [e0];refine tr_mono ?_ (round l d lo pre p post Y h hall j lB hl' n1 h1);rintro e σ' ds' ha ⟨rfl,ha1,hb⟩;refine ⟨rfl,lo,ha1,rfl,?_⟩;refine tr_mono ?_ (hb _ (GH.set_same _ _ _ _) fun b hb=>GH.set_ne _ _ _ hb);rintro e σ2 ds2 h3 ⟨g1,Y',g2,g3,g4,g5⟩;have hd3:h3 d=some (true,.deferred (some [])):=g3.box h2 (fun q=>q.elim n2 (fun e=>hne e.symm)) rfl;have nl:¬Y' l:=fun q=>(g2 l q).elim n1 fun e=>by rw [h1] at e;cases e
  have nd:¬Y' d:=fun q=>(g2 d q).elim n2 fun e=>by rw [h2] at e;cases e
  have key:∀(lo2:Loop) (ok:Bool),(if ok then J (pre++[p]) Y' (h3.set l true (.loop lo2))∧lo2=lo else LoopS Stop l d lo (h3.set l true (.loop lo2)))→YRes hB (LoopI J l d lo) (LoopS Stop l d lo) pre X h [p] (.bool ok) (h3.set l true (.loop lo2)):=by
   intro lo2 ok hok;refine ⟨ok,fun b=>Y' b∨b=l∨b=d,rfl,?_,?_,?_,?_,?_⟩
   ·rintro b (hb | rfl | rfl)
    ·exact (g2 b hb).imp (fun q=>(hX b).2 (.inl q)) id
    ·exact .inl ((hX _).2 (.inr (.inl rfl)))
    ·exact .inl ((hX _).2 (.inr (.inr rfl)))
   ·intro b q o hb hn;have nb:b≠l:=fun e=>hn ((hX b).2 (.inr (.inl e)));rw [GH.set_ne _ _ _ nb];exact g3 b q o hb fun q=>q.elim (fun z=>hn ((hX b).2 (.inl z))) nb
   ·exact g4.upd hl' fun b hb=>GH.set_ne _ _ _ hb
   ·rintro rfl;simp only [if_true] at hok;obtain ⟨hj,rfl⟩:=hok;exact ⟨Y',hj,fun b=>Iff.rfl,nl,nd,GH.set_same _ _ _ _,by rw [GH.set_ne _ _ _ (Ne.symm hne)];exact hd3⟩
   ·rintro rfl;simpa using hok
  have js:∀(lo2:Loop),J (pre++[p]) Y' h3→J (pre++[p]) Y' (h3.set l true (.loop lo2)):=fun lo2 hj=>hJ.store hj nl (fun b hb=>GH.set_ne _ _ _ hb) (g4.upd hl' fun b hb=>GH.set_ne _ _ _ hb);have ss:∀c (lo2:Loop),Stop c h3→Stop c (h3.set l true (.loop lo2)):=fun c lo2 hc=>hS c h3 _ l _ hc g1 fun b hb=>GH.set_ne _ _ _ hb;refine ⟨_,g1,?_⟩;cases e with
  | normal=>exact key _ true (by simp only [if_true];exact ⟨js _ g5,rfl⟩)
  | exit id=>exact key _ false (by simp only [Bool.false_eq_true,if_false];exact ⟨_,ss _ _ g5,GH.set_same _ _ _ _,by rw [GH.set_ne _ _ _ (Ne.symm hne)];exact hd3⟩)
  | ret=>exact key _ false (by simp only [Bool.false_eq_true,if_false];exact ⟨_,ss _ _ g5,GH.set_same _ _ _ _,by rw [GH.set_ne _ _ _ (Ne.symm hne)];exact hd3⟩)
  | goto _=>exact g5.elim
  | panic _=>exact g5.elim
  | outgrown=>exact g5.elim
 refine (src _ _ _ _ _ yk hLB hI0).mono ?_;rintro v h' ⟨X',hs',hk,hl2,hor⟩;rcases hor with ⟨Y,j,hX,n1,n2,h1,h2⟩ | ⟨c,hst,h1,h2⟩
 ·refine ⟨lo,h1,rfl,?_⟩;show Q .normal σ _ _;have hB':=hl2.upd hl' (fun b hb=>GH.set_ne h' true (.loop { lo with state:=.exhausted }) hb);refine (fin d l _ hB' hd' hl' hd (by rw [GH.set_ne _ _ _ (Ne.symm hne)];exact h2)).1 Y (hJ.store j n1 (fun b hb=>GH.set_ne _ _ _ hb) hB') fun b hb e=>n2 (e▸hb)
 ·refine ⟨_,h1,rfl,?_⟩;have hB':=hl2.upd hl' (fun b hb=>GH.set_ne h' true (.loop { { lo with state:=.done,pending:=some c } with state:=.exhausted }) hb)
  have:=(fin d l _ hB' hd' hl' hd (by rw [GH.set_ne _ _ _ (Ne.symm hne)];exact h2)).2 c (hS c h' _ l _ hst h1 fun b hb=>GH.set_ne _ _ _ hb)
  cases c with
  | exit id=>exact this
  | ret=>exact this
  | _=>exact this.elim
structure RSt (hB:GH) (X:Nat→Prop) (h hc:GH):Prop where
 keep:KeepX X h hc
 base:hB.Le hc
 dom:∀b,X b→∃o,hc b=some o
section
variable {hB h hc h':GH} {X:Nat→Prop}
theorem GH.Le.someOf {h h':GH} (l:h.Le h') {b:Nat} (x:∃o,h b=some o):∃o,h' b=some o:=by
 obtain ⟨o,hb⟩:=x;obtain ⟨o',h1,_⟩:=l b o.1 o.2 hb;exact ⟨_,h1⟩
theorem RSt.start (lB:hB.Le h) (d:∀b,X b→∃o,h b=some o):RSt hB X h h:=⟨KeepX.refl _ _,lB,d⟩
theorem RSt.le (r:RSt hB X h hc) (l:hc.Le h'):RSt hB X h h':=⟨r.keep.trans (fun _ q=>.inl q) (l.keepX X),r.base.trans l,fun b hb=>l.someOf (r.dom b hb)⟩
theorem RSt.nothing (r:RSt hB X h hc) {q:Nat} (hq:hc q=none):h q=none:=by
 cases hx:h q with
 | none=>rfl
 | some x=>
  by_cases hX:X q
  ·obtain ⟨o,ho⟩:=r.dom q hX;rw [hq] at ho;cases ho
  ·obtain ⟨o',h1,_⟩:=r.keep q x.1 x.2 hx hX;rw [hq] at h1;cases h1
theorem RSt.store (r:RSt hB X h hc) {q:Nat} (hq:X q∨h q=none) (rB:hB q=none) (ho:∀b,b≠q→h' b=hc b) (hn:∃o,h' q=some o):RSt hB X h h':=
 ⟨fun b p o hb hX=>by
   have nb:b≠q:=fun e=>by
    subst e;rcases hq with hq | hq
    ·exact hX hq
    ·rw [hq] at hb;cases hb
   rw [ho b nb];exact r.keep b p o hb hX,
  r.base.upd rB ho,fun b hb=>by
   by_cases e:b=q
   ·subst e;exact hn
   ·rw [ho b e];exact r.dom b hb⟩
theorem KeepX.app {v v':Value} (k:KeepX X h hc) (g:Grown hc h' v v') (hv:∀b,back v=some b→X b):KeepX X h h':=fun b p o hb hX=>by
 obtain ⟨o',h1,h2⟩:=k b p o hb hX;exact ⟨o',g.1 b _ h1 fun e=>hX (hv b e),h2⟩
theorem KeepX.store' {q:Nat} (k:KeepX X h hc) (hq:X q∨h q=none) (ho:∀b,b≠q→h' b=hc b):KeepX X h h':=fun b p o hb hX=>by
 have nb:b≠q:=fun e=>by
  subst e;rcases hq with hq | hq
  ·exact hX hq
  ·rw [hq] at hb;cases hb
 rw [ho b nb];exact k b p o hb hX
end
def GH.del (h:GH) (r:Nat):GH:=fun b=>if b=r then none else h b
theorem GH.del_le (h:GH) (r:Nat):(h.del r).Le h:=fun b p o hb=>by
 unfold GH.del at hb;split at hb
 ·cases hb
 ·exact ⟨o,hb,.inl rfl⟩
theorem GH.del_none (h:GH) (r:Nat):h.del r r=none:=if_pos rfl
theorem GH.del_ne {h:GH} {r b:Nat} (e:b≠r):h.del r b=h b:=if_neg e
theorem GH.Le.del {h0 h:GH} (l:h0.Le h) {r:Nat} (hr:h0 r=none):h0.Le (h.del r):=fun b p o hb=>by
 rw [GH.del_ne (GH.ne_of hb hr)];exact l b p o hb
theorem Elem.del {h:GH} {r b off n:Nat} {vs:Array Value} (x:Elem h b off n vs) (e:b≠r):Elem (h.del r) b off n vs:=x.same (GH.del_ne e)
theorem valK_at {W:Wk P} {x v:Value} {args:Array Value} {h:GH} {R:Value→GH→Prop} (e:x=v) (k:ValK W v args h R):ValK W x args h R:=e▸k
def JCol {α:Type} (hB:GH) (r:Nat) (T t:TypeId) (n:Nat) (enc:α→Array Value) (pre:List α) (Y:Nat→Prop) (h:GH):Prop:=
 ∃w,h r=some (true,.cells #[w] T (0,0))∧OwnSl hB h w t n enc pre∧Off w r∧hB r=none∧∀b,Y b↔b=r∨back w=some b
theorem OwnSl.cellsAt {α:Type} {h0 h:GH} {v:Value} {t:TypeId} {n:Nat} {enc:α→Array Value} {xs:List α} (x:OwnSl h0 h v t n enc xs):∀b,back v=some b→∃c,h b=some (true,.cells c t (0,0)):=by
 intro b hb;rcases x with ⟨rfl,_⟩ | ⟨b',cap,c,rfl,h1,h2,_⟩
 ·cases hb
 ·simp [back] at hb;subst hb;exact ⟨_,h2⟩
theorem jcol_prom {α:Type} (hB:GH) (r:Nat) (T t:TypeId) (n:Nat) (enc:α→Array Value):Prom hB (JCol hB r T t n enc):=by
 refine ⟨?_,?_⟩
 ·rintro pre Y h b ⟨w,h1,h2,h3,h0,h4⟩ hb;rcases (h4 b).1 hb with rfl | h5
  ·exact ⟨_,_,h1,rfl⟩
  ·obtain ⟨c,hc⟩:=h2.cellsAt b h5;exact ⟨_,_,hc,rfl⟩
 ·rintro pre Y h h' ⟨w,h1,h2,h3,h0,h4⟩ same lB;refine ⟨w,by rw [same r ((h4 r).2 (.inl rfl))];exact h1,h2.keep fun b o hb ho=>by rw [same b ((h4 b).2 (.inr hb))];exact ho,h3,h0,h4⟩
theorem jcol_start {α:Type} {hB h:GH} {r:Nat} {T t:TypeId} {n:Nat} {enc:α→Array Value} (x:h r=some (true,.cells #[.slice none 0 0] T (0,0))) (h0:hB r=none):JCol hB r T t n enc [] (fun b=>b=r) h:=
 ⟨_,x,OwnSl.nil _ _ _ _ _,Off.nil,h0,fun _=>⟨.inl,fun q=>q.elim id fun e=>by cases e⟩⟩
theorem jcol_end {α:Type} {hB h h' ha hb:GH} {r:Nat} {T t:TypeId} {n:Nat} {enc:α→Array Value} {pre:List α} {w w':Value} {Y:Nat→Prop} (hY:∀b,Y b↔b=r∨back w=some b) (g:Grown ha hb w w') (hn:∀q,ha q=none→h q=none)
  (x:h' r=some (true,.cells #[w'] T (0,0))) (o:OwnSl hB h' w' t n enc pre) (f:Off w' r) (h0:hB r=none) :
  ∃Y',(∀b,Y' b→Y b∨h b=none)∧JCol hB r T t n enc pre Y' h':=by
 refine ⟨fun b=>b=r∨back w'=some b,?_,w',x,o,f,h0,fun _=>Iff.rfl⟩;rintro b (rfl | hb)
 ·exact .inl ((hY _).2 (.inl rfl))
 ·rcases g.2 with e | ⟨⟨q,e1,e2⟩,_⟩
  ·exact .inl ((hY _).2 (.inr (by rw [←e];exact hb)))
  ·rw [e1] at hb;cases hb;exact .inr (hn _ e2)
theorem outs_mark {fn:Func} {σ:Nat→Value} {R:Value→GH→Prop} {d:Nat} {ds:List Deferred} {h:GH} (hd:h d=some (true,.deferred (some []))) (x:∀h',(∀b,b≠d→h' b=h b)→Outs P fn σ R ds h') :
  Outs P fn σ R ({ target:=.collected d,args:=#[] } ::ds) h:=⟨d,rfl,_,hd,rfl,x _ fun b hb=>GH.set_ne _ _ _ hb⟩
end
end Go.Ns
namespace Go.Ns
open Go.Conc
section
variable {P:Program} {E:Env P}
abbrev Law2:=(Nat→Value)→Value→GH→Prop
def lawAt2 (Φ:List Law2) (k:Nat):Law2:=Φ.getD k fun _ _ _=>True
def Known2 (ops:List Oper) (Φ:List Law2) (σ:Nat→Value) (h:GH) (j:Nat):Prop:=match ops[j]? with
 | some o=>GuardIs ops o σ→lawAt2 Φ j σ (slotV o σ) h
 | none=>True
def Knowns2 (ops:List Oper) (Φ:List Law2) (σ:Nat→Value) (h:GH):List Nat→Prop
 | []=>True
 | j ::l=>Known2 ops Φ σ h j∧Knowns2 ops Φ σ h l
theorem Knowns2.get {ops:List Oper} {Φ:List Law2} {σ:Nat→Value} {h:GH}:∀{l:List Nat},(∀j ∈ l,Known2 ops Φ σ h j)→Knowns2 ops Φ σ h l
 | [],_=>trivial
 | j ::l,x=>⟨x j (by simp),Knowns2.get fun i hi=>x i (by simp [hi])⟩
def IndepOK (l:List Oper) (n:Nat) (cls:List (List Nat)) (Φ:List Law2):Prop:=
 ∀k i oi d,k<n→i<n→i≠k→i ∉ cls.getD k []→l[i]? =some oi→oi.dst=some d→∀σ u v h,lawAt2 Φ k σ v h→lawAt2 Φ k (upd σ d u) v h
def St (R:GH→GH→Prop) (Pre:Nat→GH→Prop) (Φ:List Law2) (cl:List Nat) (k:Nat) (h h':GH):Prop:=R h h'∧(∀j,j≠k→∀σ v,lawAt2 Φ j σ v h→lawAt2 Φ j σ v h')∧∀j,j≠k→j ∉ cl→Pre j h→Pre j h'
def StepAt2 (R:GH→GH→Prop) (Pre:Nat→GH→Prop) (E:Env P) (ops:List Oper) (n:Nat) (Φ:List Law2) (σ:Nat→Value) (ds:List Deferred) (h:GH) (k:Nat) (o:Oper) (cl:List Nat):Prop:=
 ∀σ' h',R h h'→(∀t,(dsts ops n).contains t=false→σ' t=σ t)→Knowns2 ops Φ σ' h' cl→GuardIs ops o σ'→Pre k h'→
  OpK E o σ' ds h' fun σ'' ds'' h''=>ds''=ds∧St R Pre Φ cl k h' h''∧∃v,σ''=putS σ' o.dst v∧lawAt2 Φ k σ'' v h''∧(o.dst=none→v=undef)
def DrAll2 (R:GH→GH→Prop) (Pre:Nat→GH→Prop) (E:Env P) (ops:List Oper) (n:Nat) (Φ:List Law2) (σ:Nat→Value) (ds:List Deferred) (h:GH) (Q:Post):Nat→Nat→List Oper→List (List Nat)→Prop
 | 0,k,rest,_=>∀σ' h',R h h'→(∀t,(dsts ops n).contains t=false→σ' t=σ t)→Knowns2 ops Φ σ' h' (List.range k)→TrL E ops.toArray rest σ' ds h' Q
 | m+1,k,o ::rest,cl ::cls=>StepAt2 R Pre E ops n Φ σ ds h k o cl∧DrAll2 R Pre E ops n Φ σ ds h Q m (k+1) rest cls
 | _,_,_,_=>False
theorem DrAll2.at {R:GH→GH→Prop} {Pre:Nat→GH→Prop} {ops:List Oper} {n:Nat} {Φ:List Law2} {σ:Nat→Value} {ds:List Deferred} {h:GH} {Q:Post}:∀(m k:Nat) (rest:List Oper) (cls:List (List Nat)),
  DrAll2 R Pre E ops n Φ σ ds h Q m k rest cls→(∀i o,i<m→rest[i]? =some o→StepAt2 R Pre E ops n Φ σ ds h (k+i) o (cls.getD i []))∧
   (∀σ' h',R h h'→(∀t,(dsts ops n).contains t=false→σ' t=σ t)→Knowns2 ops Φ σ' h' (List.range (k+m))→TrL E ops.toArray (rest.drop m) σ' ds h' Q)
 | 0,k,rest,cls,x=>⟨fun i o hi=>by omega,x⟩
 | m+1,k,[],cls,x=>by cases cls <;> exact x.elim
 | m+1,k,o ::rest,[],x=>x.elim
 | m+1,k,o ::rest,cl ::cls,x=>by
  obtain ⟨h1,h2⟩:=x;obtain ⟨a,b⟩:=DrAll2.at m (k+1) rest cls h2;refine ⟨fun i o' hi ho=>?_,fun σ' h' hl hb hk=>?_⟩
  ·cases i with
   | zero=>simp at ho;subst ho;exact h1
   | succ i=>have:=a i o' (by omega) (by simpa using ho);rw [show k+(i+1)=k+1+i by omega];simpa using this
  ·rw [List.drop_succ_cons];exact b σ' h' hl hb (by rw [show k+1+m=k+(m+1) by omega];exact hk)
structure DrawInv2 (R:GH→GH→Prop) (Pre:Nat→GH→Prop) (E:Env P) (l:List Oper) (n:Nat) (cls:List (List Nat)) (Φ:List Law2) (σ:Nat→Value) (h:GH) (listed:Array Bool) (σ':Nat→Value) (h':GH):Prop where
 le:R h h'
 base:∀t,(dsts l n).contains t=false→σ' t=σ t
 size:listed.size=l.length
 done:∀j,j<n→listed.getD j false=true→Known2 l Φ σ' h' j
 clos:∀j,j<n→listed.getD j false=true→∀i ∈ cls.getD j [],i<n∧listed.getD i false=true
 grd:∀j o,j<n→listed.getD j false=true→l[j]? =some o→∀g w,o.guard=some (g,w)→listed.getD g false=true
 suf:∀j,n≤j→j<l.length→listed.getD j false=false
 pend:∀j,j<n→listed.getD j false=false→Pre j h'
theorem tr_draw2 (R:GH→GH→Prop) {id:Nat} {l:List Oper} {σ:Nat→Value} {ds:List Deferred} {h:GH} {Q:Post} (n:Nat) (cls:List (List Nat)) (Φ:List Law2) (Pre:Nat→GH→Prop)
  (hm:P.follows .mixedOrders=true) (ok:drawOK2 E.N l n cls=true) (rr:∀h,R h h) (rt:∀a b c,R a b→R b c→R a c) (p0:∀k,k<n→Pre k h) (ind:IndepOK l n cls Φ)
  (x:DrAll2 R Pre E l n Φ σ ds h Q n 0 l cls):Tr E (.region id l.toArray true) σ ds h Q:=by
 obtain ⟨steps,fin⟩:=DrAll2.at n 0 l cls x;simp only [Nat.zero_add] at steps fin;have ok':=ok;unfold drawOK2 at ok;simp only [Bool.and_eq_true] at ok;obtain ⟨⟨⟨ok1,ok2⟩,ok3⟩,ok4⟩:=ok;have nd:(dsts l n).Nodup:=of_decide_eq_true ok3;have hnl:n≤l.length:=Nat.ble_eq▸ok1;intro b k cs L t hb hr hl hs hq;have suffix:∀(fuel tp:Nat) (listed:Array Bool) (σ':Nat→Value) (h':GH) (t:Array Value),DrawInv2 R Pre E l n cls Φ σ h listed σ' h'→(∀j,j<n→listed.getD j false=true)→listed.toList.count false≤fuel→SlotsAre t E.N σ'→
   E.wk.K (G (fat b t ds (.inRegion l.toArray (Region.linearise.go .any l.toArray fuel tp listed []) ::k)) cs) h':=by
  intro fuel tp listed σ' h' t I hall hcnt hst;have hsz:=I.size;have hL:∀j,j<l.length→listed.getD j false=decide (j<n):=fun j hj=>by
   by_cases h1:j<n
   ·rw [hall j h1];simp [h1]
   ·rw [I.suf j (by omega) hj];simp [h1]
  have e:Region.linearise.go .any l.toArray fuel tp listed []=List.range' n (l.drop n).length:=by
   have hcl:listed.toList=List.replicate n true++List.replicate (l.length-n) false:=by
    refine List.ext_getElem (by simp [hsz];omega) fun j h1 h2=>?_;have h1':j<l.length:=by simpa [hsz] using h1
    have hb:=hL j h1';have h1'':j<listed.size:=by omega
    rw [Array.getD_eq_getD_getElem?,Array.getElem?_eq_getElem h1'',Option.getD_some] at hb;rw [Array.getElem_toList,hb,List.getElem_append];split
    ·rename_i h3;have h4:j<n:=by simpa using h3
     simp [h4]
    ·rename_i h3;have h4:¬j<n:=by simpa using h3
     simp [h4]
   have hc:l.length-n≤fuel:=by rw [hcl] at hcnt;simpa [List.count_append,List.count_replicate] using hcnt
   rw [List.length_drop];exact go_suffix2 (ops:=l.toArray) rfl ok' fuel tp n listed (Nat.le_refl _) hnl hc hsz hL
  rw [e];exact fin σ' h' I.le I.base (Knowns2.get fun j hj=>I.done j (List.mem_range.1 hj) (hall j (List.mem_range.1 hj))) n b k cs L t (fun j=>by simp) hb hr hl hst hq
 have key:∀(fuel tp:Nat) (listed:Array Bool) (σ':Nat→Value) (h':GH) (t:Array Value),DrawInv2 R Pre E l n cls Φ σ h listed σ' h'→listed.toList.count false≤fuel→SlotsAre t E.N σ'→
   E.wk.K (G (fat b t ds (.inRegion l.toArray (Region.linearise.go .any l.toArray fuel tp listed []) ::k)) cs) h':=by
  intro fuel
  induction fuel with
  | zero=>
   intro tp listed σ' h' t I hcnt hst;exact suffix 0 tp listed σ' h' t I (by
    intro j hj;cases hb:listed.getD j false with
    | true=>rfl
    | false=>
     have hsz:=I.size;have hlt:j<listed.size:=by omega
     have:false ∈ listed.toList:=by
      rw [Array.getD_eq_getD_getElem?,Array.getElem?_eq_getElem hlt,Option.getD_some] at hb;rw [←hb];simp
     have:=List.count_pos_iff.2 this
     omega) hcnt hst
  | succ fuel ih=>
   intro tp listed σ' h' t I hcnt hst;by_cases hall:∀j,j<n→listed.getD j false=true
   ·exact suffix (fuel+1) tp listed σ' h' t I hall hcnt hst
   have hsz:=I.size;have hready:∃i0,i0<n∧listed.getD i0 false=false∧∀j,j<i0→listed.getD j false=true:=by
    have hex:∃j,j<n∧listed.getD j false=false:=by
     refine Classical.byContradiction fun hc=>hall fun j hj=>?_;cases hb:listed.getD j false with
     | true=>rfl
     | false=>exact absurd ⟨j,hj,hb⟩ hc
    obtain ⟨j,hj⟩:=hex
    induction j using Nat.strongRecOn with
    | ind j ihj=>
     by_cases hz:∃i,i<j∧listed.getD i false=false
     ·obtain ⟨i,hi,hi'⟩:=hz;exact ihj i hi ⟨by omega,hi'⟩
     ·refine ⟨j,hj.1,hj.2,fun i hi=>?_⟩;cases hb:listed.getD i false with
      | true=>rfl
      | false=>exact absurd ⟨i,hi,hb⟩ hz
   obtain ⟨i0,hi0,hl0,hb0⟩:=hready;have hget:∀j,j<l.length→listed.getD j true=listed.getD j false:=fun j hj=>by
    have hlt:j<listed.size:=by omega
    simp [Array.getD_eq_getD_getElem?,Array.getElem?_eq_getElem hlt]
   have hmem:∀i,i ∈ Region.ready .any l.toArray listed↔i<l.length∧listed.getD i false=false∧∀o,l[i]? =some o→∀e ∈ o.after,Region.binds .any e=true→listed.getD e.on false=true:=by
    intro i;unfold Region.ready;rw [List.mem_filter,List.mem_range,List.size_toArray];constructor
    ·rintro ⟨hi,x⟩;rw [hget i hi] at x;have hoi:l.toArray[i]? =some l[i]:=by simp [hi]
     rw [hoi] at x;simp only [Option.map_some,Option.getD_some,Bool.and_eq_true,Bool.not_eq_true'] at x;refine ⟨hi,x.1,fun o ho e he hbd=>?_⟩;rw [List.getElem?_eq_getElem hi] at ho;cases ho
     have:=(Array.all_eq_true_iff_forall_mem.1 x.2) e he
     simpa [hbd] using this
    ·rintro ⟨hi,x1,x2⟩;refine ⟨hi,?_⟩;rw [hget i hi];have hoi:l.toArray[i]? =some l[i]:=by simp [hi]
     rw [hoi];simp only [Option.map_some,Option.getD_some,Bool.and_eq_true,Bool.not_eq_true'];refine ⟨x1,Array.all_eq_true_iff_forall_mem.2 fun e he=>?_⟩;cases hbd:Region.binds .any e with
     | false=>rfl
     | true=>simpa using x2 _ (List.getElem?_eq_getElem hi) e he hbd
   have hi0r:i0 ∈ Region.ready .any l.toArray listed:=by
    rw [hmem];refine ⟨by omega,hl0,fun o ho e he hbd=>?_⟩;have o4:=all_range ok4 (show i0<l.length by omega);simp only [ho,Bool.and_eq_true] at o4
    have:=(Array.all_eq_true_iff_forall_mem.1 o4.1) e he
    simp only [hbd,Bool.not_true,Bool.false_or] at this;exact hb0 _ (Nat.blt_eq▸this)
   simp only [Region.linearise.go];change E.wk.K (G (fat b t ds (.inRegion l.toArray (match (Region.ready .any l.toArray listed)[tp%(Region.ready .any l.toArray listed).length]? with
    | some i=>Region.linearise.go .any l.toArray fuel (tp / (Region.ready .any l.toArray listed).length) (listed.setIfInBounds i true) [i]
    | none=>[].reverse) ::k)) cs) h'
   cases hi:(Region.ready .any l.toArray listed)[tp%(Region.ready .any l.toArray listed).length]? with
   | none=>
    exfalso;have hpos:0<(Region.ready .any l.toArray listed).length:=List.length_pos_of_mem hi0r
    have:=Nat.mod_lt tp hpos
    rw [List.getElem?_eq_none_iff] at hi;omega
   | some i=>
    simp only [];have him:=(hmem i).1 (List.mem_of_getElem? hi);obtain ⟨hil,hiu,hie⟩:=him;obtain ⟨o,ho⟩:∃o,l[i]? =some o:=⟨_,List.getElem?_eq_getElem hil⟩;have o4:=all_range ok4 hil;simp only [ho,Bool.and_eq_true] at o4;have hin:i<n:=by
     refine Classical.byContradiction fun hc=>?_;have h2:Nat.blt i n=false:=by
      cases h:Nat.blt i n with
      | false=>rfl
      | true=>exact absurd (Nat.blt_eq▸h) hc
     have o5:=o4.2;rw [h2] at o5;simp only [Bool.false_eq_true,if_false] at o5;have o6:=all_range o5 (show i0<i by omega);have onL:∀j,anyOn o j=true→listed.getD j false=true:=fun j hj=>by
      unfold anyOn at hj;rw [Array.any_eq_true] at hj;obtain ⟨q,hq',e⟩:=hj;simp only [Bool.and_eq_true,beq_iff_eq] at e
      have:=hie o ho _ (Array.getElem_mem hq') e.1
      rw [e.2] at this;exact this
     simp only [Bool.or_eq_true,Bool.and_eq_true] at o6;rcases o6 with (o6 | ⟨_,o6⟩) | o6
     rotate_left 2
     ·rw [List.any_eq_true] at o6;obtain ⟨e,he,h2⟩:=o6;simp only [Bool.and_eq_true] at h2;have h3:=onL e h2.2;have h4:n≤e:=Nat.ble_eq▸h2.1.1;have h5:e<i:=List.mem_range.1 he;rw [I.suf e h4 (by omega)] at h3;cases h3
     ·have:=onL _ o6
      rw [hl0] at this;cases this
     ·rw [List.any_eq_true] at o6;obtain ⟨e,he,h2⟩:=o6;simp only [Bool.and_eq_true] at h2
      have:=(I.clos e (List.mem_range.1 he) (onL e h2.1) i0 (by simpa using h2.2)).2
      rw [hl0] at this;cases this
    have hbl:Nat.blt i n=true:=by rw [Nat.blt_eq];exact hin
    have o5:=o4.2;rw [hbl] at o5;simp only [if_true,Bool.and_eq_true,Bool.not_eq_true'] at o5;obtain ⟨⟨⟨d2,d3⟩,d4⟩,d5⟩:=o5;have anyL:∀j,anyOn o j=true→listed.getD j false=true:=fun j hj=>by
     unfold anyOn at hj;rw [Array.any_eq_true] at hj;obtain ⟨q,hq',e⟩:=hj;simp only [Bool.and_eq_true,beq_iff_eq] at e
     have:=hie o ho _ (Array.getElem_mem hq') e.1
     rw [e.2] at this;exact this
    have hgl:∀g w,o.guard=some (g,w)→listed.getD g false=true:=fun g w hg=>by
     rw [hg] at d4;exact anyL g d4
    have hlt:∀j,listed.getD j false=true→j<n:=fun j hj=>by
     by_cases h1:j<l.length
     ·by_cases h2:j<n
      ·exact h2
      ·rw [I.suf j (by omega) h1] at hj;cases hj
     ·have:listed.getD j false=false:=by
       rw [Array.getD_eq_getD_getElem?,Array.getElem?_eq_none (by omega)];rfl
      rw [this] at hj;cases hj
    have hcl:∀j ∈ cls.getD i [],j<n∧listed.getD j false=true:=fun j hj=>by
     have:=(List.all_eq_true.1 d5) j hj
     simp only [Bool.and_eq_true,Bool.or_eq_true] at this;rcases this.2 with h1 | h1
     ·exact ⟨hlt j (anyL j h1),anyL j h1⟩
     ·rw [List.any_eq_true] at h1;obtain ⟨e,_,h2⟩:=h1;simp only [Bool.and_eq_true] at h2;have hle:=anyL e h2.1;exact I.clos e (hlt e hle) hle j (by simpa using h2.2)
    rw [linearise_go_acc,List.reverse_singleton,List.singleton_append];have next:∀(σ2:Nat→Value) (h2:GH) (v:Value),σ2=putS σ' o.dst v→St R Pre Φ (cls.getD i []) i h' h2→(GuardIs l o σ2→lawAt2 Φ i σ2 v h2)→(o.dst=none→v=undef)→DrawInv2 R Pre E l n cls Φ σ h (listed.setIfInBounds i true) σ2 h2:=by
     rintro σ2 h2 v rfl hle hlaw hun;have hset:∀j,(listed.setIfInBounds i true).getD j false=if i=j then true else listed.getD j false:=fun j=>by
      rw [Array.getD_eq_getD_getElem?,Array.getElem?_setIfInBounds];by_cases hij:i=j
      ·subst hij;simp [hsz,hil]
      ·rw [if_neg hij,if_neg hij,Array.getD_eq_getD_getElem?]
     have hkeep:∀j oj e,j<n→j≠i→l[j]? =some oj→oj.dst=some e→putS σ' o.dst v e=σ' e:=fun j oj e hj hji hoj he=>by
      cases hd:o.dst with
      | none=>rfl
      | some d=>
      have hne:e≠d:=dst_ne nd hin hj (fun x=>hji x.symm) ho hoj hd he;exact upd_ne σ' v (beq_ne hne)
     refine ⟨rt _ _ _ I.le hle.1,fun u hu=>?_,by simpa using hsz,fun j hj hjl=>?_,fun j hj hjl q hq'=>?_,fun j oj hj hjl hoj g w hg=>?_,fun j hj hjl=>?_,fun j hj hjl=>?_⟩
     ·rw [←I.base u hu];cases hd:o.dst with
      | none=>rfl
      | some d=>
      refine upd_ne σ' v ?_;have hm:d ∈ dsts l n:=by
       simp only [dsts,List.mem_filterMap];refine ⟨o,?_,hd⟩
       have:(l.take n)[i]? =some o:=by rw [List.getElem?_take];simp [hin,ho]
       exact List.mem_of_getElem? this
      have:u≠d:=fun e=>by
       subst e
       have:=List.contains_iff_mem.2 hm
       rw [hu] at this;cases this
      exact beq_ne this
     ·rw [hset] at hjl;by_cases hij:i=j
      ·subst hij;unfold Known2;rw [ho];intro hg
       have:slotV o (putS σ' o.dst v)=v:=by
        cases hd:o.dst with
        | none=>rw [hun hd];simp [slotV,hd]
        | some d=>simp [slotV,hd,putS,upd]
       rw [this];exact hlaw hg
      ·rw [if_neg hij] at hjl;have K:=I.done j hj hjl;unfold Known2 at K ⊢;cases hoj:l[j]? with
       | none=>trivial
       | some oj=>
        rw [hoj] at K;simp only at K ⊢;intro hg;have hg':GuardIs l oj σ':=hg.congr fun g w og dg hgw hog hdg=>by
         have hgl':=I.grd j oj hj hjl hoj g w hgw;have hgi:g≠i:=fun e=>by rw [e,hiu] at hgl';cases hgl'
         exact (hkeep g og dg (hlt g hgl') hgi hog hdg)
        have hji:i ∉ cls.getD j []:=fun q=>by rw [(I.clos j hj hjl i q).2] at hiu;cases hiu
        have:=hle.2.1 j (fun e=>hij e.symm) _ _ (K hg')
        have hput:∀w,lawAt2 Φ j σ' w h2→lawAt2 Φ j (putS σ' o.dst v) w h2:=fun w q=>by
         cases hd:o.dst with
         | none=>exact q
         | some d=>exact ind j i o d hj hin hij hji ho hd σ' v w h2 q
        have:=hput _ this
        have hsv:slotV oj (putS σ' o.dst v)=slotV oj σ':=by
         unfold slotV;cases hdj:oj.dst with
         | none=>rfl
         | some e=>exact hkeep j oj e hj (fun x=>hij x.symm) hoj hdj
        rw [hsv];exact this
     ·rw [hset] at hjl
      have:q<n∧listed.getD q false=true:=by
       by_cases hij:i=j
       ·subst hij;exact hcl q hq'
       ·rw [if_neg hij] at hjl;exact I.clos j hj hjl q hq'
      refine ⟨this.1,?_⟩;rw [hset];split
      ·rfl
      ·exact this.2
     ·rw [hset] at hjl
      have:listed.getD g false=true:=by
       by_cases hij:i=j
       ·subst hij;rw [ho] at hoj;cases hoj;exact hgl g w hg
       ·rw [if_neg hij] at hjl;exact I.grd j oj hj hjl hoj g w hg
      rw [hset];split
      ·rfl
      ·exact this
     ·rw [hset,if_neg (by omega)];exact I.suf j hj hjl
     ·rw [hset] at hjl;by_cases hij:i=j
      ·rw [if_pos hij] at hjl;cases hjl
      ·rw [if_neg hij] at hjl;exact hle.2.2 j (fun e=>hij e.symm) (fun q=>by rw [(hcl j q).2] at hjl;cases hjl) (I.pend j hj hjl)
    have hcnt':(listed.setIfInBounds i true).toList.count false≤fuel:=by
     rw [Array.toList_setIfInBounds];have hlt':i<listed.toList.length:=by simpa [hsz] using hil
     rw [List.count_set hlt'];have hlt2:i<listed.size:=by simpa using hlt'
     have h3:listed.toList[i]=false:=by
      rw [Array.getD_eq_getD_getElem?,Array.getElem?_eq_getElem hlt2,Option.getD_some] at hiu;simpa using hiu
     rw [h3];simp;have h4:=List.count_pos_iff.2 (List.getElem_mem hlt');rw [h3] at h4;have h5:Array.count false listed=listed.toList.count false:=by simp
     omega
    have hgN:∀g w og dg,o.guard=some (g,w)→l[g]? =some og→og.dst=some dg→dg<E.N:=fun g w og dg hgw hog hdg=>by
     have hgn:=hlt g (hgl g w hgw);have o6:=all_range ok4 (show g<l.length by omega);simp only [hog,Bool.and_eq_true] at o6;have hbg:Nat.blt g n=true:=by rw [Nat.blt_eq];exact hgn
     have o7:=o6.2;rw [hbg] at o7;simp only [if_true,Bool.and_eq_true] at o7
     have:=o7.1.1.1
     rw [hdg] at this;exact Nat.blt_eq▸this
    have hwant:Region.wanted o (yielded l.toArray t)=true↔GuardIs l o σ':=by
     unfold Region.wanted GuardIs;cases hg:o.guard with
     | none=>simp
     | some x=>
      obtain ⟨g,w⟩:=x;simp only [yielded];have e0:l.toArray[g]? =l[g]? :=by simp
      rw [e0];cases hog:l[g]? with
      | none=>simp
      | some og=>
       simp only [Option.bind_some];cases hdg:og.dst with
       | none=>simp
       | some dg=>
        simp only [Option.bind_some];have hN:=hgN g w og dg hg hog hdg;have hts:dg<t.size:=by rw [hst.1];exact hN
        have hv:=hst.2 dg;rw [Array.getD_eq_getD_getElem?,Array.getElem?_eq_getElem hts,Option.getD_some] at hv;rw [Array.getElem?_eq_getElem hts,hv];cases σ' dg <;> simp
    cases hw:Region.wanted o (yielded l.toArray t) with
    | true=>
     have hG:=hwant.1 hw;have st:=steps i o hin ho σ' h' I.le I.base (Knowns2.get fun j hj=>I.done j (hcl j hj).1 (hcl j hj).2) hG (I.pend i hin hiu);refine step_op (E:=E) (by simpa using ho) hw (.inr d3) d2 hst st fun σ2 ds2 h2 y t2 ht2=>?_;obtain ⟨rfl,hle,v,hσ,hlaw,hun⟩:=y;exact ih _ _ σ2 h2 t2 (next σ2 h2 v hσ hle (fun _=>hlaw) hun) hcnt' ht2
    | false=>
     have hnG:¬GuardIs l o σ':=fun x=>by rw [hwant.2 x] at hw;cases hw
     refine Wk.go (fat b (putT t o.dst undef) ds (.inRegion l.toArray (Region.linearise.go .any l.toArray fuel (tp / (Region.ready .any l.toArray listed).length) (listed.setIfInBounds i true) []) ::k)) (fun w=>?_) ?_
     ·rw [←finish_fat (show l.toArray[i]? =some o by simpa using ho),stepG_fat];unfold stepG.exec;have hw':((l.toArray[i]?).map (Region.wanted · (yielded l.toArray t))).getD false=false:=by
       rw [show l.toArray[i]? =some o by simpa using ho];simp [hw]
      simp only [fat,hw',Bool.false_eq_true,↓reduceIte];rfl
     ·refine ih _ _ (putS σ' o.dst undef) h' _ (next _ _ undef rfl ⟨rr _,fun _ _ _ _ z=>z,fun _ _ _ z=>z⟩ (fun hg=>?_) fun _=>rfl) hcnt' (hst.putS d2 undef);refine absurd (hg.congr fun g w og dg hgw hog hdg=>?_) hnG;cases hd:o.dst with
      | none=>rfl
      | some d=>
      have hgi:g≠i:=fun e=>by have:=hgl g w hgw;rw [e,hiu] at this;cases this
      have hne:dg≠d:=dst_ne nd hin (hlt g (hgl g w hgw)) (fun x=>hgi x.symm) ho hog hd hdg;exact upd_ne σ' undef (beq_ne hne)
 refine E.wk.closed _ _ rfl fun w f=>?_;obtain ⟨tp,w',h',es,r1,r2,r3⟩:=gh_run (P:=P) f (e:=choose (.order b.fn id)) (Q:=fun _ h'=>h'=h) (by exact ⟨fun _=>rfl,fun _ _=>rfl⟩);subst r3;refine ⟨G (fat b t ds (.inRegion l.toArray (Region.linearise.go .any l.toArray l.length tp (Array.replicate l.length false) []) ::k)) cs,w',#[],h',?_,r2.sub fun e he=>by simp at he,?_⟩
 ·rw [stepG_fat];unfold stepG.exec;have r1':(choose (.order b.fn id)).run P w=.ok tp w':=by
   have:=congrArg Prod.fst r1
   simpa [Sem.runT_eq] using this
  simp only [fat,Bool.not_true,Bool.false_eq_true,↓reduceIte,r1',Region.schedule,hm,Bool.true_or,Region.linearise,List.size_toArray];rfl
 ·refine key l.length tp _ σ h' t ⟨rr _,fun _ _=>rfl,by simp,fun j _ hj=>?_,fun j _ hj=>?_,fun j _ _ hj=>?_,fun j _ _=>?_,fun j hj _=>p0 j hj⟩ ?_ hs
  ·rw [Array.getD_eq_getD_getElem?,Array.getElem?_replicate] at hj;split at hj <;> cases hj
  ·rw [Array.getD_eq_getD_getElem?,Array.getElem?_replicate] at hj;split at hj <;> cases hj
  ·rw [Array.getD_eq_getD_getElem?,Array.getElem?_replicate] at hj;split at hj <;> cases hj
  ·rw [Array.getD_eq_getD_getElem?,Array.getElem?_replicate];split <;> rfl
  ·simp
def KeepD (S:Nat→Prop) (h h':GH):Prop:=KeepX S h h'∧∀b,(∃o,h b=some o)→∃o,h' b=some o
theorem KeepD.refl (S:Nat→Prop) (h:GH):KeepD S h h:=⟨KeepX.refl _ _,fun _ x=>x⟩
theorem KeepD.trans {S:Nat→Prop} {a b c:GH} (x:KeepD S a b) (y:KeepD S b c):KeepD S a c:=⟨x.1.trans (fun _ q=>.inl q) y.1,fun r q=>y.2 r (x.2 r q)⟩
theorem GH.Le.keepD {h h':GH} (l:h.Le h') (S:Nat→Prop):KeepD S h h':=⟨l.keepX S,fun _ ⟨o,ho⟩=>let ⟨o',h1,_⟩:=l _ o.1 o.2 ho;⟨_,h1⟩⟩
theorem KeepD.nothing {S:Nat→Prop} {h h':GH} (k:KeepD S h h') {r:Nat} (hr:h' r=none):h r=none:=by
 cases hx:h r with
 | none=>rfl
 | some x=>obtain ⟨o,ho⟩:=k.2 r ⟨x,hx⟩;rw [ho] at hr;cases hr
theorem KeepD.grown {α:Type} {S:Nat→Prop} {h0 h h':GH} {v v':Value} {t:TypeId} {n:Nat} {enc:α→Array Value} {xs:List α} (g:Grown h h' v v') (hv:∀b,back v=some b→S b) (o:OwnSl h0 h' v' t n enc xs):KeepD S h h':=
 ⟨fun b p o hb hX=>⟨o,g.1 b _ hb fun e=>hX (hv b e),.inl rfl⟩,fun b ⟨x,hx⟩=>by
  rcases g.2 with q | ⟨_,q⟩
  ·by_cases e:back v=some b
   ·exact o.inDom b (q.trans e)
   ·exact ⟨_,g.1 b x hx e⟩
  ·exact ⟨_,q b x hx⟩⟩
theorem OwnSl.baseD {α:Type} {S:Nat→Prop} {h0 h00 h:GH} {v:Value} {t:TypeId} {n:Nat} {enc:α→Array Value} {xs:List α} (x:OwnSl h0 h v t n enc xs) (k:KeepD S h00 h0):OwnSl h00 h v t n enc xs:=by
 rcases x with x | ⟨b,cap,c,h1,h2,h3,h4⟩
 ·exact .inl x
 ·exact .inr ⟨b,cap,c,h1,k.nothing h2,h3,h4⟩
def LawsOK2 (R:GH→GH→Prop):List Law2→Prop
 | []=>True
 | φ ::l=>(∀σ v h h',R h h'→φ σ v h→φ σ v h')∧LawsOK2 R l
theorem LawsOK2.mono {R:GH→GH→Prop}:∀{Φ:List Law2},LawsOK2 R Φ→∀k σ v h h',R h h'→lawAt2 Φ k σ v h→lawAt2 Φ k σ v h'
 | [],_,k,σ,v,h,h',_,x=>by cases k <;> exact x
 | φ ::l,ok,0,σ,v,h,h',r,x=>ok.1 σ v h h' r x
 | φ ::l,ok,k+1,σ,v,h,h',r,x=>LawsOK2.mono ok.2 k σ v h h' r x
theorem tr_drawnK {S:Nat→Prop} {id:Nat} {l:List Oper} {σ:Nat→Value} {ds:List Deferred} {h:GH} {Q:Post} (n:Nat) (cls:List (List Nat)) (Φ:List Law2) (Pre:Nat→GH→Prop)
  (hm:P.follows .mixedOrders=true) (ok:drawOK2 E.N l n cls=true) (p0:∀k,k<n→Pre k h) (ind:IndepOK l n cls Φ) (x:DrAll2 (KeepD S) Pre E l n Φ σ ds h Q n 0 l cls):Tr E (.region id l.toArray true) σ ds h Q:=
 tr_draw2 (KeepD S) n cls Φ Pre hm ok (fun h=>KeepD.refl S h) (fun _ _ _ x y=>x.trans y) p0 ind x
section
variable {Pre:Nat→GH→Prop} {Φ:List Law2} {S:Nat→Prop} {k:Nat} {cl:List Nat} {h h':GH}
theorem St.same:St (KeepD S) Pre Φ cl k h h:=⟨KeepD.refl _ _,fun _ _ _ _ z=>z,fun _ _ _ z=>z⟩
theorem St.ofLe (l:h.Le h') (m:LawsOK2 GH.Le Φ) (pm:∀k h h',GH.Le h h'→Pre k h→Pre k h'):St (KeepD S) Pre Φ cl k h h':=⟨l.keepD S,fun j _ σ v z=>m.mono j σ v h h' l z,fun j _ _ z=>pm j h h' l z⟩
end
def FromB (h0:GH) (w v:Value):Prop:=back v=back w∨∃r,back v=some r∧h0 r=none
theorem Off.fromB {h0:GH} {w v:Value} (f:FromB h0 w v) {r:Nat} {o:Bool×Obj} (hr:h0 r=some o) (x:Off w r):Off v r:=fun e=>by
 rcases f with q | ⟨b,q1,q2⟩
 ·exact x (q▸e)
 ·rw [q1] at e;cases e;rw [q2] at hr;cases hr
theorem FromB.grown {h0 hk h':GH} {S:Nat→Prop} {w v:Value} (g:Grown hk h' w v) (k:KeepD S h0 hk):FromB h0 w v:=by
 rcases g.2 with q | ⟨⟨r,q1,q2⟩,_⟩
 ·exact .inl q
 ·exact .inr ⟨r,q1,k.nothing q2⟩
theorem OwnSl.apartTy {α β:Type} {h0 h1 h:GH} {v w:Value} {t t':TypeId} {n n':Nat} {enc:α→Array Value} {enc':β→Array Value} {xs:List α} {ys:List β} (x:OwnSl h0 h v t n enc xs) (y:OwnSl h1 h w t' n' enc' ys) (ne:t≠t'):Apart v w:=fun b e e'=>by
 rcases x with ⟨rfl,_⟩ | ⟨b1,_,c1,rfl,_,h2,_⟩
 ·cases e
 ·rcases y with ⟨rfl,_⟩ | ⟨b2,_,c2,rfl,_,h3,_⟩
  ·cases e'
  ·simp only [back,Option.some.injEq] at e e';subst e;subst e';rw [h2] at h3;simp only [Option.some.injEq,Prod.mk.injEq,Obj.cells.injEq] at h3;exact ne h3.2.2.1
theorem OwnSl.apartNew {α β:Type} {h1 h h2:GH} {v w:Value} {t t':TypeId} {n n':Nat} {enc:α→Array Value} {enc':β→Array Value} {xs:List α} {ys:List β} (x:OwnSl h1 h2 w t n enc xs) (y:OwnSl h2 h v t' n' enc' ys):Apart w v:=fun b e e'=>by
 obtain ⟨o,ho⟩:=x.inDom b e;rw [y.fresh b e'] at ho;cases ho
theorem KeepX.leBase {S:Nat→Prop} {hb h h':GH} (k:KeepX S h h') (l:hb.Le h) (hS:∀b,S b→hb b=none):hb.Le h':=fun b p o hx=>by
 obtain ⟨o1,h1,h2⟩:=l b p o hx;obtain ⟨o2,h3,h4⟩:=k b p o1 h1 fun q=>by rw [hS b q] at hx;cases hx
 refine ⟨o2,h3,?_⟩;rcases h2 with rfl | h2
 ·exact h4
 ·rcases h4 with rfl | h4
  ·exact .inr h2
  ·exact .inr ⟨h2.1,h4.2⟩
theorem OwnSl.keepD {α:Type} {S:Nat→Prop} {h0 h h':GH} {v:Value} {t:TypeId} {n:Nat} {enc:α→Array Value} {xs:List α} (x:OwnSl h0 h v t n enc xs) (k:KeepD S h h') (hS:∀b,back v=some b→¬S b):OwnSl h0 h' v t n enc xs:=by
 rcases x with x | ⟨b,cap,c,rfl,h2,h3,h4⟩
 ·exact .inl x
 ·exact .inr ⟨b,cap,c,rfl,h2,k.1.box h3 (hS b rfl) rfl,h4⟩
end
end Go.Ns
namespace Go.Ns
open Go.Conc
section
variable {P:Program} {E:Env P} {σ:Nat→Value} {ds:List Deferred} {h:GH} {T:(Nat→Value)→List Deferred→GH→Prop}
variable {dst:Option Nat} {ty:TypeId} {pos:String} {af:Array Edge} {gd:Option (Nat×Bool)}
def isNilV:Value→Bool
 | .slice none _ _=>true
 | _=>false
theorem ok_eqlNil {xt yt:TypeId} {x y:Operand} {a:Option Addr} {l c:Nat} (ht:slOf P xt=true) (hx:evalS σ x=.slice a l c) (hy:evalS σ y=.slice none 0 0) (k:T (putS σ dst (.bool (isNilV (.slice a l c)))) ds h) :
  OpK E ⟨dst,.binOp .eql xt x y yt,ty,pos,af,gd⟩ σ ds h T:=by
 unfold OpK execOp;simp only [hx,hy];refine gh_v (gh_bind _ _ ?_);show Sem.gh P (do pure (Value.bool (←Op.equal xt (.slice a l c) (.slice none 0 0))):Sem Value) h _;refine gh_bind _ _ ?_;unfold Op.equal Op.maxDepth;show (Op.equalIn (9999+1) xt (.slice a l c) (.slice none 0 0)).gh P h _;unfold Op.equalIn;unfold slOf at ht;cases hu:P.underlying xt with
 | none=>rw [hu] at ht;cases ht
 | some d=>
  rw [hu] at ht;refine gh_bind _ _ (gh_underlying hu ?_);cases d <;> first | (cases ht;done) | skip
  cases a with
  | none=>exact k
  | some a=>exact k
theorem ok_eqlNilS {α:Type} {xt yt:TypeId} {x y:Operand} {v:Value} {n:Nat} {enc:α→Array Value} {xs:List α} (ht:slOf P xt=true) (s:SlIs h v n enc xs) (hx:evalS σ x=v) (hy:evalS σ y=.slice none 0 0) (k:T (putS σ dst (.bool (isNilV v))) ds h) :
  OpK E ⟨dst,.binOp .eql xt x y yt,ty,pos,af,gd⟩ σ ds h T:=by
 obtain ⟨a,cap,rfl,_⟩:=s;exact ok_eqlNil ht hx hy k
theorem isNilV_nil {α:Type} {v:Value} {n:Nat} {enc:α→Array Value} {xs:List α} (s:SlIs h v n enc xs) (e:isNilV v=true):xs=[]:=by
 obtain ⟨a,cap,rfl,_,_,q⟩:=s;cases a with
 | some a=>cases e
 | none=>
  cases xs with
  | nil=>rfl
  | cons x xs=>obtain ⟨b,off,h1,_⟩:=q 0 (by simp);cases h1
theorem shr_eq {a:Int} {k:Nat} (h:k≤63):a.fdiv (2 ^ (min ((k:Int)).toNat IntKind.i64.bits))=a.fdiv (2 ^ k):=by
 have:min ((k:Int)).toNat IntKind.i64.bits=k:=by
  show min ((k:Int)).toNat 64=k;omega
 rw [this]
theorem shl_eq {k:Nat} (h:k≤60):IntKind.i64.wrap (1*2 ^ (min ((k:Int)).toNat IntKind.i64.bits))=2 ^ k:=by
 have:min ((k:Int)).toNat IntKind.i64.bits=k:=by
  show min ((k:Int)).toNat 64=k;omega
 rw [this,Int.one_mul];have h1:(2:Int) ^ k≤2 ^ 60:=by
  have:=Nat.pow_le_pow_right (show 0<2 by decide) h
  exact_mod_cast this
 have h2:(0:Int)≤2 ^ k:=by
  have:=Nat.zero_le (2 ^ k)
  exact_mod_cast this
 exact IntWalk.i64_in _ (by omega)
end
theorem fdiv_range {a:Int} (h:0≤a∧a≤65535) (k:Nat):0≤a.fdiv (2 ^ k)∧a.fdiv (2 ^ k)≤65535:=by
 have hp:(0:Int)<2 ^ k:=by
  have:=Nat.pow_pos (n:=k) (show 0<2 by decide)
  exact_mod_cast this
 rw [Int.fdiv_eq_ediv_of_nonneg _ (Int.le_of_lt hp)];refine ⟨Int.ediv_nonneg h.1 (Int.le_of_lt hp),Int.le_trans (Int.ediv_le_self _ h.1) h.2⟩
def bitOn (mask:Int) (k:Nat):Bool:=decide (mask.fdiv (2 ^ k)%2=1)
def pickC (cs:List Count) (mask:Int) (k:Nat):List Count:=((List.range k).filter (bitOn mask)).map fun (i:Nat)=>cs.getD i Count.z
def pickI (mask:Int) (k:Nat):List Int:=((List.range k).filter (bitOn mask)).map fun (i:Nat)=>(i:Int)
theorem filter_range_t {p:Nat→Bool} {k:Nat} (h:p k=true):(List.range (k+1)).filter p=(List.range k).filter p++[k]:=by
 rw [List.range_succ,List.filter_append];simp [h]
theorem filter_range_f {p:Nat→Bool} {k:Nat} (h:p k=false):(List.range (k+1)).filter p=(List.range k).filter p:=by
 rw [List.range_succ,List.filter_append];simp [h]
theorem pickC_t {cs:List Count} {mask:Int} {k:Nat} (h:mask.fdiv (2 ^ k)%2=1):pickC cs mask (k+1)=pickC cs mask k++[cs.getD k Count.z]:=by
 unfold pickC;rw [filter_range_t (by unfold bitOn;rw [decide_eq_true h]),List.map_append];rfl
theorem pickC_f {cs:List Count} {mask:Int} {k:Nat} (h:¬mask.fdiv (2 ^ k)%2=1):pickC cs mask (k+1)=pickC cs mask k:=by
 unfold pickC;rw [filter_range_f (by unfold bitOn;rw [decide_eq_false h])]
theorem pickI_t {mask:Int} {k:Nat} (h:mask.fdiv (2 ^ k)%2=1):pickI mask (k+1)=pickI mask k++[(k:Int)]:=by
 unfold pickI;rw [filter_range_t (by unfold bitOn;rw [decide_eq_true h]),List.map_append];rfl
theorem pickI_f {mask:Int} {k:Nat} (h:¬mask.fdiv (2 ^ k)%2=1):pickI mask (k+1)=pickI mask k:=by
 unfold pickI;rw [filter_range_f (by unfold bitOn;rw [decide_eq_false h])]
theorem pickC_len (cs:List Count) (mask:Int) (k:Nat):(pickC cs mask k).length≤k:=by
 unfold pickC;rw [List.length_map]
 have:=List.length_filter_le (bitOn mask) (List.range k)
 rwa [List.length_range] at this
theorem pickI_len (mask:Int) (k:Nat):(pickI mask k).length≤k:=by
 unfold pickI;rw [List.length_map]
 have:=List.length_filter_le (bitOn mask) (List.range k)
 rwa [List.length_range] at this
def cmpI (a b:Int):Int:=if a<b then-1 else if b<a then 1 else 0
def cmpFrom (a b:List Int):Nat→Nat→Int
 | 0,_=>if (a.length:Int)<b.length then-1 else 0
 | f+1,k=>if (b.length:Int)≤k then 1 else if¬cmpI (a.getD k 0) (b.getD k 0)=0 then cmpI (a.getD k 0) (b.getD k 0) else cmpFrom a b f (k+1)
def cmpL (a b:List Int):Int:=cmpFrom a b a.length 0
theorem cmpFrom_end {a b:List Int} {k:Nat} (hk:¬(k:Int)<a.length):cmpFrom a b (a.length-k) k=if (a.length:Int)<b.length then-1 else 0:=by
 rw [show a.length-k=0 by omega];rfl
theorem cmpFrom_at {a b:List Int} {k:Nat} (hk:k<a.length):cmpFrom a b (a.length-k) k=if (b.length:Int)≤k then 1 else if¬cmpI (a.getD k 0) (b.getD k 0)=0 then cmpI (a.getD k 0) (b.getD k 0) else cmpFrom a b (a.length-(k+1)) (k+1):=by
 rw [show a.length-k=(a.length-(k+1))+1 by omega];rfl
def fewerB (a b:List Int):Bool:=decide ((a.length:Int)<b.length) || (decide ((a.length:Int)=b.length) && decide (cmpL a b<0))
abbrev Sl:=Value×List Int
def Sl.z:Sl:=(.slice none 0 0,[])
def eSl (x:Sl):Array Value:=#[x.1]
def SlAll (h:GH) (l:List Sl):Prop:=∀k,SlIs h (l.getD k Sl.z).1 1 eI (l.getD k Sl.z).2
theorem SlAll.le {h h':GH} {l:List Sl} (x:SlAll h l) (e:h.Le h'):SlAll h' l:=fun k=>(x k).le e
theorem SlAll.nil (h:GH):SlAll h []:=fun k=>by
 rw [getD_out (by simp)];exact SlIs.nil _ _ _
theorem SlAll.snoc {h:GH} {l:List Sl} {x:Sl} (a:SlAll h l) (b:SlIs h x.1 1 eI x.2):SlAll h (l++[x]):=fun k=>by
 rcases Nat.lt_trichotomy k l.length with q | q | q
 ·have e:(l++[x]).getD k Sl.z=l.getD k Sl.z:=by simp [List.getD_eq_getElem?_getD,List.getElem?_append_left q]
  rw [e];exact a k
 ·have e:(l++[x]).getD k Sl.z=x:=by subst q;simp [List.getD_eq_getElem?_getD]
  rw [e];exact b
 ·rw [getD_out (by simp;omega)];exact SlIs.nil _ _ _
def bestStep (x c:List Int):List Int:=if fewerB x c then x else c
def bestL (c:List Int) (l:List (List Int)):List Int:=l.foldl (fun c x=>bestStep x c) c
def lists (l:List Sl):List (List Int):=l.map (·.2)
theorem lists_getD {l:List Sl} {k:Nat} (hk:k<l.length):(lists l).getD k []=(l.getD k Sl.z).2:=by
 unfold lists;rw [getD_at [] (by simpa using hk),getD_at Sl.z hk];simp
theorem bestL_take {c:List Int} {l:List Sl} {k:Nat} (hk:k<l.length):bestL c ((lists l).take (k+1))=bestStep (l.getD k Sl.z).2 (bestL c ((lists l).take k)):=by
 rw [take_getD [] (by simpa [lists] using hk),lists_getD hk];unfold bestL;rw [List.foldl_append];rfl
def someB (d:Int) (gs:List Good) (ms:List Move) (cs:List Count) (mo:Int):Bool:= !(hists d gs ms cs mo).isEmpty
theorem someB_t {d:Int} {gs:List Good} {ms:List Move} {cs:List Count} {mo:Int} (h:hists d gs ms cs mo≠[]):someB d gs ms cs mo=true:=by
 unfold someB;cases hx:hists d gs ms cs mo with
 | nil=>exact absurd hx h
 | cons _ _=>rfl
theorem someB_f {d:Int} {gs:List Good} {ms:List Move} {cs:List Count} {mo:Int} (h:hists d gs ms cs mo=[]):someB d gs ms cs mo=false:=by
 unfold someB;rw [h];rfl
def JFlag {α:Type} (hB:GH) (r:Nat) (T:TypeId) (pre:List α) (Y:Nat→Prop) (h:GH):Prop:=pre=[]∧h r=some (true,.cells #[.bool false] T (0,0))∧hB r=none∧∀b,Y b↔b=r
def SFlag {α:Type} (r:Nat) (T:TypeId) (all:List α) (c:Code) (h:GH):Prop:=c=.ret∧h r=some (true,.cells #[.bool true] T (0,0))∧all≠[]
theorem jflag_prom {α:Type} (hB:GH) (r:Nat) (T:TypeId):Prom hB (JFlag (α:=α) hB r T):=by
 refine ⟨?_,?_⟩
 ·rintro pre Y h b ⟨_,h1,_,h2⟩ hb;rw [h2] at hb;subst hb;exact ⟨_,_,h1,rfl⟩
 ·rintro pre Y h h' ⟨h0,h1,h3,h2⟩ same _;exact ⟨h0,(same r ((h2 r).2 rfl)).trans h1,h3,h2⟩
theorem jflag_start {α:Type} {hB h:GH} {r:Nat} {T:TypeId} (nr:hB r=none) (x:h r=some (true,.cells #[.bool false] T (0,0))):JFlag (α:=α) hB r T [] (fun b=>b=r) h:=⟨rfl,x,nr,fun _=>Iff.rfl⟩
theorem sflag_stable {α:Type} {r:Nat} {T:TypeId} {all:List α}:∀c (h h':GH) l lo,SFlag r T all c h→h l=some (true,.loop lo)→(∀b,b≠l→h' b=h b)→SFlag r T all c h':=by
 rintro c h h' l lo ⟨q1,q2,q3⟩ hl ho;exact ⟨q1,(ho _ fun e=>by subst e;rw [q2] at hl;cases hl).trans q2,q3⟩
end Go.Ns
namespace Go.Ns
open Go.Conc
abbrev Key:=Int×Int×Int
def eKey (a:Key):Value:=.agg #[.int .i64 a.1,.int .i64 a.2.1,.int .i64 a.2.2]
def eNum (n:Int):Value:=.int .i64 n
def KnownOK (ms:List Move) (pasts:List Past) (r:Nat) (h:GH):Prop:=
 ∃M:Key→Option Int,MapIs h r eKey eNum M∧∀a v,M a=some v→v=(stockOf ms (pasts.getD a.1.toNat Past.zero) a.2.1 a.2.2).1
theorem KnownOK.same {ms:List Move} {pasts:List Past} {r:Nat} {h h':GH} (x:KnownOK ms pasts r h) (e:h' r=h r):KnownOK ms pasts r h':=by
 obtain ⟨M,h1,h2⟩:=x;exact ⟨M,h1.le_other e,h2⟩
theorem KnownOK.known {ms:List Move} {pasts:List Past} {r:Nat} {h:GH} (x:KnownOK ms pasts r h):∃o,h r=some (true,o):=by
 obtain ⟨M,⟨es,clk,h1,_⟩,_⟩:=x;exact ⟨_,h1⟩
structure MSt (hB:GH) (ms:List Move) (pasts:List Past) (r:Nat) (h hc:GH):Prop where
 ok:KnownOK ms pasts r hc
 keep:KeepX (fun b=>b=r) h hc
 base:hB.Le hc
def MRes (hB:GH) (ms:List Move) (pasts:List Past) (r:Nat) (h h':GH):Prop:=KnownOK ms pasts r h'∧KeepX (fun b=>b=r) h h'∧hB.Le h'
section
variable {hB h hc h':GH} {ms:List Move} {pasts:List Past} {r:Nat}
theorem MSt.start (x:KnownOK ms pasts r h) (l:hB.Le h):MSt hB ms pasts r h h:=⟨x,KeepX.refl _ _,l⟩
theorem MSt.le (y:MSt hB ms pasts r h hc) (l:hc.Le h'):MSt hB ms pasts r h h':=by
 obtain ⟨o,ho⟩:=y.ok.known;exact ⟨y.ok.same ((l.keep ho rfl).trans ho.symm),y.keep.trans (fun _ q=>.inl q) (l.keepX _),y.base.trans l⟩
theorem MSt.store (y:MSt hB ms pasts r h hc) {q:Nat} (hq:h q=none) (qB:hB q=none) (hn:q≠r) (ho:∀b,b≠q→h' b=hc b):MSt hB ms pasts r h h':=
 ⟨y.ok.same (ho r (Ne.symm hn)),y.keep.store hq ho,y.base.upd qB ho⟩
theorem MSt.app {v v':Value} (y:MSt hB ms pasts r h hc) (g:Grown hc h' v v') (f:Off v r) (hv:∀b,back v=some b→h b=none) (hvB:∀b,back v=some b→hB b=none):MSt hB ms pasts r h h':=by
 obtain ⟨o,ho⟩:=y.ok.known;refine ⟨y.ok.same ((g.1 r _ ho f).trans ho.symm),fun b p o hb hX=>?_,GH.Le.grown g y.base hvB⟩;obtain ⟨o',h1,h2⟩:=y.keep b p o hb hX;exact ⟨o',g.1 b _ h1 (fun e=>by rw [hv b e] at hb;cases hb),h2⟩
theorem MSt.call (y:MSt hB ms pasts r h hc) (m:MRes hB ms pasts r hc h'):MSt hB ms pasts r h h':=⟨m.1,y.keep.trans (fun _ q=>.inl q) m.2.1,m.2.2⟩
theorem MSt.ne (y:MSt hB ms pasts r h hc) {q:Nat} (hq:hc q=none):q≠r:=fun e=>by
 obtain ⟨o,ho⟩:=y.ok.known;rw [e,ho] at hq;cases hq
theorem MSt.res (y:MSt hB ms pasts r h hc):MRes hB ms pasts r h hc:=⟨y.ok,y.keep,y.base⟩
end
theorem Key.eq_iff (a b:Key):(a.1==b.1 && (a.2.1==b.2.1 && (a.2.2==b.2.2 && true)))=decide (a=b):=by
 obtain ⟨a1,a2,a3⟩:=a;obtain ⟨b1,b2,b3⟩:=b;simp only [Bool.and_true,Prod.mk.injEq];by_cases h1:a1=b1 <;> by_cases h2:a2=b2 <;> by_cases h3:a3=b3 <;> simp [h1,h2,h3]
section
variable {P:Program} {E:Env P} {σ:Nat→Value} {ds:List Deferred} {h:GH} {T:(Nat→Value)→List Deferred→GH→Prop}
variable {dst:Option Nat} {ty:TypeId} {pos:String} {af:Array Edge} {gd:Option (Nat×Bool)}
theorem ok_lookKnown {t kt vt:TypeId} {x ix:Operand} {r d:Nat} {ms:List Move} {pasts:List Past} {i g dy:Int} (ht:mapOf P t=some (kt,vt)) (hx:evalS σ x=.map (some r)) (hk:evalS σ ix=.agg #[.int .i64 i,.int .i64 g,.int .i64 dy]) (hm:KnownOK ms pasts r h) (hd:Nat.ble (d+1) 10000=true)
  (hc:∀a,ckP P (d+1) kt (eKey a)=true) (he:∀a b,eqP P (d+1) kt (eKey a) (eKey b)=some (a.1==b.1 && (a.2.1==b.2.1 && (a.2.2==b.2.2 && true)))) (hz:(P.info? vt).bind (·.zero)=some (.int .i64 0))
  (k:∀(n:Int) (is:Bool),(is=true→n=(stockOf ms (pasts.getD i.toNat Past.zero) g dy).1)→T (putS σ dst (.tuple #[.int .i64 n,.bool is])) ds h):OpK E ⟨dst,.lookup t x ix true,ty,pos,af,gd⟩ σ ds h T:=by
 obtain ⟨M,h1,h2⟩:=hm;refine ok_lookup (a:=(i,g,dy)) (z:=.int .i64 0) ht hx hk h1 hd (hc _) (fun b=>by rw [he,Key.eq_iff]) hz ?_;cases hM:M (i,g,dy) with
 | none=>exact k 0 false (by intro e;cases e)
 | some v=>exact k v true fun _=>h2 _ _ hM
theorem ok_putKnown {t kt vt:TypeId} {om ok ox:Operand} {r d:Nat} {ms:List Move} {pasts:List Past} {i g dy n:Int} (ht:mapOf P t=some (kt,vt)) (hm':evalS σ om=.map (some r)) (hk:evalS σ ok=.agg #[.int .i64 i,.int .i64 g,.int .i64 dy]) (hv:evalS σ ox=.int .i64 n) (hm:KnownOK ms pasts r h) (hd:Nat.ble (d+1) 10000=true)
  (hc:∀a,ckP P (d+1) kt (eKey a)=true) (he:∀a b,eqP P (d+1) kt (eKey a) (eKey b)=some (a.1==b.1 && (a.2.1==b.2.1 && (a.2.2==b.2.2 && true)))) (hs:∀a,Instr.sameBits 10000 (eKey a) (eKey a)=true) (hn:n=(stockOf ms (pasts.getD i.toNat Past.zero) g dy).1)
  (k:∀h',KnownOK ms pasts r h'→(∀b,b≠r→h' b=h b)→T (putS σ dst undef) ds h'):OpK E ⟨dst,.mapUpdate t om ok ox,ty,pos,af,gd⟩ σ ds h T:=by
 obtain ⟨M,h1,h2⟩:=hm;refine ok_mapUpdate (a:=(i,g,dy)) (v:=n) (ek:=eKey) (ev:=eNum) ht hm' hk hv h1 hd (hc _) (fun b=>by rw [he,Key.eq_iff]) (hs _) fun h' g1 g2=>k h' ⟨_,g1,fun a v hav=>?_⟩ g2;by_cases e:a=(i,g,dy)
 ·subst e;rw [if_pos rfl] at hav;cases hav;exact hn
 ·rw [if_neg e] at hav;exact h2 a v hav
end
section
variable {hB h hc h':GH} {ms:List Move} {pasts:List Past} {r:Nat}
theorem MSt.nothing (y:MSt hB ms pasts r h hc) {q:Nat} (hq:hc q=none):h q=none:=by
 cases hx:h q with
 | none=>rfl
 | some x=>
  obtain ⟨o',h1,_⟩:=y.keep q x.1 x.2 hx (y.ne hq);rw [h1] at hq;cases hq
theorem KnownOK.le (x:KnownOK ms pasts r h) (l:h.Le h'):KnownOK ms pasts r h':=by
 obtain ⟨o,ho⟩:=x.known;exact x.same ((l.keep ho rfl).trans ho.symm)
theorem KnownOK.empty (x:h r=some (true,.map #[] 0)):KnownOK ms pasts r h:=⟨fun _=>none,MapIs.empty x,fun a v e=>by cases e⟩
theorem KnownOK.neCells {b:Nat} {p:Bool} {c:Array Value} {t:TypeId} {z:Nat×Nat} (x:KnownOK ms pasts r h) (hb:h b=some (p,.cells c t z)):b≠r:=fun e=>by
 obtain ⟨M,⟨es,clk,h1,_⟩,_⟩:=x;rw [e,h1] at hb;cases hb
theorem OwnSl.keepX {α:Type} {X:Nat→Prop} {h0:GH} {v:Value} {t:TypeId} {n:Nat} {enc:α→Array Value} {xs:List α} (x:OwnSl h0 h v t n enc xs) (k:KeepX X h h') (hS:∀b,back v=some b→¬X b):OwnSl h0 h' v t n enc xs:=by
 rcases x with x | ⟨b,cap,c,rfl,h2,h3,h4⟩
 ·exact .inl x
 ·exact .inr ⟨b,cap,c,rfl,h2,k.box h3 (hS b rfl) rfl,h4⟩
theorem SlIs.slDel {α:Type} {v:Value} {n:Nat} {enc:α→Array Value} {xs:List α} (x:SlIs h v n enc xs) {p:Bool} {es:Array MapEntry} {clk:Nat} (hr:h r=some (p,.map es clk)):SlIs (h.del r) v n enc xs:=by
 obtain ⟨a,cap,hv,hc,hm,he⟩:=x;refine ⟨a,cap,hv,hc,hm,fun i hi=>?_⟩;obtain ⟨b,off,h1,h2⟩:=he i hi;refine ⟨b,off,h1,h2.del fun e=>?_⟩;obtain ⟨p',c,t,f,hb,_⟩:=h2;rw [e,hr] at hb;cases hb
theorem KnownOK.slDel {α:Type} (k:KnownOK ms pasts r h) {v:Value} {n:Nat} {enc:α→Array Value} {xs:List α} (x:SlIs h v n enc xs):SlIs (h.del r) v n enc xs:=by
 obtain ⟨M,⟨es,clk,h1,_⟩,_⟩:=k;exact x.slDel h1
end
section
variable {P:Program} {E:Env P} {σ:Nat→Value} {ds:List Deferred} {h:GH}
end
theorem sameBits_key (a:Key):Instr.sameBits 10000 (eKey a) (eKey a)=true:=by
 have hi:∀(n:Nat) (x:Int),Instr.sameBits n (.int .i64 x) (.int .i64 x)=true:=fun n x=>by
  cases n <;> (unfold Instr.sameBits;simp)
 unfold eKey;show Instr.sameBits (9999+1) _ _=true;unfold Instr.sameBits;simp only [List.zip_cons_cons,List.zip_nil_left,List.all_cons,List.all_nil,hi];simp
def lookBell (d m:Int) (gs:List Good) (ms:List Move) (cs:List Count) (o:List Int):Int:=
 if¬bookBell d m gs ms cs=0 then bookBell d m gs ms cs else if¬firstB (fun k=>o.getD k 0) 0 o.length=0 then firstB (fun k=>o.getD k 0) 0 o.length else if (hists d gs ms cs m).length=0 then 9 else 0
section
variable {d m:Int} {gs:List Good} {ms:List Move} {cs:List Count} {o:List Int}
theorem lookBell_1 (h:¬bookBell d m gs ms cs=0):lookBell d m gs ms cs o=bookBell d m gs ms cs:=by unfold lookBell;rw [if_pos h]
theorem lookBell_2 (h:¬¬bookBell d m gs ms cs=0) {k:Nat} (hs:∀j,j<k→o.getD j 0=0) (hk:k<o.length) (h2:¬o.getD k 0=0):lookBell d m gs ms cs o=o.getD k 0:=by
 unfold lookBell;rw [if_neg h,firstB_hit0 (f:=fun k=>o.getD k 0) hs hk rfl h2,if_pos h2]
theorem lookBell_3 (h:¬¬bookBell d m gs ms cs=0) {k:Nat} (hs:∀j,j<k→o.getD j 0=0) (hk:o.length≤k) (h2:(hists d gs ms cs m).length=0):lookBell d m gs ms cs o=9:=by
 unfold lookBell;rw [if_neg h,firstB_miss0 (f:=fun k=>o.getD k 0) hs hk,if_neg (by simp),if_pos h2]
theorem lookBell_4 (h:¬¬bookBell d m gs ms cs=0) {k:Nat} (hs:∀j,j<k→o.getD j 0=0) (hk:o.length≤k) (h2:¬(hists d gs ms cs m).length=0):lookBell d m gs ms cs o=0:=by
 unfold lookBell;rw [if_neg h,firstB_miss0 (f:=fun k=>o.getD k 0) hs hk,if_neg (by simp),if_neg h2]
theorem lookBell_ok (h:lookBell d m gs ms cs o=0):BookOK d m gs ms cs∧(∀k,k<o.length→o.getD k 0=0)∧0<(hists d gs ms cs m).length:=by
 unfold lookBell at h;split at h <;> first | (rename_i q;exact absurd h q) | skip
 split at h <;> first | (rename_i q;exact absurd h q) | skip
 split at h <;> first | (cases h;done) | skip
 rename_i a b c
 exact ⟨bookOK (Decidable.not_not.1 a),fun k hk=>firstB_zero (Decidable.not_not.1 b) k (Nat.zero_le _) (by omega),by omega⟩
end
end Go.Ns
namespace Go.Ns
open Go.Conc Go.Sort
def rowC (rest:List Value) (d:Array Int):Array Value:=(d.toList.map (fun x=>Value.int .i64 x)++rest).toArray
theorem rowC_size (rest:List Value) (d:Array Int):(rowC rest d).size=d.size+rest.length:=by simp [rowC]
theorem rowC_get {rest:List Value} {d:Array Int} {i:Nat} (h:i<d.size):(rowC rest d)[0+i*1]? =some (.int .i64 d[i]!):=by
 have h1:i<(d.toList.map (fun x=>Value.int .i64 x)).length:=by simpa using h
 rw [Nat.zero_add,Nat.mul_one];unfold rowC;rw [List.getElem?_toArray,List.getElem?_append_left h1,List.getElem?_map];simp [h,getElem!_pos]
theorem rowC_set {rest:List Value} {d:Array Int} {i:Nat} {v:Int} (h:i<d.size):putCells (rowC rest d) (0+i*1) [.int .i64 v]=rowC rest (d.setIfInBounds i v):=by
 rw [Nat.zero_add,Nat.mul_one];show (rowC rest d).setIfInBounds i (.int .i64 v)=_;unfold rowC;apply Array.toList_inj.1;have h1:i<(d.toList.map (fun x=>Value.int .i64 x)).length:=by simpa using h
 rw [Array.toList_setIfInBounds];simp only [];rw [List.set_append_left _ _ h1,Array.toList_setIfInBounds,List.map_set]
structure RowSt (b:Nat) (h hc:GH):Prop where
 keep:KeepX (fun x=>x=b) h hc
 dom:∃o,hc b=some o
section
variable {b:Nat} {h hc h':GH}
theorem RowSt.start (x:∃o,h b=some o):RowSt b h h:=⟨KeepX.refl _ _,x⟩
theorem RowSt.le (y:RowSt b h hc) (l:hc.Le h'):RowSt b h h':=⟨y.keep.trans (fun _ q=>.inl q) (l.keepX _),l.someOf y.dom⟩
theorem RowSt.put (y:RowSt b h hc) (ho:∀x,x≠b→h' x=hc x) (x:∃o,h' b=some o):RowSt b h h':=⟨y.keep.store' (.inl rfl) ho,x⟩
theorem RowSt.ne (y:RowSt b h hc) {q:Nat} (hq:hc q=none):q≠b:=fun e=>by
 obtain ⟨o,ho⟩:=y.dom;rw [e,ho] at hq;cases hq
theorem RowSt.nothing (y:RowSt b h hc) {q:Nat} (hq:hc q=none):h q=none:=by
 cases hx:h q with
 | none=>rfl
 | some x=>
  obtain ⟨o',h1,_⟩:=y.keep q x.1 x.2 hx (y.ne hq);rw [h1] at hq;cases hq
theorem RowSt.store (y:RowSt b h hc) {q:Nat} (hq:h q=none) (hn:q≠b) (ho:∀x,x≠q→h' x=hc x):RowSt b h h':=⟨y.keep.store hq ho,by rw [ho b (Ne.symm hn)];exact y.dom⟩
theorem RowSt.call (y:RowSt b h hc) (k:KeepX (fun x=>x=b) hc h') (x:∃o,h' b=some o):RowSt b h h':=⟨y.keep.trans (fun _ q=>.inl q) k,x⟩
end
def zeroFrom (d:Array Int) (off:Nat):Array Int:=(d.toList.take off++List.replicate (d.size-off) 0).toArray
theorem zeroFrom_size (d:Array Int) (off:Nat):(zeroFrom d off).size=d.size:=by simp [zeroFrom];omega
theorem ins_round {a j:Nat} {dd:Array Int} (h:(a:Int)<(j:Int)∧dd[j]! <dd[((j:Int)-1).toNat]!) :
  insInner ltInt a j dd=insInner ltInt a (j-1) ((dd.setIfInBounds j dd[((j:Int)-1).toNat]!).setIfInBounds ((j:Int)-1).toNat dd[j]!):=by
 obtain ⟨h1,h2⟩:=h;cases j with
 | zero=>omega
 | succ j=>
  have e:(((j+1:Nat):Int)-1).toNat=j:=by omega
  rw [e] at h2 ⊢
  conv=>lhs;unfold insInner
  rw [if_pos (by unfold ltInt;simp;exact ⟨by omega,h2⟩)];rfl
theorem ins_stop {a j:Nat} {dd:Array Int} (h:¬((a:Int)<(j:Int)∧dd[j]! <dd[((j:Int)-1).toNat]!)):insInner ltInt a j dd=dd:=by
 cases j with
 | zero=>rfl
 | succ j=>
  have e:(((j+1:Nat):Int)-1).toNat=j:=by omega
  rw [e] at h;unfold insInner;rw [if_neg (by unfold ltInt;simp;intro q;exact Int.not_lt.1 fun r=>h ⟨by omega,r⟩)]
theorem insOuter_next {a b i:Nat} {dd:Array Int} (h:i<b):insOuter ltInt a b i dd=insOuter ltInt a b (i+1) (insInner ltInt a i dd):=by
 conv=>lhs;unfold insOuter
 rw [if_pos h]
theorem insOuter_end {a b i:Nat} {dd:Array Int} (h:¬(i:Int)<b):insOuter ltInt a b i dd=dd:=by
 unfold insOuter;rw [if_neg (by omega)]
def sortI (l:List Int):List Int:=(Go.Sort.sort ltInt l.toArray).toList
theorem shr_u64 {a r:Int} {k:Nat} (h:k≤63) (e:a / 2 ^ k=r):a.fdiv (2 ^ (min ((k:Int)).toNat IntKind.u64.bits))=r:=by
 have:min ((k:Int)).toNat IntKind.u64.bits=k:=by
  show min ((k:Int)).toNat 64=k;omega
 have hp:(0:Int)≤2 ^ k:=by
  have:=Nat.zero_le (2 ^ k)
  exact_mod_cast this
 rw [this,Int.fdiv_eq_ediv_of_nonneg _ hp,e]
section
variable {P:Program} {E:Env P} {σ:Nat→Value} {ds:List Deferred} {h:GH} {T:(Nat→Value)→List Deferred→GH→Prop}
variable {dst:Option Nat} {ty:TypeId} {pos:String} {af:Array Edge} {gd:Option (Nat×Bool)}
end
theorem flat_eI (l:List Int):flat eI l=l.map (fun x=>Value.int .i64 x):=by
 induction l with
 | nil=>rfl
 | cons x l ih=>show (eI x).toList++flat eI l=_;rw [ih];rfl
theorem OwnSl.row {h0 h:GH} {v:Value} {xs:List Int} (x:OwnSl h0 h v 3 1 eI xs) (hne:xs≠[]) :
  ∃b cap rest,v=.slice (some ⟨b,0,none⟩) xs.toArray.size cap∧h b=some (true,.cells (rowC rest xs.toArray) 3 (0,0)):=by
 rcases x with ⟨_,e⟩ | ⟨b,cap,c,rfl,h1,h2,h3,h4,h5,h6,h7⟩
 ·exact absurd e hne
 ·refine ⟨b,cap,c.toList.drop xs.length,by simp,?_⟩;have e:c=rowC (c.toList.drop xs.length) xs.toArray:=by
   apply Array.toList_inj.1;unfold rowC;simp only [];rw [←flat_eI,←h6,Nat.mul_one,List.take_append_drop]
  rw [←e];exact h2
theorem OwnSl.ofRow {h0 h h':GH} {b cap:Nat} {rest:List Value} {xs:List Int} {D:Array Int} (x:OwnSl h0 h (.slice (some ⟨b,0,none⟩) xs.toArray.size cap) 3 1 eI xs) (hne:xs≠[]) (hD:D.size=xs.length) (hb:h b=some (true,.cells (rowC rest xs.toArray) 3 (0,0))) (hb':h' b=some (true,.cells (rowC rest D) 3 (0,0))) :
  OwnSl h0 h' (.slice (some ⟨b,0,none⟩) xs.toArray.size cap) 3 1 eI D.toList:=by
 rcases x with ⟨e,_⟩ | ⟨b1,cap1,c,e,h1,h2,h3,h4,h5,h6,h7⟩
 ·cases e
 ·simp only [Value.slice.injEq,Option.some.injEq,Addr.mk.injEq] at e;obtain ⟨⟨rfl,_⟩,_,rfl⟩:=e;rw [hb] at h2;simp only [Option.some.injEq,Prod.mk.injEq,Obj.cells.injEq,true_and,and_true] at h2;subst h2;have hDl:D.toList.length=xs.length:=by rw [Array.length_toList];exact hD
  refine .inr ⟨b,cap,_,by rw [hDl];simp,h1,hb',?_,by omega,by omega,?_,fun y _=>rfl⟩
  ·rw [rowC_size] at h3 ⊢;rw [hD];simpa using h3
  ·unfold rowC;simp only [Nat.mul_one];rw [flat_eI,←List.length_map (f:=fun x=>Value.int .i64 x),List.take_append_of_le_length (Nat.le_refl _),List.take_length]
theorem KeepX.grownSame {h h':GH} {b cap n:Nat} (k:KeepX (fun x=>x=b) h h'):Grown h h' (.slice (some ⟨b,0,none⟩) n cap) (.slice (some ⟨b,0,none⟩) n cap):=
 ⟨fun r o hr hn=>(by
  obtain ⟨o',h1,rfl | ⟨h2,_⟩⟩:=k r o.1 o.2 hr (fun e=>hn (by rw [e];rfl))
  ·exact h1
  ·cases h2),.inl rfl⟩
section
variable {P:Program} {E:Env P} {σ:Nat→Value} {ds:List Deferred} {h:GH} {T:(Nat→Value)→List Deferred→GH→Prop}
variable {dst:Option Nat} {ty:TypeId} {pos:String} {af:Array Edge} {gd:Option (Nat×Bool)}
theorem ok_sliceTo {t:TypeId} {x o:Operand} {b len cap hi:Nat} (ht:eszOf P t=some 1) (hc:len≤cap) (hx:evalS σ x=.slice (some ⟨b,0,none⟩) len cap) (ho:∃kd,evalS σ o=.int kd hi) (h2:hi≤len) (k:T (putS σ dst (.slice (some ⟨b,0,none⟩) hi cap)) ds h) :
  OpK E ⟨dst,.slice t x none (some o) none,ty,pos,af,gd⟩ σ ds h T:=by
 refine ok_sliceE (olo:=none) (ohi:=some o) 0 hi ht hc hx rfl ho (Nat.zero_le _) h2 ?_;have e:(if cap=0 then (some ⟨b,0,none⟩:Option Addr) else (some ⟨b,0,none⟩:Option Addr).map (·.add (0*1)))=some ⟨b,0,none⟩:=by
  split
  ·rfl
  ·simp [add_mk]
 rw [e];exact k
theorem ok_sliceFrom {t:TypeId} {x o:Operand} {b len cap lo:Nat} (ht:eszOf P t=some 1) (hc:len≤cap) (hx:evalS σ x=.slice (some ⟨b,0,none⟩) len cap) (ho:∃kd,evalS σ o=.int kd lo) (h2:lo<len) (k:T (putS σ dst (.slice (some ⟨b,lo,none⟩) (len-lo) (cap-lo))) ds h) :
  OpK E ⟨dst,.slice t x (some o) none none,ty,pos,af,gd⟩ σ ds h T:=by
 refine ok_sliceE (olo:=some o) (ohi:=none) lo len ht hc hx ho rfl (Nat.le_of_lt h2) (Nat.le_refl _) ?_;have e:(if cap=lo then (some ⟨b,0,none⟩:Option Addr) else (some ⟨b,0,none⟩:Option Addr).map (·.add (lo*1)))=some ⟨b,lo,none⟩:=by
  rw [if_neg (by omega)];simp [add_mk]
 rw [e];exact k
theorem ok_clearRow {t e:TypeId} {x:Operand} {b off len cap:Nat} {rest:List Value} {d:Array Int} {z:Nat} (ht:selemOf P t=some (1,#[.int .i64 0],e)) (hx:evalS σ x=.slice (some ⟨b,off,none⟩) len cap) (hb:h b=some (true,.cells (rowC rest d) z (0,0))) (hn:off+len=d.size) (hl:0<len)
  (k:∀h',h' b=some (true,.cells (rowC rest (zeroFrom d off)) z (0,0))→(∀x,x≠b→h' x=h x)→T (putS σ dst (.tuple #[])) ds h') :
  OpK E ⟨dst,.call ⟨.builtin .clear,#[x],#[t]⟩,ty,pos,af,gd⟩ σ ds h T:=by
 refine ok_builtin (vs:=#[.slice (some ⟨b,off,none⟩) len cap]) (s:=Builtin.clear_ #[t] ty #[.slice (some ⟨b,off,none⟩) len cap]) (by simp [hx]) (fun _=>rfl) ?_;unfold selemOf at ht;cases hu:P.underlying t with
 | none=>rw [hu] at ht;cases ht
 | some dd=>
 rw [hu] at ht;cases dd <;> first | (cases ht;done) | skip
 rename_i el
 simp only at ht;cases hty:tyOf P el with
 | none=>rw [hty] at ht;cases ht
 | some g=>
 cases hz:zeroOf P el with
 | none=>rw [hty,hz] at ht;cases ht
 | some z'=>
 rw [hty,hz] at ht;simp only [Option.some.injEq,Prod.mk.injEq] at ht;obtain ⟨_,rfl,rfl⟩:=ht;unfold Builtin.clear_;simp only [List.getElem?_toArray,List.getElem?_cons_zero];refine gh_bind _ _ (gh_underlying hu ?_);obtain ⟨len,rfl⟩:∃m,len=m+1:=⟨len-1,by omega⟩;have hzero:∀{Q:Value→GH→Prop} {h:GH},(∀v,v.cells=#[.int .i64 0]→Q v h)→(zeroValue el).gh P h Q:=fun {Q h} q=>by
  unfold zeroOf at hz;unfold zeroValue;cases hi:P.info? el with
  | none=>rw [hi] at hz;cases hz
  | some i=>
   rw [hi] at hz;simp only [Option.map_eq_some_iff] at hz;obtain ⟨v,hv,e⟩:=hz;refine gh_bind _ _ (gh_typeInfo hi ?_);rw [hv];exact q v e
 refine gh_bind _ _ (hzero fun vz hvz=>?_);rw [hvz];have hcells:(Builtin.zeroCells #[.int .i64 0] (len+1)).toList=List.replicate (len+1) (.int .i64 0):=by
  unfold Builtin.zeroCells;apply List.ext_getElem
  ·simp
  ·intro i h1 h2;simp [Nat.mod_one]
 rw [hcells];have hsz:d.size=d.toList.length:=by simp
 refine gh_bind _ _ (gh_storeCells (a:=⟨b,off,none⟩) rfl _ 0 (rowC rest d) h ?_ hb ?_ ?_)
 ·intro y hy;rw [List.eq_of_mem_replicate hy];rfl
 ·rw [rowC_size,List.length_replicate];show off+0+(len+1)≤_;omega
 ·refine gh_pure (k _ ?_ fun x hx=>GH.set_ne _ _ _ hx);have e:putCells (rowC rest d) (off+0) (List.replicate (len+1) (.int .i64 0))=rowC rest (zeroFrom d off):=by
   apply Array.toList_inj.1;rw [putCells_toList _ _ _ (by rw [rowC_size,List.length_replicate];omega)];unfold rowC zeroFrom;simp only [List.length_replicate,Nat.add_zero,List.map_append,List.map_take,List.map_replicate];have h1:off≤(d.toList.map (fun x=>Value.int .i64 x)).length:=by simp;omega
   rw [List.take_append_of_le_length h1,show d.size-off=len+1 by omega];congr 1;rw [show off+(len+1)=(d.toList.map (fun x=>Value.int .i64 x)).length by simp;omega,List.drop_left]
  rw [←e];exact GH.set_same _ _ _ _
end
def dstep (acc:List Int) (x:Int):List Int:=if acc.getLast? =some x then acc else acc++[x]
def dedupI (l:List Int):List Int:=l.foldl dstep []
theorem dstep_last (acc:List Int) (x:Int):(dstep acc x).getLast? =some x:=by
 unfold dstep;split
 ·assumption
 ·simp
theorem dedup_succ {d:Array Int} {j:Nat} (hj:j<d.size):dedupI (d.toList.take (j+1))=dstep (dedupI (d.toList.take j)) d[j]! :=by
 have e:d.toList.take (j+1)=d.toList.take j++[d[j]!]:=by
  rw [List.take_succ_eq_append_getElem (by simpa using hj)];simp [getElem!_pos,hj]
 rw [e];unfold dedupI;rw [List.foldl_append];rfl
theorem dedup_last {d:Array Int} {j:Nat} (hj:j<d.size):(dedupI (d.toList.take (j+1))).getLast? =some d[j]! :=by
 rw [dedup_succ hj];exact dstep_last _ _
theorem rowC_getO {rest:List Value} {d:Array Int} {o i:Nat} (h:o+i<d.size):(rowC rest d)[o+i*1]? =some (.int .i64 d[o+i]!):=by
 have:=rowC_get (rest:=rest) h
 rw [Nat.zero_add,Nat.mul_one] at this;rw [Nat.mul_one];exact this
theorem take_succ_arr {d:Array Int} {j:Nat} (hj:j<d.size):d.toList.take (j+1)=d.toList.take j++[d[j]!]:=by
 rw [List.take_succ_eq_append_getElem (by simpa using hj)];simp [getElem!_pos,hj]
theorem dedup_prev {d:Array Int} {j:Nat} (h1:1≤j) (hj:j≤d.size):(dedupI (d.toList.take j)).getLast? =some d[j-1]! :=by
 obtain ⟨i,rfl⟩:∃i,j=i+1:=⟨j-1,by omega⟩;exact dedup_last (by omega)
theorem compact_next {d:Array Int} {k:Nat} (h1:1≤k) (hk:k<d.size) (h:¬d[k]! =d[((k:Int)-1).toNat]!) (hs:dedupI (d.toList.take k)=d.toList.take k):dedupI (d.toList.take (k+1))=d.toList.take (k+1):=by
 rw [dedup_succ hk,take_succ_arr hk];unfold dstep;rw [dedup_prev h1 (by omega),if_neg (by rw [show ((k:Int)-1).toNat=k-1 by omega] at h;simpa using fun e=>h e.symm),hs]
theorem compact_dup0 {d:Array Int} {k:Nat} (h1:1≤k) (hk:k<d.size) (h:d[k]! =d[((k:Int)-1).toNat]!) (hs:dedupI (d.toList.take k)=d.toList.take k):d.toList.take k=dedupI (d.toList.take (k+1)):=by
 rw [dedup_succ hk];unfold dstep;rw [dedup_prev h1 (by omega),if_pos (by rw [show ((k:Int)-1).toNat=k-1 by omega] at h;rw [h]),hs]
theorem compact_ne {d dd:Array Int} {k q kk:Nat} (hq:1≤q∧k+q<d.size) (hkk:k≤kk∧kk+1≤k+q) (hsz:dd.size=d.size) (hd:∀j,kk≤j→dd[j]! =d[j]!) (hdd:dd.toList.take kk=dedupI (d.toList.take (k+q))) (h:¬dd[k+q]! =dd[k+((q:Int)-1).toNat]!) :
  (dd.setIfInBounds kk dd[k+q]!).toList.take (kk+1)=dedupI (d.toList.take (k+(q+1))):=by
 have e1:((q:Int)-1).toNat=q-1:=by omega
 rw [e1,hd _ (by omega),hd _ (by omega)] at h;rw [show k+(q+1)=(k+q)+1 by omega,dedup_succ hq.2];unfold dstep;rw [dedup_prev (by omega) (by omega),if_neg (by rw [show k+q-1=k+(q-1) by omega];simpa using fun e=>h e.symm),←hdd,hd _ (by omega),Array.toList_setIfInBounds];rw [List.take_succ_eq_append_getElem (by simp;omega),List.take_set_of_le (by omega)];simp
theorem compact_eq {d dd:Array Int} {k q kk:Nat} (hq:1≤q∧k+q<d.size) (hkk:k≤kk∧kk+1≤k+q) (hd:∀j,kk≤j→dd[j]! =d[j]!) (hdd:dd.toList.take kk=dedupI (d.toList.take (k+q))) (h:dd[k+q]! =dd[k+((q:Int)-1).toNat]!) :
  dd.toList.take kk=dedupI (d.toList.take (k+(q+1))):=by
 have e1:((q:Int)-1).toNat=q-1:=by omega
 rw [e1,hd _ (by omega),hd _ (by omega)] at h;rw [show k+(q+1)=(k+q)+1 by omega,dedup_succ hq.2];unfold dstep;rw [dedup_prev (by omega) (by omega),if_pos (by rw [show k+q-1=k+(q-1) by omega,h]),hdd]
theorem set_other {d dd:Array Int} {kk:Nat} {x:Int} (hd:∀j,kk≤j→dd[j]! =d[j]!):∀j,kk+1≤j→(dd.setIfInBounds kk x)[j]! =d[j]! :=fun j hj=>by
 rw [←hd j (by omega)];simp only [getElem!_def,Array.getElem?_setIfInBounds_ne (show kk≠j by omega)]
theorem zeroFrom_take {d:Array Int} {k:Nat} (h:k≤d.size):(zeroFrom d k).toList.take k=d.toList.take k:=by
 unfold zeroFrom;simp only [];rw [List.take_append_of_le_length (by simp;omega),List.take_take];simp
theorem compact_one {d:Array Int} (h:2≤d.size):dedupI (d.toList.take 1)=d.toList.take 1:=by
 have e:=take_succ_arr (d:=d) (j:=0) (by omega);rw [Nat.zero_add] at e;rw [e];rfl
theorem compact_all {d:Array Int} {k:Nat} (hs:dedupI (d.toList.take k)=d.toList.take k) (h1:k≤d.size) (h2:d.size≤k):d.toList.take d.size=dedupI d.toList:=by
 rw [show k=d.toList.length by simp;omega,List.take_length] at hs;rw [hs,←Array.length_toList,List.take_length]
theorem compact_few {d:Array Int} (h:d.size<2):d.toList.take d.size=dedupI d.toList:=by
 rw [←Array.length_toList,List.take_length]
 have:d.toList.length<2:=by simpa using h
 match hd:d.toList,this with
 | [],_=>rfl
 | [x],_=>rfl
 | _ ::_ ::_,h=>simp at h;omega
theorem sortI_eq (l:List Int):sortI l=l.mergeSort (fun x y=>decide (x≤y)):=sortInt l
theorem sortI_length (l:List Int):(sortI l).length=l.length:=by rw [sortI_eq,List.length_mergeSort]
theorem sortI_ne {l:List Int} (h:l≠[]):sortI l≠[]:=fun e=>by
 have:=congrArg List.length e
 rw [sortI_length] at this;exact h (List.length_eq_zero_iff.1 this)
end Go.Ns
namespace Go.Ns
open Go.Conc Go.Sort
theorem swoInt:SWO ltInt:=⟨fun x=>by unfold ltInt;simp,fun x y z=>by unfold ltInt;simp;omega,fun x y z=>by unfold ltInt;simp;omega⟩
theorem perm_swp {d dd:Array Int} {a b i j:Nat} (h:PermIn a b d dd) (hi:a≤i∧i<b) (hj:a≤j∧j<b) (hb:b≤d.size):PermIn a b d ((dd.setIfInBounds i dd[j]!).setIfInBounds j dd[i]!):=
 permIn_trans _ _ _ a b h (swp_permIn dd a b i j hi.1 hi.2 hj.1 hj.2 (by rw [h.1];exact hb))
theorem sift_end {hi first root:Nat} {dd:Array Int} (h:hi≤2*root+1):siftDown ltInt hi first root dd=dd:=by
 unfold siftDown;rw [dif_pos h]
theorem sift_r {hi first root:Nat} {dd:Array Int} (h:¬hi≤2*root+1) (h1:2*root+1+1<hi) (h1':dd[first+(2*root+1)]! <dd[first+(2*root+1)+1]!) (h2:dd[first+root]! <dd[first+(2*root+1+1)]!) :
  siftDown ltInt hi first root dd=siftDown ltInt hi first (2*root+1+1) (swp dd (first+root) (first+(2*root+1+1))):=by
 have h2':dd[first+root]! <dd[first+(2*root+2)]! :=h2
 conv=>lhs;unfold siftDown
 rw [dif_neg h,if_pos (by unfold ltInt;simpa using ⟨h1,h1'⟩),if_neg (by unfold ltInt;simpa using h2'),dif_pos (by omega)]
theorem sift_r0 {hi first root:Nat} {dd:Array Int} (h:¬hi≤2*root+1) (h1:2*root+1+1<hi) (h1':dd[first+(2*root+1)]! <dd[first+(2*root+1)+1]!) (h2:¬dd[first+root]! <dd[first+(2*root+1+1)]!) :
  siftDown ltInt hi first root dd=dd:=by
 have h2':¬dd[first+root]! <dd[first+(2*root+2)]! :=h2;unfold siftDown;rw [dif_neg h,if_pos (by unfold ltInt;simpa using ⟨h1,h1'⟩),if_pos (by unfold ltInt;simpa using h2')]
theorem sift_l {hi first root:Nat} {dd:Array Int} (h:¬hi≤2*root+1) (h1:¬(2*root+1+1<hi∧dd[first+(2*root+1)]! <dd[first+(2*root+1)+1]!)) (h2:dd[first+root]! <dd[first+(2*root+1)]!) :
  siftDown ltInt hi first root dd=siftDown ltInt hi first (2*root+1) (swp dd (first+root) (first+(2*root+1))):=by
 conv=>lhs;unfold siftDown
 rw [dif_neg h,if_neg (by unfold ltInt;simpa using h1),if_neg (by unfold ltInt;simpa using h2)]
theorem sift_l0 {hi first root:Nat} {dd:Array Int} (h:¬hi≤2*root+1) (h1:¬(2*root+1+1<hi∧dd[first+(2*root+1)]! <dd[first+(2*root+1)+1]!)) (h2:¬dd[first+root]! <dd[first+(2*root+1)]!) :
  siftDown ltInt hi first root dd=dd:=by
 unfold siftDown;rw [dif_neg h,if_neg (by unfold ltInt;simpa using h1),if_pos (by unfold ltInt;simpa using h2)]
theorem sift_size (hi first root:Nat) (d:Array Int):(siftDown ltInt hi first root d).size=d.size:=by
 fun_induction siftDown ltInt hi first root d <;> simp_all [swp]
theorem heapB_next {z a k:Nat} {dd:Array Int} (hk:(0:Int)≤(k:Int)-1):heapBuild ltInt (z-a) a k dd=heapBuild ltInt (z-a) a (k-1) (siftDown ltInt ((z:Int)-(a:Int)).toNat a ((k:Int)-1).toNat dd):=by
 obtain ⟨q,rfl⟩:∃q,k=q+1:=⟨k-1,by omega⟩;rw [show ((z:Int)-(a:Int)).toNat=z-a by omega,show (((q+1:Nat):Int)-1).toNat=q by omega];rfl
theorem heapB_end {z a k:Nat} {dd:Array Int} (hk:¬(0:Int)≤(k:Int)-1):heapBuild ltInt (z-a) a k dd=dd:=by
 obtain rfl:k=0:=by omega
 rfl
theorem heapP_next {a k:Nat} {dd:Array Int} (hk:(0:Int)≤(k:Int)-1):heapPop ltInt a k dd=heapPop ltInt a (k-1) (siftDown ltInt ((k:Int)-1).toNat a (0:Int).toNat ((dd.setIfInBounds a dd[((a:Int)+((k:Int)-1)).toNat]!).setIfInBounds ((a:Int)+((k:Int)-1)).toNat dd[a]!)):=by
 obtain ⟨q,rfl⟩:∃q,k=q+1:=⟨k-1,by omega⟩;rw [show ((a:Int)+(((q+1:Nat):Int)-1)).toNat=a+q by omega,show (((q+1:Nat):Int)-1).toNat=q by omega];rfl
theorem heapP_end {a k:Nat} {dd:Array Int} (hk:¬(0:Int)≤(k:Int)-1):heapPop ltInt a k dd=dd:=by
 obtain rfl:k=0:=by omega
 rfl
theorem row_call {P:Program} {W:Wk P} {f:FuncId} {b cap m n:Nat} {as:List Value} {h:GH} {R:Value→GH→Prop} (e:m=n) (x:CallK W f (Value.slice (some ⟨b,0,none⟩) m cap ::as).toArray h R):CallK W f (Value.slice (some ⟨b,0,none⟩) n cap ::as).toArray h R:=e▸x
def upL (dd:Array Int) (a j i:Nat):Nat:=scanUp (fun x=>ltInt x dd[a]!) dd j i
def dnL (dd:Array Int) (a i j:Nat):Nat:=scanDown (fun x=> !ltInt x dd[a]!) dd i j
def upE (dd:Array Int) (a j i:Nat):Nat:=scanUp (fun x=> !ltInt dd[a]! x) dd j i
def dnE (dd:Array Int) (a i j:Nat):Nat:=scanDown (fun x=>ltInt dd[a]! x) dd i j
theorem scanUp_on {p:Int→Bool} {dd:Array Int} {j i:Nat} (h1:i≤j) (h2:p dd[i]! =true):scanUp p dd j i=scanUp p dd j (i+1):=by
 conv=>lhs;unfold scanUp
 rw [if_pos (by simp [h1,h2])]
theorem scanUp_off {p:Int→Bool} {dd:Array Int} {j i:Nat} (h:¬(i≤j∧p dd[i]! =true)):scanUp p dd j i=i:=by
 unfold scanUp;rw [if_neg (by simpa using h)]
theorem scanDown_on {p:Int→Bool} {dd:Array Int} {i j:Nat} (hi:1≤i) (h1:i≤j) (h2:p dd[j]! =true):scanDown p dd i j=scanDown p dd i (j-1):=by
 obtain ⟨q,rfl⟩:∃q,j=q+1:=⟨j-1,by omega⟩
 conv=>lhs;unfold scanDown
 rw [if_pos (by simp [h1,h2])];rfl
theorem scanDown_off {p:Int→Bool} {dd:Array Int} {i j:Nat} (h:¬(i≤j∧p dd[j]! =true)):scanDown p dd i j=j:=by
 cases j with
 | zero=>rfl
 | succ q=>unfold scanDown;rw [if_neg (by simpa using h)]
section
variable {d dd:Array Int} {a z p i j i0 j0:Nat}
theorem upL_next {J:Int} (h:(i:Int)≤J∧dd[i]! <dd[a]!) (hJ:J=(j:Int)):upL dd a j i=upL dd a j (i+1):=scanUp_on (by omega) (decide_eq_true h.2)
theorem upL_end {J:Int} (h:¬((i:Int)≤J∧dd[i]! <dd[a]!)) (hJ:J=(j:Int)):upL dd a j i=i:=scanUp_off fun q=>h ⟨by omega,of_decide_eq_true q.2⟩
theorem dnL_next (hi:1≤i) (h:(i:Int)≤(j:Int)∧¬dd[j]! <dd[a]!):dnL dd a i j=dnL dd a i (j-1):=scanDown_on hi (by omega) (by unfold ltInt;simpa using h.2)
theorem dnL_end (h:¬((i:Int)≤(j:Int)∧¬dd[j]! <dd[a]!)):dnL dd a i j=j:=scanDown_off fun q=>h ⟨by omega,by have:=q.2;unfold ltInt at this;simpa using this⟩
theorem upE_next {J:Int} (h:(i:Int)≤J∧¬dd[a]! <dd[i]!) (hJ:J=(j:Int)):upE dd a j i=upE dd a j (i+1):=scanUp_on (by omega) (by unfold ltInt;simpa using h.2)
theorem upE_end {J:Int} (h:¬((i:Int)≤J∧¬dd[a]! <dd[i]!)) (hJ:J=(j:Int)):upE dd a j i=i:=scanUp_off fun q=>h ⟨by omega,by have:=q.2;unfold ltInt at this;simpa using this⟩
theorem dnE_next (hi:1≤i) (h:(i:Int)≤(j:Int)∧dd[a]! <dd[j]!):dnE dd a i j=dnE dd a i (j-1):=scanDown_on hi (by omega) (decide_eq_true h.2)
theorem dnE_end (h:¬((i:Int)≤(j:Int)∧dd[a]! <dd[j]!)):dnE dd a i j=j:=scanDown_off fun q=>h ⟨by omega,of_decide_eq_true q.2⟩
theorem partL_now (hu:upL dd a j0 i=upL dd a j0 i0) (hue:upL dd a j0 i=i) (hv:dnL dd a i j=dnL dd a i j0) (hve:dnL dd a i j=j) (h:j<i):partLoop ltInt a i0 j0 dd=(j,dd):=by
 have e1:scanUp (fun x=>ltInt x dd[a]!) dd j0 i0=i:=by rw [←hue,hu];rfl
 have e2:scanDown (fun x=> !ltInt x dd[a]!) dd i j0=j:=by rw [←hve,hv];rfl
 rw [partLoop_eq,e1,e2,if_pos h]
theorem partL_on (hu:upL dd a j0 i=upL dd a j0 i0) (hue:upL dd a j0 i=i) (hv:dnL dd a i j=dnL dd a i j0) (hve:dnL dd a i j=j) (h:¬j<i):partLoop ltInt a i0 j0 dd=partLoop ltInt a (i+1) (j-1) (swp dd i j):=by
 have e1:scanUp (fun x=>ltInt x dd[a]!) dd j0 i0=i:=by rw [←hue,hu];rfl
 have e2:scanDown (fun x=> !ltInt x dd[a]!) dd i j0=j:=by rw [←hve,hv];rfl
 rw [partLoop_eq,e1,e2,if_neg h]
theorem partE_now (hu:upE dd a j0 i=upE dd a j0 i0) (hue:upE dd a j0 i=i) (hv:dnE dd a i j=dnE dd a i j0) (hve:dnE dd a i j=j) (h:j<i):partEqLoop ltInt a i0 j0 dd=(i,dd):=by
 have e1:scanUp (fun x=> !ltInt dd[a]! x) dd j0 i0=i:=by rw [←hue,hu];rfl
 have e2:scanDown (fun x=>ltInt dd[a]! x) dd i j0=j:=by rw [←hve,hv];rfl
 rw [partEqLoop_eq,e1,e2,if_pos h]
theorem partE_on (hu:upE dd a j0 i=upE dd a j0 i0) (hue:upE dd a j0 i=i) (hv:dnE dd a i j=dnE dd a i j0) (hve:dnE dd a i j=j) (h:¬j<i):partEqLoop ltInt a i0 j0 dd=partEqLoop ltInt a (i+1) (j-1) (swp dd i j):=by
 have e1:scanUp (fun x=> !ltInt dd[a]! x) dd j0 i0=i:=by rw [←hue,hu];rfl
 have e2:scanDown (fun x=>ltInt dd[a]! x) dd i j0=j:=by rw [←hve,hv];rfl
 rw [partEqLoop_eq,e1,e2,if_neg h]
theorem part_res (h:partLoop ltInt a (a+1) (z-1) (swp d a p)=(j,dd)):∃q,partition ltInt d a z p=(j,q,swp dd j a):=by
 have h1:=partition_fst ltInt d a z p;have h2:=partition_arr ltInt d a z p;rw [h] at h1 h2;exact ⟨(partition ltInt d a z p).2.1,Prod.ext h1 (Prod.ext rfl h2)⟩
theorem partE_res (h:partEqLoop ltInt a (a+1) (z-1) (swp d a p)=(i,dd)):partitionEqual ltInt d a z p=(i,dd):=h
theorem ijL {J:Int} {c:Int} (h1:¬((i:Int)≤J∧dd[i]! <c)) (hJ:(j:Int)≤J) (h2:¬((i:Int)≤(j:Int)∧¬dd[j]! <c)) (h:¬(j:Int)<(i:Int)):i<j:=by
 by_cases e:i=j
 ·subst e;exact absurd (Decidable.not_not.1 fun q=>h2 ⟨by omega,q⟩) fun q=>h1 ⟨hJ,q⟩
 ·omega
theorem ijE {J:Int} {c:Int} (h1:¬((i:Int)≤J∧¬c<dd[i]!)) (hJ:(j:Int)≤J) (h2:¬((i:Int)≤(j:Int)∧c<dd[j]!)) (h:¬(j:Int)<(i:Int)):i<j:=by
 by_cases e:i=j
 ·subst e;exact absurd (show¬c<dd[i]! from fun q=>h2 ⟨by omega,q⟩) fun q=>h1 ⟨hJ,q⟩
 ·omega
variable {de df:Array Int} {s i2:Nat} {J:Int}
theorem scanS_next (h:(i:Int)<(z:Int)∧¬dd[i]! <dd[((i:Int)-1).toNat]!):scanSorted ltInt dd z i=scanSorted ltInt dd z (i+1):=by
 rw [show ((i:Int)-1).toNat=i-1 by omega] at h
 conv=>lhs;unfold scanSorted
 rw [if_pos (by unfold ltInt;simp only [Bool.and_eq_true,decide_eq_true_eq,Bool.not_eq_true',decide_eq_false_iff_not];exact ⟨by omega,h.2⟩)]
theorem scanS_end (h:¬((i:Int)<(z:Int)∧¬dd[i]! <dd[((i:Int)-1).toNat]!)):scanSorted ltInt dd z i=i:=by
 rw [show ((i:Int)-1).toNat=i-1 by omega] at h;unfold scanSorted;rw [if_neg (by unfold ltInt;simp only [Bool.and_eq_true,decide_eq_true_eq,Bool.not_eq_true',decide_eq_false_iff_not];exact fun q=>h ⟨by omega,q.2⟩)]
theorem shiftDn_next (hj:1≤j) (h:dd[j]! <dd[((j:Int)-1).toNat]!):shiftDown ltInt j dd=shiftDown ltInt (j-1) ((dd.setIfInBounds j dd[((j:Int)-1).toNat]!).setIfInBounds ((j:Int)-1).toNat dd[j]!):=by
 obtain ⟨q,rfl⟩:∃q,j=q+1:=⟨j-1,by omega⟩;rw [show (((q+1:Nat):Int)-1).toNat=q by omega] at h ⊢
 conv=>lhs;unfold shiftDown
 rw [if_neg (by unfold ltInt;simpa using h)];rfl
theorem shiftDn_end (h:¬(1:Int)≤(j:Int)∨¬dd[j]! <dd[((j:Int)-1).toNat]!):shiftDown ltInt j dd=dd:=by
 cases j with
 | zero=>rfl
 | succ q=>
  rw [show (((q+1:Nat):Int)-1).toNat=q by omega] at h;unfold shiftDown;rw [if_pos (by unfold ltInt;simp only [Bool.not_eq_true',decide_eq_false_iff_not];rcases h with h | h;omega;exact h)]
theorem shiftUp_next (hj:(j:Int)<(z:Int)) (h1:1≤j) (h:dd[j]! <dd[((j:Int)-1).toNat]!):shiftUp ltInt z j dd=shiftUp ltInt z (j+1) ((dd.setIfInBounds j dd[((j:Int)-1).toNat]!).setIfInBounds ((j:Int)-1).toNat dd[j]!):=by
 rw [show ((j:Int)-1).toNat=j-1 by omega] at h ⊢
 conv=>lhs;unfold shiftUp
 rw [if_pos (by omega),if_neg (by unfold ltInt;simpa using h)];rfl
theorem shiftUp_end (h:¬(j:Int)<(z:Int)∨¬dd[j]! <dd[((j:Int)-1).toNat]!):shiftUp ltInt z j dd=dd:=by
 by_cases hj:j<z
 ·rw [show ((j:Int)-1).toNat=j-1 by omega] at h;unfold shiftUp;rw [if_pos hj,if_pos (by unfold ltInt;simp only [Bool.not_eq_true',decide_eq_false_iff_not];rcases h with h | h;omega;exact h)]
 ·unfold shiftUp;rw [if_neg hj]
theorem pins_true (he:scanSorted ltInt dd z i=i2) (h:i2=z):partialIns ltInt a z (s+1) i dd=(dd,true):=by
 rw [partialIns_succ,he,if_pos h]
theorem pins_short (he:scanSorted ltInt dd z i=i2) (h:¬i2=z) (h2:z-a<50):partialIns ltInt a z (s+1) i dd=(dd,false):=by
 rw [partialIns_succ,he,if_neg h,if_pos h2]
theorem pins_next (he:scanSorted ltInt dd z i=i2) (h:¬i2=z) (h2:¬z-a<50) (hd:de=if i2-a≥2 then shiftDown ltInt (i2-1) (swp dd i2 (i2-1)) else swp dd i2 (i2-1)) (hf:df=if z-i2≥2 then shiftUp ltInt z (i2+1) de else de) :
  partialIns ltInt a z (s+1) i dd=partialIns ltInt a z s i2 df:=by
 rw [partialIns_succ,he,if_neg h,if_neg h2,hf,hd];rfl
end
section
variable {P:Program} {E:Env P} {σ:Nat→Value} {ds:List Deferred} {h:GH} {T:(Nat→Value)→List Deferred→GH→Prop} {dst:Option Nat} {ty:TypeId} {pos:String} {af:Array Edge} {gd:Option (Nat×Bool)} {xt yt:TypeId} {x y:Operand} {a b:Int}
def xorU (a b:Int):Int:=IntKind.u64.wrap ((BitVec.ofInt 64 a ^^^ BitVec.ofInt 64 b).toNat)
def andU (a b:Int):Int:=IntKind.u64.wrap ((BitVec.ofInt 64 a &&& BitVec.ofInt 64 b).toNat)
def shlU (a b:Int):Int:=IntKind.u64.wrap (a*2 ^ (min b.toNat IntKind.u64.bits))
theorem ok_xorU (hx:evalS σ x=.int .u64 a) (hy:evalS σ y=.int .u64 b) (k:T (putS σ dst (.int .u64 (xorU a b))) ds h):OpK E ⟨dst,.binOp .xor xt x y yt,ty,pos,af,gd⟩ σ ds h T:=ok_bin hx hy rfl k
theorem ok_andU (hx:evalS σ x=.int .u64 a) (hy:evalS σ y=.int .u64 b) (k:T (putS σ dst (.int .u64 (andU a b))) ds h):OpK E ⟨dst,.binOp .and xt x y yt,ty,pos,af,gd⟩ σ ds h T:=ok_bin hx hy rfl k
theorem ok_shlU {ke:IntKind} (hx:evalS σ x=.int .u64 a) (hy:evalS σ y=.int ke b) (h0:0≤b) (k:T (putS σ dst (.int .u64 (shlU a b))) ds h):OpK E ⟨dst,.binOp .shl xt x y yt,ty,pos,af,gd⟩ σ ds h T:=ok_shl hx hy h0 rfl k
theorem ok_subU (hx:evalS σ x=.int .u64 a) (hy:evalS σ y=.int .u64 b) (hr:0≤a-b∧a-b≤18446744073709551615) (k:T (putS σ dst (.int .u64 (a-b))) ds h):OpK E ⟨dst,.binOp .sub xt x y yt,ty,pos,af,gd⟩ σ ds h T:=ok_bin hx hy (by
 show (pure (Value.int .u64 (IntKind.u64.wrap (a-b))):Sem Value)=_;rw [IntWalk.u64_in _ (by omega)]) k
theorem andU_range (hb:0≤b∧b≤9223372036854775807):0≤andU a b∧andU a b≤b:=by
 unfold andU;obtain ⟨n,rfl⟩:=Int.eq_ofNat_of_zero_le hb.1;have e1:(BitVec.ofInt 64 (n:Int)).toNat=n:=by rw [BitVec.toNat_ofInt];omega
 have e2:(BitVec.ofInt 64 a &&& BitVec.ofInt 64 (n:Int)).toNat≤n:=by rw [BitVec.toNat_and,e1];exact Nat.and_le_right
 rw [IntWalk.u64_in _ (by omega)];omega
theorem shlU_one {k:Nat} (h:k≤60):shlU 1 (k:Int)=2 ^ k:=by
 unfold shlU
 have:min ((k:Int)).toNat IntKind.u64.bits=k:=by show min ((k:Int)).toNat 64=k;omega
 rw [this,Int.one_mul];have h1:(2:Int) ^ k≤2 ^ 60:=by
  have:=Nat.pow_le_pow_right (show 0<2 by decide) h
  exact_mod_cast this
 have h2:(0:Int)≤2 ^ k:=by
  have:=Nat.zero_le (2 ^ k)
  exact_mod_cast this
 rw [IntWalk.u64_in _ (by have:(2:Int) ^ 60=1152921504606846976:=rfl;omega)]
def tabOK (s:ByteArray):Bool:=s.size==256 && (List.range 256).all fun i=>(s.get! i).toNat==bitsLen i
theorem ok_indexT {t:TypeId} {x ix:Operand} {s:ByteArray} {kd:IntKind} {i:Int} (ht:strOf P t=true) (hx:evalS σ x=.string s) (hi:evalS σ ix=.int kd i) (h0:0≤i) (h1:i<((256:Nat):Int)) (hs:tabOK s=true)
  (k:T (putS σ dst (.int .u8 (bitsLen i.toNat:Int))) ds h):OpK E ⟨dst,.index t x ix,ty,pos,af,gd⟩ σ ds h T:=by
 unfold tabOK at hs;rw [Bool.and_eq_true,List.all_eq_true] at hs;have hz:s.size=256:=by simpa using hs.1
 have e:=hs.2 i.toNat (List.mem_range.2 (by omega));refine ok_indexS ht hx hi h0 (by omega) ?_;have e2:(s[i.toNat]'(by omega)).toNat=bitsLen i.toNat:=by
  rw [←(show (s.get! i.toNat).toNat=bitsLen i.toNat by simpa using e)];have hlt:i.toNat<s.size:=by omega
  congr 1;show s.data[i.toNat]=s.data[i.toNat]!;rw [getElem!_pos s.data i.toNat hlt]
 rw [e2];exact k
theorem bitsLen_div {n k:Nat} (h:2 ^ k≤n):bitsLen n=k+bitsLen (n / 2 ^ k):=by
 have hp:0<2 ^ k:=Nat.two_pow_pos k;have h1:∀j,bitsLen n≤j↔k+bitsLen (n / 2 ^ k)≤j:=fun j=>by
  rw [bitsLen_le_iff];constructor
  ·intro q;have hkj:k<j:=(Nat.pow_lt_pow_iff_right (by decide:1<2)).1 (Nat.lt_of_le_of_lt h q)
   have:=(bitsLen_le_iff (n / 2 ^ k) (j-k)).2 ((Nat.div_lt_iff_lt_mul hp).2 (by rw [←Nat.pow_add,show j-k+k=j by omega];exact q))
   omega
  ·intro q;have h2:=(bitsLen_le_iff (n / 2 ^ k) (j-k)).1 (by omega);have h3:=(Nat.div_lt_iff_lt_mul hp).1 h2;rw [←Nat.pow_add,show j-k+k=j by omega] at h3;exact h3
 have a1:=(h1 (bitsLen n)).1 (Nat.le_refl _);have a2:=(h1 (k+bitsLen (n / 2 ^ k))).2 (Nat.le_refl _);omega
theorem bl16 {n:Int} (h:65536≤n):(bitsLen n.toNat:Int)=16+bitsLen (n / 65536).toNat:=by
 rw [bitsLen_div (n:=n.toNat) (k:=16) (by omega),show (n / 65536).toNat=n.toNat / 2 ^ 16 by omega];omega
theorem bl8 {n:Int} (h:256≤n):(bitsLen n.toNat:Int)=8+bitsLen (n / 256).toNat:=by
 rw [bitsLen_div (n:=n.toNat) (k:=8) (by omega),show (n / 256).toNat=n.toNat / 2 ^ 8 by omega];omega
theorem bitsLen_le {n:Nat} (h:n<4294967296):bitsLen n≤32:=(bitsLen_le_iff n 32).2 h
end
section
variable {d dd D D' R:Array Int} {a z a0 z0 p mid:Nat} {ap:Bool}
def Rest (a0 z0:Nat) (d:Array Int) (a z:Nat) (dd:Array Int):Prop:=a≤z∧z≤dd.size∧dd.size=d.size∧Below ltInt a z dd∧∀R,PermIn a z dd R→SortedIn ltInt a z R→PermIn a0 z0 d R∧SortedIn ltInt a0 z0 R
theorem Rest.start (h:a≤z) (hz:z≤d.size) (hB:Below ltInt a z d):Rest a z d a z d:=⟨h,hz,rfl,hB,fun _ x y=>⟨x,y⟩⟩
theorem Rest.perm (r:Rest a0 z0 d a z dd) (x:PermIn a z dd D):Rest a0 z0 d a z D:=
 ⟨r.1,by rw [x.1];exact r.2.1,x.1.trans r.2.2.1,r.2.2.2.1.perm r.2.1 x,fun R y s=>r.2.2.2.2 R (permIn_trans _ _ _ a z x y) s⟩
theorem Rest.done (r:Rest a0 z0 d a z dd) (x:PermIn a z dd D) (s:SortedIn ltInt a z D):PermIn a0 z0 d D∧SortedIn ltInt a0 z0 D:=r.2.2.2.2 D x s
theorem Rest.ins (r:Rest a0 z0 d a z dd):PermIn a0 z0 d (insertionSort ltInt dd a z)∧SortedIn ltInt a0 z0 (insertionSort ltInt dd a z):=
 let x:=insertionSort_holds (lt:=ltInt) swoInt dd a z r.1 r.2.1
 r.done x.1 x.2
theorem Rest.heap (r:Rest a0 z0 d a z dd):PermIn a0 z0 d (heapSort ltInt dd a z)∧SortedIn ltInt a0 z0 (heapSort ltInt dd a z):=
 let x:=heapSort_holds (lt:=ltInt) swoInt dd a z r.1 r.2.1
 r.done x.1 x.2
theorem Rest.pins (r:Rest a0 z0 d a z dd) (h:a<z) {fl:Bool} (e:partialInsertionSort ltInt dd a z=(D,fl)):Rest a0 z0 d a z D∧(fl=true→PermIn a0 z0 d D∧SortedIn ltInt a0 z0 D):=by
 have x:=partialInsertionSort_holds (lt:=ltInt) swoInt dd a z h r.2.1 r.2.2.2.1;rw [e] at x;exact ⟨r.perm x.1,fun q=>r.done x.1 (x.2 q)⟩
theorem Rest.eq (r:Rest a0 z0 d a z dd) (h0:0<a) (hp:a≤p∧p<z) (hl:¬dd[a-1]! <dd[p]!) (e:partitionEqual ltInt dd a z p=(mid,D)):a<mid∧mid≤z∧Rest a0 z0 d mid z D:=by
 obtain ⟨h1,h2,h3,h4,h5⟩:=round_eq swoInt (partitionEqual_holds ltInt) h0 hp.1 hp.2 r.2.1 r.2.2.2.1 (decide_eq_false hl) e;exact ⟨h1,h2,h2,by rw [h3];exact r.2.1,h3.trans r.2.2.1,h4,fun R x s=>let y:=h5 R x s;r.2.2.2.2 R y.1 y.2⟩
theorem Rest.eq' (r:Rest a0 z0 d a z dd) (h0:0<a) (hp:a≤p∧p<z) (hl:¬dd[((a:Int)-1).toNat]! <dd[p]!) (e:partitionEqual ltInt dd a z p=(mid,D)):a<mid∧mid≤z∧Rest a0 z0 d mid z D:=
 r.eq h0 hp (by rw [show ((a:Int)-1).toNat=a-1 by omega] at hl;exact hl) e
theorem Rest.part (r:Rest a0 z0 d a z dd) (hp:a≤p∧p<z) (e:∃q,partition ltInt dd a z p=(mid,q,D)):a≤mid∧mid<z∧D.size=d.size∧z≤D.size∧Below ltInt a mid D∧Below ltInt (mid+1) z D∧
  (∀L,PermIn a mid D L→SortedIn ltInt a mid L→Rest a0 z0 d (mid+1) z L)∧(∀L,PermIn (mid+1) z D L→SortedIn ltInt (mid+1) z L→Rest a0 z0 d a mid L):=by
 obtain ⟨q,e⟩:=e;obtain ⟨h1,h2,h3,h4,h5,h6,h7⟩:=round_part swoInt (partition_holds ltInt) hp.1 hp.2 r.2.1 r.2.2.2.1 e;have hz:=r.2.1;refine ⟨h1,h2,h3.trans r.2.2.1,by omega,h4,h5,fun L x s=>?_,fun L x s=>?_⟩
 ·obtain ⟨y1,y2⟩:=h6 L x s
  have:=x.1
  exact ⟨by omega,by omega,by rw [x.1,h3];exact r.2.2.1,y1,fun R x2 s2=>let y:=y2 R x2 s2;r.2.2.2.2 R y.1 y.2⟩
 ·obtain ⟨y1,y2⟩:=h7 L x s
  have:=x.1
  exact ⟨h1,by omega,by rw [x.1,h3];exact r.2.2.1,y1,fun R x2 s2=>let y:=y2 R x2 s2;r.2.2.2.2 R y.1 y.2⟩
theorem sorted_all {D:Array Int} {xs:List Int} (x:PermIn 0 xs.length xs.toArray D) (s:SortedIn ltInt 0 xs.length D):D=(sortI xs).toArray:=by
 have y:=sorted_unique_holds (lt:=ltInt) swoInt (fun x y h1 h2=>by simp only [ltInt,decide_eq_false_iff_not] at h1 h2;omega) xs.toArray D (by simpa using x) (by simpa using s);rw [sortI_eq];apply Array.toList_inj.1;rw [y];congr 1;funext a b;unfold ltInt;simp only [Bool.not_eq_eq_eq_not];by_cases h:a≤b
 ·simp [h]
 ·simp [h];omega
theorem sorted_all' {D d:Array Int} (x:PermIn 0 d.size d D∧SortedIn ltInt 0 d.size D):D=(sortI d.toList).toArray:=
 sorted_all (xs:=d.toList) (by simpa using x.1) (by simpa using x.2)
end
end Go.Ns
namespace Go.Ns
open Go.Conc
theorem movesFrom_ok {ag:Past→Bool} {ms:List Move} {mo:Int} (hf:∀k,0≤(ms.getD k Move.z).low∧(ms.getD k Move.z).high≤99):∀f i p,PastOK p→∀q ∈ movesFrom ag ms mo f i p,PastOK q
 | 0,_,p,hp,q,hq=>by
  unfold movesFrom at hq;split at hq
  ·rw [List.mem_singleton] at hq;subst hq;exact hp
  ·cases hq
 | f+1,i,p,hp,q,hq=>by
  rw [movesFrom_succ,List.mem_flatMap] at hq;obtain ⟨n,hn,hq⟩:=hq;rw [mem_spanL] at hn
  have:=hf i
  unfold moveRound at hq;rw [List.mem_append] at hq;rcases hq with hq | hq
  ·exact movesFrom_ok hf f (i+1) _ (hp.setMove (by omega)) q hq
  ·split at hq
   ·exact movesFrom_ok hf f (i+1) _ (hp.setMove (by omega)) q hq
   ·cases hq
theorem goodsFrom_ok {ag:Past→Bool} {gs:List Good} {ms:List Move} {mo:Int} (hg:∀k,0≤(gs.getD k Good.z).low∧(gs.getD k Good.z).high≤99) (hf:∀k,0≤(ms.getD k Move.z).low∧(ms.getD k Move.z).high≤99) :
  ∀f i p,PastOK p→∀q ∈ goodsFrom ag gs ms mo f i p,PastOK q
 | 0,_,p,hp,q,hq=>movesFrom_ok hf _ _ p hp q hq
 | f+1,i,p,hp,q,hq=>by
  rw [goodsFrom_succ,List.mem_flatMap] at hq;obtain ⟨n,hn,hq⟩:=hq;rw [mem_spanL] at hn
  have:=hg i
  exact goodsFrom_ok hg hf f (i+1) _ (hp.setFirst (by omega)) q hq
theorem hists_ok {d m:Int} {gs:List Good} {ms:List Move} {cs:List Count} (b:BookOK d m gs ms cs) (mo:Int):∀k,PastOK ((hists d gs ms cs mo).getD k Past.zero):=fun k=>by
 by_cases h:k<(hists d gs ms cs mo).length
 ·exact goodsFrom_ok (fun j=>⟨(b.gfew j).1,(b.gfew j).2.2.1⟩) (fun j=>⟨(b.few j).1,(b.few j).2.2.1⟩) _ _ _ PastOK.zero _ (getD_mem h)
 ·rw [getD_out (by omega)];exact PastOK.zero
def eachL (n:Nat) (f:Nat→Int):List Int:=dedupI (sortI ((List.range n).map f))
theorem map_range_ne {n:Nat} {f:Nat→Int} (h:0<n):(List.range n).map f≠[]:=by
 intro e
 have:=congrArg List.length e
 simp at this;omega
section
variable (d m:Int) (gs:List Good) (ms:List Move) (cs:List Count)
def leftBell (g dy:Int):Int:=lookBell d m gs ms cs [if (decide (0≤g∧g≤(gs.length:Int)-1)) then (0:Int) else 6,if (decide (0≤dy∧dy≤d)) then (0:Int) else 1]
def leftL (g dy:Int):List Int:=if leftBell d m gs ms cs g dy=0 then eachL (hists d gs ms cs m).length (fun (i:Nat)=>(stockOf ms ((hists d gs ms cs m).getD ((i:Int)).toNat Past.zero) g dy).1) else []
def numbersBell (mv:Int):Int:=lookBell d m gs ms cs [if (decide (0≤mv∧mv≤(ms.length:Int)-1)) then (0:Int) else 6]
def numbersL (mv:Int):List Int:=if numbersBell d m gs ms cs mv=0 then eachL (hists d gs ms cs m).length (fun (i:Nat)=>realOf ((hists d gs ms cs m).getD ((i:Int)).toNat Past.zero) (mv).toNat) else []
def falseBell (mv:Int):Int:=lookBell d m gs ms cs [if (decide ((0≤mv∧mv≤(ms.length:Int)-1)∧(ms.getD (mv).toNat Move.z).kind=0)) then (0:Int) else 6]
def liesIn (ps:List Past) (i:Nat):Nat:=(ps.filter fun p=>p.lies i).length
def sureOf (n l:Nat):Int:=if n=0 then 2 else if n=l then 1 else 0
def falseSure (mv:Int):Int:=if falseBell d m gs ms cs mv=0 then sureOf (liesIn (hists d gs ms cs m) (mv).toNat) (hists d gs ms cs m).length else 0
end
theorem own_1 {p:Prop} [Decidable p] {c:Int} (hc:c≠0) {o:List Int} (h:∀k,k<(((if decide p then (0:Int) else c) ::o)).length→(((if decide p then (0:Int) else c) ::o)).getD k 0=0):p:=by
 have:=h 0 (by simp)
 by_cases hp:p
 ·exact hp
 ·simp [hp] at this;exact absurd this hc
theorem own_tail {x:Int} {o:List Int} (h:∀k,k<(x ::o).length→(x ::o).getD k 0=0):∀k,k<o.length→o.getD k 0=0:=fun k hk=>by
 have:=h (k+1) (by simp;omega)
 simpa using this
theorem own_2 {p q:Prop} [Decidable p] [Decidable q] {c e:Int} (hc:c≠0) (he:e≠0) {o:List Int} (h:∀k,k<(((if decide p then (0:Int) else c) ::(if decide q then (0:Int) else e) ::o)).length→(((if decide p then (0:Int) else c) ::(if decide q then (0:Int) else e) ::o)).getD k 0=0):p∧q:=
 ⟨own_1 hc h,own_1 he (own_tail h)⟩
theorem own_3 {p q r:Prop} [Decidable p] [Decidable q] [Decidable r] {c e f:Int} (hc:c≠0) (he:e≠0) (hf:f≠0) {o:List Int} (h:∀k,k<(((if decide p then (0:Int) else c) ::(if decide q then (0:Int) else e) ::(if decide r then (0:Int) else f) ::o)).length→(((if decide p then (0:Int) else c) ::(if decide q then (0:Int) else e) ::(if decide r then (0:Int) else f) ::o)).getD k 0=0):p∧q∧r:=
 ⟨own_1 hc h,own_2 he hf (own_tail h)⟩
theorem take_succ_getD {α:Type} {l:List α} {k:Nat} (z:α) (h:k<l.length):l.take (k+1)=l.take k++[l.getD k z]:=by
 rw [List.take_add_one,List.getElem?_eq_getElem h,List.getD_eq_getElem?_getD,List.getElem?_eq_getElem h];rfl
theorem lies_t {ps:List Past} {k q i:Nat} (hk:k<ps.length) (h:q=liesIn (ps.take k) i) (e:(ps.getD k Past.zero).lies i=true):q+1=liesIn (ps.take (k+1)) i:=by
 unfold liesIn at *;rw [take_succ_getD Past.zero hk,List.filter_append,List.length_append,←h,List.filter_cons,if_pos e];rfl
theorem lies_f {ps:List Past} {k q i:Nat} (hk:k<ps.length) (h:q=liesIn (ps.take k) i) (e:(ps.getD k Past.zero).lies i=false):q=liesIn (ps.take (k+1)) i:=by
 unfold liesIn at *;rw [take_succ_getD Past.zero hk,List.filter_append,List.length_append,←h,List.filter_cons,if_neg (by rw [e];decide)];rfl
theorem falseSure_bad {d m:Int} {gs:List Good} {ms:List Move} {cs:List Count} {mv:Int} (h:¬falseBell d m gs ms cs mv=0):falseSure d m gs ms cs mv=0:=by unfold falseSure;rw [if_neg h]
theorem falseSure_ok {d m:Int} {gs:List Good} {ms:List Move} {cs:List Count} {mv:Int} {k q:Nat} (h:falseBell d m gs ms cs mv=0) (hq:q=liesIn ((hists d gs ms cs m).take k) (mv).toNat) (hk:(hists d gs ms cs m).length≤k):falseSure d m gs ms cs mv=sureOf q (hists d gs ms cs m).length:=by
 unfold falseSure;rw [if_pos h,hq,List.take_of_length_le hk]
theorem stockRun_range {ms:List Move} {p:Past} {g dy:Int} (hp:PastOK p):∀(f k:Nat) (n low B:Int),-B≤n∧n≤B→-(B+99*(f:Int))≤(stockRun ms p g dy f k n low).1∧(stockRun ms p g dy f k n low).1≤B+99*(f:Int)
 | 0,k,n,low,B,h=>by unfold stockRun;simpa using h
 | f+1,k,n,low,B,h=>by
  unfold stockRun;split
  ·show-(B+99*((f+1:Nat):Int))≤n∧n≤B+99*((f+1:Nat):Int);omega
  ·have:=stockRun_range (ms:=ms) (g:=g) (dy:=dy) hp f (k+1) (nNext ms p g k n) (lowNext ms k low (nNext ms p g k n)) (B+99) (by
    unfold nNext
    have:=signed_range (k:=(ms.getD k Move.z).kind.toNat) (realOf_range hp k)
    split <;> omega)
   omega
theorem stockOf_range {ms:List Move} {p:Past} {g dy:Int} (hp:PastOK p) (hm:ms.length≤6): -693≤(stockOf ms p g dy).1∧(stockOf ms p g dy).1≤693:=by
 have h0:=hp.1 g.toNat
 have:=stockRun_range (ms:=ms) (g:=g) (dy:=dy) hp ms.length 0 (p.first g.toNat) (p.first g.toNat) 99 (by omega)
 unfold stockOf;omega
theorem foldl_dstep_mem {x:Int}:∀(l acc:List Int),x ∈ l.foldl dstep acc→x ∈ acc∨x ∈ l
 | [],acc,h=>.inl h
 | y ::l,acc,h=>by
  rcases foldl_dstep_mem l _ h with h | h
  ·unfold dstep at h;split at h
   ·exact .inl h
   ·rcases List.mem_append.1 h with h | h
    ·exact .inl h
    ·rw [List.mem_singleton] at h;exact .inr (by rw [h];exact List.mem_cons_self ..)
  ·exact .inr (List.mem_cons_of_mem _ h)
theorem foldl_dstep_ne:∀(l acc:List Int),acc≠[]∨l≠[]→l.foldl dstep acc≠[]
 | [],acc,h=>by
  rcases h with h | h
  ·exact h
  ·exact absurd rfl h
 | y ::l,acc,h=>foldl_dstep_ne l _ (.inl fun e=>by
   have:=dstep_last acc y
   rw [e] at this;cases this)
theorem eachL_pos {n:Nat} (f:Nat→Int) (h:0<n):0<(eachL n f).length:=by
 have:eachL n f≠[]:=foldl_dstep_ne _ _ (.inr (sortI_ne (map_range_ne h)))
 exact List.length_pos_iff.2 this
theorem eachL_mem {n:Nat} {f:Nat→Int} {x:Int} (h:x ∈ eachL n f):∃i,i<n∧f i=x:=by
 rcases foldl_dstep_mem _ _ h with h | h
 ·cases h
 ·rw [sortI_eq] at h
  have:=List.mem_mergeSort.1 h
  obtain ⟨i,hi,e⟩:=List.mem_map.1 this;exact ⟨i,List.mem_range.1 hi,e⟩
def spanLo (l:List Int):Int:=l.getD 0 0
def spanHi (l:List Int):Int:=l.getD ((l.length:Int)-1).toNat 0
theorem eachL_span {n:Nat} {f:Nat→Int} {A B:Int} (h:∀i,A≤f i∧f i≤B) (hn:0<n):(A≤spanLo (eachL n f)∧spanLo (eachL n f)≤B)∧A≤spanHi (eachL n f)∧spanHi (eachL n f)≤B:=by
 have hp:=eachL_pos f hn;have q:∀k,k<(eachL n f).length→A≤(eachL n f).getD k 0∧(eachL n f).getD k 0≤B:=fun k hk=>by
  obtain ⟨i,_,e⟩:=eachL_mem (getD_mem (d:=0) hk);rw [←e];exact h i
 exact ⟨q 0 hp,q _ (by omega)⟩
def lostTo (ms:List Move) (p:Past) (g a b:Int):Nat→Int
 | 0=>0
 | k+1=>lostTo ms p g a b k+(if ((ms.getD k Move.z).kind=2∧(ms.getD k Move.z).good=g)∧a≤(ms.getD k Move.z).day∧(ms.getD k Move.z).day≤b then realOf p k else 0)
theorem lostTo_range {ms:List Move} {p:Past} {g a b:Int} (hp:PastOK p):∀k:Nat,0≤lostTo ms p g a b k∧lostTo ms p g a b k≤99*(k:Int)
 | 0=>by unfold lostTo;omega
 | k+1=>by
  have:=lostTo_range (ms:=ms) (g:=g) (a:=a) (b:=b) hp k
  have:=realOf_range hp k
  unfold lostTo;split <;> omega
def worthTo (gs:List Good) (ms:List Move) (p:Past) (dy:Int):Nat→Int
 | 0=>0
 | k+1=>worthTo gs ms p dy k+(gs.getD k Good.z).cost*(stockOf ms p (k:Int) dy).1
theorem mul_range {a b A B:Int} (ha:0≤a∧a≤A) (hb: -B≤b∧b≤B): -(A*B)≤a*b∧a*b≤A*B:=by
 have hB:0≤B:=by omega
 have e1:a*B≤A*B:=Int.mul_le_mul_of_nonneg_right ha.2 hB;have e2:a*b≤a*B:=Int.mul_le_mul_of_nonneg_left hb.2 ha.1;have e3:a*(-B)≤a*b:=Int.mul_le_mul_of_nonneg_left hb.1 ha.1;rw [Int.mul_neg] at e3;omega
theorem worthTo_range {gs:List Good} {ms:List Move} {p:Past} {dy:Int} (hp:PastOK p) (hm:ms.length≤6) (hc:∀k,0≤(gs.getD k Good.z).cost∧(gs.getD k Good.z).cost≤999):∀k:Nat,-(692307*(k:Int))≤worthTo gs ms p dy k∧worthTo gs ms p dy k≤692307*(k:Int)
 | 0=>by unfold worthTo;omega
 | k+1=>by
  have:=worthTo_range (dy:=dy) hp hm hc k
  have:=mul_range (hc k) (stockOf_range (g:=(k:Int)) (dy:=dy) hp hm)
  unfold worthTo;omega
theorem BookOK.costs {d m:Int} {gs:List Good} {ms:List Move} {cs:List Count} (b:BookOK d m gs ms cs):∀k,0≤(gs.getD k Good.z).cost∧(gs.getD k Good.z).cost≤999:=fun k=>by
 by_cases h:k<gs.length
 ·exact (b.good' h).1
 ·rw [getD_out (by omega)];decide
section
variable (d m:Int) (gs:List Good) (ms:List Move) (cs:List Count)
def lostBell (g a b:Int):Int:=lookBell d m gs ms cs [if (decide (0≤g∧g≤(gs.length:Int)-1)) then (0:Int) else 6,if (decide (1≤a∧a≤d)) then (0:Int) else 1,if (decide (a≤b∧b≤d)) then (0:Int) else 1]
def lostAll (g a b:Int):List Int:=eachL (hists d gs ms cs m).length (fun (i:Nat)=>lostTo ms ((hists d gs ms cs m).getD ((i:Int)).toNat Past.zero) g a b ms.length)
def lostLo (g a b:Int):Int:=if lostBell d m gs ms cs g a b=0 then spanLo (lostAll d m gs ms cs g a b) else 0
def lostHi (g a b:Int):Int:=if lostBell d m gs ms cs g a b=0 then spanHi (lostAll d m gs ms cs g a b) else 0
def worthBell (dy:Int):Int:=lookBell d m gs ms cs [if (decide (0≤dy∧dy≤d)) then (0:Int) else 1]
def worthAll (dy:Int):List Int:=eachL (hists d gs ms cs m).length (fun (i:Nat)=>worthTo gs ms ((hists d gs ms cs m).getD ((i:Int)).toNat Past.zero) dy gs.length)
def worthLo (dy:Int):Int:=if worthBell d m gs ms cs dy=0 then spanLo (worthAll d m gs ms cs dy) else 0
def worthHi (dy:Int):Int:=if worthBell d m gs ms cs dy=0 then spanHi (worthAll d m gs ms cs dy) else 0
end
def inL (d:Int) (ms:List Move) (ps:List Past) (g:Int):List Int:=eachL ps.length (fun (i:Nat)=>(stockOf ms (ps.getD ((i:Int)).toNat Past.zero) g d).1)
theorem inL_span {d:Int} {ms:List Move} {ps:List Past} {g:Int} (hp:∀k,PastOK (ps.getD k Past.zero)) (hm:ms.length≤6) (hn:0<ps.length):(-693≤spanLo (inL d ms ps g)∧spanLo (inL d ms ps g)≤693)∧-693≤spanHi (inL d ms ps g)∧spanHi (inL d ms ps g)≤693:=
 eachL_span (fun _=>stockOf_range (hp _) hm) hn
section
variable (d m:Int) (gs:List Good) (ms:List Move) (cs:List Count)
def lastsBell (g r:Int):Int:=lookBell d m gs ms cs [if (decide (0≤g∧g≤(gs.length:Int)-1)) then (0:Int) else 6,if (decide (1≤r∧r≤99)) then (0:Int) else 1]
def lastsLo (g r:Int):Int:=if lastsBell d m gs ms cs g r=0 then (spanLo (inL d ms (hists d gs ms cs m) g)).tdiv r else 0
def lastsHi (g r:Int):Int:=if lastsBell d m gs ms cs g r=0 then (spanHi (inL d ms (hists d gs ms cs m) g)).tdiv r else 0
end
theorem OwnSl.offKnown {α:Type} {h0 h:GH} {v:Value} {t:TypeId} {n:Nat} {enc:α→Array Value} {xs:List α} {ms:List Move} {ps:List Past} {r:Nat} (x:OwnSl h0 h v t n enc xs) (m:KnownOK ms ps r h):Off v r:=fun e=>by
 obtain ⟨c',h1⟩:=x.cellsAt r e;exact m.neCells h1 rfl
section
variable (d m:Int) (gs:List Good) (ms:List Move) (cs:List Count)
def buyBell (ls:List Int) (r:Int):Int:=lookBell d m gs ms cs [numsBell ls (gs.length:Int),if (decide (0≤r∧r≤99)) then (0:Int) else 1]
def packOf (ls:List Int) (r:Int) (k:Nat):Int:=(max 0 ((ls.getD k 0)*r-(spanLo (inL d ms (hists d gs ms cs m) (k:Int))))+(gs.getD k Good.z).pack-1) / ((gs.getD k Good.z).pack)
def costTo (ls:List Int) (r:Int):Nat→Int
 | 0=>0
 | k+1=>costTo ls r k+(packOf d m gs ms cs ls r k)*((gs.getD k Good.z).pack)*((gs.getD k Good.z).cost)
def buyL (ls:List Int) (r:Int):List Int:=if buyBell d m gs ms cs ls r=0 then (List.range gs.length).map (packOf d m gs ms cs ls r) else []
def buyCost (ls:List Int) (r:Int):Int:=if buyBell d m gs ms cs ls r=0 then costTo d m gs ms cs ls r gs.length else 0
end
theorem packOf_range {d m:Int} {gs:List Good} {ms:List Move} {cs:List Count} {ls:List Int} {r:Int} {k:Nat} (hl:0≤ls.getD k 0∧ls.getD k 0≤99) (hr:0≤r∧r≤99) (hp:1≤(gs.getD k Good.z).pack∧(gs.getD k Good.z).pack≤20)
  (hs: -693≤spanLo (inL d ms (hists d gs ms cs m) (k:Int))∧spanLo (inL d ms (hists d gs ms cs m) (k:Int))≤693):(0≤packOf d m gs ms cs ls r k∧packOf d m gs ms cs ls r k≤10600):=by
 have h1:=mul_range (a:=ls.getD k 0) (b:=r) (A:=99) (B:=99) hl (by omega);unfold packOf;have h0:0≤max 0 ((ls.getD k 0)*r-(spanLo (inL d ms (hists d gs ms cs m) (k:Int))))+(gs.getD k Good.z).pack-1:=by omega
 refine ⟨Int.ediv_nonneg h0 (by omega),Int.le_trans (Int.ediv_le_self _ h0) (by omega)⟩
theorem packCost_range {p a c:Int} (hp:0≤p∧p≤10600) (ha:1≤a∧a≤20) (hc:0≤c∧c≤999):(0≤p*a∧p*a≤212000)∧0≤p*a*c∧p*a*c≤211788000:=by
 have h1:=mul_range (a:=p) (b:=a) (A:=10600) (B:=20) hp (by omega);have h2:0≤p*a:=Int.mul_nonneg hp.1 (by omega);have h3:=mul_range (a:=p*a) (b:=c) (A:=212000) (B:=999) (by omega) (by omega);have h4:0≤p*a*c:=Int.mul_nonneg h2 hc.1;omega
theorem costTo_next {d m:Int} {gs:List Good} {ms:List Move} {cs:List Count} {ls:List Int} {r:Int} {k:Nat} (hp:0≤packOf d m gs ms cs ls r k∧packOf d m gs ms cs ls r k≤10600) (ha:1≤(gs.getD k Good.z).pack∧(gs.getD k Good.z).pack≤20) (hc:0≤(gs.getD k Good.z).cost∧(gs.getD k Good.z).cost≤999)
  (h:0≤costTo d m gs ms cs ls r k∧costTo d m gs ms cs ls r k≤211788000*(k:Int)):0≤costTo d m gs ms cs ls r (k+1)∧costTo d m gs ms cs ls r (k+1)≤211788000*((k+1:Nat):Int):=by
 have:=packCost_range hp ha hc
 unfold costTo;omega
theorem nums_few {l:List Int} {n:Int} (h:¬(l.length:Int)=n):(Value.int .i64 2)=.int .i64 (numsBell l n):=by unfold numsBell;rw [if_pos h]
theorem nums_any {l:List Int} {n:Int} (h:(l.length:Int)=n):(Value.int .i64 (if (!(l.any (fun x=>decide (¬(0≤x∧x≤99))))) then (0:Int) else 1))=.int .i64 (numsBell l n):=by
 have e:numsBell l n=if l.any (fun x=>decide (¬(0≤x∧x≤99))) then 1 else 0:=by unfold numsBell;rw [if_neg (fun q=>q h)]
 rw [e];cases l.any (fun x=>decide (¬(0≤x∧x≤99))) <;> rfl
section
variable {P:Program} {E:Env P} {σ:Nat→Value} {ds:List Deferred} {h:GH} {T:(Nat→Value)→List Deferred→GH→Prop}
variable {dst:Option Nat} {ty:TypeId} {pos:String} {af:Array Edge} {gd:Option (Nat×Bool)}
def fieldP (P:Program) (s:TypeId) (f:Nat) (cs:Array Value):Option Value:=match P.underlying s with
 | some (.struct fields)=>match fields[f]? with
  | some fl=>partP P fl.type cs fl.offset
  | none=>none
 | _=>none
theorem ok_fieldP {t:TypeId} {x:Operand} {f:Nat} {cs:Array Value} {v:Value} (hx:evalS σ x=.agg cs) (hp:fieldP P t f cs=some v) (k:T (putS σ dst v) ds h):OpK E ⟨dst,.field t x f,ty,pos,af,gd⟩ σ ds h T:=by
 refine ok_field (v:=v) ?_ k;rw [hx];unfold fieldP at hp;unfold Instr.field;cases hu:P.underlying t with
 | none=>rw [hu] at hp;cases hp
 | some d=>
  rw [hu] at hp;cases d <;> first | (cases hp;done) | skip
  rename_i fields
  refine gh_bind _ _ (gh_underlying hu ?_);simp only at hp ⊢;cases hf:fields[f]? with
  | none=>rw [hf] at hp;cases hp
  | some fl=>
   rw [hf] at hp;simp only at hp ⊢;exact gh_partP hp ⟨rfl,rfl⟩
theorem ok_quoT {xt yt:TypeId} {x y:Operand} {a b:Int} (hx:evalS σ x=.int .i64 a) (hy:evalS σ y=.int .i64 b) (ha: -9223372036854775807≤a) (ha':a≤9223372036854775807) (hb:0<b) (k:T (putS σ dst (.int .i64 (a.tdiv b))) ds h) :
  OpK E ⟨dst,.binOp .quo xt x y yt,ty,pos,af,gd⟩ σ ds h T:=ok_bin hx hy (by
 show (if b=0 then _ else (pure (Value.int .i64 (IntKind.i64.wrap (a.tdiv b))):Sem Value))=_;rw [if_neg (by omega)];have h1:(a.tdiv b).natAbs≤a.natAbs:=by rw [Int.natAbs_tdiv];exact Nat.div_le_self _ _
 rw [IntWalk.i64_in _ (by omega)]) k
end
def MRel (hB:GH) (ms:List Move) (pasts:List Past) (r:Nat) (h h':GH):Prop:=KeepX (fun b=>b=r) h h'∧(KnownOK ms pasts r h→KnownOK ms pasts r h')∧(hB.Le h→hB.Le h')
section
variable {hB h hc h':GH} {ms:List Move} {pasts:List Past} {r:Nat}
theorem MRel.refl (h:GH):MRel hB ms pasts r h h:=⟨KeepX.refl _ _,id,id⟩
theorem MRel.trans (a b c:GH) (x:MRel hB ms pasts r a b) (y:MRel hB ms pasts r b c):MRel hB ms pasts r a c:=⟨x.1.trans (fun _ q=>.inl q) y.1,fun z=>y.2.1 (x.2.1 z),fun z=>y.2.2 (x.2.2 z)⟩
theorem MRel.ofRes (m:MRes hB ms pasts r h h'):MRel hB ms pasts r h h':=⟨m.2.1,fun _=>m.1,fun _=>m.2.2⟩
theorem MSt.rel (y:MSt hB ms pasts r h hc) (m:MRel hB ms pasts r hc h'):MSt hB ms pasts r h h':=⟨m.2.1 y.ok,y.keep.trans (fun _ q=>.inl q) m.1,m.2.2 y.base⟩
theorem MSt.callDel (y:MSt hB ms pasts r h hc) (l:hB.Le (hc.del r)) (m:MRes (hc.del r) ms pasts r hc h'):MSt hB ms pasts r h h':=⟨m.1,y.keep.trans (fun _ q=>.inl q) m.2.1,l.trans m.2.2⟩
end
section
variable {P:Program} {E:Env P} {σ:Nat→Value} {ds:List Deferred} {h hB:GH} {ms:List Move} {pasts:List Past} {r:Nat}
theorem tr_drawnM {id:Nat} {l:List Oper} {Q:Post} (n:Nat) (cls:List (List Nat)) (Φ:List Law) (hm:P.follows .mixedOrders=true) (ok:drawOK E.N l n cls=true) (mono:LawsOK (MRel hB ms pasts r) Φ) (x:DrAll (MRel hB ms pasts r) E l n Φ σ ds h Q n 0 l cls) :
  Tr E (.region id l.toArray true) σ ds h Q:=tr_drawn MRel.refl MRel.trans n cls Φ hm ok mono x
end
theorem KeepD.leOf {h0 h:GH} (k:KeepD (fun b=>h0 b=none) h0 h):h0.Le h:=fun b p o hb=>k.1 b p o hb fun (e:h0 b=none)=>by rw [hb] at e;cases e
theorem OwnSl.offTy {α:Type} {h0 h:GH} {v:Value} {t T:TypeId} {n:Nat} {enc:α→Array Value} {xs:List α} (x:OwnSl h0 h v t n enc xs) {r:Nat} {p:Bool} {c:Array Value} {f:Nat×Nat} (hr:h r=some (p,.cells c T f)) (ne:t≠T):Off v r:=fun e=>by
 obtain ⟨c',h1⟩:=x.cellsAt r e;rw [h1] at hr;simp only [Option.some.injEq,Prod.mk.injEq,Obj.cells.injEq] at hr;exact ne hr.2.2.1
section
variable {P:Program} {E:Env P} {σ:Nat→Value} {ds:List Deferred} {h:GH} {T:(Nat→Value)→List Deferred→GH→Prop}
variable {dst:Option Nat} {ty:TypeId} {pos:String} {af:Array Edge} {gd:Option (Nat×Bool)}
end
section
variable {h h':GH} {q r:Nat} {M:Int→Option Int}
theorem MapIs.keepNum (x:MapIs h q eNum eNum M) (k:KeepX (fun b=>b=r) h h') (hq:q≠r):MapIs h' q eNum eNum M:=by
 obtain ⟨es,clk,h1,y⟩:=x;obtain ⟨o,h2,h3⟩:=k q _ _ h1 hq;rcases h3 with rfl | ⟨h3,_⟩
 ·exact ⟨es,clk,h2,y⟩
 ·cases h3
end
section
variable {P:Program} {E:Env P} {σ:Nat→Value} {ds:List Deferred} {h:GH} {T:(Nat→Value)→List Deferred→GH→Prop}
variable {dst:Option Nat} {ty:TypeId} {pos:String} {af:Array Edge} {gd:Option (Nat×Bool)}
theorem ok_lookNum {t kt vt:TypeId} {x ix:Operand} {r d:Nat} {M:Int→Option Int} {a:Int} (ht:mapOf P t=some (kt,vt)) (hx:evalS σ x=.map (some r)) (hk:evalS σ ix=.int .i64 a) (hm:MapIs h r eNum eNum M) (hd:Nat.ble (d+1) 10000=true)
  (hc:∀a,ckP P (d+1) kt (eNum a)=true) (he:∀a b,eqP P (d+1) kt (eNum a) (eNum b)=some (a==b)) (hz:(P.info? vt).bind (·.zero)=some (.int .i64 0))
  (k:T (putS σ dst (.int .i64 ((M a).getD 0))) ds h):OpK E ⟨dst,.lookup t x ix false,ty,pos,af,gd⟩ σ ds h T:=by
 refine ok_lookup (ek:=eNum) (ev:=eNum) (a:=a) (z:=.int .i64 0) ht hx hk hm hd (hc _) (fun b=>he a b) hz ?_;cases hM:M a <;> (rw [hM] at k;exact k)
theorem ok_putNum {t kt vt:TypeId} {om ok ox:Operand} {r d:Nat} {M:Int→Option Int} {a n:Int} (ht:mapOf P t=some (kt,vt)) (hm':evalS σ om=.map (some r)) (hk:evalS σ ok=.int .i64 a) (hv:evalS σ ox=.int .i64 n) (hm:MapIs h r eNum eNum M) (hd:Nat.ble (d+1) 10000=true)
  (hc:∀a,ckP P (d+1) kt (eNum a)=true) (he:∀a b,eqP P (d+1) kt (eNum a) (eNum b)=some (a==b)) (hs:∀a,Instr.sameBits 10000 (eNum a) (eNum a)=true)
  (k:∀h',MapIs h' r eNum eNum (fun b=>if b=a then some n else M b)→(∀b,b≠r→h' b=h b)→T (putS σ dst undef) ds h'):OpK E ⟨dst,.mapUpdate t om ok ox,ty,pos,af,gd⟩ σ ds h T:=
 ok_mapUpdate (a:=a) (v:=n) (ek:=eNum) (ev:=eNum) ht hm' hk hv hm hd (hc _) (fun b=>he a b) (hs _) k
end
theorem sameBits_num (a:Int):Instr.sameBits 10000 (eNum a) (eNum a)=true:=by
 show Instr.sameBits (9999+1) (Value.int .i64 a) (Value.int .i64 a)=true;unfold Instr.sameBits;simp
def cntTo (f:Nat→Int):Nat→Int→Option Int
 | 0=>fun _=>none
 | k+1=>fun b=>if b=f k then some ((cntTo f k (f k)).getD 0+1) else cntTo f k b
theorem cntTo_range (f:Nat→Int):∀(k:Nat) (b:Int),0≤(cntTo f k b).getD 0∧(cntTo f k b).getD 0≤(k:Int)
 | 0,b=>by simp [cntTo]
 | k+1,b=>by
  have h1:=cntTo_range f k b;have h2:=cntTo_range f k (f k);unfold cntTo;split
  ·show 0≤(cntTo f k (f k)).getD 0+1∧(cntTo f k (f k)).getD 0+1≤((k+1:Nat):Int);omega
  ·omega
def topTo (f:Nat→Int):Nat→Int
 | 0=>0
 | k+1=>max (topTo f k) ((cntTo f (k+1) (f k)).getD 0)
def askTo (w:Nat→Int) (n:Int):Nat→Int×Int
 | 0=>(-1,n)
 | k+1=>if w k<(askTo w n k).2 then ((k:Int),w k) else askTo w n k
section
variable (d m:Int) (gs:List Good) (ms:List Move) (cs:List Count)
def askBell:Int:=lookBell d m gs ms cs []
def askW (g:Nat):Int:=topTo (fun i=>(stockOf ms ((hists d gs ms cs m).getD ((i:Int)).toNat Past.zero) (g:Int) d).1) (hists d gs ms cs m).length
def askGood:Int:=if askBell d m gs ms cs=0 then (askTo (askW d m gs ms cs) ((hists d gs ms cs m).length:Int) gs.length).1 else 0
def askWorst:Int:=if askBell d m gs ms cs=0 then (askTo (askW d m gs ms cs) ((hists d gs ms cs m).length:Int) gs.length).2 else 0
end
end Go.Ns
namespace Go.Ns
open Go.Conc
open Classical in
noncomputable def GH.delS (h:GH) (X:Nat→Prop):GH:=fun b=>if X b then none else h b
section
variable {h h0 h':GH} {X:Nat→Prop}
theorem GH.delS_in {b:Nat} (x:X b):h.delS X b=none:=if_pos x
theorem GH.delS_ne {b:Nat} (x:¬X b):h.delS X b=h b:=if_neg x
theorem GH.delS_le (h:GH) (X:Nat→Prop):(h.delS X).Le h:=fun b p o hb=>by
 by_cases e:X b
 ·rw [GH.delS_in e] at hb;cases hb
 ·rw [GH.delS_ne e] at hb;exact ⟨o,hb,.inl rfl⟩
theorem GH.Le.delS (l:h0.Le h) (hX:∀b,X b→h0 b=none):h0.Le (h.delS X):=fun b p o hb=>by
 have e:¬X b:=fun x=>by rw [hX b x] at hb;cases hb
 rw [GH.delS_ne e];exact l b p o hb
theorem Elem.delS {b off n:Nat} {vs:Array Value} (x:Elem h b off n vs) (e:¬X b):Elem (h.delS X) b off n vs:=x.same (GH.delS_ne e)
theorem OwnSl.slDelS {α:Type} {v:Value} {t:TypeId} {n:Nat} {enc:α→Array Value} {xs:List α} (x:OwnSl h0 h v t n enc xs) (f:∀b,back v=some b→¬X b):SlIs (h.delS X) v n enc xs:=
 OwnSl.sl (h0:=h0) (x.keep fun b o hb ho=>by rw [GH.delS_ne (f b hb)];exact ho)
theorem OwnSl.rebase {α:Type} {h1:GH} {v:Value} {t:TypeId} {n:Nat} {enc:α→Array Value} {xs:List α} (x:OwnSl h0 h v t n enc xs) (f:∀b,back v=some b→h1 b=none):OwnSl h1 h v t n enc xs:=by
 rcases x with x | ⟨b,cap,c,rfl,h2,h3⟩
 ·exact .inl x
 ·exact .inr ⟨b,cap,c,rfl,f b rfl,h3⟩
end
def mkD (d:Nat):Deferred:={ target:=.collected d,args:=#[] }
def Marks (h0 h:GH) (ds:List Deferred):Prop:=∃l:List Nat,ds=l.map mkD∧l.Nodup∧∀d ∈ l,h0 d=none∧h d=some (true,.deferred (some []))
theorem Marks.nil (h0 h:GH):Marks h0 h []:=⟨[],rfl,List.nodup_nil,fun _ hd=>by cases hd⟩
theorem Marks.le {h0 h h':GH} {ds:List Deferred} (m:Marks h0 h ds) (l:h.Le h'):Marks h0 h' ds:=by
 obtain ⟨L,e,n,x⟩:=m;exact ⟨L,e,n,fun d hd=>⟨(x d hd).1,l.keep (x d hd).2 rfl⟩⟩
theorem Marks.cons {h0 h h':GH} {ds:List Deferred} {d:Nat} (m:Marks h0 h ds) (l:h.Le h') (hn:h d=none) (h0n:h0 d=none) (hd:h' d=some (true,.deferred (some []))):Marks h0 h' ({ target:=.collected d,args:=#[] } ::ds):=by
 obtain ⟨L,rfl,n,x⟩:=m;refine ⟨d ::L,rfl,List.nodup_cons.2 ⟨fun hm=>?_,n⟩,fun b hb=>?_⟩
 ·rw [(x d hm).2] at hn;cases hn
 ·rcases List.mem_cons.1 hb with rfl | hb
  ·exact ⟨h0n,hd⟩
  ·exact ⟨(x b hb).1,l.keep (x b hb).2 rfl⟩
def SameM (h h':GH):Prop:=∀b,h b≠some (true,.deferred (some []))→h' b=h b
theorem SlIs.sameM {α:Type} {h h':GH} {v:Value} {n:Nat} {enc:α→Array Value} {xs:List α} (x:SlIs h v n enc xs) (s:SameM h h'):SlIs h' v n enc xs:=by
 obtain ⟨a,cap,hv,hc,hm,he⟩:=x;refine ⟨a,cap,hv,hc,hm,fun i hi=>?_⟩;obtain ⟨b,off,h1,h2⟩:=he i hi;refine ⟨b,off,h1,h2.same (s b fun e=>?_)⟩;obtain ⟨p,c,t,z,q,_⟩:=h2;rw [e] at q;cases q
theorem outs_marks {P:Program} {fn:Func} {σ:Nat→Value} {R:Value→GH→Prop} {h0:GH}:∀{ds:List Deferred} {h:GH},Marks h0 h ds→h0.Le h→(∀h',SameM h h'→h0.Le h'→Outs P fn σ R [] h')→Outs P fn σ R ds h:=by
 intro ds h ⟨l,e,n,x⟩ lB k;subst e
 induction l generalizing h with
 | nil=>exact k h (fun _ _=>rfl) lB
 | cons d l ih=>
  have hd:=x d (List.mem_cons_self ..);refine ⟨d,rfl,_,hd.2,rfl,?_⟩;have nd:=List.nodup_cons.1 n;have ho:∀b,b≠d→(h.set d true (.deferred none)) b=h b:=fun b hb=>GH.set_ne _ _ _ hb;refine ih nd.2 (fun b hb=>?_) (lB.upd hd.1 ho) fun h' s l'=>k h' (fun b hb=>?_) l'
  ·have:=x b (List.mem_cons_of_mem _ hb)
   exact ⟨this.1,(ho b fun e=>nd.1 (e▸hb)).trans this.2⟩
  ·have e:b≠d:=fun e=>hb (e▸hd.2);rw [s b (by rw [ho b e];exact hb),ho b e]
theorem flat_get {α:Type} {enc:α→Array Value} {n:Nat}:∀{xs:List α},(∀x ∈ xs,(enc x).size=n)→∀(i:Nat) (z:α),i<xs.length→flat enc xs=flat enc (xs.take i)++(enc (xs.getD i z)).toList++flat enc (xs.drop (i+1))
 | [],_,i,z,h=>by simp at h
 | y ::xs,hn,0,z,h=>by simp [flat]
 | y ::xs,hn,i+1,z,h=>by
  have:=flat_get (fun x hx=>hn x (List.mem_cons_of_mem _ hx)) i z (by simpa using h)
  show (enc y).toList++flat enc xs=((enc y).toList++flat enc (xs.take i))++(enc (xs.getD i z)).toList++flat enc (xs.drop (i+1));rw [this];simp only [List.append_assoc]
theorem flat_set {α:Type} {enc:α→Array Value}:∀{xs:List α} (i:Nat) (x:α),i<xs.length→flat enc (xs.set i x)=flat enc (xs.take i)++(enc x).toList++flat enc (xs.drop (i+1))
 | [],i,x,h=>by simp at h
 | y ::xs,0,x,h=>by simp [flat]
 | y ::xs,i+1,x,h=>by
  have:=flat_set (enc:=enc) (xs:=xs) i x (by simpa using h)
  show (enc y).toList++flat enc (xs.set i x)=((enc y).toList++flat enc (xs.take i))++(enc x).toList++flat enc (xs.drop (i+1));rw [this];simp only [List.append_assoc]
theorem OwnSl.put {α:Type} {h0 h h':GH} {t:TypeId} {n cap b i dl:Nat} {enc:α→Array Value} {xs:List α} {c:Array Value} {vs:List Value} {x':α} (z:α) (x:OwnSl h0 h (.slice (some ⟨b,0,none⟩) xs.length cap) t n enc xs) (hb:h b=some (true,.cells c t (0,0)))
  (hi:i<xs.length) (hz:dl+vs.length≤n) (heq:putCells (enc (xs.getD i z)) dl vs=enc x') (hb':h' b=some (true,.cells (putCells c (i*n+dl) vs) t (0,0))):OwnSl h0 h' (.slice (some ⟨b,0,none⟩) xs.length cap) t n enc (xs.set i x'):=by
 rcases x with ⟨e,_⟩ | ⟨b1,cap1,c1,e,f0,f1,f2,f3,f4,f5,f6⟩
 ·cases e
 simp only [Value.slice.injEq,Option.some.injEq,Addr.mk.injEq] at e;obtain ⟨⟨rfl,_⟩,_,rfl⟩:=e;rw [hb] at f1;simp only [Option.some.injEq,Prod.mk.injEq,Obj.cells.injEq,true_and] at f1;obtain ⟨rfl,_⟩:=f1;have hx:(enc (xs.getD i z)).size=n:=f6 _ (getD_mem hi);have hx':(enc x').size=n:=by rw [←heq,putCells_size];exact hx
 refine .inr ⟨_,_,_,by rw [List.length_set],f0,hb',by rw [putCells_size];exact f2,by rw [List.length_set];exact f3,by rw [List.length_set];exact f4,?_,fun y hy=>?_⟩
 ·rw [List.length_set];have hA:(flat enc (xs.take i)).length=i*n:=by
   rw [flat_length (n:=n) (fun y hy=>f6 y (List.mem_of_mem_take hy)),List.length_take];congr 1;omega
  have hlen:(flat enc xs).length=xs.length*n:=flat_length f6;have hmul:i*n+n≤xs.length*n:=by rw [←Nat.succ_mul];exact Nat.mul_le_mul_right n hi
  have hcap:xs.length*n≤c.size:=by rw [f2];exact Nat.mul_le_mul_right n f3
  have hc:c.toList=flat enc xs++c.toList.drop (xs.length*n):=by rw [←f5,List.take_append_drop]
  have hB:(enc x').toList=(enc (xs.getD i z)).toList.take dl++vs++(enc (xs.getD i z)).toList.drop (dl+vs.length):=by rw [←heq,putCells_toList _ _ _ (by omega)]
  have hBl:(enc (xs.getD i z)).toList.length=n:=by rw [Array.length_toList];exact hx
  have hC:(flat enc (xs.take i)).length+n+(flat enc (xs.drop (i+1))).length=xs.length*n:=by
   rw [←hlen];conv=>rhs;rw [flat_get f6 i z hi]
   rw [List.length_append,List.length_append,hBl]
  rw [putCells_toList _ _ _ (by omega),flat_set i x' hi,hB,hc,flat_get f6 i z hi];generalize enc (xs.getD i z)=B at *;generalize flat enc (xs.take i)=A at *;generalize flat enc (xs.drop (i+1))=C at *;generalize c.toList.drop (xs.length*n)=R at *;have e1:(A++B.toList++C++R).take (i*n+dl)=A++B.toList.take dl:=by
   rw [List.append_assoc,List.append_assoc,←hA,List.take_length_add_append,List.take_append_of_le_length (by omega)]
  have e2:(A++B.toList++C++R).drop (i*n+dl+vs.length)=B.toList.drop (dl+vs.length)++C++R:=by
   rw [List.append_assoc,List.append_assoc,show i*n+dl+vs.length=A.length+(dl+vs.length) by omega,List.drop_length_add_append,List.drop_append_of_le_length (by omega),List.append_assoc]
  rw [e1,e2];have e3:A++B.toList.take dl++vs++(B.toList.drop (dl+vs.length)++C++R)=(A++(B.toList.take dl++vs++B.toList.drop (dl+vs.length))++C)++R:=by simp only [List.append_assoc]
  rw [e3,List.take_left' ?_];simp only [List.length_append,List.length_take,List.length_drop,hBl];omega
 ·rcases List.mem_or_eq_of_mem_set hy with h | rfl
  ·exact f6 y h
  ·exact hx'
theorem OwnSl.opened {α:Type} {h0 h:GH} {v:Value} {t:TypeId} {n k:Nat} {enc:α→Array Value} {xs:List α} (x:OwnSl h0 h v t n enc xs) (hk:k<xs.length):∃b cap c,v=.slice (some ⟨b,0,none⟩) xs.length cap∧h b=some (true,.cells c t (0,0)):=by
 rcases x with ⟨_,rfl⟩ | ⟨b,cap,c,h1,_,h2,_⟩
 ·simp at hk
 ·exact ⟨b,cap,c,h1,h2⟩
theorem OwnSl.room {α:Type} {h0 h:GH} {t:TypeId} {n cap b k:Nat} {enc:α→Array Value} {xs:List α} {c:Array Value} (x:OwnSl h0 h (.slice (some ⟨b,0,none⟩) xs.length cap) t n enc xs) (hb:h b=some (true,.cells c t (0,0))) (hk:k<xs.length):k*n+n≤c.size:=by
 rcases x with ⟨e,_⟩ | ⟨b1,cap1,c1,e,f0,f1,f2,f3,_⟩
 ·cases e
 simp only [Value.slice.injEq,Option.some.injEq,Addr.mk.injEq] at e;obtain ⟨⟨rfl,_⟩,_,rfl⟩:=e;rw [hb] at f1;simp only [Option.some.injEq,Prod.mk.injEq,Obj.cells.injEq,true_and] at f1;obtain ⟨rfl,_⟩:=f1;rw [f2,←Nat.succ_mul];exact Nat.mul_le_mul_right n (by omega)
def clearAt (ms:List Move) (i:Nat):List Move:=ms.set i { ms.getD i Move.z with low:=0,high:=0 }
def clearM (ms:List Move) (l:List Int):List Move:=l.foldl (fun ms i=>clearAt ms i.toNat) ms
theorem clearM_succ {ms:List Move} {l:List Int} {k:Nat} (hk:k<l.length):clearM ms (l.take (k+1))=clearAt (clearM ms (l.take k)) (l.getD k 0).toNat:=by
 unfold clearM;rw [take_succ_getD 0 hk,List.foldl_append];rfl
theorem clearAt_length (ms:List Move) (i:Nat):(clearAt ms i).length=ms.length:=by unfold clearAt;rw [List.length_set]
theorem clearM_length (ms:List Move):∀(l:List Int),(clearM ms l).length=ms.length:=by
 intro l;unfold clearM
 induction l generalizing ms with
 | nil=>rfl
 | cons i l ih=>show (l.foldl _ (clearAt ms i.toNat)).length=_;rw [ih,clearAt_length]
theorem clearAt_getD (ms:List Move) (i k:Nat):(clearAt ms i).getD k Move.z=ms.getD k Move.z∨(clearAt ms i).getD k Move.z={ ms.getD k Move.z with low:=0,high:=0 }:=by
 unfold clearAt;rw [List.getD_eq_getElem?_getD,List.getElem?_set];split
 ·rename_i e
  subst e;split
  ·exact .inr rfl
  ·rename_i h
   refine .inl ?_;rw [List.getD_eq_getElem?_getD,List.getElem?_eq_none (by omega)]
 ·refine .inl ?_;rw [←List.getD_eq_getElem?_getD]
theorem moveAt_ok {d:Int} {gs:List Good} {ms:List Move} {k:Nat} (h1:0≤(ms.getD k Move.z).kind∧(ms.getD k Move.z).kind≤4) (h2:0≤(ms.getD k Move.z).good∧(ms.getD k Move.z).good≤(gs.length:Int)-1)
  (h3:1≤(ms.getD k Move.z).day∧(ms.getD k Move.z).day≤d) (h4:lastDay ms k≤(ms.getD k Move.z).day) (h5:isFew (ms.getD k Move.z).low (ms.getD k Move.z).high):moveAt d gs ms k=0:=by
 unfold moveAt;rw [if_neg (not_not_intro h1),if_neg (not_not_intro h2),if_neg (not_not_intro h3),if_neg (by omega),if_neg (not_not_intro h5)]
theorem BookOK.clearAt {d m:Int} {gs:List Good} {ms:List Move} {cs:List Count} (b:BookOK d m gs ms cs) (i:Nat):BookOK d m gs (clearAt ms i) cs:=by
 refine ⟨b.days,b.most,b.glen,b.good,by rw [clearAt_length];exact b.mlen,fun k hk=>?_,b.clen,b.count⟩;rw [clearAt_length] at hk;have hd:∀k,((Go.Ns.clearAt ms i).getD k Move.z).day=(ms.getD k Move.z).day:=fun k=>by rcases clearAt_getD ms i k with e | e <;> rw [e]
 have hl:lastDay (Go.Ns.clearAt ms i) k=lastDay ms k:=by unfold lastDay;rw [hd]
 obtain ⟨g1,g2,g3,g4,g5⟩:=b.move' hk;refine moveAt_ok ?_ ?_ ?_ ?_ ?_
 ·rcases clearAt_getD ms i k with e | e <;> rw [e] <;> exact g1
 ·rcases clearAt_getD ms i k with e | e <;> rw [e] <;> exact g2
 ·rw [hd];exact g3
 ·rw [hl,hd];exact g4
 ·rcases clearAt_getD ms i k with e | e <;> rw [e]
  ·exact g5
  ·show isFew 0 0;decide
theorem BookOK.clear {d m:Int} {gs:List Good} {cs:List Count}:∀{l:List Int} {ms:List Move},BookOK d m gs ms cs→BookOK d m gs (clearM ms l) cs
 | [],_,b=>b
 | i ::l,_,b=>BookOK.clear (l:=l) (b.clearAt i.toNat)
def allNotes (ms:List Move) (mask:Int) (k:Nat):Bool:=(List.range k).all fun i=> !bitOn mask i || isNoteB ms i
def blameOne (d:Int) (gs:List Good) (ms:List Move) (cs:List Count) (mask:Nat):Option (List Int):=
 if allNotes ms (mask:Int) ms.length=true then
  if hists d gs (clearM ms (pickI (mask:Int) ms.length)) cs 0=[] then none else some (pickI (mask:Int) ms.length)
 else none
def blameTo (d:Int) (gs:List Good) (ms:List Move) (cs:List Count) (k:Nat):List (List Int):=(List.range k).filterMap (blameOne d gs ms cs)
theorem blameTo_none {d:Int} {gs:List Good} {ms:List Move} {cs:List Count} {k:Nat} (h:blameOne d gs ms cs k=none):blameTo d gs ms cs (k+1)=blameTo d gs ms cs k:=by
 unfold blameTo;rw [List.range_succ,List.filterMap_append];simp [h]
theorem blameTo_some {d:Int} {gs:List Good} {ms:List Move} {cs:List Count} {k:Nat} {l:List Int} (h:blameOne d gs ms cs k=some l):blameTo d gs ms cs (k+1)=blameTo d gs ms cs k++[l]:=by
 unfold blameTo;rw [List.range_succ,List.filterMap_append];simp [h]
theorem pow_64 {n:Nat} (h:n≤6):1≤(2:Int) ^ n∧(2:Int) ^ n≤64:=by
 have:n=0∨n=1∨n=2∨n=3∨n=4∨n=5∨n=6:=by omega
 rcases this with rfl | rfl | rfl | rfl | rfl | rfl | rfl <;> decide
theorem pickI_rng (mask:Int) (n q:Nat):q<(pickI mask n).length→0≤(pickI mask n).getD q 0∧(pickI mask n).getD q 0<(n:Int):=fun hq=>by
 have:=getD_mem (d:=(0:Int)) hq
 unfold pickI at this ⊢;obtain ⟨i,hi,e⟩:=List.mem_map.1 this
 have:=List.mem_range.1 (List.mem_filter.1 hi).1
 rw [←e];omega
theorem allNotes_zero (ms:List Move) (mask:Int):allNotes ms mask 0=true:=rfl
theorem allNotes_next {ms:List Move} {mask:Int} {j:Nat} (h:allNotes ms mask j=true) (e:mask.fdiv (2 ^ j)%2=0∨isNoteB ms (j:Int)=true):allNotes ms mask (j+1)=true:=by
 unfold allNotes at *;rw [List.range_succ,List.all_append,h];rcases e with e | e
 ·have:bitOn mask j=false:=by unfold bitOn;rw [decide_eq_false (by omega)]
  simp [this]
 ·simp [e]
theorem blame_skip {d:Int} {gs:List Good} {ms:List Move} {cs:List Count} {k j:Nat} (hj:j<ms.length) (hb:¬(k:Int).fdiv (2 ^ j)%2=0) (hn:¬((0≤(j:Int)∧(j:Int)≤(ms.length:Int)-1)∧(ms.getD ((j:Int)).toNat Move.z).kind=0)):blameOne d gs ms cs k=none:=by
 unfold blameOne;rw [if_neg];unfold allNotes;rw [List.all_eq_true];intro h
 have:=h j (List.mem_range.2 hj)
 have e1:bitOn (k:Int) j=true:=by unfold bitOn;rw [decide_eq_true];omega
 have e2:isNoteB ms (j:Int)=false:=by unfold isNoteB;exact decide_eq_false hn
 rw [e1,e2] at this;cases this
theorem blame_no {d:Int} {gs:List Good} {ms:List Move} {cs:List Count} {k j q:Nat} (hj:j≤ms.length) (hj':¬(j:Int)<(ms.length:Int)) (ha:allNotes ms (k:Int) j=true) (hq:¬(q:Int)<((pickI (k:Int) j).length:Int)) (h:hists d gs (clearM ms ((pickI (k:Int) j).take q)) cs 0=[]):blameOne d gs ms cs k=none:=by
 obtain rfl:j=ms.length:=by omega
 rw [List.take_of_length_le (by omega)] at h;unfold blameOne;rw [if_pos ha,if_pos h]
theorem blame_yes {d:Int} {gs:List Good} {ms:List Move} {cs:List Count} {k j q:Nat} (hj:j≤ms.length) (hj':¬(j:Int)<(ms.length:Int)) (ha:allNotes ms (k:Int) j=true) (hq:¬(q:Int)<((pickI (k:Int) j).length:Int)) (h:hists d gs (clearM ms ((pickI (k:Int) j).take q)) cs 0≠[]):blameOne d gs ms cs k=some (pickI (k:Int) j):=by
 obtain rfl:j=ms.length:=by omega
 rw [List.take_of_length_le (by omega)] at h;unfold blameOne;rw [if_pos ha,if_neg h]
theorem lists_snoc {fl:List Sl} {v:Value} {xs:List Int} {l:List (List Int)} (h:lists fl=l):lists (fl++[(v,xs)])=l++[xs]:=by unfold lists at *;rw [List.map_append,h];rfl
theorem SlAll.drop {h:GH} {l:List Sl} (a:SlAll h l) (n:Nat):SlAll h (l.drop n):=fun k=>by
 have:=a (n+k)
 rw [List.getD_eq_getElem?_getD] at this ⊢;rw [List.getElem?_drop];exact this
section
variable (d m:Int) (gs:List Good) (ms:List Move) (cs:List Count)
def blameBell:Int:=if bookBell d m gs ms cs=0 then (if (blameTo d gs ms cs (2 ^ ms.length)).length=0 then 9 else 0) else bookBell d m gs ms cs
def blameL:List Int:=if blameBell d m gs ms cs=0 then bestL ((blameTo d gs ms cs (2 ^ ms.length)).getD 0 []) ((blameTo d gs ms cs (2 ^ ms.length)).drop 1) else []
end
section
variable {d m:Int} {gs:List Good} {ms:List Move} {cs:List Count} {fl:List Sl} {k:Nat}
theorem blameBell_bad (h:¬bookBell d m gs ms cs=0):blameBell d m gs ms cs=bookBell d m gs ms cs:=by unfold blameBell;rw [if_neg h]
theorem blameBell_ok (h:bookBell d m gs ms cs=0):blameBell d m gs ms cs=if (blameTo d gs ms cs (2 ^ ms.length)).length=0 then 9 else 0:=by unfold blameBell;rw [if_pos h]
theorem pow_nat (n:Nat):((2 ^ n:Nat):Int)=(2:Int) ^ n:=by induction n with
 | zero=>rfl
 | succ n ih=>rw [Nat.pow_succ,Int.pow_succ,←ih];rfl
theorem masks_end (hk:(k:Int)≤(2:Int) ^ ((ms.length:Int)).toNat) (hk':¬(k:Int)<(2:Int) ^ ((ms.length:Int)).toNat):k=2 ^ ms.length:=by
 have:=pow_nat ms.length
 rw [Int.toNat_natCast] at hk hk';omega
theorem lists_length (l:List Sl):(lists l).length=l.length:=by unfold lists;simp
theorem blameT_bad (h:¬bookBell d m gs ms cs=0):(.tuple #[.slice none 0 0,.int .i64 (bookBell d m gs ms cs)]:Value)=.tuple #[.slice none 0 0,.int .i64 (blameBell d m gs ms cs)]:=by rw [blameBell_bad h]
theorem blameBell_none (hfl:lists fl=blameTo d gs ms cs k) (hk:(k:Int)≤(2:Int) ^ ((ms.length:Int)).toNat) (hk':¬(k:Int)<(2:Int) ^ ((ms.length:Int)).toNat) (hb:¬¬bookBell d m gs ms cs=0) (h0:(fl.length:Int)=0):blameBell d m gs ms cs=9:=by
 obtain rfl:=masks_end hk hk';rw [blameBell_ok (Decidable.not_not.1 hb),←hfl,lists_length,if_pos (by omega)]
theorem blameBell_some (hfl:lists fl=blameTo d gs ms cs k) (hk:(k:Int)≤(2:Int) ^ ((ms.length:Int)).toNat) (hk':¬(k:Int)<(2:Int) ^ ((ms.length:Int)).toNat) (hb:¬¬bookBell d m gs ms cs=0) (h0:¬(fl.length:Int)=0):blameBell d m gs ms cs=0:=by
 obtain rfl:=masks_end hk hk';rw [blameBell_ok (Decidable.not_not.1 hb),←hfl,lists_length,if_neg (by omega)]
theorem blameL_bad (h:¬bookBell d m gs ms cs=0):blameL d m gs ms cs=[]:=by unfold blameL;rw [blameBell_bad h,if_neg h]
theorem blameL_none (hfl:lists fl=blameTo d gs ms cs k) (hk:(k:Int)≤(2:Int) ^ ((ms.length:Int)).toNat) (hk':¬(k:Int)<(2:Int) ^ ((ms.length:Int)).toNat) (hb:¬¬bookBell d m gs ms cs=0) (h0:(fl.length:Int)=0):blameL d m gs ms cs=[]:=by
 unfold blameL;rw [blameBell_none hfl hk hk' hb h0,if_neg (by decide)]
theorem blameL_ok (hfl:lists fl=blameTo d gs ms cs k) (hk:(k:Int)≤(2:Int) ^ ((ms.length:Int)).toNat) (hk':¬(k:Int)<(2:Int) ^ ((ms.length:Int)).toNat) (hb:¬¬bookBell d m gs ms cs=0) (h0:¬(fl.length:Int)=0):blameL d m gs ms cs=bestL (fl.getD 0 Sl.z).2 (lists (fl.drop 1)):=by
 have e:=masks_end hk hk';unfold blameL;rw [blameBell_some hfl hk hk' hb h0,if_pos rfl];subst e;rw [←hfl,lists_getD (by omega)];congr 1;unfold lists;rw [List.map_drop]
end
theorem fl_len {d:Int} {gs:List Good} {ms:List Move} {cs:List Count} {fl:List Sl} {k:Nat} (h:lists fl=blameTo d gs ms cs k):fl.length≤k:=by
 rw [←lists_length,h];unfold blameTo
 have:=List.length_filterMap_le (blameOne d gs ms cs) (List.range k)
 rw [List.length_range] at this;exact this
theorem fill_sl1 {v:Value} (h:v.cells=#[v]):Instr.fill (fun i=>some (i*1,1)) ((Array.range (1*1)).map (#[Value.slice none 0 0][·% #[Value.slice none 0 0].size]!)) [(0,v)]=some #[v]:=by
 have e:((Array.range (1*1)).map (#[Value.slice none 0 0][·% #[Value.slice none 0 0].size]!))=#[Value.slice none 0 0]:=by kernel_rfl
 rw [e];simp [Instr.fill,h]
def JFnd {α:Type} (hB:GH) (r:Nat) (T t:TypeId) (wf:Value) (fl:List Sl) (pre:List α) (Y:Nat→Prop) (h:GH):Prop:=
 pre=[]∧h r=some (true,.cells #[wf] T (0,0))∧OwnSl hB h wf t 1 eSl fl∧Off wf r∧hB r=none∧∀b,Y b↔b=r∨back wf=some b
def SFnd {α:Type} (hB:GH) (r:Nat) (T t:TypeId) (fl:List Sl) (cd:Code) (all:List α) (c:Code) (h:GH):Prop:=
 c=cd∧(∃w,h r=some (true,.cells #[w] T (0,0))∧OwnSl hB h w t 1 eSl fl∧Off w r)∧all≠[]
theorem jfnd_prom {α:Type} (hB:GH) (r:Nat) (T t:TypeId) (wf:Value) (fl:List Sl):Prom hB (JFnd (α:=α) hB r T t wf fl):=by
 refine ⟨?_,?_⟩
 ·rintro pre Y h b ⟨_,h1,h2,h3,h0,h4⟩ hb;rcases (h4 b).1 hb with rfl | h5
  ·exact ⟨_,_,h1,rfl⟩
  ·obtain ⟨c,hc⟩:=h2.cellsAt b h5;exact ⟨_,_,hc,rfl⟩
 ·rintro pre Y h h' ⟨e,h1,h2,h3,h0,h4⟩ same lB;exact ⟨e,by rw [same r ((h4 r).2 (.inl rfl))];exact h1,h2.keep fun b o hb ho=>by rw [same b ((h4 b).2 (.inr hb))];exact ho,h3,h0,h4⟩
theorem jfnd_start {α:Type} {hK h:GH} {r:Nat} {T t:TypeId} {wf:Value} {fl:List Sl} (x:h r=some (true,.cells #[wf] T (0,0))) (o:OwnSl hK h wf t 1 eSl fl) (f:Off wf r) :
  JFnd (α:=α) (h.delS fun b=>b=r∨back wf=some b) r T t wf fl [] (fun b=>b=r∨back wf=some b) h:=
 ⟨rfl,x,o.rebase fun _ q=>GH.delS_in (.inr q),f,GH.delS_in (.inl rfl),fun _=>Iff.rfl⟩
theorem sfnd_stable {α:Type} {hB:GH} {r:Nat} {T t:TypeId} {fl:List Sl} {cd:Code} {all:List α}:∀c (h h':GH) l lo,SFnd hB r T t fl cd all c h→h l=some (true,.loop lo)→(∀b,b≠l→h' b=h b)→SFnd hB r T t fl cd all c h':=by
 rintro c h h' l lo ⟨q1,⟨w,q2,q3,q4⟩,q5⟩ hl ho;refine ⟨q1,⟨w,(ho _ fun e=>by subst e;rw [q2] at hl;cases hl).trans q2,q3.keep fun b o hb hbo=>?_,q4⟩,q5⟩;obtain ⟨c,hc⟩:=q3.cellsAt b hb;exact (ho b fun e=>by subst e;rw [hc] at hl;cases hl).trans hbo
end Go.Ns
