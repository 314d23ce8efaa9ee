/- Rules and walks, part 2 of 6. No conditions. -/
import Derived.Sort.AssemblyPlain
import Derived.Sort.LotD3
import Derived.Test.YthccgklboafliaaGreatDoorRzA
set_option linter.unusedVariables false
set_option linter.unusedSimpArgs false
set_option linter.unnecessarySimpa false
set_option linter.unusedSectionVars false
namespace Go.Ns
open Go.Conc
section
variable {P:Program} {E:Gm P} {σ:Nat→Value} {ds:List Deferred} {h:GH} {T:(Nat→Value)→List Deferred→GH→Prop}
variable {dst:Option Nat} {ty:TypeId} {pos:String} {af:Array Edge} {gd:Option (Nat×Bool)}
variable {α:Type}
def FQ (R:GH→GH→Prop):List Pn→Prop
 | []=>True
 | φ ::l=>(∀v h h',R h h'→φ v h→φ v h')∧FQ R l
theorem FQ.mono {R:GH→GH→Prop}:∀{Φ:List Pn},FQ R Φ→∀k v h h',R h h'→LT Φ k v h→LT Φ k v h'
 | [],_,k,v,h,h',_,x=>by cases k <;> exact x
 | φ ::l,ok,0,v,h,h',r,x=>ok.1 v h h' r x
 | φ ::l,ok,k+1,v,h,h',r,x=>FQ.mono ok.2 k v h h' r x
theorem S1 {R:GH→GH→Prop} (rr:∀h,R h h) (rt:∀a b c,R a b→R b c→R a c) {id:Nat} {l:List Oper} {Q:Post} (n:Nat) (cls:List (List Nat)) (Φ:List Pn)
  (hm:P.follows .mixedOrders=true) (ok:N0 E.N l n cls=true) (mono:FQ R Φ) (x:LU R E l n Φ σ ds h Q n 0 l cls):Tr E (.region id l.toArray true) σ ds h Q:=
 tr_draw R n cls Φ hm ok rr rt mono.mono x
theorem N8 {id:Nat} {l:List Oper} {Q:Post} (n:Nat) (cls:List (List Nat)) (Φ:List Pn)
  (hm:P.follows .mixedOrders=true) (ok:N0 E.N l n cls=true) (mono:FQ GH.Le Φ) (x:LU GH.Le E l n Φ σ ds h Q n 0 l cls):Tr E (.region id l.toArray true) σ ds h Q:=
 S1 GH.Le.refl (fun _ _ _=>GH.Le.trans) n cls Φ hm ok mono x
theorem trL_opg {ops:Array Oper} {o:Oper} {l:List Oper} {Q:Post} {j d:Nat} {want:Bool} {oj:Oper} (hg:o.guard=some (j,want)) (hj:ops[j]? =some oj) (hjd:oj.dst=some d) (hv:σ d=.bool want) (hdj:Nat.blt d E.N=true)
  (hdf:E.rd=none∨EM o.op=false) (hd:Ej o.dst E.N=true) (x:Bi E o σ ds h fun σ' ds' h'=>EL E ops l σ' ds' h' Q):EL E ops (o ::l) σ ds h Q:=RO hg hj hjd hv hdj hdf hd x
theorem B6 {ops:Array Oper} {o:Oper} {l:List Oper} {Q:Post} {j d:Nat} {want:Bool} {oj:Oper} (hg:o.guard=some (j,want)) (hj:ops[j]? =some oj) (hjd:oj.dst=some d) (hv:σ d=undef) (hdj:Nat.blt d E.N=true)
  (hd:Ej o.dst E.N=true) (x:EL E ops l (putS σ o.dst undef) ds h Q):EL E ops (o ::l) σ ds h Q:=by
 intro i b k cs L t hi hb hr hl hs hc;have ho:ops[i]? =some o:=by simpa using (hi 0).symm
 have hy:yielded ops t j=none:=by
  have hlt:d<t.size:=by rw [hs.1];exact Nat.blt_eq▸hdj
  have h2:=hs.2 d;rw [hv] at h2;have h3:t[d]? =some undef:=by
   simp only [Array.getD_eq_getD_getElem?,Array.getElem?_eq_getElem hlt,Option.getD_some] at h2;rw [Array.getElem?_eq_getElem hlt,h2]
  simp [yielded,hj,hjd,h3,undef]
 refine Wk.go (Cj b (Xo t o.dst undef) ds (.inRegion ops (List.range' (i+1) l.length) ::k)) (fun w=>?_) ?_
 ·have hw':((ops[i]?).map (Region.wanted · (yielded ops t))).getD false=false:=by
   simp only [ho,Option.map_some,Option.getD_some,Region.wanted,hg,hy];cases want <;> rfl
  rw [←DM ho (rest:=List.range' (i+1) l.length),List.length_cons,List.range'_succ,A9];unfold stepG.exec;simp only [Cj,hw',Bool.false_eq_true,↓reduceIte];rfl
 ·exact x (i+1) b k cs L _ (fun j=>by have:=hi (j+1);simpa [Nat.add_assoc,Nat.add_comm 1 j] using this) hb hr hl (hs.putS hd undef) hc
theorem BN {ops:Array Oper} {l:List Oper} {Q:Post} {p:Prop} [Decidable p] (a:p→EL E ops l σ ds h Q) (a':¬p→EL E ops l σ ds h Q):EL E ops l σ ds h Q:=if h:p then a h else a' h
theorem IJ {ops:Array Oper} {l:List Oper} {Q:Post} {b:Bool} (a:b=true→EL E ops l σ ds h Q) (a':b=false→EL E ops l σ ds h Q):EL E ops l σ ds h Q:=by
 cases b with
 | true=>exact a rfl
 | false=>exact a' rfl
theorem RY {f:Fn} {x1:Operand} {v1:Value} (h1:AU σ x1=v1) (k:T (putS σ dst (.func f #[] #[v1])) ds h):Bi E ⟨dst,.makeFunc f #[] #[x1],ty,pos,af,gd⟩ σ ds h T:=GR (by simp [h1]) k
theorem Gu {f:Fn} {x1 x2:Operand} {v1 v2:Value} (h1:AU σ x1=v1) (h2:AU σ x2=v2) (k:T (putS σ dst (.func f #[] #[v1,v2])) ds h):Bi E ⟨dst,.makeFunc f #[] #[x1,x2],ty,pos,af,gd⟩ σ ds h T:=GR (by simp [h1,h2]) k
theorem Gv {f:Fn} {x1 x2 x3:Operand} {v1 v2 v3:Value} (h1:AU σ x1=v1) (h2:AU σ x2=v2) (h3:AU σ x3=v3) (k:T (putS σ dst (.func f #[] #[v1,v2,v3])) ds h):Bi E ⟨dst,.makeFunc f #[] #[x1,x2,x3],ty,pos,af,gd⟩ σ ds h T:=GR (by simp [h1,h2,h3]) k
theorem RZ {f:Fn} {x1 x2 x3 x4:Operand} {v1 v2 v3 v4:Value} (h1:AU σ x1=v1) (h2:AU σ x2=v2) (h3:AU σ x3=v3) (h4:AU σ x4=v4) (k:T (putS σ dst (.func f #[] #[v1,v2,v3,v4])) ds h):Bi E ⟨dst,.makeFunc f #[] #[x1,x2,x3,x4],ty,pos,af,gd⟩ σ ds h T:=GR (by simp [h1,h2,h3,h4]) k
theorem Ra {f:Fn} {x1 x2 x3 x4 x5:Operand} {v1 v2 v3 v4 v5:Value} (h1:AU σ x1=v1) (h2:AU σ x2=v2) (h3:AU σ x3=v3) (h4:AU σ x4=v4) (h5:AU σ x5=v5) (k:T (putS σ dst (.func f #[] #[v1,v2,v3,v4,v5])) ds h):Bi E ⟨dst,.makeFunc f #[] #[x1,x2,x3,x4,x5],ty,pos,af,gd⟩ σ ds h T:=GR (by simp [h1,h2,h3,h4,h5]) k
theorem DL {v:Value} {p:Prop} [Decidable p] (e:v=.bool (decide p)) (g:v=.bool false):¬p:=by
 rw [e] at g;simpa using g
theorem AR.fresh {h0 h:GH} {v:Value} {t:TypeId} {n:Nat} {enc:α→Array Value} {xs:List α} (x:AR h0 h v t n enc xs):∀b,Bw v=some b→h0 b=none:=by
 intro b hb;rcases x with ⟨rfl,_⟩ | ⟨b',cap,c,rfl,h1,_⟩
 ·cases hb
 ·simp [Bw] at hb;subst hb;exact h1
theorem AR.inDom {h0 h:GH} {v:Value} {t:TypeId} {n:Nat} {enc:α→Array Value} {xs:List α} (x:AR h0 h v t n enc xs):∀b,Bw v=some b→∃o,h b=some o:=by
 intro b hb;rcases x with ⟨rfl,_⟩ | ⟨b',cap,c,rfl,h1,h2,_⟩
 ·cases hb
 ·simp [Bw] at hb;subst hb;exact ⟨_,h2⟩
def By (v:Value) (b:Nat):Prop:=Bw v≠some b
def Apart (v w:Value):Prop:=∀b,Bw v=some b→Bw w≠some b
theorem Apart.symm {v w:Value} (a:Apart v w):Apart w v:=fun b h h'=>a b h' h
theorem By.nil {b:Nat}:By (.slice none 0 0) b:=by intro h;cases h
theorem Apart.nil {w:Value}:Apart (.slice none 0 0) w:=by intro b h;cases h
theorem By.old {h0 h:GH} {v:Value} {t:TypeId} {n:Nat} {enc:α→Array Value} {xs:List α} (x:AR h0 h v t n enc xs) {b:Nat} {o:Bool×Obj} (hb:h0 b=some o):By v b:=fun e=>by
 rw [x.fresh b e] at hb;cases hb
theorem By.new {h0 h:GH} {v:Value} {t:TypeId} {n:Nat} {enc:α→Array Value} {xs:List α} (x:AR h0 h v t n enc xs) {b:Nat} (hb:h b=none):By v b:=fun e=>by
 obtain ⟨o,ho⟩:=x.inDom b e;rw [hb] at ho;cases ho
def F2 (h h':GH) (v v':Value):Prop:=(∀b o,h b=some o→Bw v≠some b→h' b=some o)∧(Bw v'=Bw v∨((∃r,Bw v'=some r∧h r=none)∧∀b o,h b=some o→h' b=some o))
theorem By.grown {h h':GH} {v v':Value} (g:F2 h h' v v') {b:Nat} {o:Bool×Obj} (hb:h b=some o) (x:By v b):By v' b:=fun e=>by
 rcases g.2 with q | ⟨⟨r,q1,q2⟩,_⟩
 ·exact x (q▸e)
 ·rw [q1] at e;cases e;rw [q2] at hb;cases hb
theorem Apart.grown {h h' h0:GH} {v v' w:Value} (g:F2 h h' v v') {t:TypeId} {n:Nat} {enc:α→Array Value} {xs:List α} (y:AR h0 h w t n enc xs) (x:Apart v w):Apart v' w:=fun b e e'=>by
 obtain ⟨o,ho⟩:=y.inDom b e';rcases g.2 with q | ⟨⟨r,q1,q2⟩,_⟩
 ·exact x b (q▸e) e'
 ·rw [q1] at e;cases e;rw [q2] at ho;cases ho
theorem AR.grown {h h' h0:GH} {v v' w:Value} (g:F2 h h' v v') {t:TypeId} {n:Nat} {enc:α→Array Value} {xs:List α} (y:AR h0 h w t n enc xs) (x:Apart v w):AR h0 h' w t n enc xs:=
 y.keep fun b o hb ho=>g.1 b o ho fun e=>x b e hb
theorem GH.Le.grown {h1 h h':GH} {v v':Value} (g:F2 h h' v v') (l:h1.Le h) (f:∀b,Bw v=some b→h1 b=none):h1.Le h':=fun b p o hb=>by
 obtain ⟨o',h2,h3⟩:=l b p o hb;exact ⟨o',g.1 b _ h2 fun e=>(by rw [f b e] at hb;cases hb),h3⟩
theorem CU {h h':GH} {v v':Value} (g:F2 h h' v v') {b:Nat} {o:Bool×Obj} (hb:h b=some o) (x:By v b):h' b=some o:=g.1 b o hb x
theorem AR.stored {h0 h h':GH} {v:Value} {t:TypeId} {n:Nat} {enc:α→Array Value} {xs:List α} (y:AR h0 h v t n enc xs) {r:Nat} (x:By v r) (ho:∀b,b≠r→h' b=h b):AR h0 h' v t n enc xs:=
 y.keep fun b o hb hb'=>by rw [ho b fun e=>by subst e;exact x hb];exact hb'
theorem Bc {s x:TypeId} {o1 o2:Operand} {h0:GH} {v w:Value} {e n bytes:Nat} {enc:α→Array Value} {xs ys:List α} (ht:IG P s x=some (e,n,bytes)) (h1:AU σ o1=v) (h2:AU σ o2=w)
  (hv:AR h0 h v e n enc xs) (hw:AJ h w n enc ys) (l0:∀r,h r=none→h0 r=none) (hb:(2*(xs.length+ys.length)+512)*bytes≤2 ^ 48) (hfine:∀y ∈ ys,(enc y).toList.all (·.oneCell')=true)
  (k:∀v' h',AR h0 h' v' e n enc (xs++ys)→F2 h h' v v'→T (putS σ dst v') ds h') :
  Bi E ⟨dst,.call ⟨.builtin .append,#[o1,o2],#[s,x]⟩,ty,pos,af,gd⟩ σ ds h T:=
 Xs ht h1 h2 hv hw l0 hb hfine fun v' h' a b c=>k v' h' a ⟨b,c⟩
theorem Ap {h0:GH} {t:TypeId} {x ix:Operand} {n:Nat} {enc:α→Array Value} {xs:List α} {v:Value} {kd:IntKind} {i:Int} (ht:EI P t=some n) (hs:AJ h0 v n enc xs) (hx:AU σ x=v) (hi:AU σ ix=.int kd i) (h0':0≤i) (h1:i<xs.length)
  (k:∀b off,AZ h0 b off n (enc (xs[i.toNat]'(by omega)))→T (putS σ dst (.pointer (some ⟨b,off,none⟩))) ds h):Bi E ⟨dst,.indexAddr t x ix,ty,pos,af,gd⟩ σ ds h T:=by
 obtain ⟨a,cap,rfl,_,_,he⟩:=hs;obtain ⟨b,off,rfl,hb⟩:=he i.toNat (by omega);exact AH ht hx hi h0' h1 (k b _ hb)
theorem AR.built {h h':GH} {r:Nat} {t:TypeId} {n:Nat} {enc:α→Array Value} {xs:List α} {c:Array Value} {m:Nat} (hr:h r=none) (hb:h' r=some (true,.cells c t (0,0))) (hm:xs.length=m) (hml:Nat.ble m 16777216=true) (hn:∀x ∈ xs,(enc x).size=n) (hc:c.toList=DJ enc xs) :
  AR h h' (.slice (some ⟨r,0,none⟩) m m) t n enc xs:=by
 subst hm
 have:=Nat.le_of_ble_eq_true hml
 refine .inr ⟨r,_,c,rfl,hr,hb,?_,Nat.le_refl _,by omega,?_,hn⟩
 ·rw [←EJ hn,←hc,Array.length_toList]
 ·rw [hc,←EJ hn,List.take_length]
theorem Aa {t:TypeId} {len n:Nat} {z cells:Array Value} {e:TypeId} {parts:Array (Nat×Operand)} (hs:Dt P t=some (n,z,e)) (hl:len*n≤2 ^ 24) (hn:(len*n=0)=False)
  (hf:Instr.fill (fun i=>some (i*n,n)) ((Array.range (len*n)).map (z[·%z.size]!)) (parts.map fun (i,x)=>(i,AU σ x)).toList=some cells)
  (k:∀r h',h r=none→h.Le h'→h' r=some (true,.cells cells e (0,0))→(∀b,b≠r→h' b=h b)→T (putS σ dst (.slice (some ⟨r,0,none⟩) len len)) ds h'):Bi E ⟨dst,.buildSlice t len parts,ty,pos,af,gd⟩ σ ds h T:=
 Pm hs hl hn hf fun r hr=>k r _ hr (GH.Le.new hr _ _) (GH.set_same _ _ _ _) fun b hb=>GH.set_ne _ _ _ hb
theorem S2 {s x:TypeId} {o1 o2:Operand} {b off dl cap n:Nat} {e:TypeId} {enc:α→Array Value} {ys:List α} {w:Value} {c c':Array Value} (ht:EI P s=some n) (h1:AU σ o1=.slice (some ⟨b,off,none⟩) dl cap) (h2:AU σ o2=w)
  (hb:h b=some (true,.cells c e (0,0))) (hn:off+dl*n≤c.size) (hw:AJ h w n enc ys) (hl:ys.length≤dl) (hfine:∀y ∈ ys,(enc y).toList.all (·.oneCell')=true) (hsz:∀y ∈ ys,(enc y).size=n) (hc:B0 c off (DJ enc ys)=c')
  (k:∀h',h' b=some (true,.cells c' e (0,0))→(∀x,x≠b→h' x=h x)→T (putS σ dst (.int .i64 ys.length)) ds h') :
  Bi E ⟨dst,.call ⟨.builtin .copy,#[o1,o2],#[s,x]⟩,ty,pos,af,gd⟩ σ ds h T:=
 ok_copy ht h1 h2 hb hn hw hl hfine hsz (k _ (by rw [hc];exact GH.set_same _ _ _ _) fun x hx=>GH.set_ne _ _ _ hx)
theorem Fj {t:TypeId} {n:Nat} {z:Array Value} {e:TypeId} (hs:Dt P t=some (n,z,e)) (k:∀r h',h r=none→h.Le h'→h' r=some (true,.cells #[] e (0,0))→(∀b,b≠r→h' b=h b)→T (putS σ dst (.slice (some ⟨r,0,none⟩) 0 0)) ds h') :
  Bi E ⟨dst,.buildSlice t 0 #[],ty,pos,af,gd⟩ σ ds h T:=by
 unfold Bi execOp;refine F0 ?_;unfold Dt at hs;unfold Instr.buildSlice;cases hu:P.underlying t with
 | none=>rw [hu] at hs;cases hs
 | some d=>
  rw [hu] at hs;cases d <;> first | (cases hs;done) | skip
  rename_i e'
  simp only at hs;cases ht:CT P e' with
  | none=>rw [ht] at hs;cases hs
  | some x=>
   cases hz:CA P e' with
   | none=>rw [ht,hz] at hs;cases hs
   | some z'=>
    rw [ht,hz] at hs;simp only [Option.some.injEq,Prod.mk.injEq] at hs;obtain ⟨rfl,rfl,rfl⟩:=hs;refine AG _ _ (Aq hu ?_);refine AG _ _ (F5 (by rw [ht];rfl) ?_);rw [Nat.zero_mul,if_neg (by decide)];dsimp only;rw [if_pos rfl];refine AG _ _ (A1 ?_);have e0:Instr.fill (fun i=>some (i*x.snd,x.snd)) (Array.map (fun y=>(#[]:Array Value)[y%(#[]:Array Value).size]!) (Array.range 0)) (Array.map (fun y:Nat×Operand=>(y.fst,AU σ y.snd)) #[]).toList=some #[]:=by
     simp [Instr.fill]
    rw [e0];dsimp only;refine AG _ _ ?_;unfold newRow;refine AG _ _ (fun r hr=>?_);exact k r _ hr (GH.Le.new hr _ _) (GH.set_same _ _ _ _) fun b hb=>GH.set_ne _ _ _ hb
end
end Go.Ns
namespace Go.Ns
open Go.Conc
section
variable {P:Program} {E:Gm P}
def Gx:Op→Option (List Operand)
 | .move x | .assign x | .box _ x | .unOp _ _ x | .convert _ _ x | .load _ x | .fieldAddr _ x _ | .field _ x _ | .nilCheck x | .extract x _ | .makeInterface _ x | .makeChan _ x | .typeAssert x _ _ _=>some [x]
 | .pick c a b=>some [c,a,b]
 | .alloc _=>some []
 | .build _ ps | .buildSlice _ _ ps=>some (ps.toList.map (·.2))
 | .store _ a x | .binOp _ _ a x _ | .indexAddr _ a x | .index _ a x | .lookup _ a x _ | .makeSlice _ a x=>some [a,x]
 | .makeFunc _ f c=>some (f.toList++c.toList)
 | .makeMap _ r=>some r.toList
 | .slice _ x lo hi mx=>some (x ::(lo.toList++(hi.toList++mx.toList)))
 | .mapUpdate _ m k x=>some [m,k,x]
 | .call c=>some (c.args.toList++match c.callee with | .value f=>[f] | .invoke r _=>[r] | .builtin _=>[])
 | _=>none
theorem N9 {ρ ρ':Operand→Value} {a:Array Operand} (e:∀x ∈ a.toList,ρ x=ρ' x):a.map ρ=a.map ρ':=by
 apply Array.toList_inj.1;rw [Array.toList_map,Array.toList_map];exact List.map_congr_left e
theorem S3 {ρ ρ':Operand→Value} {a:Array (Nat×Operand)} (e:∀x ∈ a.toList.map (·.2),ρ x=ρ' x):(a.map fun (i,x)=>(i,ρ x))=a.map fun (i,x)=>(i,ρ' x):=by
 apply Array.toList_inj.1;rw [Array.toList_map,Array.toList_map];exact List.map_congr_left fun x hx=>by
  have:=e x.2 (List.mem_map.2 ⟨x,hx,rfl⟩)
  obtain ⟨i,y⟩:=x;exact congrArg (Prod.mk i) this
theorem XJ {ρ ρ':Operand→Value} {a:Option Operand} (e:∀x ∈ a.toList,ρ x=ρ' x):a.map ρ=a.map ρ':=by
 cases a with
 | none=>rfl
 | some x=>simp [e x (by simp)]
theorem LW {ρ ρ':Operand→Value} {o:Oper} {xs:List Operand} (hx:Gx o.op=some xs) (e:∀x ∈ xs,ρ x=ρ' x):execOp ρ o=execOp ρ' o:=by
 obtain ⟨dst,op,ty,pos,af,gd⟩:=o;cases op <;> simp only [Gx,Option.some.injEq,reduceCtorEq] at hx
 case call c=>
  subst hx;have e1:=N9 (a:=c.args) fun x hx=>e x (List.mem_append_left _ hx);simp only [execOp,resolve,e1];cases hc:c.callee with
  | builtin b=>rfl
  | value f=>simp only [];rw [e f (List.mem_append_right _ (by rw [hc];simp))]
  | invoke r m=>simp only [];rw [e r (List.mem_append_right _ (by rw [hc];simp))]
 case makeFunc f a b=>
  subst hx;simp only [execOp];rw [N9 (a:=a) fun x hx=>e x (List.mem_append_left _ hx),N9 (a:=b) fun x hx=>e x (List.mem_append_right _ hx)]
 case slice t x lo hi mx=>
  subst hx;simp only [execOp];rw [e x (by simp),XJ (a:=lo) fun y hy=>e y (by simp_all),XJ (a:=hi) fun y hy=>e y (by simp_all),XJ (a:=mx) fun y hy=>e y (by simp_all)]
 case build t ps=>subst hx;simp only [execOp];rw [S3 e]
 case buildSlice t n ps=>subst hx;simp only [execOp];rw [S3 e]
 case makeMap t r=>subst hx;simp only [execOp];rw [XJ e]
 all_goals
  subst hx;simp only [List.mem_cons,or_false,forall_eq_or_imp,forall_eq,List.not_mem_nil,false_implies,implies_true] at e;simp [execOp,e]
def GN (xs:List Operand):List Nat:=xs.filterMap fun x=>match x with | .tmp t=>some t | _=>none
theorem M1 {σ σ':Nat→Value} {xs:List Operand} (e:∀t ∈ GN xs,σ t=σ' t):∀x ∈ xs,AU σ x=AU σ' x:=fun x hx=>by
 cases x with
 | tmp t=>exact e t (List.mem_filterMap.2 ⟨_,hx,rfl⟩)
 | const v=>rfl
 | global g=>rfl
 | func f=>rfl
def KN:Op→Bool
 | .call c=>match c.callee with
  | .builtin b=>b==.len || b==.cap || b==.min || b==.max
  | _=>false
 | .move _ | .assign _ | .nilCheck _ | .pick .. | .build .. | .load .. | .binOp .. | .unOp .. | .convert .. | .makeFunc .. | .fieldAddr .. | .field .. | .indexAddr .. | .index .. | .extract .. | .lookup .. | .slice .. | .makeInterface .. | .typeAssert .. =>true
 | _=>false
theorem J1 {β:Type} {s:Sem β} {f:β→Value} {h:GH} {Q:Next→GH→Prop}:(s.bind fun x=>(Sem.pure (Next.value (f x)):Sem Next)).gh P h Q→(s.bind fun x=>(Sem.pure (Next.value (f x)):Sem Next)).gh P h fun a h'=>Q a h'∧∃v,a=.value v:=by
 induction s generalizing h with
 | pure a=>intro x;exact ⟨x,_,rfl⟩
 | load m a k ih=>rintro ⟨x1,x2,p,c,t,f,v,y1,y2,z⟩;exact ⟨x1,x2,p,c,t,f,v,y1,y2,ih v z⟩
 | store m a v k ih=>rintro ⟨x1,x2,x3,c,t,f,y1,y2,y3,z⟩;exact ⟨x1,x2,x3,c,t,f,y1,y2,y3,ih z⟩
 | new o k ih=>intro x r hr;exact ih r (x r hr)
 | shape r k ih=>rintro ⟨p,c,t,f,y,z⟩;exact ⟨p,c,t,f,y,ih _ z⟩
 | freeze a n k ih=>
  rintro (⟨y,z⟩ | ⟨y,c,t,f,y2,z⟩)
  ·exact .inl ⟨y,ih z⟩
  ·exact .inr ⟨y,c,t,f,y2,ih z⟩
 | frozen a k ih=>rintro ⟨p,c,t,f,y,z⟩;exact ⟨p,c,t,f,y,ih _ z⟩
 | getObj r k ih=>rintro ⟨p,o,y1,y2,y3,z⟩;exact ⟨p,o,y1,y2,y3,ih _ z⟩
 | setObj r o k ih=>rintro ⟨o',y1,y2,y2',y3,z⟩;exact ⟨o',y1,y2,y2',y3,ih z⟩
 | choose q k ih=>rintro ⟨y,z⟩;exact ⟨fun x=>ih _ (y x),fun x t=>ih _ (z x t)⟩
 | sys c k ih=>intro x;exact x.elim
 | program k ih=>intro x;exact ih _ x
 | mark m k ih=>rintro ⟨y,z⟩;exact ⟨y,ih z⟩
 | halt x=>intro y;exact y.elim
def HK (P:Program) (e:Sem Next):Prop:=∀(h:GH) (Q:Next→GH→Prop),e.gh P h Q→e.gh P h fun a h'=>Q a h'∧∃v,a=.value v
theorem HK.bind {β:Type} {s:Sem β} {f:β→Sem Next} (hf:∀a,HK P (f a)):HK P (s.bind f):=by
 induction s with
 | pure a=>exact hf a
 | load m a k ih=>rintro h Q ⟨x1,x2,p,c,t,f,v,y1,y2,z⟩;exact ⟨x1,x2,p,c,t,f,v,y1,y2,ih v _ _ z⟩
 | store m a v k ih=>rintro h Q ⟨x1,x2,x3,c,t,f,y1,y2,y3,z⟩;exact ⟨x1,x2,x3,c,t,f,y1,y2,y3,ih _ _ z⟩
 | new o k ih=>intro h Q x r hr;exact ih r _ _ (x r hr)
 | shape r k ih=>rintro h Q ⟨p,c,t,f,y,z⟩;exact ⟨p,c,t,f,y,ih _ _ _ z⟩
 | freeze a n k ih=>
  rintro h Q (⟨y,z⟩ | ⟨y,c,t,f,y2,z⟩)
  ·exact .inl ⟨y,ih _ _ z⟩
  ·exact .inr ⟨y,c,t,f,y2,ih _ _ z⟩
 | frozen a k ih=>rintro h Q ⟨p,c,t,f,y,z⟩;exact ⟨p,c,t,f,y,ih _ _ _ z⟩
 | getObj r k ih=>rintro h Q ⟨p,o,y1,y2,y3,z⟩;exact ⟨p,o,y1,y2,y3,ih _ _ _ z⟩
 | setObj r o k ih=>rintro h Q ⟨o',y1,y2,y2',y3,z⟩;exact ⟨o',y1,y2,y2',y3,ih _ _ z⟩
 | choose q k ih=>rintro h Q ⟨y,z⟩;exact ⟨fun x=>ih _ _ _ (y x),fun x t=>ih _ _ _ (z x t)⟩
 | sys c k ih=>intro h Q x;exact x.elim
 | program k ih=>intro h Q x;exact ih _ _ _ x
 | mark m k ih=>rintro h Q ⟨y,z⟩;exact ⟨y,ih _ _ z⟩
 | halt x=>intro h Q y;exact y.elim
theorem HK.value (v:Value):HK P (pure (.value v)):=fun _ _ x=>⟨x,v,rfl⟩
theorem Z9 {ρ:Operand→Value} {o:Oper} (hv:KN o.op=true) {h:GH} {Q:Next→GH→Prop} (x:(execOp ρ o).gh P h Q):(execOp ρ o).gh P h fun a h'=>Q a h'∧∃v,a=.value v:=by
 obtain ⟨dst,op,ty,pos,af,gd⟩:=o;cases op
 case nilCheck a=>
  have hp:HK P (runtimePanic .nilDeref:Sem Next):=fun _ _ y=>by first | exact y.elim | exact HK.bind (fun _=>fun _ _ z=>z.elim) _ _ y
  have key:HK P (execOp ρ ⟨dst,.nilCheck a,ty,pos,af,gd⟩):=by
   unfold execOp;dsimp only;split
   ·exact hp
   ·exact hp
   ·exact hp
   ·split
    ·exact hp
    ·refine HK.bind fun p=>HK.bind fun r=>?_;split
     ·exact HK.bind fun _=>HK.value _
     ·exact HK.value _
    ·exact HK.value _
   ·exact HK.value _
  exact key _ _ x
 case call c=>
  simp only [KN] at hv;have e:∀s:Sem Value,execOp ρ ⟨dst,.call c,ty,pos,af,gd⟩=s.bind (fun x=>Sem.pure (Next.value x))→(execOp ρ ⟨dst,.call c,ty,pos,af,gd⟩).gh P h fun a h'=>Q a h'∧∃v,a=.value v:=fun s q=>by
   rw [q] at x ⊢;exact J1 (f:=fun x=>x) x
  cases hc:c.callee with
  | value f=>rw [hc] at hv;cases hv
  | invoke r m=>rw [hc] at hv;cases hv
  | builtin b=>
   rw [hc] at hv;have q:execOp ρ ⟨dst,.call c,ty,pos,af,gd⟩=builtin b c.argTypes ty (c.args.map fun | .const _=>true | _=>false) (c.args.map ρ):=by
    show (resolve ρ c ty).bind _=_;unfold resolve;rw [hc];rfl
   cases b <;> first | (simp at hv;done) | exact e _ q
 all_goals first | (simp [KN] at hv;done) | skip
 all_goals first | exact J1 (s:=Sem.pure _) (f:=fun _=>_) x | exact J1 (f:=fun x=>x) x | exact J1 (β:=Bool) x
theorem GH.Le.get {h h':GH} (l:h.Le h') {b:Nat} {x:Bool×Obj} (hb:h b=some x):h' b=some x:=l.keep (p:=x.1) (o:=x.2) hb rfl
theorem GH.Le.of {h h':GH} (x:∀b y,h b=some y→h' b=some y):h.Le h':=fun b p o hb=>⟨o,x b _ hb,.inl rfl⟩
def Xu (h' h2:GH):GH:=fun b=>match h' b with
 | some x=>some x
 | none=>h2 b
theorem QQ {h h2:GH} (l:h.Le h2):Xu h h2=h2:=funext fun b=>by
 unfold Xu;split
 ·rename_i x hb;exact (l.get hb).symm
 ·rfl
theorem GH.Le.set2 {h h2:GH} (l:h.Le h2) (r:Nat) (p:Bool) (o:Obj):(h.set r p o).Le (h2.set r p o):=.of fun b y hb=>by
 by_cases e:b=r
 ·subst e;rw [GH.set_same] at hb ⊢;exact hb
 ·rw [GH.set_ne h p o e] at hb;rw [GH.set_ne h2 p o e];exact l.get hb
def S4 (h h':GH):Prop:=∀b,(∃x,h b=some x)→∃x,h' b=some x
theorem LX {h h' h2:GH} {r:Nat} {p:Bool} {o:Obj} (d:S4 (h.set r p o) h'):Xu h' (h2.set r p o)=Xu h' h2:=funext fun b=>by
 unfold Xu;by_cases e:b=r
 ·subst e;obtain ⟨x,hx⟩:=d b ⟨_,GH.set_same h b p o⟩;rw [hx]
 ·rw [GH.set_ne h2 p o e]
theorem S4.set {h h':GH} {r:Nat} {p:Bool} {o:Obj} (d:S4 (h.set r p o) h'):S4 h h':=fun b ⟨x,hx⟩=>by
 by_cases e:b=r
 ·subst e;exact d b ⟨_,GH.set_same h b p o⟩
 ·exact d b ⟨x,by rw [GH.set_ne h p o e];exact hx⟩
theorem gh_over {α:Type} (e:Sem α) {Q:α→GH→Prop}:∀{h h2:GH},h.Le h2→e.gh P h Q→e.gh P h2 fun a h3=>∃h',S4 h h'∧Q a h'∧h3=Xu h' h2:=by
 induction e with
 | pure a=>intro h h2 l x;exact ⟨h,fun _ y=>y,x,(QQ l).symm⟩
 | load m a k ih=>rintro h h2 l ⟨x1,x2,p,c,t,f,v,y1,y2,z⟩;exact ⟨x1,x2,p,c,t,f,v,l.get y1,y2,ih v l z⟩
 | store m a v k ih=>
  rintro h h2 l ⟨x1,x2,x3,c,t,f,y1,y2,y3,z⟩;exact ⟨x1,x2,x3,c,t,f,l.get y1,y2,y3,Ex _ (fun _ _ ⟨h',d,q,r⟩=>⟨h',d.set,q,r.trans (LX d)⟩) _ (ih (l.set2 _ _ _) z)⟩
 | new o k ih=>
  intro h h2 l x r hr;have hr0:h r=none:=by
   cases hb:h r with
   | none=>rfl
   | some y=>rw [l.get hb] at hr;cases hr
  exact Ex _ (fun _ _ ⟨h',d,q,r⟩=>⟨h',d.set,q,r.trans (LX d)⟩) _ (ih r (l.set2 _ _ _) (x r hr0))
 | shape r k ih=>rintro h h2 l ⟨p,c,t,f,y,z⟩;exact ⟨p,c,t,f,l.get y,ih _ l z⟩
 | freeze a n k ih=>
  rintro h h2 l (⟨y,z⟩ | ⟨y,c,t,f,y2,z⟩)
  ·exact .inl ⟨y,ih l z⟩
  ·exact .inr ⟨y,c,t,f,l.get y2,Ex _ (fun _ _ ⟨h',d,q,r⟩=>⟨h',d.set,q,r.trans (LX d)⟩) _ (ih (l.set2 _ _ _) z)⟩
 | frozen a k ih=>rintro h h2 l ⟨p,c,t,f,y,z⟩;exact ⟨p,c,t,f,l.get y,ih _ l z⟩
 | getObj r k ih=>rintro h h2 l ⟨p,o,y1,y2,y3,z⟩;exact ⟨p,o,l.get y1,y2,y3,ih _ l z⟩
 | setObj r o k ih=>
  rintro h h2 l ⟨o',y1,y2,y2',y3,z⟩;exact ⟨o',l.get y1,y2,y2',y3,Ex _ (fun _ _ ⟨h',d,q,r⟩=>⟨h',d.set,q,r.trans (LX d)⟩) _ (ih (l.set2 _ _ _) z)⟩
 | choose q k ih=>rintro h h2 l ⟨y,z⟩;exact ⟨fun x=>ih _ l (y x),fun x t=>ih _ l (z x t)⟩
 | sys c k ih=>intro h h2 l x;exact x.elim
 | program k ih=>intro h h2 l x;exact ih _ l x
 | mark m k ih=>rintro h h2 l ⟨y,z⟩;exact ⟨y,ih l z⟩
 | halt x=>intro h h2 l y;exact y.elim
def Ut (E:Gm P) (o:Oper) (σ:Nat→Value) (ds:List Deferred) (h:GH) (v:Value):Prop:=Bi E o σ ds h fun σ' ds' h'=>σ'=putS σ o.dst v∧ds'=ds∧h'=h
theorem Ut.move {o:Oper} {xs:List Operand} {σ σ2:Nat→Value} {ds:List Deferred} {h h2:GH} {v:Value} (hv:KN o.op=true) (hx:Gx o.op=some xs) (e:∀t ∈ GN xs,σ t=σ2 t) (l:h.Le h2)
  (y:Ut E o σ ds h v):Ut E o σ2 ds h2 v:=by
 unfold Ut Bi at y ⊢;rw [←LW hx (M1 e)];refine Ex _ ?_ _ (gh_over _ l (Z9 hv y));rintro a h3 ⟨h',_,⟨q,v',rfl⟩,rfl⟩;obtain ⟨q1,_,rfl⟩:=q;refine ⟨?_,rfl,QQ l⟩;cases hd:o.dst with
 | none=>rfl
 | some d=>
  have:=congrFun q1 d
  simp only [hd,putS,upd_same] at this;rw [this]
theorem Bi.move {o:Oper} {xs:List Operand} {σ σ2:Nat→Value} {ds:List Deferred} {h:GH} {T T2:(Nat→Value)→List Deferred→GH→Prop} (hx:Gx o.op=some xs) (e:∀t ∈ GN xs,σ t=σ2 t)
  (ht:∀x ds' h',T (putS σ o.dst x) ds' h'→T2 (putS σ2 o.dst x) ds' h') (y:Bi E o σ ds h T):Bi E o σ2 ds h T2:=by
 unfold Bi at y ⊢;rw [←LW hx (M1 e)];refine Ex _ (fun nx h' q=>?_) _ y;cases nx <;> first | exact ht _ _ _ q | exact Ab.mono q fun v h'' r=>ht _ _ _ r | exact B9.mono q fun v h'' r=>ht _ _ _ r | exact q
inductive Kd where
 | p | r | e | w | a | l | b
 deriving DecidableEq
def Kd.fix:Kd→Bool
 | .a | .l | .b=>false
 | _=>true
def Gd (l:List Oper) (o:Oper) (σ:Nat→Value) (b:Bool):Prop:=match o.guard with
 | none=>b=true
 | some (g,w)=>∃og d is,l[g]? =some og∧og.dst=some d∧σ d=.bool is∧b=(is==w)
theorem Gd.iff {l:List Oper} {o:Oper} {σ:Nat→Value} {b:Bool} (x:Gd l o σ b):Cp l o σ↔b=true:=by
 unfold Gd at x;unfold Cp;cases hg:o.guard with
 | none=>rw [hg] at x;simp only at x;simp [x]
 | some y=>
  obtain ⟨g,w⟩:=y;rw [hg] at x;obtain ⟨og,d,is,h1,h2,h3,rfl⟩:=x;simp only [h1,h2,h3];simp
def Gw (fl:Bool) (h hx:GH):Prop:=h.Le hx∧(fl=false→hx=h)
theorem Gw.refl (fl:Bool) (h:GH):Gw fl h h:=⟨GH.Le.refl h,fun _=>rfl⟩
def zOf (P:Program) (t:TypeId):Array Value:=(CA P t).getD #[]
def TD (E:Gm P) (l:List Oper) (n:Nat) (fl:Bool) (hs:GH) (ds:List Deferred) (Lw:Nat→Value→GH→Prop) (F:(Nat→Value)→GH→Prop):List (Kd×Nat)→(Nat→Value)→GH→Prop
 | [],σ,h=>∀hx,Gw fl h hx→F σ hx
 | (kd,k) ::π,σ,h=>∃o b,l[k]? =some o∧Gd l o σ b∧(b=false→TD E l n fl hs ds Lw F π (putS σ o.dst undef) h)∧(b=true→match kd with
  | .p=>∃v,(∀hx,Lw n undef hx→Ut E o σ ds hx v)∧TD E l n fl hs ds Lw F π (putS σ o.dst v) h
  | .r=>∃v,Ut E o σ ds h v∧TD E l n fl hs ds Lw F π (putS σ o.dst v) h
  | .e=>∀hx,Gw fl h hx→Bi E o σ ds hx fun σ' ds' h'=>ds'=ds∧∃v,σ'=putS σ o.dst v∧hx.Le h'∧TD E l n fl hs ds Lw F π (putS σ o.dst v) h'
  | .w=>∀hx,Gw fl h hx→Bi E o σ ds hx fun σ' ds' h'=>ds'=ds∧∃v,σ'=putS σ o.dst v∧Lw n undef h'∧TD E l n fl hs ds Lw F π (putS σ o.dst v) h'
  | .a=>∀t r hx,o.op=.alloc t→h.Le hx→hs r=none→hx r=some (true,.cells (zOf P t) t (0,0))→TD E l n fl hs ds Lw F π (putS σ o.dst (.pointer (some ⟨r,0,none⟩))) hx
  | .l=>(∀hx,h.Le hx→Bi E o σ ds hx fun σ' ds' h'=>ds'=ds∧∃v,σ'=putS σ o.dst v∧hx.Le h'∧Lw k v h')∧TD E l n fl hs ds Lw F π σ h
  | .b=>∀v hx,h.Le hx→Lw k v hx→TD E l n fl hs ds Lw F π (putS σ o.dst v) hx)
def HL (l:List Oper) (n:Nat) (cl seen:List Nat) (t:Nat):Bool:= !(DP l n).contains t || seen.any fun j=>cl.contains j && match l[j]? with
 | some oj=>oj.dst==some t
 | none=>false
def Rb (P:Program):Op→Bool
 | .alloc t=>(CA P t).isSome
 | _=>false
def F1 (P:Program) (l:List Oper) (n:Nat) (cls:List (List Nat)) (fl:Bool):List (Kd×Nat)→List Nat→List Nat→List Nat→Bool→Bool
 | [],seen,_,_,_=>(List.range n).all seen.contains
 | (kd,k) ::π,seen,effs,rds,wr=>match l[k]? with
  | none=>false
  | some o=>(match Gx o.op with
    | none=>false
    | some xs=>Nat.blt k n && !seen.contains k && (GN xs).all (HL l n (cls.getD k []) seen)) &&
   (match o.guard with
    | none=>true
    | some (g,_)=>seen.contains g && (cls.getD k []).contains g) &&
   (match kd with
    | .p=>KN o.op && effs.all (cls.getD k []).contains && F1 P l n cls fl π (k ::seen) effs rds wr
    | .r=>KN o.op && effs.all (cls.getD k []).contains && F1 P l n cls fl π (k ::seen) effs (k ::rds) wr
    | .e=>effs.all (cls.getD k []).contains && F1 P l n cls fl π (k ::seen) (k ::effs) rds wr
    | .w=>effs.all (cls.getD k []).contains && rds.all (cls.getD k []).contains && F1 P l n cls fl π (k ::seen) (k ::effs) rds true
    | .a=>fl && !wr && Rb P o.op && o.dst.isSome && o.guard.isNone && F1 P l n cls fl π (k ::seen) (k ::effs) rds wr
    | .l=>fl && o.dst.isSome && o.guard.isNone && effs.all (cls.getD k []).contains && F1 P l n cls fl π seen effs rds wr
    | .b=>fl && !wr && o.dst.isSome && o.guard.isNone && F1 P l n cls fl π (k ::seen) (k ::effs) rds wr)
structure PF (E:Gm P) (l:List Oper) (n:Nat) (cls:List (List Nat)) (ds:List Deferred) (Lw:Nat→Value→GH→Prop) (seen rds:List Nat) (σr:Nat→Value) (h':GH) (k:Nat) (o:Oper) (xs:List Operand) (b:Bool) (v:Value):Prop where
 at':l[k]? =some o
 op:Gx o.op=some xs
 val:KN o.op=true
 fix:∀t ∈ GN xs,HL l n (cls.getD k []) seen t=true
 gfix:∀g w,o.guard=some (g,w)→g ∈ seen∧g ∈ cls.getD k []
 gd:Gd l o σr b
 vop:b=true→Ut E o σr ds h' v∧(k ∈ rds∨∀hx,Lw n undef hx→Ut E o σr ds hx v)
 is:∀d,o.dst=some d→σr d=if b=true then v else undef
def Xv (E:Gm P) (l:List Oper) (n:Nat) (cls:List (List Nat)) (ds:List Deferred) (Lw:Nat→Value→GH→Prop) (seen:List Nat) (σr:Nat→Value) (h':GH) (k:Nat):Prop:=
 ∃o xs,l[k]? =some o∧Gx o.op=some xs∧(∀t ∈ GN xs,HL l n (cls.getD k []) seen t=true)∧
  ∀σ2 hx,(∀t ∈ GN xs,σr t=σ2 t)→h'.Le hx→Bi E o σ2 ds hx fun σ'' ds' h2=>ds'=ds∧∃v,σ''=putS σ2 o.dst v∧hx.Le h2∧Lw k v h2
structure Iu (E:Gm P) (l:List Oper) (n:Nat) (cls:List (List Nat)) (fl:Bool) (hs:GH) (ds:List Deferred) (Lw:Nat→Value→GH→Prop) (F:(Nat→Value)→GH→Prop) (seen effs rds:List Nat) (wr:Bool) (π:List (Kd×Nat)) (σr:Nat→Value) (hr:GH)
  (D:Nat→Bool) (σ':Nat→Value) (h':GH):Prop where
 td:TD E l n fl hs ds Lw F π σr hr
 ok:F1 P l n cls fl π seen effs rds wr=true
 gw:Gw fl hr h'
 base:∀t,(DP l n).contains t=false→σ' t=σr t
 lt:∀k ∈ seen,k<n
 eff:∀k ∈ effs,D k=true
 rest:∀kd k,(kd,k) ∈ π→kd.fix=true→D k=false
 done:∀k ∈ seen,D k=true→∀o d,l[k]? =some o→o.dst=some d→σ' d=σr d
 pend:∀k ∈ seen,D k=false→∃o xs b v,PF E l n cls ds Lw seen rds σr h' k o xs b v
 flo:∀k,(Kd.a,k) ∈ π→D k=true→∀o t d,l[k]? =some o→o.op=.alloc t→o.dst=some d→∃r,σ' d=.pointer (some ⟨r,0,none⟩)∧hs r=none∧h' r=some (true,.cells (zOf P t) t (0,0))
 flb:∀k,(Kd.b,k) ∈ π→D k=false→(Kd.l,k) ∈ π∨Xv E l n cls ds Lw seen σr h' k
 fld:∀k,(Kd.b,k) ∈ π→D k=true→∀o d,l[k]? =some o→o.dst=some d→Lw k (σ' d) h'
 mono:∀k v h1 h2,GH.Le h1 h2→Lw k v h1→Lw k v h2
 frm:Lw n undef h'
 pre:wr=false→hs.Le h'
 clos:∀k,k<n→D k=true→∀q ∈ cls.getD k [],D q=true
theorem Jf {l:List Oper} {n:Nat} {cl seen:List Nat} {k t:Nat} (x:HL l n cl seen t=true):HL l n cl (k ::seen) t=true:=by
 unfold HL at x ⊢;rw [Bool.or_eq_true] at x ⊢;rcases x with x | x
 ·exact .inl x
 ·exact .inr (by rw [List.any_cons,x];simp)
theorem MO {l:List Oper} {n:Nat} {cl seen:List Nat} {k t d:Nat} {o:Oper} (nd:(DP l n).Nodup) (hlt:∀k ∈ seen,k<n) (hk:k<n) (hs:k ∉ seen) (ho:l[k]? =some o) (hd:o.dst=some d) (x:HL l n cl seen t=true):t≠d:=by
 intro e;subst e;unfold HL at x;rw [Bool.or_eq_true] at x;rcases x with x | x
 ·have:t ∈ DP l n:=by
   simp only [DP,List.mem_filterMap];refine ⟨o,?_,hd⟩
   have:(l.take n)[k]? =some o:=by rw [List.getElem?_take];simp [hk,ho]
   exact List.mem_of_getElem? this
  simp [this] at x
 ·rw [List.any_eq_true] at x;obtain ⟨j,hj,y⟩:=x;rw [Bool.and_eq_true] at y;cases hoj:l[j]? with
  | none=>rw [hoj] at y;simp at y
  | some oj=>
   rw [hoj] at y;have y2:oj.dst=some t:=by simpa using y.2
   exact Dg nd hk (hlt j hj) (fun e=>hs (e▸hj)) ho hoj hd y2 rfl
theorem Cr {σ:Nat→Value} {o:Oper} {v:Value} {t:Nat} (h:∀d,o.dst=some d→t≠d):putS σ o.dst v t=σ t:=by
 cases hd:o.dst with
 | none=>rfl
 | some d=>exact upd_ne σ v (Ki (h d hd))
theorem Hp {l:List Oper} {n k t:Nat} {o:Oper} (hk:k<n) (ho:l[k]? =some o) (ht:(DP l n).contains t=false):∀d,o.dst=some d→t≠d:=fun d hd e=>by
 subst e;rw [N1 hk ho hd] at ht;cases ht
section
variable {l:List Oper} {n:Nat} {cls:List (List Nat)} {fl:Bool} {hs:GH} {ds:List Deferred} {Lw:Nat→Value→GH→Prop} {F:(Nat→Value)→GH→Prop} {seen effs rds:List Nat} {wr:Bool} {π:List (Kd×Nat)} {σr σ':Nat→Value} {hr h':GH} {D:Nat→Bool}
theorem Gd.put {o ok:Oper} {k:Nat} {b:Bool} {v:Value} (nd:(DP l n).Nodup) (hlt:∀k ∈ seen,k<n) (hk:k<n) (hks:k ∉ seen) (hok:l[k]? =some ok) (hg:∀g w,o.guard=some (g,w)→g ∈ seen) (x:Gd l o σr b):Gd l o (putS σr ok.dst v) b:=by
 unfold Gd at x ⊢;cases hgd:o.guard with
 | none=>rw [hgd] at x;exact x
 | some y=>
  obtain ⟨g,w⟩:=y;rw [hgd] at x;obtain ⟨og,d,is,h1,h2,h3,h4⟩:=x;have hgs:=hg g w hgd;exact ⟨og,d,is,h1,h2,by rw [Cr fun d' hd'=>Dg nd hk (hlt g hgs) (fun e=>hks (e▸hgs)) hok h1 hd' h2];exact h3,h4⟩
theorem PF.put {k j:Nat} {o ok:Oper} {xs:List Operand} {b:Bool} {v w:Value} (nd:(DP l n).Nodup) (hlt:∀k ∈ seen,k<n) (hk:k<n) (hks:k ∉ seen) (hok:l[k]? =some ok) (hj:j ∈ seen) (l2:hr.Le h')
  (x:PF E l n cls ds Lw seen rds σr hr j o xs b v):PF E l n cls ds Lw (k ::seen) rds (putS σr ok.dst w) h' j o xs b v where
 at':=x.at'
 op:=x.op
 val:=x.val
 fix:=fun t ht=>Jf (x.fix t ht)
 gfix:=fun g w' hg=>⟨List.mem_cons_of_mem _ (x.gfix g w' hg).1,(x.gfix g w' hg).2⟩
 gd:=x.gd.put nd hlt hk hks hok fun g w' hg=>(x.gfix g w' hg).1
 vop:=fun hb=>by
  have e:∀t ∈ GN xs,σr t=putS σr ok.dst w t:=fun t ht=>(Cr fun d hd=>MO nd hlt hk hks hok hd (x.fix t ht)).symm;obtain ⟨y1,y2⟩:=x.vop hb;exact ⟨y1.move x.val x.op e l2,y2.imp id fun y hx hf=>(y hx hf).move x.val x.op e (GH.Le.refl _)⟩
 is:=fun d hd=>by rw [Cr fun d' hd'=>Dg nd hk (hlt j hj) (fun e=>hks (e▸hj)) hok x.at' hd' hd];exact x.is d hd
theorem PF.more {j:Nat} {o:Oper} {xs:List Operand} {b:Bool} {v:Value} {k:Nat} (x:PF E l n cls ds Lw seen rds σr h' j o xs b v):PF E l n cls ds Lw seen (k ::rds) σr h' j o xs b v:=
 { x with vop:=fun hb=>⟨(x.vop hb).1,(x.vop hb).2.imp (List.mem_cons_of_mem _) id⟩ }
theorem Xv.put {k j:Nat} {ok:Oper} {w:Value} (nd:(DP l n).Nodup) (hlt:∀k ∈ seen,k<n) (hk:k<n) (hks:k ∉ seen) (hok:l[k]? =some ok) (x:Xv E l n cls ds Lw seen σr h' j):Xv E l n cls ds Lw (k ::seen) (putS σr ok.dst w) h' j:=by
 obtain ⟨o,xs,h1,h2,h3,h4⟩:=x;exact ⟨o,xs,h1,h2,fun t ht=>Jf (h3 t ht),fun σ2 hx e l2=>h4 σ2 hx (fun t ht=>(Cr fun d hd=>MO nd hlt hk hks hok hd (h3 t ht)).symm.trans (e t ht)) l2⟩
theorem Xv.le {j:Nat} {h2:GH} (l2:h'.Le h2) (x:Xv E l n cls ds Lw seen σr h' j):Xv E l n cls ds Lw seen σr h2 j:=by
 obtain ⟨o,xs,h1,h3,h4,h5⟩:=x;exact ⟨o,xs,h1,h3,h4,fun σ2 hx e l3=>h5 σ2 hx e (l2.trans l3)⟩
theorem Fk {kd kd2:Kd} {k j:Nat} (h:(kd2,j) ∈ (kd,k) ::π) (ne:kd2≠kd):(kd2,j) ∈ π:=by
 rcases List.mem_cons.1 h with e | h
 ·cases e;exact absurd rfl ne
 ·exact h
def AAA (P:Program) (l:List Oper) (n:Nat) (cls:List (List Nat)) (fl:Bool) (π:List (Kd×Nat)) (seen effs rds:List Nat) (wr:Bool) (k:Nat) (o:Oper):Kd→Prop
 | .p=>KN o.op=true∧(∀q ∈ effs,q ∈ cls.getD k [])∧F1 P l n cls fl π (k ::seen) effs rds wr=true
 | .r=>KN o.op=true∧(∀q ∈ effs,q ∈ cls.getD k [])∧F1 P l n cls fl π (k ::seen) effs (k ::rds) wr=true
 | .e=>(∀q ∈ effs,q ∈ cls.getD k [])∧F1 P l n cls fl π (k ::seen) (k ::effs) rds wr=true
 | .w=>(∀q ∈ effs,q ∈ cls.getD k [])∧(∀q ∈ rds,q ∈ cls.getD k [])∧F1 P l n cls fl π (k ::seen) (k ::effs) rds true=true
 | .a=>fl=true∧wr=false∧Rb P o.op=true∧o.dst.isSome=true∧o.guard=none∧F1 P l n cls fl π (k ::seen) (k ::effs) rds wr=true
 | .l=>fl=true∧o.dst.isSome=true∧o.guard=none∧(∀q ∈ effs,q ∈ cls.getD k [])∧F1 P l n cls fl π seen effs rds wr=true
 | .b=>fl=true∧wr=false∧o.dst.isSome=true∧o.guard=none∧F1 P l n cls fl π (k ::seen) (k ::effs) rds wr=true
theorem E1 {kd:Kd} {k:Nat} (x:F1 P l n cls fl ((kd,k) ::π) seen effs rds wr=true) :
  ∃o xs,l[k]? =some o∧Gx o.op=some xs∧k<n∧k ∉ seen∧(∀t ∈ GN xs,HL l n (cls.getD k []) seen t=true)∧(∀g w,o.guard=some (g,w)→g ∈ seen∧g ∈ cls.getD k [])∧
  AAA P l n cls fl π seen effs rds wr k o kd:=by
 unfold F1 at x;cases ho:l[k]? with
 | none=>rw [ho] at x;cases x
 | some o=>
  rw [ho] at x;simp only [Bool.and_eq_true] at x;obtain ⟨⟨x1,x2⟩,x3⟩:=x;cases hx:Gx o.op with
  | none=>rw [hx] at x1;cases x1
  | some xs=>
   rw [hx] at x1;simp only [Bool.and_eq_true,Bool.not_eq_true',List.all_eq_true] at x1;obtain ⟨⟨y1,y2⟩,y3⟩:=x1;refine ⟨o,xs,rfl,hx,Nat.blt_eq▸y1,(fun hm=>by rw [List.contains_iff_mem.2 hm] at y2;cases y2),y3,fun g w hg=>?_,?_⟩
   ·rw [hg] at x2;simp only [Bool.and_eq_true] at x2;exact ⟨List.contains_iff_mem.1 x2.1,List.contains_iff_mem.1 x2.2⟩
   ·cases kd <;> unfold AAA <;> simp only [Bool.and_eq_true,List.all_eq_true,List.contains_iff_mem,Bool.not_eq_true',Option.isNone_iff_eq_none] at x3 ⊢
    ·exact ⟨x3.1.1,x3.1.2,x3.2⟩
    ·exact ⟨x3.1.1,x3.1.2,x3.2⟩
    ·exact x3
    ·exact ⟨x3.1.1,x3.1.2,x3.2⟩
    ·exact ⟨x3.1.1.1.1.1,x3.1.1.1.1.2,x3.1.1.1.2,x3.1.1.2,x3.1.2,x3.2⟩
    ·exact ⟨x3.1.1.1.1,x3.1.1.1.2,x3.1.1.2,x3.1.2,x3.2⟩
    ·exact ⟨x3.1.1.1.1,x3.1.1.1.2,x3.1.1.2,x3.1.2,x3.2⟩
theorem G8 {kd:Kd} {k:Nat} (x:F1 P l n cls fl ((kd,k) ::π) seen effs rds wr=true):∃seen' effs' rds' wr',F1 P l n cls fl π seen' effs' rds' wr'=true∧(∀q ∈ seen,q ∈ seen')∧(kd≠.l→seen'=k ::seen)∧(kd=.l→seen'=seen)∧(∀q ∈ effs,q ∈ effs')∧(kd=.e∨kd=.w∨kd=.a∨kd=.b→k ∈ effs'):=by
 obtain ⟨o,xs,_,_,_,_,_,_,y⟩:=E1 x;cases kd with
 | p=>exact ⟨_,_,_,_,y.2.2,fun _ q=>List.mem_cons_of_mem _ q,fun _=>rfl,(fun e=>by cases e),fun _ q=>q,fun e=>by rcases e with e | e | e | e <;> cases e⟩
 | r=>exact ⟨_,_,_,_,y.2.2,fun _ q=>List.mem_cons_of_mem _ q,fun _=>rfl,(fun e=>by cases e),fun _ q=>q,fun e=>by rcases e with e | e | e | e <;> cases e⟩
 | e=>exact ⟨_,_,_,_,y.2,fun _ q=>List.mem_cons_of_mem _ q,fun _=>rfl,(fun e=>by cases e),fun _ q=>List.mem_cons_of_mem _ q,fun _=>List.mem_cons_self⟩
 | w=>exact ⟨_,_,_,_,y.2.2,fun _ q=>List.mem_cons_of_mem _ q,fun _=>rfl,(fun e=>by cases e),fun _ q=>List.mem_cons_of_mem _ q,fun _=>List.mem_cons_self⟩
 | a=>exact ⟨_,_,_,_,y.2.2.2.2.2,fun _ q=>List.mem_cons_of_mem _ q,fun _=>rfl,(fun e=>by cases e),fun _ q=>List.mem_cons_of_mem _ q,fun _=>List.mem_cons_self⟩
 | l=>exact ⟨_,_,_,_,y.2.2.2.2,fun _ q=>q,(fun e=>absurd rfl e),fun _=>rfl,fun _ q=>q,fun e=>by rcases e with e | e | e | e <;> cases e⟩
 | b=>exact ⟨_,_,_,_,y.2.2.2.2,fun _ q=>List.mem_cons_of_mem _ q,fun _=>rfl,(fun e=>by cases e),fun _ q=>List.mem_cons_of_mem _ q,fun _=>List.mem_cons_self⟩
theorem DB:∀{π:List (Kd×Nat)} {seen effs rds:List Nat} {wr:Bool},F1 P l n cls fl π seen effs rds wr=true→∀kd k,(kd,k) ∈ π→k ∉ seen∧k<n
 | [],_,_,_,_,_,kd,k,h=>by cases h
 | (kd',k') ::π,seen,effs,rds,wr,x,kd,k,h=>by
  obtain ⟨o,xs,_,_,h1,h2,_⟩:=E1 x;rcases List.mem_cons.1 h with e | h
  ·cases e;exact ⟨h2,h1⟩
  ·obtain ⟨seen',effs',rds',wr',y,z,_⟩:=G8 x
   have:=DB y kd k h
   exact ⟨fun q=>this.1 (z _ q),this.2⟩
theorem OA:∀{π:List (Kd×Nat)} {seen effs rds:List Nat} {wr:Bool},F1 P l n cls fl π seen effs rds wr=true→∀i,i<n→i ∈ seen∨∃kd,(kd,i) ∈ π∧kd≠.l
 | [],seen,_,_,_,x,i,hi=>by
  unfold F1 at x;exact .inl (List.contains_iff_mem.1 (List.all_eq_true.1 x i (List.mem_range.2 hi)))
 | (kd',k') ::π,seen,effs,rds,wr,x,i,hi=>by
  obtain ⟨seen',effs',rds',wr',y,_,z1,z2,_⟩:=G8 x;rcases OA y i hi with h | ⟨kd,h,hne⟩
  ·by_cases e:kd'=.l
   ·rw [z2 e] at h;exact .inl h
   ·rw [z1 e] at h;rcases List.mem_cons.1 h with rfl | h
    ·exact .inr ⟨kd',List.mem_cons_self,e⟩
    ·exact .inl h
  ·exact .inr ⟨kd,List.mem_cons_of_mem _ h,hne⟩
theorem OB:∀{π:List (Kd×Nat)} {seen effs rds:List Nat} {wr:Bool},F1 P l n cls fl π seen effs rds wr=true→∀kd k,(kd,k) ∈ π→kd≠.a→kd≠.b→∀q ∈ effs,q ∈ cls.getD k []
 | [],_,_,_,_,_,kd,k,h=>by cases h
 | (kd',k') ::π,seen,effs,rds,wr,x,kd,k,h=>by
  intro hne hnb q hq;rcases List.mem_cons.1 h with e | h
  ·cases e;obtain ⟨o,xs,_,_,_,_,_,_,y⟩:=E1 x;cases kd' with
   | p=>exact y.2.1 q hq
   | r=>exact y.2.1 q hq
   | e=>exact y.1 q hq
   | w=>exact y.1 q hq
   | a=>exact absurd rfl hne
   | l=>exact y.2.2.2.1 q hq
   | b=>exact absurd rfl hnb
  ·obtain ⟨seen',effs',rds',wr',y,_,_,_,z,_⟩:=G8 x;exact OB y kd k h hne hnb q (z q hq)
theorem DN:∀{π:List (Kd×Nat)} {seen effs rds:List Nat} {wr:Bool},F1 P l n cls fl π seen effs rds wr=true→∀kd k,(kd,k) ∈ π→kd=.a∨kd=.b→fl=true∧wr=false∧k<n∧∃o,l[k]? =some o∧(kd=.a→Rb P o.op=true)∧o.dst.isSome=true∧o.guard=none
 | [],_,_,_,_,_,kd,k,h=>by cases h
 | (kd',k') ::π,seen,effs,rds,wr,x,kd,k,h=>by
  intro hkd;obtain ⟨o,xs,ho,hx,h1,h2,h3,h4,hh⟩:=E1 x;rcases List.mem_cons.1 h with e | h6
  ·cases e;rcases hkd with rfl | rfl
   ·exact ⟨hh.1,hh.2.1,h1,o,ho,fun _=>hh.2.2.1,hh.2.2.2.1,hh.2.2.2.2.1⟩
   ·exact ⟨hh.1,hh.2.1,h1,o,ho,(fun e=>by cases e),hh.2.2.1,hh.2.2.2.1⟩
  ·cases kd' with
   | p=>exact DN hh.2.2 kd k h6 hkd
   | r=>exact DN hh.2.2 kd k h6 hkd
   | e=>exact DN hh.2 kd k h6 hkd
   | w=>have:=(DN hh.2.2 kd k h6 hkd).2.1;cases this
   | a=>exact DN hh.2.2.2.2.2 kd k h6 hkd
   | l=>exact DN hh.2.2.2.2 kd k h6 hkd
   | b=>exact DN hh.2.2.2.2 kd k h6 hkd
theorem J2 {k:Nat}:Hl D k k=true:=by simp [Hl]
theorem CO {k j:Nat} (h:j≠k):Hl D k j=D j:=by unfold Hl;rw [if_neg (fun e=>h e.symm)]
theorem FJ {k j:Nat} (h:D j=true):Hl D k j=true:=by unfold Hl;split <;> simp [h]
theorem Iu.agree (x:Iu E l n cls fl hs ds Lw F seen effs rds wr π σr hr D σ' h') {cl:List Nat} (hcl:∀q ∈ cl,D q=true) {t:Nat} (y:HL l n cl seen t=true):σr t=σ' t:=by
 unfold HL at y;rw [Bool.or_eq_true] at y;rcases y with y | y
 ·exact (x.base t (by simpa using y)).symm
 ·rw [List.any_eq_true] at y;obtain ⟨j,hj,z⟩:=y;rw [Bool.and_eq_true] at z;cases hoj:l[j]? with
  | none=>rw [hoj] at z;simp at z
  | some oj=>
   rw [hoj] at z;exact (x.done j hj (hcl j (List.contains_iff_mem.1 z.1)) oj t hoj (by simpa using z.2)).symm
theorem Iu.guard (x:Iu E l n cls fl hs ds Lw F seen effs rds wr π σr hr D σ' h') {cl:List Nat} (hcl:∀q ∈ cl,D q=true) {o:Oper} {b:Bool} (hg:∀g w,o.guard=some (g,w)→g ∈ seen∧g ∈ cl) (y:Gd l o σr b):Gd l o σ' b:=by
 unfold Gd at y ⊢;cases hgd:o.guard with
 | none=>rw [hgd] at y;exact y
 | some z=>
  obtain ⟨g,w⟩:=z;rw [hgd] at y;obtain ⟨og,d,is,h1,h2,h3,h4⟩:=y;exact ⟨og,d,is,h1,h2,by rw [x.done g (hg g w hgd).1 (hcl g (hg g w hgd).2) og d h1 h2];exact h3,h4⟩
theorem Iu.unfoldV {kd:Kd} {k:Nat} (nd:(DP l n).Nodup) (hkd:kd=.p∨kd=.r) (x:Iu E l n cls fl hs ds Lw F seen effs rds wr ((kd,k) ::π) σr hr D σ' h') :
  ∃rds' σr',Iu E l n cls fl hs ds Lw F (k ::seen) effs rds' wr π σr' hr D σ' h':=by
 obtain ⟨o,xs,ho,hx,hkn,hks,hfix,hg,hh⟩:=E1 x.ok;obtain ⟨o2,b,ho2,hgd,hF,hT⟩:=x.td;obtain rfl:o2=o:=Option.some.inj (ho2.symm.trans ho);have hkD:D k=false:=x.rest kd k List.mem_cons_self (by rcases hkd with e | e <;> rw [e] <;> rfl);have hval:KN o2.op=true:=by rcases hkd with rfl | rfl <;> exact hh.1
 have key:∀(v:Value) (rds':List Nat),(rds'=rds∨rds'=k ::rds)→F1 P l n cls fl π (k ::seen) effs rds' wr=true→TD E l n fl hs ds Lw F π (putS σr o2.dst (if b=true then v else undef)) hr→
   (b=true→Ut E o2 σr ds h' v∧(k ∈ rds'∨∀hx,Lw n undef hx→Ut E o2 σr ds hx v))→Iu E l n cls fl hs ds Lw F (k ::seen) effs rds' wr π (putS σr o2.dst (if b=true then v else undef)) hr D σ' h':=by
  intro v rds' hrds ok' td' hv;refine ⟨td',ok',x.gw,fun t ht=>?_,fun j hj=>?_,x.eff,fun kd' j hj hne=>x.rest kd' j (List.mem_cons_of_mem _ hj) hne,fun j hj hDj o' d ho' hd=>?_,fun j hj hDj=>?_,fun j hj=>x.flo j (List.mem_cons_of_mem _ hj),fun j hj hDj=>(x.flb j (List.mem_cons_of_mem _ hj) hDj).imp (fun q=>Fk q (by rcases hkd with e | e <;> rw [e] <;> decide)) (Xv.put nd x.lt hkn hks ho),fun j hj=>x.fld j (List.mem_cons_of_mem _ hj),x.mono,x.frm,x.pre,x.clos⟩
  ·rw [Cr (Hp hkn ho ht)];exact x.base t ht
  ·rcases List.mem_cons.1 hj with rfl | hj
   ·exact hkn
   ·exact x.lt j hj
  ·rcases List.mem_cons.1 hj with rfl | hj
   ·rw [hkD] at hDj;cases hDj
   ·rw [Cr fun d' hd'=>Dg nd hkn (x.lt j hj) (fun e=>hks (e▸hj)) ho ho' hd' hd];exact x.done j hj hDj o' d ho' hd
  ·rcases List.mem_cons.1 hj with rfl | hj
   ·refine ⟨o2,xs,b,v,ho,hx,hval,fun t ht=>Jf (hfix t ht),fun g w hgg=>⟨List.mem_cons_of_mem _ (hg g w hgg).1,(hg g w hgg).2⟩,hgd.put nd x.lt hkn hks ho fun g w hgg=>(hg g w hgg).1,fun hb=>?_,fun d hd=>?_⟩
    ·have e:∀t ∈ GN xs,σr t=putS σr o2.dst (if b=true then v else undef) t:=fun t ht=>(Cr fun d hd=>MO nd x.lt hkn hks ho hd (hfix t ht)).symm;obtain ⟨y1,y2⟩:=hv hb;exact ⟨y1.move hval hx e (GH.Le.refl _),y2.imp id fun y hx' hf=>(y hx' hf).move hval hx e (GH.Le.refl _)⟩
    ·rw [hd];exact upd_same _ _ _
   ·obtain ⟨o',xs',b',v',pf⟩:=x.pend j hj hDj
    have:=pf.put (w:=if b=true then v else undef) nd x.lt hkn hks ho hj (GH.Le.refl _)
    rcases hrds with rfl | rfl
    ·exact ⟨o',xs',b',v',this⟩
    ·exact ⟨o',xs',b',v',this.more⟩
 cases b with
 | false=>
  rcases hkd with rfl | rfl
  ·exact ⟨_,_,key undef _ (.inl rfl) hh.2.2 (hF rfl) (fun e=>by cases e)⟩
  ·exact ⟨_,_,key undef _ (.inr rfl) hh.2.2 (hF rfl) (fun e=>by cases e)⟩
 | true=>
  rcases hkd with rfl | rfl
  ·obtain ⟨v,h1,h2⟩:=hT rfl;exact ⟨_,_,key v _ (.inl rfl) hh.2.2 h2 (fun _=>⟨h1 _ x.frm,.inr h1⟩)⟩
  ·obtain ⟨v,h1,h2⟩:=hT rfl;exact ⟨_,_,key v _ (.inr rfl) hh.2.2 h2 (fun _=>⟨h1.move hval hx (fun _ _=>rfl) x.gw.1,.inl List.mem_cons_self⟩)⟩
theorem Iu.unfoldA {k:Nat} (nd:(DP l n).Nodup) (hD:D k=true) (x:Iu E l n cls fl hs ds Lw F seen effs rds wr ((Kd.a,k) ::π) σr hr D σ' h') :
  ∃σr',Iu E l n cls fl hs ds Lw F (k ::seen) (k ::effs) rds wr π σr' h' D σ' h':=by
 obtain ⟨o,xs,ho,hx,hkn,hks,hfix,hg,hh⟩:=E1 x.ok;obtain ⟨o2,b,ho2,hgd,hF,hT⟩:=x.td;obtain rfl:o2=o:=Option.some.inj (ho2.symm.trans ho);obtain ⟨hfl,hwr,hal,hds,hgn,ok'⟩:=hh;obtain rfl:b=true:=by unfold Gd at hgd;rw [hgn] at hgd;exact hgd
 obtain ⟨t,hop⟩:∃t,o2.op=.alloc t:=by
  cases hq:o2.op <;> rw [hq] at hal <;> first | exact ⟨_,rfl⟩ | cases hal
 obtain ⟨d,hd⟩:=Option.isSome_iff_exists.1 hds;obtain ⟨r,h1,h2,h3⟩:=x.flo k List.mem_cons_self hD o2 t d ho hop hd;refine ⟨putS σr o2.dst (.pointer (some ⟨r,0,none⟩)),hT rfl t r h' hop x.gw.1 h2 h3,ok',Gw.refl _ _,fun t ht=>?_,fun j hj=>?_,fun j hj=>?_,fun kd' j hj hne=>x.rest kd' j (List.mem_cons_of_mem _ hj) hne,fun j hj hDj o' d' ho' hd'=>?_,fun j hj hDj=>?_,
  fun j hj=>x.flo j (List.mem_cons_of_mem _ hj),fun j hj hDj=>(x.flb j (List.mem_cons_of_mem _ hj) hDj).imp (fun q=>Fk q (by decide)) (Xv.put nd x.lt hkn hks ho),fun j hj=>x.fld j (List.mem_cons_of_mem _ hj),x.mono,x.frm,x.pre,x.clos⟩
 ·rw [Cr (Hp hkn ho ht)];exact x.base t ht
 ·rcases List.mem_cons.1 hj with rfl | hj
  ·exact hkn
  ·exact x.lt j hj
 ·rcases List.mem_cons.1 hj with rfl | hj
  ·exact hD
  ·exact x.eff j hj
 ·rcases List.mem_cons.1 hj with rfl | hj
  ·obtain rfl:o'=o2:=Option.some.inj (ho'.symm.trans ho);obtain rfl:d'=d:=Option.some.inj (hd'.symm.trans hd);rw [h1,hd];exact (upd_same _ _ _).symm
  ·rw [Cr fun e he=>Dg nd hkn (x.lt j hj) (fun e=>hks (e▸hj)) ho ho' he hd'];exact x.done j hj hDj o' d' ho' hd'
 ·rcases List.mem_cons.1 hj with rfl | hj
  ·rw [hD] at hDj;cases hDj
  ·obtain ⟨o',xs',b',v',pf⟩:=x.pend j hj hDj;exact ⟨o',xs',b',v',pf.put nd x.lt hkn hks ho hj (GH.Le.refl _)⟩
theorem Iu.unfoldB {k:Nat} (nd:(DP l n).Nodup) (hD:D k=true) (x:Iu E l n cls fl hs ds Lw F seen effs rds wr ((Kd.b,k) ::π) σr hr D σ' h') :
  ∃σr',Iu E l n cls fl hs ds Lw F (k ::seen) (k ::effs) rds wr π σr' h' D σ' h':=by
 obtain ⟨o,xs,ho,hx,hkn,hks,hfix,hg,hh⟩:=E1 x.ok;obtain ⟨o2,b,ho2,hgd,hF,hT⟩:=x.td;obtain rfl:o2=o:=Option.some.inj (ho2.symm.trans ho);obtain ⟨hfl,hwr,hds,hgn,ok'⟩:=hh;obtain rfl:b=true:=by unfold Gd at hgd;rw [hgn] at hgd;exact hgd
 obtain ⟨d,hd⟩:=Option.isSome_iff_exists.1 hds;have hL:=x.fld k List.mem_cons_self hD o2 d ho hd;refine ⟨putS σr o2.dst (σ' d),hT rfl (σ' d) h' x.gw.1 hL,ok',Gw.refl _ _,fun t ht=>?_,fun j hj=>?_,fun j hj=>?_,fun kd' j hj hne=>x.rest kd' j (List.mem_cons_of_mem _ hj) hne,fun j hj hDj o' d' ho' hd'=>?_,fun j hj hDj=>?_,
  fun j hj=>x.flo j (List.mem_cons_of_mem _ hj),fun j hj hDj=>(x.flb j (List.mem_cons_of_mem _ hj) hDj).imp (fun q=>Fk q (by decide)) (Xv.put nd x.lt hkn hks ho),fun j hj=>x.fld j (List.mem_cons_of_mem _ hj),x.mono,x.frm,x.pre,x.clos⟩
 ·rw [Cr (Hp hkn ho ht)];exact x.base t ht
 ·rcases List.mem_cons.1 hj with rfl | hj
  ·exact hkn
  ·exact x.lt j hj
 ·rcases List.mem_cons.1 hj with rfl | hj
  ·exact hD
  ·exact x.eff j hj
 ·rcases List.mem_cons.1 hj with rfl | hj
  ·obtain rfl:o'=o2:=Option.some.inj (ho'.symm.trans ho);obtain rfl:d'=d:=Option.some.inj (hd'.symm.trans hd);rw [hd];exact (upd_same _ _ _).symm
  ·rw [Cr fun e he=>Dg nd hkn (x.lt j hj) (fun e=>hks (e▸hj)) ho ho' he hd'];exact x.done j hj hDj o' d' ho' hd'
 ·rcases List.mem_cons.1 hj with rfl | hj
  ·rw [hD] at hDj;cases hDj
  ·obtain ⟨o',xs',b',v',pf⟩:=x.pend j hj hDj;exact ⟨o',xs',b',v',pf.put nd x.lt hkn hks ho hj (GH.Le.refl _)⟩
theorem Iu.unfoldL {k:Nat} (x:Iu E l n cls fl hs ds Lw F seen effs rds wr ((Kd.l,k) ::π) σr hr D σ' h') :
  Iu E l n cls fl hs ds Lw F seen effs rds wr π σr hr D σ' h':=by
 obtain ⟨o,xs,ho,hx,hkn,hks,hfix,hg,hh⟩:=E1 x.ok;obtain ⟨o2,b,ho2,hgd,hF,hT⟩:=x.td;obtain rfl:o2=o:=Option.some.inj (ho2.symm.trans ho);obtain ⟨hfl,hds,hgn,heff,ok'⟩:=hh;obtain rfl:b=true:=by unfold Gd at hgd;rw [hgn] at hgd;exact hgd
 obtain ⟨d,hd⟩:=Option.isSome_iff_exists.1 hds;obtain ⟨hp,td⟩:=hT rfl;refine ⟨td,ok',x.gw,x.base,x.lt,x.eff,fun kd' j hj hne=>x.rest kd' j (List.mem_cons_of_mem _ hj) hne,x.done,x.pend,fun j hj=>x.flo j (List.mem_cons_of_mem _ hj),fun j hj hDj=>?_,fun j hj=>x.fld j (List.mem_cons_of_mem _ hj),x.mono,x.frm,x.pre,x.clos⟩;by_cases e:j=k
 ·subst e;refine .inr ⟨o2,xs,ho,hx,hfix,fun σ2 hx2 e l2=>?_⟩;refine Bi.move hx e (fun z ds' h2 q=>?_) (hp hx2 (x.gw.1.trans l2));obtain ⟨rfl,v,hv,l3,hL⟩:=q;have hz:z=v:=by
   have:=congrFun hv d
   simp only [hd,putS,upd_same] at this;exact this
  exact ⟨rfl,v,by rw [hz],l3,hL⟩
 ·refine (x.flb j (List.mem_cons_of_mem _ hj) hDj).imp (fun q=>?_) id;rcases List.mem_cons.1 q with e2 | q
  ·cases e2;exact absurd rfl e
  ·exact q
theorem Iu.ran {kd:Kd} {k:Nat} {o:Oper} {xs:List Operand} {v:Value} {hr2 h2:GH} {wr':Bool} (nd:(DP l n).Nodup) (hkl:kd≠.l) (ho:l[k]? =some o) (hkn:k<n) (hks:k ∉ seen) (hcl:∀q ∈ cls.getD k [],D q=true)
  (x:Iu E l n cls fl hs ds Lw F seen effs rds wr ((kd,k) ::π) σr hr D σ' h') (td:TD E l n fl hs ds Lw F π (putS σr o.dst v) hr2) (ok':F1 P l n cls fl π (k ::seen) (k ::effs) rds wr'=true) (gw:Gw fl hr2 h2)
  (how:(wr'=wr∧h'.Le h2)∨(wr'=true∧(∀q ∈ rds,D q=true)∧Lw n undef h2)) :
  Iu E l n cls fl hs ds Lw F (k ::seen) (k ::effs) rds wr' π (putS σr o.dst v) hr2 (Hl D k) (putS σ' o.dst v) h2:=by
 refine ⟨td,ok',gw,fun t ht=>?_,fun j hj=>?_,fun j hj=>?_,fun kd' j hj hne=>?_,fun j hj hDj o' d' ho' hd'=>?_,fun j hj hDj=>?_,fun j hj hDj o' t d' ho' hop hd'=>?_,fun j hj hDj=>?_,fun j hj hDj o' d' ho' hd'=>?_,x.mono,(by rcases how with ⟨_,l2⟩ | ⟨_,_,hf⟩;exact x.mono _ _ _ _ l2 x.frm;exact hf),fun hw=>?_,fun j hjn hDj q hq=>?_⟩
 ·rw [Cr (Hp hkn ho ht),Cr (Hp hkn ho ht)];exact x.base t ht
 ·rcases List.mem_cons.1 hj with rfl | hj
  ·exact hkn
  ·exact x.lt j hj
 ·rcases List.mem_cons.1 hj with rfl | hj
  ·exact J2
  ·exact FJ (x.eff j hj)
 ·have hnew:=(DB ok' kd' j hj).1;rw [CO fun e=>hnew (by rw [e];exact List.mem_cons_self)];exact x.rest kd' j (List.mem_cons_of_mem _ hj) hne
 ·rcases List.mem_cons.1 hj with rfl | hj
  ·obtain rfl:o'=o:=Option.some.inj (ho'.symm.trans ho);rw [hd'];exact (upd_same _ _ _).trans (upd_same _ _ _).symm
  ·have hjk:j≠k:=fun e=>hks (e▸hj);rw [CO hjk] at hDj;have hne:∀e,o.dst=some e→d'≠e:=fun e he=>Dg nd hkn (x.lt j hj) (fun e=>hjk e.symm) ho ho' he hd';rw [Cr hne,Cr hne];exact x.done j hj hDj o' d' ho' hd'
 ·rcases List.mem_cons.1 hj with rfl | hj
  ·rw [J2] at hDj;cases hDj
  ·have hjk:j≠k:=fun e=>hks (e▸hj);rw [CO hjk] at hDj;obtain ⟨o',xs',b',v',pf⟩:=x.pend j hj hDj;rcases how with ⟨_,l2⟩ | ⟨_,hrd,hfr⟩
   ·exact ⟨o',xs',b',v',pf.put nd x.lt hkn hks ho hj l2⟩
   ·have pf2:PF E l n cls ds Lw seen rds σr h2 j o' xs' b' v':=⟨pf.at',pf.op,pf.val,pf.fix,pf.gfix,pf.gd,fun hb=>(pf.vop hb).2.elim (fun hm=>by rw [hrd j hm] at hDj;cases hDj) fun hall=>⟨hall h2 hfr,.inr hall⟩,pf.is⟩;exact ⟨o',xs',b',v',pf2.put nd x.lt hkn hks ho hj (GH.Le.refl _)⟩
 ·have hnew:=(DB ok' _ j hj);have hjk:j≠k:=fun e=>hnew.1 (by rw [e];exact List.mem_cons_self);rw [CO hjk] at hDj;obtain ⟨r,h1,h3,h4⟩:=x.flo j (List.mem_cons_of_mem _ hj) hDj o' t d' ho' hop hd';rcases how with ⟨_,l2⟩ | ⟨hw,_⟩
  ·exact ⟨r,by rw [Cr fun e he=>Dg nd hkn hnew.2 (fun e=>hjk e.symm) ho ho' he hd'];exact h1,h3,l2.get h4⟩
  ·have:=(DN ok' _ j hj (.inl rfl)).2.1;rw [hw] at this;cases this
 ·have hnew:=(DB ok' _ j hj);have hjk:j≠k:=fun e=>hnew.1 (by rw [e];exact List.mem_cons_self);rw [CO hjk] at hDj;rcases how with ⟨_,l2⟩ | ⟨hw,_⟩
  ·exact (x.flb j (List.mem_cons_of_mem _ hj) hDj).imp (fun q=>Fk q hkl.symm) fun q=>(q.put nd x.lt hkn hks ho).le l2
  ·have:=(DN ok' _ j hj (.inr rfl)).2.1;rw [hw] at this;cases this
 ·have hnew:=(DB ok' _ j hj);have hjk:j≠k:=fun e=>hnew.1 (by rw [e];exact List.mem_cons_self);rw [CO hjk] at hDj;rcases how with ⟨_,l2⟩ | ⟨hw,_⟩
  ·rw [Cr fun e he=>Dg nd hkn hnew.2 (fun e=>hjk e.symm) ho ho' he hd'];exact x.mono _ _ _ _ l2 (x.fld j (List.mem_cons_of_mem _ hj) hDj o' d' ho' hd')
  ·have:=(DN ok' _ j hj (.inr rfl)).2.1;rw [hw] at this;cases this
 ·rcases how with ⟨e,l2⟩ | ⟨e,_⟩
  ·exact (x.pre (e▸hw)).trans l2
  ·rw [e] at hw;cases hw
 ·by_cases e:j=k
  ·subst e;exact FJ (hcl q hq)
  ·rw [CO e] at hDj;exact FJ (x.clos j hjn hDj q hq)
def TdAt (E:Gm P) (l:List Oper) (n:Nat) (cls:List (List Nat)) (fl:Bool) (hs:GH) (ds:List Deferred) (Lw:Nat→Value→GH→Prop) (F:(Nat→Value)→GH→Prop) (D:Nat→Bool) (σ':Nat→Value) (h':GH):Prop:=
 ∃seen effs rds wr π σr hr,Iu E l n cls fl hs ds Lw F seen effs rds wr π σr hr D σ' h'
abbrev RunK (E:Gm P) (l:List Oper) (n:Nat) (cls:List (List Nat)) (fl:Bool) (hs:GH) (ds:List Deferred) (Lw:Nat→Value→GH→Prop) (F:(Nat→Value)→GH→Prop) (D:Nat→Bool) (σ':Nat→Value) (h':GH) (k:Nat) (o:Oper):Prop:=
 (Cp l o σ'→Bi E o σ' ds h' fun σ'' ds'' h''=>ds''=ds∧TdAt E l n cls fl hs ds Lw F (Hl D k) σ'' h'')∧(¬Cp l o σ'→TdAt E l n cls fl hs ds Lw F (Hl D k) (putS σ' o.dst undef) h')
theorem Iu.runV {k:Nat} {o:Oper} (nd:(DP l n).Nodup) (ho:l[k]? =some o) (hks:k ∈ seen) (hkD:D k=false) (hcl:∀q ∈ cls.getD k [],D q=true) (x:Iu E l n cls fl hs ds Lw F seen effs rds wr π σr hr D σ' h') :
  RunK E l n cls fl hs ds Lw F D σ' h' k o:=by
 obtain ⟨o2,xs,b,v,pf⟩:=x.pend k hks hkD;obtain rfl:o2=o:=Option.some.inj (pf.at'.symm.trans ho);have hkn:=x.lt k hks;have hgi:=(x.guard hcl pf.gfix pf.gd).iff;have key:Iu E l n cls fl hs ds Lw F seen effs rds wr π σr hr (Hl D k) (putS σ' o2.dst (if b=true then v else undef)) h':=by
  refine ⟨x.td,x.ok,x.gw,fun t ht=>?_,x.lt,fun j hj=>FJ (x.eff j hj),fun kd' j hj hne=>?_,fun j hj hDj o' d' ho' hd'=>?_,fun j hj hDj=>?_,fun j hj hDj o' t d' ho' hop hd'=>?_,fun j hj hDj=>?_,fun j hj hDj o' d' ho' hd'=>?_,x.mono,x.frm,x.pre,fun j hjn hDj q hq=>?_⟩
  ·rw [Cr (Hp hkn ho ht)];exact x.base t ht
  ·have hnew:=(DB x.ok kd' j hj).1;rw [CO fun (e:j=k)=>hnew (by rw [e];exact hks)];exact x.rest kd' j hj hne
  ·by_cases hjk:j=k
   ·subst hjk;obtain rfl:o'=o2:=Option.some.inj (ho'.symm.trans ho);rw [pf.is d' hd',hd'];exact upd_same _ _ _
   ·rw [CO hjk] at hDj;rw [Cr fun e he=>Dg nd hkn (x.lt j hj) (fun e=>hjk e.symm) ho ho' he hd'];exact x.done j hj hDj o' d' ho' hd'
  ·by_cases hjk:j=k
   ·subst hjk;rw [J2] at hDj;cases hDj
   ·rw [CO hjk] at hDj;exact x.pend j hj hDj
  ·have hnew:=DB x.ok _ j hj;have hjk:j≠k:=fun e=>hnew.1 (by rw [e];exact hks);rw [CO hjk] at hDj;obtain ⟨r,h1,h3⟩:=x.flo j hj hDj o' t d' ho' hop hd';exact ⟨r,by rw [Cr fun e he=>Dg nd hkn hnew.2 (fun e=>hjk e.symm) ho ho' he hd'];exact h1,h3⟩
  ·have hnew:=DB x.ok _ j hj;have hjk:j≠k:=fun e=>hnew.1 (by rw [e];exact hks);rw [CO hjk] at hDj;exact x.flb j hj hDj
  ·have hnew:=DB x.ok _ j hj;have hjk:j≠k:=fun e=>hnew.1 (by rw [e];exact hks);rw [CO hjk] at hDj;rw [Cr fun e he=>Dg nd hkn hnew.2 (fun e=>hjk e.symm) ho ho' he hd'];exact x.fld j hj hDj o' d' ho' hd'
  ·by_cases e:j=k
   ·subst e;exact FJ (hcl q hq)
   ·rw [CO e] at hDj;exact FJ (x.clos j hjn hDj q hq)
 refine ⟨fun hG=>?_,fun hG=>?_⟩
 ·obtain rfl:=hgi.1 hG;have y:=(pf.vop rfl).1.move pf.val pf.op (fun t ht=>x.agree hcl (pf.fix t ht)) (GH.Le.refl _);refine Bi.move pf.op (fun _ _=>rfl) (fun z ds' h'' q=>?_) y;obtain ⟨q1,rfl,rfl⟩:=q;exact ⟨rfl,_,_,_,_,_,_,_,by rw [q1];exact key⟩
 ·cases b with
  | true=>exact absurd (hgi.2 rfl) hG
  | false=>exact ⟨_,_,_,_,_,_,_,key⟩
theorem Iu.runE {kd:Kd} {k:Nat} {o:Oper} (nd:(DP l n).Nodup) (hkd:kd=.e∨kd=.w) (ho:l[k]? =some o) (hcl:∀q ∈ cls.getD k [],D q=true) (x:Iu E l n cls fl hs ds Lw F seen effs rds wr ((kd,k) ::π) σr hr D σ' h') :
  RunK E l n cls fl hs ds Lw F D σ' h' k o:=by
 obtain ⟨o1,xs,ho1,hx,hkn,hks,hfix,hg,hh⟩:=E1 x.ok;obtain rfl:o1=o:=Option.some.inj (ho1.symm.trans ho);obtain ⟨o2,b,ho2,hgd,hF,hT⟩:=x.td;obtain rfl:o2=o1:=Option.some.inj (ho2.symm.trans ho);have hgi:=(x.guard hcl hg hgd).iff;refine ⟨fun hG=>?_,fun hG=>?_⟩
 ·obtain rfl:=hgi.1 hG;rcases hkd with rfl | rfl
  ·refine (hT rfl h' x.gw).move hx (fun t ht=>x.agree hcl (hfix t ht)) fun z ds' h'' q=>?_;obtain ⟨rfl,v,hv,l2,td⟩:=q;refine ⟨rfl,?_⟩;have e:putS σ' o2.dst z=putS σ' o2.dst v:=by
    cases hd:o2.dst with
    | none=>rfl
    | some d=>
     have:=congrFun hv d
     simp only [hd,putS,upd_same] at this;rw [this]
   rw [e];exact ⟨_,_,_,_,_,_,_,x.ran (xs:=xs) nd (by decide) ho hkn hks hcl td hh.2 (Gw.refl _ _) (.inl ⟨rfl,l2⟩)⟩
  ·refine (hT rfl h' x.gw).move hx (fun t ht=>x.agree hcl (hfix t ht)) fun z ds' h'' q=>?_;obtain ⟨rfl,v,hv,hfr,td⟩:=q;refine ⟨rfl,?_⟩;have e:putS σ' o2.dst z=putS σ' o2.dst v:=by
    cases hd:o2.dst with
    | none=>rfl
    | some d=>
     have:=congrFun hv d
     simp only [hd,putS,upd_same] at this;rw [this]
   rw [e];exact ⟨_,_,_,_,_,_,_,x.ran (xs:=xs) nd (by decide) ho hkn hks hcl td hh.2.2 (Gw.refl _ _) (.inr ⟨rfl,fun q hq=>hcl q (hh.2.1 q hq),hfr⟩)⟩
 ·cases b with
  | true=>exact absurd (hgi.2 rfl) hG
  | false=>
   rcases hkd with rfl | rfl
   ·exact ⟨_,_,_,_,_,_,_,x.ran (xs:=xs) nd (by decide) ho hkn hks hcl (hF rfl) hh.2 x.gw (.inl ⟨rfl,GH.Le.refl _⟩)⟩
   ·exact ⟨_,_,_,_,_,_,_,x.ran (xs:=xs) nd (by decide) ho hkn hks hcl (hF rfl) hh.2.2 x.gw (.inr ⟨rfl,fun q hq=>hcl q (hh.2.1 q hq),x.frm⟩)⟩
theorem G9:∀{π:List (Kd×Nat)} {seen effs rds:List Nat} {wr:Bool},F1 P l n cls fl π seen effs rds wr=true→∀{kd1 kd2:Kd} {j:Nat},(kd1,j) ∈ π→(kd2,j) ∈ π→kd1≠.l→kd2≠.l→kd1=kd2
 | [],_,_,_,_,_,_,_,_,h,_,_,_=>by cases h
 | (kd,k) ::π,seen,effs,rds,wr,x,kd1,kd2,j,h1,h2,n1,n2=>by
  obtain ⟨seen',e',r',w',ok2,_,z,_⟩:=G8 x;rcases List.mem_cons.1 h1 with e1 | h3 <;> rcases List.mem_cons.1 h2 with e2 | h4
  ·cases e1;cases e2;rfl
  ·cases e1;exact absurd (by rw [z n1];exact List.mem_cons_self) (DB ok2 _ _ h4).1
  ·cases e2;exact absurd (by rw [z n2];exact List.mem_cons_self) (DB ok2 _ _ h3).1
  ·exact G9 ok2 h3 h4 n1 n2
theorem Iu.runA {k:Nat} {o:Oper} (nd:(DP l n).Nodup) (hk:(Kd.a,k) ∈ π) (hkD:D k=false) (ho:l[k]? =some o) (hcl:∀q ∈ cls.getD k [],D q=true) (x:Iu E l n cls fl hs ds Lw F seen effs rds wr π σr hr D σ' h') :
  RunK E l n cls fl hs ds Lw F D σ' h' k o:=by
 obtain ⟨hfl,hwr,hkn,o2,ho2,hal0,hds,hgn⟩:=DN x.ok _ k hk (.inl rfl);have hal:=hal0 rfl;obtain rfl:o2=o:=Option.some.inj (ho2.symm.trans ho);have hks:=(DB x.ok _ k hk).1;obtain ⟨t,hop⟩:∃t,o2.op=.alloc t:=by
  cases hq:o2.op <;> rw [hq] at hal <;> first | exact ⟨_,rfl⟩ | cases hal
 have hz:CA P t=some (zOf P t):=by
  rw [hop] at hal;obtain ⟨z,hz⟩:=Option.isSome_iff_exists.1 (show (CA P t).isSome=true from hal);unfold zOf;rw [hz];rfl
 refine ⟨fun _=>?_,fun hG=>absurd (by unfold Cp;rw [hgn];trivial) hG⟩;obtain ⟨dst,op,ty,pos,af,gd⟩:=o2;simp only at hop hds hgn;subst hop;obtain ⟨d,rfl⟩:=Option.isSome_iff_exists.1 hds;refine Am hz fun r h2 hr0 l2 hnb hoth=>⟨rfl,seen,effs,rds,wr,π,σr,hr,x.td,x.ok,⟨x.gw.1.trans l2,fun e=>by rw [hfl] at e;cases e⟩,fun t' ht=>?_,x.lt,fun j hj=>FJ (x.eff j hj),fun kd' j hj hne=>?_,fun j hj hDj o' d' ho' hd'=>?_,fun j hj hDj=>?_,fun j hj hDj o' t' d' ho' hop' hd'=>?_,fun j hj hDj=>?_,fun j hj hDj o' d' ho' hd'=>?_,x.mono,x.mono _ _ _ _ l2 x.frm,fun hw=>(x.pre hw).trans l2,fun j hjn hDj q hq=>?_⟩
 ·rw [Cr (Hp hkn ho ht)];exact x.base t' ht
 ·by_cases e:j=k
  ·subst e;rw [G9 x.ok hj hk (by rintro rfl;cases hne) (by decide)] at hne;cases hne
  ·rw [CO e];exact x.rest kd' j hj hne
 ·have hjk:j≠k:=fun e=>hks (e▸hj);rw [CO hjk] at hDj;rw [Cr fun e he=>Dg nd hkn (x.lt j hj) (fun e=>hjk e.symm) ho ho' he hd'];exact x.done j hj hDj o' d' ho' hd'
 ·have hjk:j≠k:=fun e=>hks (e▸hj);rw [CO hjk] at hDj;obtain ⟨o',xs',b',v',pf⟩:=x.pend j hj hDj;exact ⟨o',xs',b',v',pf.at',pf.op,pf.val,pf.fix,pf.gfix,pf.gd,fun hb=>⟨(pf.vop hb).1.move pf.val pf.op (fun _ _=>rfl) l2,(pf.vop hb).2⟩,pf.is⟩
 ·by_cases e:j=k
  ·subst e;cases ho'.symm.trans ho;cases hd';cases hop';have hb0:hs r=none:=by
    cases hb:hs r with
    | none=>rfl
    | some y=>rw [(x.pre hwr).get hb] at hr0;cases hr0
   exact ⟨r,upd_same _ _ _,hb0,hnb⟩
  ·rw [CO e] at hDj;have hnew:=DB x.ok _ j hj;obtain ⟨r',h1,h3,h4⟩:=x.flo j hj hDj o' t' d' ho' hop' hd';exact ⟨r',by rw [Cr fun e' he=>Dg nd hkn hnew.2 (fun q=>e q.symm) ho ho' he hd'];exact h1,h3,l2.get h4⟩
 ·have e:j≠k:=fun e=>by subst e;cases G9 x.ok hj hk (by decide) (by decide)
  rw [CO e] at hDj;exact (x.flb j hj hDj).imp id (Xv.le l2)
 ·have e:j≠k:=fun e=>by subst e;cases G9 x.ok hj hk (by decide) (by decide)
  rw [CO e] at hDj;have hnew:=DB x.ok _ j hj;rw [Cr fun e' he=>Dg nd hkn hnew.2 (fun q=>e q.symm) ho ho' he hd'];exact x.mono _ _ _ _ l2 (x.fld j hj hDj o' d' ho' hd')
 ·by_cases e:j=k
  ·subst e;exact FJ (hcl q hq)
  ·rw [CO e] at hDj;exact FJ (x.clos j hjn hDj q hq)
theorem Iu.reachB {k:Nat} (nd:(DP l n).Nodup) (hkD:D k=false) (hcl:∀q ∈ cls.getD k [],D q=true):∀{π:List (Kd×Nat)} {seen effs rds:List Nat} {wr:Bool} {σr:Nat→Value} {hr:GH},
  Iu E l n cls fl hs ds Lw F seen effs rds wr π σr hr D σ' h'→(Kd.b,k) ∈ π→∃seen effs rds wr π' σr hr,Iu E l n cls fl hs ds Lw F seen effs rds wr π' σr hr D σ' h'∧(Kd.b,k) ∈ π'∧Xv E l n cls ds Lw seen σr h' k:=by
 intro π
 induction π with
 | nil=>intro _ _ _ _ _ _ _ h;cases h
 | cons y π ih=>
  intro seen effs rds wr σr hr x hm;obtain ⟨kd2,k2⟩:=y;rcases x.flb k hm hkD with hl | hp
  ·by_cases hL:kd2=.l
   ·subst hL;exact ih x.unfoldL (Fk hm (by decide))
   ·have hl2:=Fk hl (Ne.symm hL);have heff:kd2=.e∨kd2=.w∨kd2=.a∨kd2=.b→D k2=true:=fun hk=>by
     obtain ⟨s',e',r',w',ok2,_,_,_,_,z⟩:=G8 x.ok;exact hcl _ (OB ok2 .l k hl2 (by decide) (by decide) k2 (z hk))
    cases kd2 with
    | p=>obtain ⟨rds',σr',x'⟩:=x.unfoldV nd (.inl rfl);exact ih x' (Fk hm (by decide))
    | r=>obtain ⟨rds',σr',x'⟩:=x.unfoldV nd (.inr rfl);exact ih x' (Fk hm (by decide))
    | e=>have:=x.rest _ _ List.mem_cons_self rfl;rw [heff (.inl rfl)] at this;cases this
    | w=>have:=x.rest _ _ List.mem_cons_self rfl;rw [heff (.inr (.inl rfl))] at this;cases this
    | a=>obtain ⟨σr',x'⟩:=x.unfoldA nd (heff (.inr (.inr (.inl rfl))));exact ih x' (Fk hm (by decide))
    | l=>exact absurd rfl hL
    | b=>
     have hD2:=heff (.inr (.inr (.inr rfl)));obtain ⟨σr',x'⟩:=x.unfoldB nd hD2;rcases List.mem_cons.1 hm with e | hm2
     ·cases e;rw [hkD] at hD2;cases hD2
     ·exact ih x' hm2
  ·exact ⟨_,_,_,_,_,_,_,x,hm,hp⟩
theorem Iu.runB {k:Nat} {o:Oper} (nd:(DP l n).Nodup) (hk0:(Kd.b,k) ∈ π) (hkD:D k=false) (ho:l[k]? =some o) (hcl:∀q ∈ cls.getD k [],D q=true) (x0:Iu E l n cls fl hs ds Lw F seen effs rds wr π σr hr D σ' h') :
  RunK E l n cls fl hs ds Lw F D σ' h' k o:=by
 obtain ⟨seen,effs,rds,wr,π,σr,hr,x,hk,hp⟩:=x0.reachB nd hkD hcl hk0;obtain ⟨hfl,hwr,hkn,o2,ho2,_,hds,hgn⟩:=DN x.ok _ k hk (.inr rfl);obtain rfl:o2=o:=Option.some.inj (ho2.symm.trans ho);have hks:=(DB x.ok _ k hk).1;refine ⟨fun _=>?_,fun hG=>absurd (by unfold Cp;rw [hgn];trivial) hG⟩;obtain ⟨o3,xs,ho3,hx,hfix,hrun⟩:=hp;obtain rfl:o3=o2:=Option.some.inj (ho3.symm.trans ho);obtain ⟨d,hd⟩:=Option.isSome_iff_exists.1 hds;refine Bi.move hx (fun _ _=>rfl) (fun z ds' h2 q=>?_) (hrun σ' h' (fun t ht=>x.agree hcl (hfix t ht)) (GH.Le.refl _));obtain ⟨rfl,v,hv,l2,hL⟩:=q;rw [hv];refine ⟨rfl,seen,effs,rds,wr,π,σr,hr,x.td,x.ok,⟨x.gw.1.trans l2,fun e=>by rw [hfl] at e;cases e⟩,fun t' ht=>?_,x.lt,fun j hj=>FJ (x.eff j hj),fun kd' j hj hne=>?_,fun j hj hDj o' d' ho' hd'=>?_,fun j hj hDj=>?_,fun j hj hDj o' t' d' ho' hop' hd'=>?_,fun j hj hDj=>?_,fun j hj hDj o' d' ho' hd'=>?_,x.mono,x.mono _ _ _ _ l2 x.frm,fun hw=>(x.pre hw).trans l2,fun j hjn hDj q hq=>?_⟩
 ·rw [Cr (Hp hkn ho ht)];exact x.base t' ht
 ·by_cases e:j=k
  ·subst e;rw [G9 x.ok hj hk (by rintro rfl;cases hne) (by decide)] at hne;cases hne
  ·rw [CO e];exact x.rest kd' j hj hne
 ·have hjk:j≠k:=fun e=>hks (e▸hj);rw [CO hjk] at hDj;rw [Cr fun e he=>Dg nd hkn (x.lt j hj) (fun e=>hjk e.symm) ho ho' he hd'];exact x.done j hj hDj o' d' ho' hd'
 ·have hjk:j≠k:=fun e=>hks (e▸hj);rw [CO hjk] at hDj;obtain ⟨o',xs',b',v',pf⟩:=x.pend j hj hDj;exact ⟨o',xs',b',v',pf.at',pf.op,pf.val,pf.fix,pf.gfix,pf.gd,fun hb=>⟨(pf.vop hb).1.move pf.val pf.op (fun _ _=>rfl) l2,(pf.vop hb).2⟩,pf.is⟩
 ·have e:j≠k:=fun e=>by subst e;cases G9 x.ok hj hk (by decide) (by decide)
  rw [CO e] at hDj;have hnew:=DB x.ok _ j hj;obtain ⟨r',h1,h3,h4⟩:=x.flo j hj hDj o' t' d' ho' hop' hd';exact ⟨r',by rw [Cr fun e' he=>Dg nd hkn hnew.2 (fun q=>e q.symm) ho ho' he hd'];exact h1,h3,l2.get h4⟩
 ·have e:j≠k:=fun e=>by subst e;rw [J2] at hDj;cases hDj
  rw [CO e] at hDj;exact (x.flb j hj hDj).imp id (Xv.le l2)
 ·by_cases e:j=k
  ·subst e;obtain rfl:o'=o3:=Option.some.inj (ho'.symm.trans ho);rw [hd'];rw [show putS σ' (some d') v d'=v from upd_same _ _ _];exact hL
  ·rw [CO e] at hDj;have hnew:=DB x.ok _ j hj;rw [Cr fun e' he=>Dg nd hkn hnew.2 (fun q=>e q.symm) ho ho' he hd'];exact x.mono _ _ _ _ l2 (x.fld j hj hDj o' d' ho' hd')
 ·by_cases e:j=k
  ·subst e;exact FJ (hcl q hq)
  ·rw [CO e] at hDj;exact FJ (x.clos j hjn hDj q hq)
theorem Iu.reach {kd:Kd} {i:Nat} (nd:(DP l n).Nodup) (hne:kd.fix=true) (hcl:∀q ∈ cls.getD i [],D q=true):∀{π:List (Kd×Nat)} {seen effs rds:List Nat} {wr:Bool} {σr:Nat→Value} {hr:GH},
  Iu E l n cls fl hs ds Lw F seen effs rds wr π σr hr D σ' h'→(kd,i) ∈ π→∃seen effs rds wr π' σr hr,Iu E l n cls fl hs ds Lw F seen effs rds wr ((kd,i) ::π') σr hr D σ' h':=by
 intro π
 induction π with
 | nil=>intro _ _ _ _ _ _ _ h;cases h
 | cons y π ih=>
  intro seen effs rds wr σr hr x hm;obtain ⟨kd2,k2⟩:=y;rcases List.mem_cons.1 hm with e | hm2
  ·cases e;exact ⟨_,_,_,_,_,_,_,x⟩
  ·have hv:kd2=.p∨kd2=.r→∃seen effs rds wr π' σr hr,Iu E l n cls fl hs ds Lw F seen effs rds wr ((kd,i) ::π') σr hr D σ' h':=fun hk=>by
    obtain ⟨rds',σr',x'⟩:=x.unfoldV nd hk;exact ih x' hm2
   have heff:kd2=.e∨kd2=.w∨kd2=.a∨kd2=.b→D k2=true:=fun hk=>by
    obtain ⟨s',e',r',w',ok2,_,_,_,_,z⟩:=G8 x.ok;exact hcl _ (OB ok2 kd i hm2 (by rintro rfl;cases hne) (by rintro rfl;cases hne) k2 (z hk))
   cases kd2 with
   | p=>exact hv (.inl rfl)
   | r=>exact hv (.inr rfl)
   | e=>have:=x.rest _ _ List.mem_cons_self rfl;rw [heff (.inl rfl)] at this;cases this
   | w=>have:=x.rest _ _ List.mem_cons_self rfl;rw [heff (.inr (.inl rfl))] at this;cases this
   | a=>
    obtain ⟨σr',x'⟩:=x.unfoldA nd (heff (.inr (.inr (.inl rfl))));exact ih x' hm2
   | l=>exact ih x.unfoldL hm2
   | b=>
    obtain ⟨σr',x'⟩:=x.unfoldB nd (heff (.inr (.inr (.inr rfl))));exact ih x' hm2
theorem Iu.ends (nd:(DP l n).Nodup) (hall:∀i,i<n→D i=true):∀{π:List (Kd×Nat)} {seen effs rds:List Nat} {wr:Bool} {σr:Nat→Value} {hr:GH},
  Iu E l n cls fl hs ds Lw F seen effs rds wr π σr hr D σ' h'→F σ' h':=by
 intro π
 induction π with
 | nil=>
  intro seen effs rds wr σr hr x;have e:σ'=σr:=funext fun t=>by
   cases hc:(DP l n).contains t with
   | false=>exact x.base t hc
   | true=>
    rw [List.contains_iff_mem] at hc;simp only [DP,List.mem_filterMap] at hc;obtain ⟨o,ho,hd⟩:=hc;obtain ⟨k,hk⟩:=List.mem_iff_getElem?.1 ho;have hkn:k<n:=by
     have:=(List.getElem?_eq_some_iff.1 hk).1
     simp at this;omega
    have hok:l[k]? =some o:=by rw [List.getElem?_take] at hk;simpa [hkn] using hk
    rcases OA x.ok k hkn with h | ⟨_,h,_⟩
    ·exact x.done k h (hall k hkn) o t hok hd
    ·cases h
  rw [e];exact x.td h' x.gw
 | cons y π ih=>
  intro seen effs rds wr σr hr x;obtain ⟨kd,k⟩:=y;have hk:=(DB x.ok kd k List.mem_cons_self).2;cases kd with
  | a=>obtain ⟨σr',x'⟩:=x.unfoldA nd (hall k hk);exact ih x'
  | b=>obtain ⟨σr',x'⟩:=x.unfoldB nd (hall k hk);exact ih x'
  | l=>exact ih x.unfoldL
  | p=>have:=x.rest _ k List.mem_cons_self rfl;rw [hall k hk] at this;cases this
  | r=>have:=x.rest _ k List.mem_cons_self rfl;rw [hall k hk] at this;cases this
  | e=>have:=x.rest _ k List.mem_cons_self rfl;rw [hall k hk] at this;cases this
  | w=>have:=x.rest _ k List.mem_cons_self rfl;rw [hall k hk] at this;cases this
end
def Rc (c:List Nat) (k:List Nat→Bool):Bool:=match c with
 | []=>k []
 | x ::xs=>Rc xs fun xs'=>k (x ::xs')
theorem QR:∀(c:List Nat) (k:List Nat→Bool),Rc c k=k c
 | [],_=>rfl
 | x ::xs,k=>by unfold Rc;rw [QR xs]
def Re (cls:List (List Nat)) (k:List (List Nat)→Bool):Bool:=match cls with
 | []=>k []
 | c ::cs=>Re cs fun cs'=>k (c ::cs')
theorem QS:∀(cls:List (List Nat)) (k:List (List Nat)→Bool),Re cls k=k cls
 | [],_=>rfl
 | c ::cs,k=>by unfold Re;exact QS cs _
def QT (l:List Oper):List Oper→Nat→List (List Nat)→(List (List Nat)→Bool)→Bool
 | [],_,acc,c=>Re acc.reverse c
 | o ::os,k,acc,c=>Rc ((List.range k).filter fun j=>Hn o j || (List.range k).any fun e=>Hn o e && (acc.getD (k-1-e) []).contains j) fun x=>QT l os (k+1) (x ::acc) c
theorem Iv {l:List Oper} {c:List (List Nat)→Bool}:∀{os:List Oper} {k:Nat} {acc:List (List Nat)},QT l os k acc c=true→∃cls,c cls=true
 | [],k,acc,h=>⟨acc.reverse,(QS acc.reverse c).symm.trans h⟩
 | o ::os,k,acc,h=>by unfold QT at h;rw [QR] at h;exact Iv h
def S5 (P:Program) (N:Nat) (l:List Oper) (n:Nat) (cls:List (List Nat)) (fl:Bool) (π:List (Kd×Nat)):Bool:=FI N l n cls && F1 P l n cls fl π [] [] [] false && π.all fun x=>x.1 !=.b || π.contains (.l,x.2)
theorem AAB {Lw:Nat→Value→GH→Prop} {F:(Nat→Value)→GH→Prop} {id:Nat} {l:List Oper} {σ:Nat→Value} {ds:List Deferred} {h:GH} {Q:Post} (n:Nat) (cls:List (List Nat)) (fl:Bool) (π:List (Kd×Nat)) (hm:P.follows .mixedOrders=true)
  (hL:∀k v h1 h2,GH.Le h1 h2→Lw k v h1→Lw k v h2) (hF:Lw n undef h) (ok:S5 P E.N l n cls fl π=true) (x:TD E l n fl h ds Lw F π σ h) (y:∀σ' h',F σ' h'→EL E l.toArray (l.drop n) σ' ds h' Q):Tr E (.region id l.toArray true) σ ds h Q:=by
 unfold S5 at ok;rw [Bool.and_eq_true,Bool.and_eq_true] at ok;obtain ⟨⟨ok1,ok2⟩,ok3⟩:=ok;have nd:(DP l n).Nodup:=by
  have:=ok1
  unfold FI at this;simp only [Bool.and_eq_true] at this;exact of_decide_eq_true this.1.2
 refine N2 n cls (TdAt E l n cls fl h ds Lw F) hm ok1 ?_ ?_ ?_
 ·exact ⟨[],[],[],false,π,σ,h,x,ok2,Gw.refl _ _,fun _ _=>rfl,(fun _ hk=>by cases hk),(fun _ hk=>by cases hk),(fun _ _ _ _=>rfl),(fun _ hk=>by cases hk),(fun _ hk=>by cases hk),(fun _ _ hD=>by cases hD),(fun k hk _=>.inl (by have:=List.all_eq_true.1 ok3 _ hk;simpa using this)),(fun _ _ hD=>by cases hD),hL,hF,(fun _=>GH.Le.refl _),(fun _ _ hD=>by cases hD)⟩
 ·rintro D σ' h' i o ⟨seen,effs,rds,wr,π',σr,hr,z0⟩ hin hiD ho hcl hgl;rcases OA z0.ok i hin with hs | ⟨kd,hk,hkl⟩
  ·exact z0.runV nd ho hs hiD hcl
  ·by_cases hne:kd.fix=false
   ·cases kd with
    | a=>exact z0.runA nd hk hiD ho hcl
    | b=>exact z0.runB nd hk hiD ho hcl
    | l=>exact absurd rfl hkl
    | p=>cases hne
    | r=>cases hne
    | e=>cases hne
    | w=>cases hne
   ·obtain ⟨seen,effs,rds,wr,π'',σr,hr,z⟩:=z0.reach nd (by simpa using hne) hcl hk;cases kd with
    | p=>
     obtain ⟨rds',σr',z'⟩:=z.unfoldV nd (.inl rfl);exact z'.runV nd ho List.mem_cons_self hiD hcl
    | r=>
     obtain ⟨rds',σr',z'⟩:=z.unfoldV nd (.inr rfl);exact z'.runV nd ho List.mem_cons_self hiD hcl
    | e=>exact z.runE nd (.inl rfl) ho hcl
    | w=>exact z.runE nd (.inr rfl) ho hcl
    | a=>exact absurd rfl hne
    | l=>exact absurd rfl hne
    | b=>exact absurd rfl hne
 ·rintro D σ' h' ⟨seen,effs,rds,wr,π',σr,hr,z0⟩ hall;exact y _ _ (z0.ends nd hall)
def FrW (n:Nat) (Fr:GH→Prop) (k:Nat) (_:Value) (h:GH):Prop:=k=n→Fr h
theorem FrW.mono {n:Nat} {Fr:GH→Prop} (m:∀h1 h2,GH.Le h1 h2→Fr h1→Fr h2):∀k v h1 h2,GH.Le h1 h2→FrW n Fr k v h1→FrW n Fr k v h2:=fun _ _ _ _ l x e=>m _ _ l (x e)
abbrev LoIs (σ:Nat→Value) (o:Option Operand) (lo d:Nat):Prop:=match o with
 | none=>lo=d
 | some o=>∃kd,AU σ o=.int kd lo
def QU (m:Nat):Kd×Nat:=if 1000≤m then (if m%2=0 then .l else .b,(m-1000) / 2) else (match m%5 with | 0=>.p | 1=>.r | 2=>.e | 3=>.w | _=>.a,m / 5)
def dK:List Nat→List (Kd×Nat)
 | []=>[]
 | m ::l=>QU m ::dK l
theorem BO {id:Nat} {l:List Oper} {σ:Nat→Value} {ds:List Deferred} {h:GH} {Q:Post} (n:Nat) (fl:Bool) (π:List Nat) (hm:P.follows .mixedOrders=true)
  (ok:QT l (l.take n) 0 [] (fun cls=>S5 P E.N l n cls fl (dK π))=true) (x:TD E l n fl h ds (fun _ _ _=>True) (fun σ' h'=>EL E l.toArray (l.drop n) σ' ds h' Q) (dK π) σ h):Tr E (.region id l.toArray true) σ ds h Q:=
 let ⟨cls,h1⟩:=Iv ok
 AAB n cls fl (dK π) hm (fun _ _ _ _ _ y=>y) trivial h1 x fun _ _ y=>y
theorem FR {id:Nat} {l:List Oper} {σ:Nat→Value} {ds:List Deferred} {h:GH} {Q:Post} (F:(Nat→Value)→GH→Prop) (n:Nat) (fl:Bool) (π:List Nat) (hm:P.follows .mixedOrders=true)
  (ok:QT l (l.take n) 0 [] (fun cls=>S5 P E.N l n cls fl (dK π))=true) (x:TD E l n fl h ds (fun _ _ _=>True) F (dK π) σ h) (y:∀σ' h',F σ' h'→EL E l.toArray (l.drop n) σ' ds h' Q):Tr E (.region id l.toArray true) σ ds h Q:=
 let ⟨cls,h1⟩:=Iv ok
 AAB n cls fl (dK π) hm (fun _ _ _ _ _ y=>y) trivial h1 x y
theorem Uu {id:Nat} {l:List Oper} {σ:Nat→Value} {ds:List Deferred} {h:GH} {Q:Post} (n:Nat) (Lw:Nat→Value→GH→Prop) (hL:∀k v h1 h2,GH.Le h1 h2→Lw k v h1→Lw k v h2) (hF:Lw n undef h) (fl:Bool) (π:List Nat) (hm:P.follows .mixedOrders=true)
  (ok:QT l (l.take n) 0 [] (fun cls=>S5 P E.N l n cls fl (dK π))=true) (x:TD E l n fl h ds Lw (fun σ' h'=>EL E l.toArray (l.drop n) σ' ds h' Q) (dK π) σ h):Tr E (.region id l.toArray true) σ ds h Q:=
 let ⟨cls,h1⟩:=Iv ok
 AAB n cls fl (dK π) hm hL hF h1 x fun _ _ y=>y
section
variable {l:List Oper} {n:Nat} {fl:Bool} {hs:GH} {ds:List Deferred} {Lw:Nat→Value→GH→Prop} {F:(Nat→Value)→GH→Prop} {π:List Nat} {σ:Nat→Value} {h:GH} {m k g d:Nat} {dst:Option Nat} {op:Op} {ty:TypeId} {pos:String} {af:Array Edge} {v:Value} {w is:Bool} {og:Oper}
theorem vz {α β γ:Type} {a:α} {b:β} {c:γ}:a=a∧b=b∧c=c:=⟨rfl,rfl,rfl⟩
theorem tP (hk:QU m=(.p,k)) (ho:l[k]? =some ⟨dst,op,ty,pos,af,none⟩) (x:∀hx,Ut E ⟨dst,op,ty,pos,af,none⟩ σ ds hx v) (y:TD E l n fl hs ds Lw F (dK π) (putS σ dst v) h):TD E l n fl hs ds Lw F (dK (m ::π)) σ h:=by
 unfold dK;rw [hk];exact ⟨_,true,ho,rfl,fun e=>(by cases e),fun _=>⟨v,fun hx _=>x hx,y⟩⟩
theorem tR (hk:QU m=(.r,k)) (ho:l[k]? =some ⟨dst,op,ty,pos,af,none⟩) (x:Ut E ⟨dst,op,ty,pos,af,none⟩ σ ds h v) (y:TD E l n fl hs ds Lw F (dK π) (putS σ dst v) h):TD E l n fl hs ds Lw F (dK (m ::π)) σ h:=by
 unfold dK;rw [hk];exact ⟨_,true,ho,rfl,fun e=>(by cases e),fun _=>⟨v,x,y⟩⟩
theorem tE (hk:QU m=(.e,k)) (ho:l[k]? =some ⟨dst,op,ty,pos,af,none⟩)
  (x:Bi E ⟨dst,op,ty,pos,af,none⟩ σ ds h fun σ' ds' h'=>ds'=ds∧∃v,σ'=putS σ dst v∧h.Le h'∧TD E l n false hs ds Lw F (dK π) (putS σ dst v) h'):TD E l n false hs ds Lw F (dK (m ::π)) σ h:=by
 unfold dK;rw [hk];exact ⟨_,true,ho,rfl,fun e=>(by cases e),fun _ hx hg=>by rw [hg.2 rfl];exact x⟩
theorem HA (hk:QU m=(.e,k)) (ho:l[k]? =some ⟨dst,op,ty,pos,af,none⟩)
  (x:∀hx,h.Le hx→Bi E ⟨dst,op,ty,pos,af,none⟩ σ ds hx fun σ' ds' h'=>ds'=ds∧∃v,σ'=putS σ dst v∧hx.Le h'∧TD E l n true hs ds Lw F (dK π) (putS σ dst v) h'):TD E l n true hs ds Lw F (dK (m ::π)) σ h:=by
 unfold dK;rw [hk];exact ⟨_,true,ho,rfl,fun e=>(by cases e),fun _ hx hg=>x hx hg.1⟩
theorem tW (hk:QU m=(.w,k)) (ho:l[k]? =some ⟨dst,op,ty,pos,af,none⟩)
  (x:Bi E ⟨dst,op,ty,pos,af,none⟩ σ ds h fun σ' ds' h'=>ds'=ds∧∃v,σ'=putS σ dst v∧TD E l n false hs ds (fun _ _ _=>True) F (dK π) (putS σ dst v) h'):TD E l n false hs ds (fun _ _ _=>True) F (dK (m ::π)) σ h:=by
 unfold dK;rw [hk];exact ⟨_,true,ho,rfl,fun e=>(by cases e),fun _ hx hg=>by rw [hg.2 rfl];exact x.mono fun _ _ _ q=>⟨q.1,by obtain ⟨v,e,y⟩:=q.2;exact ⟨v,e,trivial,y⟩⟩⟩
theorem XK (hk:QU m=(.w,k)) (ho:l[k]? =some ⟨dst,op,ty,pos,af,none⟩)
  (x:∀hx,h.Le hx→Bi E ⟨dst,op,ty,pos,af,none⟩ σ ds hx fun σ' ds' h'=>ds'=ds∧∃v,σ'=putS σ dst v∧TD E l n true hs ds (fun _ _ _=>True) F (dK π) (putS σ dst v) h'):TD E l n true hs ds (fun _ _ _=>True) F (dK (m ::π)) σ h:=by
 unfold dK;rw [hk];exact ⟨_,true,ho,rfl,fun e=>(by cases e),fun _ hx hg=>(x hx hg.1).mono fun _ _ _ q=>⟨q.1,by obtain ⟨v,e,y⟩:=q.2;exact ⟨v,e,trivial,y⟩⟩⟩
theorem tWL (hk:QU m=(.w,k)) (ho:l[k]? =some ⟨dst,op,ty,pos,af,none⟩)
  (x:Bi E ⟨dst,op,ty,pos,af,none⟩ σ ds h fun σ' ds' h'=>ds'=ds∧∃v,σ'=putS σ dst v∧Lw n undef h'∧TD E l n false hs ds Lw F (dK π) (putS σ dst v) h'):TD E l n false hs ds Lw F (dK (m ::π)) σ h:=by
 unfold dK;rw [hk];exact ⟨_,true,ho,rfl,fun e=>(by cases e),fun _ hx hg=>by rw [hg.2 rfl];exact x⟩
theorem tWfL (hk:QU m=(.w,k)) (ho:l[k]? =some ⟨dst,op,ty,pos,af,none⟩)
  (x:∀hx,h.Le hx→Bi E ⟨dst,op,ty,pos,af,none⟩ σ ds hx fun σ' ds' h'=>ds'=ds∧∃v,σ'=putS σ dst v∧Lw n undef h'∧TD E l n true hs ds Lw F (dK π) (putS σ dst v) h'):TD E l n true hs ds Lw F (dK (m ::π)) σ h:=by
 unfold dK;rw [hk];exact ⟨_,true,ho,rfl,fun e=>(by cases e),fun _ hx hg=>x hx hg.1⟩
theorem tA {t:TypeId} {z:Array Value} (hk:QU m=(.a,k)) (ho:l[k]? =some ⟨dst,.alloc t,ty,pos,af,none⟩) (hz:CA P t=some z)
  (x:∀r hx,h.Le hx→hs r=none→hx r=some (true,.cells z t (0,0))→TD E l n true hs ds Lw F (dK π) (putS σ dst (.pointer (some ⟨r,0,none⟩))) hx):TD E l n true hs ds Lw F (dK (m ::π)) σ h:=by
 unfold dK;rw [hk];refine ⟨_,true,ho,rfl,fun e=>(by cases e),fun _ t' r hx e l2 hr hb=>?_⟩;cases e;exact x r hx l2 hr (by rw [hb];unfold zOf;rw [hz];rfl)
theorem tF (hk:QU m=(.p,k)) (ho:l[k]? =some ⟨dst,op,ty,pos,af,none⟩) (x:∀hx,Lw n undef hx→Ut E ⟨dst,op,ty,pos,af,none⟩ σ ds hx v) (y:TD E l n fl hs ds Lw F (dK π) (putS σ dst v) h):TD E l n fl hs ds Lw F (dK (m ::π)) σ h:=by
 unfold dK;rw [hk];exact ⟨_,true,ho,rfl,fun e=>(by cases e),fun _=>⟨v,x,y⟩⟩
theorem tL (hk:QU m=(.l,k)) (ho:l[k]? =some ⟨dst,op,ty,pos,af,none⟩)
  (x:∀hx,h.Le hx→Bi E ⟨dst,op,ty,pos,af,none⟩ σ ds hx fun σ' ds' h'=>ds'=ds∧∃v,σ'=putS σ dst v∧hx.Le h'∧Lw k v h') (y:TD E l n fl hs ds Lw F (dK π) σ h):TD E l n fl hs ds Lw F (dK (m ::π)) σ h:=by
 unfold dK;rw [hk];exact ⟨_,true,ho,rfl,fun e=>(by cases e),fun _=>⟨x,y⟩⟩
theorem tB (hk:QU m=(.b,k)) (ho:l[k]? =some ⟨dst,op,ty,pos,af,none⟩) (x:∀v hx,h.Le hx→Lw k v hx→TD E l n fl hs ds Lw F (dK π) (putS σ dst v) hx):TD E l n fl hs ds Lw F (dK (m ::π)) σ h:=by
 unfold dK;rw [hk];exact ⟨_,true,ho,rfl,fun e=>(by cases e),fun _=>x⟩
theorem Rf (h1:l[g]? =some og) (h2:og.dst=some d) (h3:σ d=.bool w):Gd l ⟨dst,op,ty,pos,af,some (g,w)⟩ σ true:=⟨og,d,w,h1,h2,h3,by cases w <;> rfl⟩
theorem tPg (hk:QU m=(.p,k)) (ho:l[k]? =some ⟨dst,op,ty,pos,af,some (g,w)⟩) (h1:l[g]? =some og) (h2:og.dst=some d) (h3:σ d=.bool w) (x:∀hx,Ut E ⟨dst,op,ty,pos,af,some (g,w)⟩ σ ds hx v)
  (y:TD E l n fl hs ds Lw F (dK π) (putS σ dst v) h):TD E l n fl hs ds Lw F (dK (m ::π)) σ h:=by
 unfold dK;rw [hk];exact ⟨_,true,ho,Rf h1 h2 h3,fun e=>(by cases e),fun _=>⟨v,fun hx _=>x hx,y⟩⟩
theorem CS (hk:QU m=(.r,k)) (ho:l[k]? =some ⟨dst,op,ty,pos,af,some (g,w)⟩) (h1:l[g]? =some og) (h2:og.dst=some d) (h3:σ d=.bool w) (x:Ut E ⟨dst,op,ty,pos,af,some (g,w)⟩ σ ds h v)
  (y:TD E l n fl hs ds Lw F (dK π) (putS σ dst v) h):TD E l n fl hs ds Lw F (dK (m ::π)) σ h:=by
 unfold dK;rw [hk];exact ⟨_,true,ho,Rf h1 h2 h3,fun e=>(by cases e),fun _=>⟨v,x,y⟩⟩
theorem Ud (hk:QU m=(.e,k)) (ho:l[k]? =some ⟨dst,op,ty,pos,af,some (g,w)⟩) (h1:l[g]? =some og) (h2:og.dst=some d) (h3:σ d=.bool w)
  (x:Bi E ⟨dst,op,ty,pos,af,some (g,w)⟩ σ ds h fun σ' ds' h'=>ds'=ds∧∃v,σ'=putS σ dst v∧h.Le h'∧TD E l n false hs ds Lw F (dK π) (putS σ dst v) h'):TD E l n false hs ds Lw F (dK (m ::π)) σ h:=by
 unfold dK;rw [hk];exact ⟨_,true,ho,Rf h1 h2 h3,fun e=>(by cases e),fun _ hx hg=>by rw [hg.2 rfl];exact x⟩
theorem tS {kd:Kd} (hk:QU m=(kd,k)) (ho:l[k]? =some ⟨dst,op,ty,pos,af,some (g,w)⟩) (h1:l[g]? =some og) (h2:og.dst=some d) (h3:σ d=.bool is) (hne:(is==w)=false)
  (y:TD E l n fl hs ds Lw F (dK π) (putS σ dst undef) h):TD E l n fl hs ds Lw F (dK (m ::π)) σ h:=by
 unfold dK;rw [hk];exact ⟨_,false,ho,⟨og,d,is,h1,h2,h3,hne.symm⟩,fun _=>y,fun e=>(by cases e)⟩
theorem tN (x:F σ h):TD E l n false hs ds Lw F (dK []) σ h:=fun hx hg=>by rw [hg.2 rfl];exact x
theorem Ue (x:∀hx,h.Le hx→F σ hx):TD E l n true hs ds Lw F (dK []) σ h:=fun hx hg=>x hx hg.1
section
variable {α:Type} {enc:α→Array Value} {xs:List α} {h0:GH} {t:TypeId} {a ix:Operand} {z:Nat} {sv:Value} {kd:IntKind} {i:Int}
theorem tI (hk:QU m=(.p,k)) (ho:l[k]? =some ⟨dst,.indexAddr t a ix,ty,pos,af,none⟩) (ht:EI P t=some z) (hs':AJ h0 sv z enc xs) (hx:AU σ a=sv) (hi:AU σ ix=.int kd i) (h0':0≤i) (h1:i<xs.length)
  (y:∀b off,AZ h0 b off z (enc (xs[i.toNat]'(by omega)))→TD E l n fl hs ds Lw F (dK π) (putS σ dst (.pointer (some ⟨b,off,none⟩))) h):TD E l n fl hs ds Lw F (dK (m ::π)) σ h:=by
 obtain ⟨p,cap,rfl,_,_,he⟩:=hs';obtain ⟨b,off,rfl,hb⟩:=he i.toNat (by omega);exact tP hk ho (fun _=>AH ht hx hi h0' h1 vz) (y b _ hb)
theorem tSl {olo ohi:Option Operand} (lo hi:Nat) (hk:QU m=(.p,k)) (ho:l[k]? =some ⟨dst,.slice t a olo ohi none,ty,pos,af,none⟩) (ht:EI P t=some z) (hs':AJ h0 sv z enc xs) (hx:AU σ a=sv)
  (hlo:LoIs σ olo lo 0) (hhi:LoIs σ ohi hi xs.length) (h1:lo≤hi) (h2:hi≤xs.length)
  (y:∀v',AJ h0 v' z enc ((xs.take hi).drop lo)→TD E l n fl hs ds Lw F (dK π) (putS σ dst v') h):TD E l n fl hs ds Lw F (dK (m ::π)) σ h:=by
 have h3:=hs';obtain ⟨p,cap,rfl,hc,_,_⟩:=hs';exact tP hk ho (fun _=>MN lo hi ht hc hx hlo hhi h1 h2 vz) (y _ (h3.part h1 h2))
theorem tIg (hk:QU m=(.p,k)) (ho:l[k]? =some ⟨dst,.indexAddr t a ix,ty,pos,af,some (g,w)⟩) (h1':l[g]? =some og) (h2':og.dst=some d) (h3':σ d=.bool w) (ht:EI P t=some z) (hs':AJ h0 sv z enc xs) (hx:AU σ a=sv) (hi:AU σ ix=.int kd i) (h0':0≤i) (h1:i<xs.length)
  (y:∀b off,AZ h0 b off z (enc (xs[i.toNat]'(by omega)))→TD E l n fl hs ds Lw F (dK π) (putS σ dst (.pointer (some ⟨b,off,none⟩))) h):TD E l n fl hs ds Lw F (dK (m ::π)) σ h:=by
 obtain ⟨p,cap,rfl,_,_,he⟩:=hs';obtain ⟨b,off,rfl,hb⟩:=he i.toNat (by omega);exact tPg hk ho h1' h2' h3' (fun _=>AH ht hx hi h0' h1 vz) (y b _ hb)
end
theorem eT {h':GH} {π':List (Kd×Nat)} (l2:h.Le h') (y:TD E l n fl hs ds Lw F π' (putS σ dst v) h'):ds=ds∧∃v',putS σ dst v=putS σ dst v'∧h.Le h'∧TD E l n fl hs ds Lw F π' (putS σ dst v') h':=⟨rfl,v,rfl,l2,y⟩
theorem wTL {h':GH} {π':List (Kd×Nat)} (fr:Lw n undef h') (y:TD E l n fl hs ds Lw F π' (putS σ dst v) h'):ds=ds∧∃v',putS σ dst v=putS σ dst v'∧Lw n undef h'∧TD E l n fl hs ds Lw F π' (putS σ dst v') h':=⟨rfl,v,rfl,fr,y⟩
theorem wT {h':GH} {π':List (Kd×Nat)} (y:TD E l n fl hs ds Lw F π' (putS σ dst v) h'):ds=ds∧∃v',putS σ dst v=putS σ dst v'∧TD E l n fl hs ds Lw F π' (putS σ dst v') h':=⟨rfl,v,rfl,y⟩
end
theorem C8 {X:Prop} {p:Prop} [Decidable p] (a:p→X) (b:¬p→X):X:=if h:p then a h else b h
theorem S6 {X:Prop} {b:Bool} (x:b=true→X) (y:b=false→X):X:=by cases b with
 | true=>exact x rfl
 | false=>exact y rfl
end
end Go.Ns
namespace Go.Ns
def eI (i:Int):Array Value:=#[.int .i64 i]
def eB (i:Int):Array Value:=#[.int .u8 i]
structure Good where
 name:ByteArray
 cost:Int
 pack:Int
 low:Int
 high:Int
structure AB where
 kind:Int
 good:Int
 day:Int
 low:Int
 high:Int
structure AF where
 good:Int
 day:Int
 low:Int
 high:Int
def BS (x:Good):Array Value:=#[.string x.name,.int .i64 x.cost,.int .i64 x.pack,.int .i64 x.low,.int .i64 x.high]
def BD (x:AB):Array Value:=#[.int .i64 x.kind,.int .i64 x.good,.int .i64 x.day,.int .i64 x.low,.int .i64 x.high]
def A7 (x:AF):Array Value:=#[.int .i64 x.good,.int .i64 x.day,.int .i64 x.low,.int .i64 x.high]
structure AT where
 first:Nat→Int
 many:Nat→Int
 lies:Nat→Bool
def AT.zero:AT:=⟨fun _=>0,fun _=>0,fun _=>false⟩
def Ag (p:AT):Array Value:=#[.int .i64 (p.first 0),.int .i64 (p.first 1),.int .i64 (p.first 2),.int .i64 (p.many 0),.int .i64 (p.many 1),.int .i64 (p.many 2),.int .i64 (p.many 3),.int .i64 (p.many 4),.int .i64 (p.many 5),
 .bool (p.lies 0),.bool (p.lies 1),.bool (p.lies 2),.bool (p.lies 3),.bool (p.lies 4),.bool (p.lies 5)]
def AT.setFirst (p:AT) (i:Nat) (n:Int):AT:={ p with first:=fun k=>if k=i then n else p.first k }
def AT.setMany (p:AT) (i:Nat) (n:Int):AT:={ p with many:=fun k=>if k=i then n else p.many k }
def AT.setLie (p:AT) (i:Nat) (b:Bool):AT:={ p with lies:=fun k=>if k=i then b else p.lies k }
theorem S7 {p:AT} {i:Nat} (h:i<3):(Ag p)[i*1]? =some (.int .i64 (p.first i)):=by
 match i,h with
 | 0,_=>rfl
 | 1,_=>rfl
 | 2,_=>rfl
theorem OC {p:AT} {i:Nat} (h:i<6):(Ag p)[3+i*1]? =some (.int .i64 (p.many i)):=by
 match i,h with
 | 0,_=>rfl
 | 1,_=>rfl
 | 2,_=>rfl
 | 3,_=>rfl
 | 4,_=>rfl
 | 5,_=>rfl
theorem Kn {p:AT} {i:Nat} (h:i<6):(Ag p)[9+i*1]? =some (.bool (p.lies i)):=by
 match i,h with
 | 0,_=>rfl
 | 1,_=>rfl
 | 2,_=>rfl
 | 3,_=>rfl
 | 4,_=>rfl
 | 5,_=>rfl
theorem S8 {p:AT} {i:Nat} (h:i<6):(if false=true then some (Value.agg ((#[.bool (p.lies 0),.bool (p.lies 1),.bool (p.lies 2),.bool (p.lies 3),.bool (p.lies 4),.bool (p.lies 5)]:Array Value).extract (i*1) (i*1+1))) else (#[.bool (p.lies 0),.bool (p.lies 1),.bool (p.lies 2),.bool (p.lies 3),.bool (p.lies 4),.bool (p.lies 5)]:Array Value)[i*1]?)=some (.bool (p.lies i)):=by
 match i,h with
 | 0,_=>rfl
 | 1,_=>rfl
 | 2,_=>rfl
 | 3,_=>rfl
 | 4,_=>rfl
 | 5,_=>rfl
theorem OD {p:AT} {i:Nat} {n:Int} (h:i<3):B0 (Ag p) (i*1) [.int .i64 n]=Ag (p.setFirst i n):=by
 match i,h with
 | 0,_=>rfl
 | 1,_=>rfl
 | 2,_=>rfl
theorem JO {p:AT} {i:Nat} {n:Int} (h:i<3):B0 (Ag p) (0+i*1) [.int .i64 n]=Ag (p.setFirst i n):=by rw [Nat.zero_add];exact OD h
theorem KO {p:AT} {i:Nat} {n:Int} (h:i<6):B0 (Ag p) (3+i*1) [.int .i64 n]=Ag (p.setMany i n):=by
 match i,h with
 | 0,_=>rfl
 | 1,_=>rfl
 | 2,_=>rfl
 | 3,_=>rfl
 | 4,_=>rfl
 | 5,_=>rfl
theorem Iw {p:AT} {i:Nat} {b:Bool} (h:i<6):B0 (Ag p) (9+i*1) [.bool b]=Ag (p.setLie i b):=by
 match i,h with
 | 0,_=>rfl
 | 1,_=>rfl
 | 2,_=>rfl
 | 3,_=>rfl
 | 4,_=>rfl
 | 5,_=>rfl
theorem LY {p:AT} {i:Nat} (h:i<3):(Ag p)[0+i*1]? =some (.int .i64 (p.first i)):=by rw [Nat.zero_add];exact S7 h
def An (p:AT):Nat→Nat
 | 0=>0
 | k+1=>An p k+if p.lies k then 1 else 0
theorem OE (p:AT):∀k,An p k≤k
 | 0=>Nat.le_refl _
 | k+1=>by have:=OE p k;unfold An;split <;> omega
def CG (p:AT) (i:Nat):Int:=if p.lies i then 0 else p.many i
def Good.z:Good:=⟨⟨#[]⟩,0,0,0,0⟩
def AB.z:AB:=⟨0,0,0,0,0⟩
def AF.z:AF:=⟨0,0,0,0⟩
theorem BW {α:Type} {xs:List α} {i:Nat} (d:α) (hi:i<xs.length):xs.getD i d=xs[i]'hi:=by
 simp [List.getD_eq_getElem?_getD,List.getElem?_eq_getElem hi]
theorem AZ.getD {α:Type} {h:GH} {b off n:Nat} {enc:α→Array Value} {xs:List α} {i:Nat} {hi:i<xs.length} (d:α) (x:AZ h b off n (enc (xs[i]'hi))):AZ h b off n (enc (xs.getD i d)):=by
 rw [BW d hi];exact x
theorem CN {α:Type} {a:List α} {k:Nat} (d:α) (ha:k<a.length):a.take (k+1)=a.take k++[a.getD k d]:=by
 rw [List.take_succ_eq_append_getElem ha,BW d ha]
theorem OF {α:Type} {a b:List α} {k:Nat} (d:α) (h:a.take k=b.take k) (ha:k<a.length) (hb:k<b.length) (e:a.getD k d=b.getD k d):a.take (k+1)=b.take (k+1):=by
 rw [CN d ha,CN d hb,h,e]
theorem Rh {a b:List Int} {k:Nat} (h:a.take k=b.take k) (hk:k≤a.length) (hk':¬(k:Int)<a.length) (hl:(a.length:Int)=b.length):a=b:=by
 have h1:k=a.length:=by omega
 have h2:b.length=a.length:=by omega
 rw [h1,List.take_length,←h2,List.take_length] at h;exact h
theorem ne_len {α:Type} {a b:List α} (h:¬(a.length:Int)=b.length):¬a=b:=fun e=>h (by rw [e])
theorem ne_getD {α:Type} {a b:List α} {k:Nat} {d:α} (e:¬a.getD k d=b.getD k d):¬a=b:=fun h=>e (by rw [h])
theorem has_hit {a:List Int} {k:Nat} {n:Int} (hk:(k:Int)<a.length) (e:a.getD k 0=n):n ∈ a:=by
 have hk':k<a.length:=by omega
 rw [BW 0 hk'] at e;exact e▸List.getElem_mem hk'
theorem AAC {a:List Int} {k:Nat} {n:Int} (hk:(k:Int)<a.length) (h:¬n ∈ a.take k) (e:¬a.getD k 0=n):¬n ∈ a.take (k+1):=by
 rw [CN 0 (by omega)];simp only [List.mem_append,List.mem_singleton,not_or];exact ⟨h,fun q=>e q.symm⟩
theorem has_end {a:List Int} {k:Nat} {n:Int} (hk:¬(k:Int)<a.length) (h:¬n ∈ a.take k):¬n ∈ a:=by
 rwa [List.take_of_length_le (by omega)] at h
def FD (c:Int):Prop:=97≤c∧c≤122
def FK (c:Int):Prop:=48≤c∧c≤57
instance (c:Int):Decidable (FD c):=inferInstanceAs (Decidable (_∧_))
instance (c:Int):Decidable (FK c):=inferInstanceAs (Decidable (_∧_))
def ET (d m:Int):Int:=if¬(1≤d∧d≤99)∨¬(0≤m∧m≤2) then 1 else 0
def idxOf {α:Type} (p:α→Bool):List α→Int
 | []=> -1
 | x ::l=>if p x then 0 else if idxOf p l<0 then-1 else idxOf p l+1
theorem OG {α:Type} (p:α→Bool):∀l:List α,-1≤idxOf p l
 | []=>by simp [idxOf]
 | x ::l=>by have:=OG p l;unfold idxOf;split <;> (try split) <;> omega
theorem IK {α:Type} (p:α→Bool):∀l:List α,(0≤idxOf p l)↔l.any p=true
 | []=>by simp [idxOf]
 | x ::l=>by
  have:=IK p l
  have h2:=OG p l;unfold idxOf;cases hp:p x with
  | true=>simp [hp]
  | false=>
   simp only [Bool.false_eq_true,if_false,List.any_cons,hp,Bool.false_or];rw [←this];split <;> omega
theorem MP {α:Type} {p:α→Bool} {l:List α} {k:Nat} {d:α} (hk:(k:Int)<l.length) (h:(l.take k).any p=false) (e:p (l.getD k d)=true):idxOf p l=k:=by
 induction l generalizing k with
 | nil=>simp at hk;omega
 | cons x l ih=>
  unfold idxOf;cases k with
  | zero=>simp at e;simp [e]
  | succ k=>
   simp only [List.take_succ_cons,List.any_cons,Bool.or_eq_false_iff] at h;rw [h.1]
   have:=ih (k:=k) (by simp at hk;omega) h.2 (by simpa using e)
   rw [this];simp only [Bool.false_eq_true,if_false];rw [if_neg (by omega)];omega
theorem Ko {α:Type} {p:α→Bool} {l:List α} {k:Nat} (hk:¬(k:Int)<l.length) (h:(l.take k).any p=false):idxOf p l= -1:=by
 rw [List.take_of_length_le (by omega)] at h
 have:=IK p l
 have h2:=OG p l;rw [h] at this;simp at this;omega
theorem LZ {α:Type} {p:α→Bool} {l:List α} {k:Nat} {d:α} (hk:(k:Int)<l.length) (h:(l.take k).any p=false) (e:p (l.getD k d)=false):(l.take (k+1)).any p=false:=by
 rw [CN d (by omega),List.any_append,h];simp only [Bool.false_or,List.any_cons,List.any_nil,Bool.or_false,e]
theorem CB {α:Type} {l:List α} {k:Nat} {d:α} (hk:k<l.length):l.getD k d ∈ l:=by
 rw [BW d hk];exact List.getElem_mem hk
def BA (l:List Int) (m:Int):Int:=if¬(l.length:Int)=m then 2 else if l.any (fun x=>decide (¬(0≤x∧x≤99))) then 1 else 0
def Dh (f:Nat→Int):Nat→Nat→Int
 | _,0=>0
 | i,n+1=>if f i=0 then Dh f (i+1) n else f i
theorem OH {f:Nat→Int} {c:Int}:∀{n i k:Nat},(∀j,i≤j→j<i+k→f j=0)→k<n→f (i+k)=c→c≠0→Dh f i n=c
 | 0,i,k,_,hk,_,_=>by omega
 | n+1,i,0,_,_,e,hc=>by unfold Dh;rw [Nat.add_zero] at e;rw [e,if_neg hc]
 | n+1,i,k+1,h,hk,e,hc=>by
  unfold Dh;rw [if_pos (h i (Nat.le_refl _) (by omega))];exact OH (k:=k) (fun j h1 h2=>h j (by omega) (by omega)) (by omega) (by rw [←e];congr 1;omega) hc
theorem En {f:Nat→Int}:∀{n i:Nat},(∀j,i≤j→j<i+n→f j=0)→Dh f i n=0
 | 0,_,_=>rfl
 | n+1,i,h=>by
  unfold Dh;rw [if_pos (h i (Nat.le_refl _) (by omega))];exact En fun j h1 h2=>h j (by omega) (by omega)
theorem Dp {f:Nat→Int} {k:Nat} (h:∀j,j<k→f j=0) (e:f k=0):∀j,j<k+1→f j=0:=fun j hj=>by
 rcases Nat.lt_or_ge j k with q | q
 ·exact h j q
 ·rw [show j=k by omega];exact e
theorem BX {f:Nat→Int} {c:Int} {n k:Nat} (h:∀j,j<k→f j=0) (hk:k<n) (e:f k=c) (hc:c≠0):Dh f 0 n=c:=
 OH (i:=0) (k:=k) (fun j _ hj=>h j (by omega)) hk (by rw [Nat.zero_add];exact e) hc
theorem Ce {f:Nat→Int} {n k:Nat} (h:∀j,j<k→f j=0) (hk:n≤k):Dh f 0 n=0:=En fun j _ hj=>h j (by omega)
def H3 (s:ByteArray) (k:Nat):Int:=if¬FD ((bytesOf s).getD k 0)∧(k=0∨¬FK ((bytesOf s).getD k 0)) then 1 else 0
def Dz (s:ByteArray):Bool:=decide (Dh (H3 s) 0 s.size=0) && decide (1≤(s.size:Int)∧(s.size:Int)≤10)
def E7 (l h:Int):Prop:=((0≤l∧l≤h)∧h≤99)∧h-l<3
instance (l h:Int):Decidable (E7 l h):=inferInstanceAs (Decidable (_∧_))
def FS (gs:List Good) (k:Nat):Int:=
 if Dz (gs.getD k Good.z).name=false then 4
 else if (gs.take k).any (fun x=>x.name.toList==(gs.getD k Good.z).name.toList) then 5
 else if (¬(0≤(gs.getD k Good.z).cost∧(gs.getD k Good.z).cost≤999)∨¬(1≤(gs.getD k Good.z).pack∧(gs.getD k Good.z).pack≤20))∨¬E7 (gs.getD k Good.z).low (gs.getD k Good.z).high then 1 else 0
def BY (gs:List Good):Int:=if¬(1≤(gs.length:Int)∧(gs.length:Int)≤3) then 2 else Dh (FS gs) 0 gs.length
def Du (ms:List AB) (k:Nat):Int:=if k=0 then 0 else (ms.getD (k-1) AB.z).day
def DY (d:Int) (gs:List Good) (ms:List AB) (k:Nat):Int:=
 if¬(0≤(ms.getD k AB.z).kind∧(ms.getD k AB.z).kind≤4) then 1
 else if¬(0≤(ms.getD k AB.z).good∧(ms.getD k AB.z).good≤(gs.length:Int)-1) then 6
 else if¬(1≤(ms.getD k AB.z).day∧(ms.getD k AB.z).day≤d) then 1
 else if (ms.getD k AB.z).day<Du ms k then 7
 else if¬E7 (ms.getD k AB.z).low (ms.getD k AB.z).high then 1 else 0
def BM (d:Int) (gs:List Good) (ms:List AB):Int:=if (6:Int)<ms.length then 2 else Dh (DY d gs ms) 0 ms.length
def FL (d:Int) (gs:List Good) (cs:List AF) (k:Nat):Int:=
 if¬(0≤(cs.getD k AF.z).good∧(cs.getD k AF.z).good≤(gs.length:Int)-1) then 6
 else if¬(0≤(cs.getD k AF.z).day∧(cs.getD k AF.z).day≤d)∨¬((0≤(cs.getD k AF.z).low∧(cs.getD k AF.z).low≤(cs.getD k AF.z).high)∧(cs.getD k AF.z).high≤999) then 1 else 0
def CH (d:Int) (gs:List Good) (cs:List AF):Int:=if (4:Int)<cs.length then 2 else Dh (FL d gs cs) 0 cs.length
theorem KP (s:ByteArray) (k:Nat):0≤(bytesOf s).getD k 0∧(bytesOf s).getD k 0≤255:=by
 by_cases h:k<(bytesOf s).length
 ·rw [BW 0 h];have h2:k<s.data.toList.length:=by rw [Cq] at h;rw [Array.length_toList];exact h
  have e:(bytesOf s)[k]'h=((s.data.toList[k]'h2).toNat:Int):=List.getElem_map _;rw [e]
  have:=(s.data.toList[k]'h2).toNat_lt
  omega
 ·simp only [List.getD_eq_getElem?_getD];rw [List.getElem?_eq_none (by omega)];decide
theorem OI {s:ByteArray} {k:Nat} (h:∀j,j<k→H3 s j=0) (hk:k<s.size) (e:H3 s k=1):Dz s=false:=by
 unfold Dz;rw [BX h hk e (by decide)];simp
theorem OJ {s:ByteArray} {k:Nat} (h:∀j,j<k→H3 s j=0) (hk:s.size≤k):Dz s=decide (1≤(s.size:Int)∧(s.size:Int)≤10):=by
 unfold Dz;rw [Ce h hk];simp
theorem rd_at0 {P:Program} {h:GH} {t:TypeId} {b n m o:Nat} {vs:Array Value} {v:Value} (ht:CT P t=some (false,m)) (x:AZ h b 0 n vs) (hv:vs[o]? =some v):Rd P h t b o v:=by
 have:=B3 (o:=o) ht x hv
 rwa [Nat.zero_add] at this
def D7 (d m:Int) (gs:List Good) (ms:List AB) (cs:List AF):Nat→Int
 | 0=>ET d m
 | 1=>BY gs
 | 2=>BM d gs ms
 | _=>CH d gs cs
def Ak (d m:Int) (gs:List Good) (ms:List AB) (cs:List AF):Int:=Dh (D7 d m gs ms cs) 0 4
def signed (k:Nat) (n:Int):Int:=if k=0∨k=4 then n else-n
theorem La {k:Nat} {n:Int} (h:0≤n∧n≤99): -99≤signed k n∧signed k n≤99:=by unfold signed;split <;> omega
def Bn (p:AT):Prop:=(∀i,0≤p.first i∧p.first i≤99)∧∀i,0≤p.many i∧p.many i≤99
theorem Gy {p:AT} (h:Bn p) (i:Nat):0≤CG p i∧CG p i≤99:=by
 unfold CG;have:=h.2 i;split <;> omega
def GS (ms:List AB) (p:AT) (g:Int) (k:Nat) (n:Int):Int:=if (ms.getD k AB.z).good=g then n+signed (ms.getD k AB.z).kind.toNat (CG p k) else n
def Fl (ms:List AB) (k:Nat) (low n:Int):Int:=if (k:Int)+1=ms.length∨(ms.getD k AB.z).day<(ms.getD (k+1) AB.z).day then min low n else low
def Cs (ms:List AB) (p:AT) (g dy:Int):Nat→Nat→Int→Int→Int×Int
 | 0,_,n,low=>(n,low)
 | f+1,k,n,low=>if dy<(ms.getD k AB.z).day then (n,low) else Cs ms p g dy f (k+1) (GS ms p g k n) (Fl ms k low (GS ms p g k n))
def AN (ms:List AB) (p:AT) (g dy:Int):Int×Int:=Cs ms p g dy ms.length 0 (p.first g.toNat) (p.first g.toNat)
theorem EY {ms:List AB} {p:AT} {g dy:Int} {k:Nat} {n low:Int} (hk:k<ms.length) (hd:¬dy<(ms.getD k AB.z).day) :
  Cs ms p g dy (ms.length-k) k n low=Cs ms p g dy (ms.length-(k+1)) (k+1) (GS ms p g k n) (Fl ms k low (GS ms p g k n)):=by
 rw [show ms.length-k=(ms.length-(k+1))+1 by omega]
 conv=>lhs;unfold Cs
 rw [if_neg hd]
theorem Po {ms:List AB} {p:AT} {g dy:Int} {k:Nat} {n low:Int} (hk:k<ms.length) (hd:dy<(ms.getD k AB.z).day):Cs ms p g dy (ms.length-k) k n low=(n,low):=by
 rw [show ms.length-k=(ms.length-(k+1))+1 by omega]
 conv=>lhs;unfold Cs
 rw [if_pos hd]
theorem Ri {ms:List AB} {p:AT} {g dy:Int} {k:Nat} {n low:Int} (hk:¬(k:Int)<ms.length):Cs ms p g dy (ms.length-k) k n low=(n,low):=by
 rw [show ms.length-k=0 by omega];rfl
def A5 (d:Int) (ng:Nat) (ms:List AB) (cs:List AF) (p:AT):Bool:=
 decide (∀j,j<ng→¬(AN ms p (j:Int) d).2<0) && !(cs.any fun x=>decide (¬(x.low≤(AN ms p x.good x.day).1∧(AN ms p x.good x.day).1≤x.high)))
theorem Uv {d:Int} {ng:Nat} {ms:List AB} {cs:List AF} {p:AT} {k:Nat} (hk:k<ng) (h:(AN ms p (k:Int) d).2<0):A5 d ng ms cs p=false:=by
 unfold A5;rw [decide_eq_false (fun q=>q k hk h)];rfl
theorem S9 {d:Int} {ng:Nat} {ms:List AB} {cs:List AF} {p:AT} {k:Nat} (hk:ng≤k) (h:∀j,j<k→¬(AN ms p (j:Int) d).2<0) :
  A5 d ng ms cs p= !(cs.any fun x=>decide (¬(x.low≤(AN ms p x.good x.day).1∧(AN ms p x.good x.day).1≤x.high))):=by
 unfold A5;rw [decide_eq_true (fun j hj=>h j (by omega))];rfl
theorem J3 {q:Nat→Prop} {k:Nat} (h:∀j,j<k→q j) (e:q k):∀j,j<k+1→q j:=fun j hj=>by
 rcases Nat.lt_or_ge j k with r | r
 ·exact h j r
 ·rw [show j=k by omega];exact e
def AT.setFirsts (p:AT) (l:List Int):AT:={ p with first:=fun k=>if k<l.length then l.getD k 0 else p.first k }
def AT.setManys (p:AT) (l:List Int):AT:={ p with many:=fun k=>if k<l.length then l.getD k 0 else p.many k }
theorem NR {p:AT} {l:List Int} (h:l.length≤3):B0 (Ag p) 0 (DJ eI l)=Ag (p.setFirsts l):=by
 match l,h with
 | [],_=>rfl
 | [_],_=>rfl
 | [_,_],_=>rfl
 | [_,_,_],_=>rfl
 | _ ::_ ::_ ::_ ::_,h=>simp at h
theorem OK {p:AT} {l:List Int} (h:l.length≤6):B0 (Ag p) 3 (DJ eI l)=Ag (p.setManys l):=by
 match l,h with
 | [],_=>rfl
 | [_],_=>rfl
 | [_,_],_=>rfl
 | [_,_,_],_=>rfl
 | [_,_,_,_],_=>rfl
 | [_,_,_,_,_],_=>rfl
 | [_,_,_,_,_,_],_=>rfl
 | _ ::_ ::_ ::_ ::_ ::_ ::_ ::_,h=>simp at h
end Go.Ns
namespace Go.Ns
open Go.Conc
def Bp (lo:Int) (k:Nat):List Int:=(List.range k).map fun (j:Nat)=>lo+(j:Int)
def E8 (lo hi:Int):List Int:=Bp lo (hi-lo+1).toNat
theorem M2 (lo:Int) (k:Nat):Bp lo (k+1)=Bp lo k++[lo+(k:Int)]:=by
 simp [Bp,List.range_succ]
theorem Uw {lo n:Int} {k:Nat}:n ∈ Bp lo k↔lo≤n∧n<lo+k:=by
 simp only [Bp,List.mem_map,List.mem_range];constructor
 ·rintro ⟨j,hj,rfl⟩;omega
 ·rintro ⟨h1,h2⟩;exact ⟨(n-lo).toNat,by omega,by omega⟩
theorem Fc {lo hi n:Int}:n ∈ E8 lo hi↔lo≤n∧n≤hi:=by
 unfold E8;rw [Uw];omega
theorem OL {β:Type} {f:Int→List β} {lo hi:Int} {k:Nat} (h:¬lo+(k:Int)≤hi) (hk:(k:Int)≤hi-lo+1∨k=0):(Bp lo k).flatMap f=(E8 lo hi).flatMap f:=by
 unfold E8;congr 2;omega
theorem Hq {β:Type} {f:Int→List β} {lo:Int} {k:Nat}:(Bp lo (k+1)).flatMap f=(Bp lo k).flatMap f++f (lo+k):=by
 rw [M2,List.flatMap_append];simp
def AT.setMove (p:AT) (i:Nat) (n:Int) (b:Bool):AT:=(p.setMany i n).setLie i b
theorem NS (p:AT) (i:Nat) (n n':Int) (b b':Bool):(p.setMove i n b).setMove i n' b'=p.setMove i n' b':=by
 unfold AT.setMove AT.setMany AT.setLie;congr 1 <;> funext k <;> simp only [] <;> split <;> rfl
theorem HM (p:AT) (i:Nat) (n:Int) (b b':Bool):(p.setMove i n b).setLie i b'=p.setMove i n b':=by
 unfold AT.setMove AT.setMany AT.setLie;congr 1;funext k;simp only [];split <;> rfl
theorem Lb (p:AT) (i:Nat) (n n':Int):(p.setFirst i n).setFirst i n'=p.setFirst i n':=by
 unfold AT.setFirst;congr 1;funext k;simp only [];split <;> rfl
theorem Bn.zero:Bn AT.zero:=⟨fun _=>⟨Int.le_refl 0,(by decide:(0:Int)≤99)⟩,fun _=>⟨Int.le_refl 0,(by decide:(0:Int)≤99)⟩⟩
theorem Bn.setFirst {p:AT} (h:Bn p) {i:Nat} {n:Int} (hn:0≤n∧n≤99):Bn (p.setFirst i n):=
 ⟨fun k=>by unfold AT.setFirst;simp only [];split;exact hn;exact h.1 k,h.2⟩
theorem Bn.setMany {p:AT} (h:Bn p) {i:Nat} {n:Int} (hn:0≤n∧n≤99):Bn (p.setMany i n):=
 ⟨h.1,fun k=>by unfold AT.setMany;simp only [];split;exact hn;exact h.2 k⟩
theorem Bn.setMove {p:AT} (h:Bn p) {i:Nat} {n:Int} {b:Bool} (hn:0≤n∧n≤99):Bn (p.setMove i n b):=h.setMany hn
def DQ (ms:List AB) (i:Int):Bool:=decide ((0≤i∧i≤(ms.length:Int)-1)∧(ms.getD i.toNat AB.z).kind=0)
def Aw (ag:AT→Bool) (ms:List AB) (most:Int):Nat→Nat→AT→List AT
 | 0,_,p=>if ag p then [p] else []
 | f+1,i,p=>(E8 (ms.getD i AB.z).low (ms.getD i AB.z).high).flatMap fun n=>
   Aw ag ms most f (i+1) (p.setMove i n false)++
    if DQ ms i && decide ((An (p.setMove i n false) 6:Int)<most) then Aw ag ms most f (i+1) (p.setMove i n true) else []
def BG (ag:AT→Bool) (gs:List Good) (ms:List AB) (most:Int):Nat→Nat→AT→List AT
 | 0,_,p=>Aw ag ms most ms.length 0 p
 | f+1,i,p=>(E8 (gs.getD i Good.z).low (gs.getD i Good.z).high).flatMap fun n=>BG ag gs ms most f (i+1) (p.setFirst i n)
def AV (d:Int) (gs:List Good) (ms:List AB) (cs:List AF) (most:Int):List AT:=BG (A5 d gs.length ms cs) gs ms most gs.length 0 AT.zero
def BZ (ag:AT→Bool) (ms:List AB) (most:Int) (f i:Nat) (p:AT) (n:Int):List AT:=
 Aw ag ms most f (i+1) (p.setMove i n false)++
  if DQ ms i && decide ((An (p.setMove i n false) 6:Int)<most) then Aw ag ms most f (i+1) (p.setMove i n true) else []
theorem Cc (ag:AT→Bool) (ms:List AB) (most:Int) (f i:Nat) (p:AT) :
  Aw ag ms most (f+1) i p=(E8 (ms.getD i AB.z).low (ms.getD i AB.z).high).flatMap (BZ ag ms most f i p):=rfl
theorem Ct (ag:AT→Bool) (gs:List Good) (ms:List AB) (most:Int) (f i:Nat) (p:AT) :
  BG ag gs ms most (f+1) i p=(E8 (gs.getD i Good.z).low (gs.getD i Good.z).high).flatMap (fun n=>BG ag gs ms most f (i+1) (p.setFirst i n)):=rfl
def Bl (X:Nat→Prop) (h h':GH):Prop:=∀b p o,h b=some (p,o)→¬X b→∃o',h' b=some (p,o')∧(o'=o∨(Ke o=true∧Ke o'=true))
theorem Bl.refl (X:Nat→Prop) (h:GH):Bl X h h:=fun _ _ o x _=>⟨o,x,.inl rfl⟩
theorem GH.Le.keepX {h h':GH} (l:h.Le h') (X:Nat→Prop):Bl X h h':=fun b p o x _=>l b p o x
theorem Bl.trans {X X1:Nat→Prop} {a b c:GH} (x:Bl X a b) (hX:∀r,X1 r→X r∨a r=none) (y:Bl X1 b c):Bl X a c:=fun r p o hr hn=>by
 obtain ⟨o1,h1,h2⟩:=x r p o hr hn;obtain ⟨o2,h3,h4⟩:=y r p o1 h1 fun q=>(hX r q).elim hn fun e=>by rw [e] at hr;cases hr
 refine ⟨o2,h3,?_⟩;rcases h2 with rfl | h2
 ·exact h4
 ·rcases h4 with rfl | h4
  ·exact .inr h2
  ·exact .inr ⟨h2.1,h4.2⟩
theorem Bl.box {X:Nat→Prop} {h h':GH} (x:Bl X h h') {b:Nat} {p:Bool} {o:Obj} (hb:h b=some (p,o)) (hX:¬X b) (ho:Ke o=false):h' b=some (p,o):=by
 obtain ⟨o',h1,rfl | ⟨h2,_⟩⟩:=x b p o hb hX
 ·exact h1
 ·rw [ho] at h2;cases h2
theorem Bl.store {X:Nat→Prop} {h h1 h2:GH} (x:Bl X h h1) {r:Nat} (hr:h r=none) (ho:∀b,b≠r→h2 b=h1 b):Bl X h h2:=fun b p o hb hn=>by
 rw [ho b fun e=>by subst e;rw [hr] at hb;cases hb];exact x b p o hb hn
structure Ix {α:Type} (hB:GH) (I:List α→(Nat→Prop)→GH→Prop):Prop where
 dom:∀pre X h b,I pre X h→X b→∃p o,h b=some (p,o)∧Ke o=false
 stable:∀pre X h h',I pre X h→(∀b,X b→h' b=h b)→hB.Le h'→I pre X h'
theorem Ix.le {α:Type} {hB:GH} {I:List α→(Nat→Prop)→GH→Prop} (P:Ix hB I) {pre:List α} {X:Nat→Prop} {h h':GH} (x:I pre X h) (l:h.Le h') (lB:hB.Le h'):I pre X h':=
 P.stable pre X h h' x (fun b hb=>by
  obtain ⟨p,o,h1,h2⟩:=P.dom pre X h b x hb;rw [l.keep h1 h2,h1]) lB
theorem Ix.store {α:Type} {hB:GH} {I:List α→(Nat→Prop)→GH→Prop} (P:Ix hB I) {pre:List α} {X:Nat→Prop} {h h':GH} (x:I pre X h) {r:Nat} (hr:¬X r) (ho:∀b,b≠r→h' b=h b) (lB:hB.Le h'):I pre X h':=
 P.stable pre X h h' x (fun b hb=>ho b fun e=>hr (e▸hb)) lB
theorem Ix.off {α:Type} {hB:GH} {I:List α→(Nat→Prop)→GH→Prop} (P:Ix hB I) {pre:List α} {X:Nat→Prop} {h:GH} (x:I pre X h) {r:Nat} (hr:h r=none):¬X r:=fun q=>by
 obtain ⟨p,o,h1,_⟩:=P.dom pre X h r x q;rw [hr] at h1;cases h1
theorem Pp {X X1:Nat→Prop} {h:GH} (hX:∀r,X1 r→X r∨h r=none) {r:Nat} {o:Bool×Obj} (hr:h r=some o) (n:¬X r):¬X1 r:=fun q=>(hX r q).elim n fun e=>by rw [e] at hr;cases hr
def Hm {α:Type} (hB:GH) (I:List α→(Nat→Prop)→GH→Prop) (S:GH→Prop) (pre:List α) (X:Nat→Prop) (h:GH) (l:List α) (v:Value) (h':GH):Prop:=
 ∃ok X',v=.bool ok∧(∀b,X' b→X b∨h b=none)∧Bl X h h'∧hB.Le h'∧(ok=true→I (pre++l) X' h')∧(ok=false→S h')
structure Kp {α:Type} {P:Program} (W:Wk P) (hB:GH) (yv:Value) (enc:α→Array Value) (I:List α→(Nat→Prop)→GH→Prop) (S:GH→Prop) (all:List α):Prop where
 prom:Ix hB I
 one:yv.cells=#[yv]
 call:∀pre p post X h,all=pre++p ::post→I pre X h→hB.Le h→Cl W yv #[.agg (enc p)] h (Hm hB I S pre X h [p])
structure Hk {α:Type} (hB:GH) (I:List α→(Nat→Prop)→GH→Prop) (X0:Nat→Prop) (h:GH) (pre:List α) (X:Nat→Prop) (hc:GH):Prop where
 inv:I pre X hc
 sub:∀b,X b→X0 b∨h b=none
 keep:Bl X0 h hc
 base:hB.Le hc
section
variable {α:Type} {hB:GH} {I:List α→(Nat→Prop)→GH→Prop} {S:GH→Prop} {X0 X X1:Nat→Prop} {h hc h':GH} {pre l:List α}
theorem Hk.start (x:I pre X h) (lB:hB.Le h):Hk hB I X h pre X h:=⟨x,fun _ q=>.inl q,Bl.refl _ _,lB⟩
theorem Hk.le (P:Ix hB I) (y:Hk hB I X0 h pre X hc) (l:hc.Le h'):Hk hB I X0 h pre X h':=
 ⟨P.le y.inv l (y.base.trans l),y.sub,y.keep.trans (fun _ q=>.inl q) (l.keepX X0),y.base.trans l⟩
theorem Hk.store (P:Ix hB I) (y:Hk hB I X0 h pre X hc) {r:Nat} (hr:h r=none) (rB:hB r=none) (hn:¬X r) (ho:∀b,b≠r→h' b=hc b):Hk hB I X0 h pre X h':=
 ⟨P.store y.inv hn ho (y.base.upd rB ho),y.sub,y.keep.store hr ho,y.base.upd rB ho⟩
theorem subX (s:∀b,X b→X0 b∨h b=none) (k:Bl X0 h hc) (s':∀b,X1 b→X b∨hc b=none):∀b,X1 b→X0 b∨h b=none:=fun b q=>by
 rcases s' b q with q | q
 ·exact s b q
 ·by_cases q0:X0 b
  ·exact .inl q0
  ·refine .inr ?_;cases hb:h b with
   | none=>rfl
   | some x=>
    obtain ⟨o',h1,_⟩:=k b x.1 x.2 hb q0;rw [h1] at q;cases q
theorem Hk.call (y:Hk hB I X0 h pre X hc) {v:Value} (r:Hm hB I S pre X hc l v h') :
  ∃ok X',v=.bool ok∧(∀b,X' b→X b∨hc b=none)∧Bl X hc h'∧(ok=true→Hk hB I X0 h (pre++l) X' h')∧(ok=false→∀l',Hm hB I S pre X0 h l' (.bool false) h'):=by
 obtain ⟨ok,X',hv,hs,hk,hl,h1,h2⟩:=r;have kk:Bl X0 h h':=y.keep.trans y.sub hk;have ss:=subX y.sub y.keep hs;exact ⟨ok,X',hv,hs,hk,fun e=>⟨h1 e,ss,kk,hl⟩,fun e l'=>⟨false,X',rfl,ss,kk,hl,(fun x=>by cases x),fun _=>h2 e⟩⟩
theorem Hk.done (y:Hk hB I X0 h (pre++l) X hc):Hm hB I S pre X0 h l (.bool true) hc:=⟨true,X,rfl,y.sub,y.keep,y.base,fun _=>y.inv,fun x=>by cases x⟩
theorem Hk.pass {α:Type} {hB:GH} {I:List α→(Nat→Prop)→GH→Prop} {S:GH→Prop} {X0 X:Nat→Prop} {h hc h':GH} {pre:List α} {l:List α} {v:Value} (y:Hk hB I X0 h pre X hc) (r:Hm hB I S pre X hc l v h'):Hm hB I S pre X0 h l v h':=by
 obtain ⟨ok,X',hv,hs,hk,hl,h1,h2⟩:=r;exact ⟨ok,X',hv,subX y.sub y.keep hs,y.keep.trans y.sub hk,hl,h1,h2⟩
theorem Hm.stopped {pre':List α} {v:Value} (hv:v=.bool false) (r:∀l',Hm hB I S pre X0 h l' (.bool false) h'):Hm hB I S pre' X0 h l v h':=by
 obtain ⟨ok,X',e,hs,hk,hl,_,h2⟩:=r [];cases e;exact ⟨false,X',hv,hs,hk,hl,(fun x=>by cases x),h2⟩
end
def Cu {α:Type} (all pre l:List α):Prop:=∃post,all=pre++l++post
section
variable {α:Type} {all pre a b:List α}
theorem Cu.left (w:Cu all pre (a++b)):Cu all pre a:=by
 obtain ⟨post,h⟩:=w;exact ⟨b++post,by rw [h];simp⟩
theorem Cu.right (w:Cu all pre (a++b)):Cu all (pre++a) b:=by
 obtain ⟨post,h⟩:=w;exact ⟨post,by rw [h];simp⟩
theorem Cu.one {p:α} (w:Cu all pre [p]):∃post,all=pre++p ::post:=by
 obtain ⟨post,h⟩:=w;exact ⟨post,by rw [h];simp⟩
theorem Ux (lo:Int) (i j:Nat):Bp lo (i+j)=Bp lo i++Bp (lo+i) j:=by
 unfold Bp;rw [List.range_add,List.map_append,List.map_map];congr 1;apply List.map_congr_left;intro x _;simp only [Function.comp];omega
theorem Cu.round {lo hi:Int} {k:Nat} {F:Int→List α} (w:Cu all pre ((E8 lo hi).flatMap F)) (hk:lo+(k:Int)≤hi):Cu all (pre++(Bp lo k).flatMap F) (F (lo+k)):=by
 have e:E8 lo hi=Bp lo k++([lo+(k:Int)]++Bp (lo+((k+1:Nat):Int)) ((hi-lo+1).toNat-(k+1))):=by
  unfold E8;rw [←List.append_assoc,←M2,←Ux];congr 1;omega
 rw [e,List.flatMap_append,List.flatMap_append] at w;have w2:=w.right.left;simpa using w2
theorem Cu.roundEnd {lo hi:Int} {k:Nat} {F:Int→List α} (h:¬lo+(k:Int)≤hi) (hk:(k:Int)≤hi-lo+1∨k=0):(E8 lo hi).flatMap F=(Bp lo k).flatMap F:=(OL h hk).symm
end
section
variable {ag:AT→Bool} {gs:List Good} {ms:List AB} {mo:Int} {f i k:Nat} {p pc:AT} {all pre:List AT} {lo hi x:Int}
theorem TA {b1 b2:Bool} (hpc:∀n b,pc.setMove i n b=p.setMove i n b):∀n b,(((pc.setMany i x).setLie i b1).setLie i b2).setMove i n b=p.setMove i n b:=fun n b=>by
 rw [←hpc,show ((pc.setMany i x).setLie i b1)=pc.setMove i x b1 from rfl,HM,NS]
theorem AAD (hpc:∀n,pc.setFirst i n=p.setFirst i n):∀n,(pc.setFirst i x).setFirst i n=p.setFirst i n:=fun n=>by rw [←hpc,Lb]
def TB (ms:List AB) (mo:Int) (i:Nat) (q:AT):Prop:=((0≤(i:Int)∧(i:Int)≤(ms.length:Int)-1)∧(ms.getD ((i:Int)).toNat AB.z).kind=0)∧((An q 6:Int)<mo)
instance (ms:List AB) (mo:Int) (i:Nat) (q:AT):Decidable (TB ms mo i q):=inferInstanceAs (Decidable (_∧_))
theorem Rj {q:AT}:(DQ ms i && decide ((An q 6:Int)<mo))=decide (TB ms mo i q):=by
 unfold DQ TB;rw [←Bool.decide_and];exact decide_eq_decide.2 Iff.rfl
theorem OM {q:AT} {b:Bool}:(q.setLie i b).lies i=b:=by simp [AT.setLie]
theorem TC (hpc:∀n b,pc.setMove i n b=p.setMove i n b) (hC:(((pc.setMany i x).setLie i false).setLie i (decide (TB ms mo i ((pc.setMany i x).setLie i false)))).lies i=true) (hx:x=lo+(k:Int)) :
  pre++(Bp lo (k+1)).flatMap (BZ ag ms mo f i p)=((pre++(Bp lo k).flatMap (BZ ag ms mo f i p))++Aw ag ms mo f (i+1) ((pc.setMany i x).setLie i false))++
   Aw ag ms mo f (i+1) (((pc.setMany i x).setLie i false).setLie i (decide (TB ms mo i ((pc.setMany i x).setLie i false)))):=by
 rw [OM] at hC;rw [hC,show ((pc.setMany i x).setLie i false)=pc.setMove i x false from rfl,HM,hpc,hpc,Hq,←hx];rw [show ((pc.setMany i x).setLie i false)=pc.setMove i x false from rfl,hpc] at hC;unfold BZ;rw [Rj,hC];simp
theorem TE (hpc:∀n b,pc.setMove i n b=p.setMove i n b) (hC:(((pc.setMany i x).setLie i false).setLie i (decide (TB ms mo i ((pc.setMany i x).setLie i false)))).lies i=false) (hx:x=lo+(k:Int)) :
  pre++(Bp lo (k+1)).flatMap (BZ ag ms mo f i p)=(pre++(Bp lo k).flatMap (BZ ag ms mo f i p))++Aw ag ms mo f (i+1) ((pc.setMany i x).setLie i false):=by
 rw [OM] at hC;rw [show ((pc.setMany i x).setLie i false)=pc.setMove i x false from rfl,hpc,Hq,←hx];rw [show ((pc.setMany i x).setLie i false)=pc.setMove i x false from rfl,hpc] at hC;unfold BZ;rw [Rj,hC];simp
theorem Uy (hpc:∀n,pc.setFirst i n=p.setFirst i n) (hx:x=lo+(k:Int)) :
  pre++(Bp lo (k+1)).flatMap (fun n=>BG ag gs ms mo f (i+1) (p.setFirst i n))=(pre++(Bp lo k).flatMap (fun n=>BG ag gs ms mo f (i+1) (p.setFirst i n)))++BG ag gs ms mo f (i+1) (pc.setFirst i x):=by
 rw [hpc,Hq,←hx];simp
theorem Pq (hpc:∀n b,pc.setMove i n b=p.setMove i n b) (hw:Cu all pre (Aw ag ms mo (f+1) i p)) (hx:x=(ms.getD i AB.z).low+(k:Int)) (hk:x≤(ms.getD i AB.z).high) :
  Cu all (pre++(Bp (ms.getD i AB.z).low k).flatMap (BZ ag ms mo f i p)) (Aw ag ms mo f (i+1) ((pc.setMany i x).setLie i false)):=by
 rw [Cc] at hw;have w:=hw.round (k:=k) (by omega);rw [←hx] at w;unfold BZ at w;rw [←hpc] at w;exact w.left
theorem Pr (hpc:∀n b,pc.setMove i n b=p.setMove i n b) (hw:Cu all pre (Aw ag ms mo (f+1) i p)) (hC:(((pc.setMany i x).setLie i false).setLie i (decide (TB ms mo i ((pc.setMany i x).setLie i false)))).lies i=true) (hx:x=(ms.getD i AB.z).low+(k:Int)) (hk:x≤(ms.getD i AB.z).high) :
  Cu all ((pre++(Bp (ms.getD i AB.z).low k).flatMap (BZ ag ms mo f i p))++Aw ag ms mo f (i+1) ((pc.setMany i x).setLie i false)) (Aw ag ms mo f (i+1) (((pc.setMany i x).setLie i false).setLie i (decide (TB ms mo i ((pc.setMany i x).setLie i false))))):=by
 rw [OM] at hC;rw [hC,show ((pc.setMany i x).setLie i false)=pc.setMove i x false from rfl,HM,hpc,hpc];rw [show ((pc.setMany i x).setLie i false)=pc.setMove i x false from rfl,hpc] at hC;rw [Cc] at hw;have w:=hw.round (k:=k) (by omega);rw [←hx] at w;have w2:Cu all (pre++(Bp (ms.getD i AB.z).low k).flatMap (BZ ag ms mo f i p)) (Aw ag ms mo f (i+1) (p.setMove i x false)++Aw ag ms mo f (i+1) (p.setMove i x true)):=by
  have e:BZ ag ms mo f i p x=Aw ag ms mo f (i+1) (p.setMove i x false)++Aw ag ms mo f (i+1) (p.setMove i x true):=by
   unfold BZ;rw [Rj,hC,if_pos rfl]
  rw [←e];exact w
 exact w2.right
theorem Rk (hpc:∀n,pc.setFirst i n=p.setFirst i n) (hw:Cu all pre (BG ag gs ms mo (f+1) i p)) (hx:x=(gs.getD i Good.z).low+(k:Int)) (hk:x≤(gs.getD i Good.z).high) :
  Cu all (pre++(Bp (gs.getD i Good.z).low k).flatMap (fun n=>BG ag gs ms mo f (i+1) (p.setFirst i n))) (BG ag gs ms mo f (i+1) (pc.setFirst i x)):=by
 rw [Ct] at hw;have w:=hw.round (k:=k) (by omega);rw [←hx] at w;rw [hpc];exact w
end
def Gz (l:List Int) (k:Nat):Int:=if k=0 then-1 else l.getD (k-1) 0
def JP (ms:List AB) (l:List Int) (k:Nat):Int:=if¬DQ ms (l.getD k 0)=true then 6 else if l.getD k 0≤Gz l k then 7 else 0
def Di (p:AT) (l:List Int) (k:Nat):AT:=(l.take k).foldl (fun p i=>p.setLie i.toNat true) p
theorem TF {p:AT} {l:List Int} {k:Nat} (hk:k<l.length):Di p l (k+1)=(Di p l k).setLie (l.getD k 0).toNat true:=by
 unfold Di;rw [CN 0 hk,List.foldl_append];rfl
def Ai (d m:Int) (gs:List Good) (ms:List AB) (cs:List AF) (f y l:List Int):Int:=
 if¬Ak d m gs ms cs=0 then Ak d m gs ms cs
 else if¬BA f gs.length=0 then BA f gs.length
 else if¬BA y ms.length=0 then BA y ms.length
 else Dh (JP ms l) 0 l.length
def Iy (f y l:List Int):AT:=Di ((AT.zero.setFirsts f).setManys y) l l.length
theorem Fd {f:Nat→Int}:∀{n i:Nat},Dh f i n=0→∀j,i≤j→j<i+n→f j=0
 | 0,i,_,j,h1,h2=>by omega
 | n+1,i,h,j,h1,h2=>by
  unfold Dh at h;split at h
  ·rename_i e
   rcases Nat.eq_or_lt_of_le h1 with rfl | h3
   ·exact e
   ·exact Fd h j h3 (by omega)
  ·rename_i e;exact absurd h e
structure At (d m:Int) (gs:List Good) (ms:List AB) (cs:List AF):Prop where
 days:1≤d∧d≤99
 most:0≤m∧m≤2
 glen:1≤gs.length∧gs.length≤3
 good:∀k,k<gs.length→FS gs k=0
 mlen:ms.length≤6
 move:∀k,k<ms.length→DY d gs ms k=0
 clen:cs.length≤4
 count:∀k,k<cs.length→FL d gs cs k=0
theorem Iz {d m:Int} {gs:List Good} {ms:List AB} {cs:List AF} (h:Ak d m gs ms cs=0):At d m gs ms cs:=by
 have z:=fun j hj=>Fd (f:=D7 d m gs ms cs) h j (Nat.zero_le _) (by omega:j<0+4);have z0:ET d m=0:=z 0 (by decide);have z1:BY gs=0:=z 1 (by decide);have z2:BM d gs ms=0:=z 2 (by decide);have z3:CH d gs cs=0:=z 3 (by decide);unfold ET at z0;unfold BY at z1;unfold BM at z2;unfold CH at z3;split at z0 <;> first | (cases z0;done) | skip
 split at z1 <;> first | (cases z1;done) | skip
 split at z2 <;> first | (cases z2;done) | skip
 split at z3 <;> first | (cases z3;done) | skip
 exact ⟨by omega,by omega,by omega,fun k hk=>Fd z1 k (Nat.zero_le _) (by omega),by omega,fun k hk=>Fd z2 k (Nat.zero_le _) (by omega),by omega,fun k hk=>Fd z3 k (Nat.zero_le _) (by omega)⟩
section
variable {d m:Int} {gs:List Good} {ms:List AB} {cs:List AF}
theorem At.move' (b:At d m gs ms cs) {k:Nat} (hk:k<ms.length):(0≤(ms.getD k AB.z).kind∧(ms.getD k AB.z).kind≤4)∧(0≤(ms.getD k AB.z).good∧(ms.getD k AB.z).good≤(gs.length:Int)-1)∧
  (1≤(ms.getD k AB.z).day∧(ms.getD k AB.z).day≤d)∧Du ms k≤(ms.getD k AB.z).day∧E7 (ms.getD k AB.z).low (ms.getD k AB.z).high:=by
 have z:=b.move k hk;unfold DY at z;split at z <;> first | (cases z;done) | skip
 split at z <;> first | (cases z;done) | skip
 split at z <;> first | (cases z;done) | skip
 split at z <;> first | (cases z;done) | skip
 split at z <;> first | (cases z;done) | skip
 rename_i a1 a2 a3 a4 a5
 exact ⟨Decidable.not_not.1 a1,Decidable.not_not.1 a2,Decidable.not_not.1 a3,by omega,Decidable.not_not.1 a5⟩
theorem B2 {α:Type} {l:List α} {k:Nat} {z:α} (h:l.length≤k):l.getD k z=z:=by
 simp [List.getD_eq_getElem?_getD,List.getElem?_eq_none h]
theorem At.kind (b:At d m gs ms cs):∀k,0≤(ms.getD k AB.z).kind∧(ms.getD k AB.z).kind≤4:=fun k=>by
 by_cases h:k<ms.length
 ·exact (b.move' h).1
 ·rw [B2 (by omega)];decide
theorem At.few (b:At d m gs ms cs):∀k,0≤(ms.getD k AB.z).low∧(ms.getD k AB.z).low≤(ms.getD k AB.z).high∧(ms.getD k AB.z).high≤99∧(ms.getD k AB.z).high-(ms.getD k AB.z).low<3:=fun k=>by
 by_cases h:k<ms.length
 ·have:=(b.move' h).2.2.2.2;unfold E7 at this;omega
 ·rw [B2 (by omega)];decide
theorem At.good' (b:At d m gs ms cs) {k:Nat} (hk:k<gs.length):(0≤(gs.getD k Good.z).cost∧(gs.getD k Good.z).cost≤999)∧(1≤(gs.getD k Good.z).pack∧(gs.getD k Good.z).pack≤20)∧E7 (gs.getD k Good.z).low (gs.getD k Good.z).high:=by
 have z:=b.good k hk;unfold FS at z;split at z <;> first | (cases z;done) | skip
 split at z <;> first | (cases z;done) | skip
 split at z <;> first | (cases z;done) | skip
 rename_i a1 a2 a3
 exact ⟨by omega,by omega,Decidable.byContradiction fun q=>a3 (.inr q)⟩
theorem At.gfew (b:At d m gs ms cs):∀k,0≤(gs.getD k Good.z).low∧(gs.getD k Good.z).low≤(gs.getD k Good.z).high∧(gs.getD k Good.z).high≤99∧(gs.getD k Good.z).high-(gs.getD k Good.z).low<3:=fun k=>by
 by_cases h:k<gs.length
 ·have:=(b.good' h).2.2;unfold E7 at this;omega
 ·rw [B2 (by omega)];decide
theorem At.cgood (b:At d m gs ms cs):∀x ∈ cs,0≤x.good∧x.good<3:=fun x hx=>by
 obtain ⟨k,hk,rfl⟩:=List.getElem_of_mem hx;have z:=b.count k hk;unfold FL at z;rw [BW AF.z hk] at z
 have:=b.glen
 split at z <;> first | (cases z;done) | skip
 omega
theorem GT {l:List Int} {n:Int} (h:BA l n=0):(l.length:Int)=n∧∀k,0≤l.getD k 0∧l.getD k 0≤99:=by
 unfold BA at h;split at h <;> first | (cases h;done) | skip
 split at h <;> first | (cases h;done) | skip
 rename_i a1 a2
 refine ⟨Decidable.not_not.1 a1,fun k=>?_⟩;by_cases hk:k<l.length
 ·refine Decidable.byContradiction fun q=>a2 ?_;rw [List.any_eq_true];exact ⟨l.getD k 0,CB hk,decide_eq_true q⟩
 ·rw [B2 (by omega)];decide
variable {f y l:List Int}
def Ay (d m:Int) (gs:List Good) (ms:List AB) (cs:List AF) (f y l:List Int):AT:=if Ai d m gs ms cs f y l=0 then Iy f y l else AT.zero
theorem Rl (h:¬Ak d m gs ms cs=0):Ai d m gs ms cs f y l=Ak d m gs ms cs:=by unfold Ai;rw [if_pos h]
theorem Rm (h:¬¬Ak d m gs ms cs=0) (h2:¬BA f gs.length=0):Ai d m gs ms cs f y l=BA f gs.length:=by unfold Ai;rw [if_neg h,if_pos h2]
theorem Rn (h:¬¬Ak d m gs ms cs=0) (h2:¬¬BA f gs.length=0) (h3:¬BA y ms.length=0):Ai d m gs ms cs f y l=BA y ms.length:=by unfold Ai;rw [if_neg h,if_neg h2,if_pos h3]
theorem G0 (h:¬¬Ak d m gs ms cs=0) (h2:¬¬BA f gs.length=0) (h3:¬¬BA y ms.length=0) {c:Int} (h4:Dh (JP ms l) 0 l.length=c):Ai d m gs ms cs f y l=c:=by unfold Ai;rw [if_neg h,if_neg h2,if_neg h3,h4]
theorem HN {c:Int} (e:Ai d m gs ms cs f y l=c) (hc:¬c=0):(.tuple #[.agg (Ag AT.zero),.int .i64 c]:Value)=.tuple #[.agg (Ag (Ay d m gs ms cs f y l)),.int .i64 (Ai d m gs ms cs f y l)]:=by
 unfold Ay;rw [e,if_neg hc]
theorem TG (e:Ai d m gs ms cs f y l=0) {k:Nat} (hk:¬(k:Int)<l.length) (hk':k≤l.length):(.tuple #[.agg (Ag (Di ((AT.zero.setFirsts f).setManys y) l k)),.int .i64 0]:Value)=.tuple #[.agg (Ag (Ay d m gs ms cs f y l)),.int .i64 (Ai d m gs ms cs f y l)]:=by
 unfold Ay Iy;rw [e,if_pos rfl,show k=l.length by omega]
theorem lieAt_6 {k:Nat} (h:¬((0≤l.getD k 0∧l.getD k 0≤(ms.length:Int)-1)∧(ms.getD (l.getD k 0).toNat AB.z).kind=0)):JP ms l k=6:=by
 unfold JP DQ;rw [if_pos (by simpa using h)]
theorem lieAt_7 {k:Nat} (h:¬¬((0≤l.getD k 0∧l.getD k 0≤(ms.length:Int)-1)∧(ms.getD (l.getD k 0).toNat AB.z).kind=0)) (h2:l.getD k 0≤Gz l k):JP ms l k=7:=by
 unfold JP DQ;rw [if_neg (by simpa using h),if_pos h2]
theorem lieAt_0 {k:Nat} (h:¬¬((0≤l.getD k 0∧l.getD k 0≤(ms.length:Int)-1)∧(ms.getD (l.getD k 0).toNat AB.z).kind=0)) (h2:¬l.getD k 0≤Gz l k):JP ms l k=0:=by
 unfold JP DQ;rw [if_neg (by simpa using h),if_neg h2]
end
theorem F7 (p:AT):(Value.agg (Ag p)).cells.size=15:=rfl
theorem F8 (p:AT):Value.fine (.agg (Ag p))=true:=rfl
theorem HB (p:AT):0+15≤(Ag p).size:=Nat.le_refl 15
theorem HC (p q:AT):B0 (Ag p) 0 (Value.agg (Ag q)).cells.toList=Ag q:=by
 show B0 (Ag p) 0 (Ag q).toList=Ag q;apply Array.toList_inj.1;rw [ES _ _ _ (Nat.le_refl 15)];show []++(Ag q).toList++[]=_;simp
theorem Fm {β:Type} (f:Nat→β) (k:Nat):(List.range (k+1)).map f=(List.range k).map f++[f k]:=by
 rw [List.range_succ,List.map_append];rfl
section
variable {d m:Int} {gs:List Good} {ms:List AB} {cs:List AF} {f y l:List Int}
theorem Bn.lies {p:AT} (h:Bn p) (l:List Int) (k:Nat):Bn (Di p l k):=by
 unfold Di;generalize l.take k=t
 induction t generalizing p with
 | nil=>exact h
 | cons x t ih=>exact ih (p:=p.setLie x.toNat true) h
theorem QV (h:Ai d m gs ms cs f y l=0):At d m gs ms cs∧Bn (Ay d m gs ms cs f y l):=by
 have h0:=h;unfold Ai at h;split at h <;> first | (rename_i q;exact absurd h q) | skip
 split at h <;> first | (rename_i q;exact absurd h q) | skip
 split at h <;> first | (rename_i q;exact absurd h q) | skip
 rename_i a1 a2 a3
 refine ⟨Iz (Decidable.not_not.1 a1),?_⟩;unfold Ay;rw [if_pos h0];unfold Iy;refine Bn.lies ?_ _ _;have b2:=(GT (Decidable.not_not.1 a2)).2;have b3:=(GT (Decidable.not_not.1 a3)).2;refine ⟨fun i=>?_,fun i=>?_⟩
 ·show 0≤(if i<f.length then f.getD i 0 else 0)∧(if i<f.length then f.getD i 0 else 0)≤99;split
  ·exact b2 i
  ·decide
 ·show 0≤(if i<y.length then y.getD i 0 else 0)∧(if i<y.length then y.getD i 0 else 0)≤99;split
  ·exact b3 i
  ·decide
def HO (d m:Int) (gs:List Good) (ms:List AB) (cs:List AF) (f y l:List Int):List Int:=if Ai d m gs ms cs f y l=0 then (List.range gs.length).map (fun (i:Nat)=>(AN ms (Ay d m gs ms cs f y l) (i:Int) d).1) else []
def I0 (d m:Int) (gs:List Good) (ms:List AB) (cs:List AF) (f y l:List Int):List Int:=if Ai d m gs ms cs f y l=0 then (List.range gs.length).map (fun (i:Nat)=>(AN ms (Ay d m gs ms cs f y l) (i:Int) d).2) else []
theorem Ro (h:¬Ai d m gs ms cs f y l=0):HO d m gs ms cs f y l=[]:=if_neg h
theorem TH (h:¬Ai d m gs ms cs f y l=0):I0 d m gs ms cs f y l=[]:=if_neg h
theorem Ps (h:¬¬Ai d m gs ms cs f y l=0) {k:Nat} (hk:k≤gs.length) (hk':¬(k:Int)<gs.length):HO d m gs ms cs f y l=(List.range k).map (fun (i:Nat)=>(AN ms (Ay d m gs ms cs f y l) (i:Int) d).1):=by
 unfold HO;rw [if_pos (Decidable.not_not.1 h),show gs.length=k by omega]
theorem Rp (h:¬¬Ai d m gs ms cs f y l=0) {k:Nat} (hk:k≤gs.length) (hk':¬(k:Int)<gs.length):I0 d m gs ms cs f y l=(List.range k).map (fun (i:Nat)=>(AN ms (Ay d m gs ms cs f y l) (i:Int) d).2):=by
 unfold I0;rw [if_pos (Decidable.not_not.1 h),show gs.length=k by omega]
end
theorem ON {α β:Type} {f:α→List β} {c:Nat}:∀{l:List α},(∀x ∈ l,(f x).length≤c)→(l.flatMap f).length≤l.length*c
 | [],_=>by simp
 | x ::l,h=>by
  rw [List.flatMap_cons,List.length_append,List.length_cons,Nat.succ_mul];have h1:=h x (by simp);have h2:=ON (l:=l) fun y hy=>h y (by simp [hy]);omega
theorem QW {lo hi:Int} (h:hi-lo<3):(E8 lo hi).length≤3:=by
 unfold E8 Bp;rw [List.length_map,List.length_range];omega
theorem H4 {ag:AT→Bool} {ms:List AB} {mo:Int} (hf:∀k,(ms.getD k AB.z).high-(ms.getD k AB.z).low<3):∀f i p,(Aw ag ms mo f i p).length≤6 ^ f
 | 0,_,p=>by unfold Aw;split <;> simp
 | f+1,i,p=>by
  rw [Cc];have h1:=ON (f:=BZ ag ms mo f i p) (c:=2*6 ^ f) (l:=E8 (ms.getD i AB.z).low (ms.getD i AB.z).high) fun n _=>by
   unfold BZ;rw [List.length_append];have a:=H4 (ag:=ag) (mo:=mo) hf f (i+1) (p.setMove i n false);have b:=H4 (ag:=ag) (mo:=mo) hf f (i+1) (p.setMove i n true);split
   ·omega
   ·simp only [List.length_nil];omega
  have h2:=Nat.mul_le_mul_right (2*6 ^ f) (QW (hf i));rw [Nat.pow_succ];omega
theorem KQ {ag:AT→Bool} {gs:List Good} {ms:List AB} {mo:Int} (hg:∀k,(gs.getD k Good.z).high-(gs.getD k Good.z).low<3) (hf:∀k,(ms.getD k AB.z).high-(ms.getD k AB.z).low<3) :
  ∀f i p,(BG ag gs ms mo f i p).length≤3 ^ f*6 ^ ms.length
 | 0,_,p=>by unfold BG;have:=H4 (ag:=ag) (mo:=mo) hf ms.length 0 p;omega
 | f+1,i,p=>by
  rw [Ct];have h1:=ON (f:=fun n=>BG ag gs ms mo f (i+1) (p.setFirst i n)) (c:=3 ^ f*6 ^ ms.length) (l:=E8 (gs.getD i Good.z).low (gs.getD i Good.z).high) fun n _=>KQ hg hf f (i+1) _;have h2:=Nat.mul_le_mul_right (3 ^ f*6 ^ ms.length) (QW (hg i));rw [Nat.pow_succ,Nat.mul_comm (3 ^ f) 3,Nat.mul_assoc];omega
theorem EZ {d m:Int} {gs:List Good} {ms:List AB} {cs:List AF} (b:At d m gs ms cs) (mo:Int):(AV d gs ms cs mo).length≤2000000:=by
 unfold AV;have h:=KQ (ag:=A5 d gs.length ms cs) (mo:=mo) (fun k=>(b.gfew k).2.2.2) (fun k=>(b.few k).2.2.2) gs.length 0 AT.zero;have h1:3 ^ gs.length≤3 ^ 3:=Nat.pow_le_pow_right (by decide) b.glen.2;have h2:6 ^ ms.length≤6 ^ 6:=Nat.pow_le_pow_right (by decide) b.mlen;have h3:=Nat.mul_le_mul h1 h2
 have:3 ^ 3*6 ^ 6≤2000000:=by decide
 omega
theorem pre_len {α:Type} {all pre post:List α} {p:α} (h:all=pre++p ::post) {n:Nat} (hn:all.length≤n):pre.length+1≤n:=by
 rw [h,List.length_append,List.length_cons] at hn;omega
theorem AJ.one {α:Type} {h:GH} {v:Value} {n:Nat} {enc:α→Array Value} {xs:List α} (x:AJ h v n enc xs):v.cells=#[v]∧v.oneCell'=true:=by
 obtain ⟨a,cap,rfl,_⟩:=x;exact ⟨rfl,rfl⟩
theorem I2 {v:Value} (h:v.cells=#[v]∧v.oneCell'=true):Value.fine v=true:=by unfold Value.fine;rw [h.1];simp [h.2]
theorem I3 {v:Value} (h:v.cells=#[v]∧v.oneCell'=true):v.cells.size=1:=by rw [h.1];rfl
theorem Kq {v:Value} (h:v.cells=#[v]∧v.oneCell'=true) {c c':Array Value} {o:Nat} (e:B0 c o [v]=c'):B0 c o v.cells.toList=c':=by rw [h.1];exact e
end Go.Ns
namespace Go.Ns
open Go.Conc
section
variable {P:Program} {E:Gm P} {σ:Nat→Value} {ds:List Deferred} {α:Type}
def AAE (hB:GH) (J:List α→(Nat→Prop)→GH→Prop) (Stop:Code→GH→Prop) (pre:List α) (Y:Nat→Prop) (h:GH) (l:Nat) (lo:Loop):Post:=fun e _ _ h3=>
 h3 l=some (true,.loop { lo with state:=.busy })∧∃Y',(∀b,Y' b→Y b∨h b=none)∧Bl (fun b=>Y b∨b=l) h h3∧hB.Le h3∧match e with
  | .normal=>J pre Y' h3
  | .exit id=>Stop (.exit id) h3
  | .ret=>Stop .ret h3
  | _=>False
def XL (J:List α→(Nat→Prop)→GH→Prop) (l d:Nat) (lo:Loop) (pre:List α) (X:Nat→Prop) (h:GH):Prop:=
 ∃Y,J pre Y h∧(∀b,X b↔Y b∨b=l∨b=d)∧¬Y l∧¬Y d∧h l=some (true,.loop lo)∧h d=some (true,.deferred (some []))
def AAF (Stop:Code→GH→Prop) (l d:Nat) (lo:Loop) (h:GH):Prop:=
 ∃c,Stop c h∧h l=some (true,.loop { lo with state:=.done,pending:=some c })∧h d=some (true,.deferred (some []))
def YEnd (hB:GH) (I:List α→(Nat→Prop)→GH→Prop) (Sp:GH→Prop) (all:List α) (X:Nat→Prop) (h h':GH):Prop:=
 ∃X',(∀b,X' b→X b∨h b=none)∧Bl X h h'∧hB.Le h'∧(I all X' h'∨Sp h')
theorem Hm.final {hB:GH} {I:List α→(Nat→Prop)→GH→Prop} {Sp:GH→Prop} {all:List α} {X:Nat→Prop} {h h':GH} {v:Value} (r:Hm hB I Sp [] X h all v h'):YEnd hB I Sp all X h h':=by
 obtain ⟨ok,X',hv,hs,hk,hl,h1,h2⟩:=r;cases ok with
 | true=>exact ⟨X',hs,hk,hl,.inl (h1 rfl)⟩
 | false=>exact ⟨X',hs,hk,hl,.inr (h2 rfl)⟩
theorem OO {enc:α→Array Value} {all:List α} {hB hc:GH} {J:List α→(Nat→Prop)→GH→Prop} {Stop:Code→GH→Prop} {Y0:Nat→Prop} {par:Tmp} {f:Operand} {assign body:Code} {Q:Post}
  (hrd:E.rd=none) (hpar:Nat.blt par E.N=true) (hJ:Ix hB J) (hB0:hB.Le hc) (j0:J [] Y0 hc)
  (hS:∀c (h h':GH) l lo,Stop c h→h l=some (true,.loop lo)→(∀b,b≠l→h' b=h b)→Stop c h')
  (src:∀(yv:Value) (I:List α→(Nat→Prop)→GH→Prop) (Sp:GH→Prop) (X:Nat→Prop) (h:GH),Kp E.wk hB yv enc I Sp all→hB.Le h→I [] X h→Cl E.wk (AU σ f) #[yv] h fun _ h'=>YEnd hB I Sp all X h h')
  (round:∀(l d:Nat) (lo:Loop) (pre:List α) (p:α) (post:List α) (Y:Nat→Prop) (h:GH),all=pre++p ::post→J pre Y h→hB.Le h→hB l=none→¬Y l→h l=some (true,.loop lo)→
   Tr ⟨E.wk,E.fn,some l,E.N⟩ assign (upd σ par (.agg (enc p))) [] h fun e σ' ds' h1=>e=.normal∧h1 l=some (true,.loop lo)∧∀h2,h2 l=some (true,.loop { lo with state:=.busy })→(∀b,b≠l→h2 b=h1 b)→
    Tr ⟨E.wk,E.fn,some l,E.N⟩ body σ' ds' h2 (AAE hB J Stop (pre++[p]) Y h l lo))
  (fin:∀(d l:Nat) (h':GH),hB.Le h'→hB d=none→hB l=none→hc d=none→h' d=some (true,.deferred (some []))→
   (∀Y,J all Y h'→(∀b,Y b→b≠d)→Q .normal σ ({ target:=.collected d,args:=#[] } ::ds) h')∧
   (∀c,Stop c h'→match c with
    | .exit id=>Q (.exit id) σ ({ target:=.collected d,args:=#[] } ::ds) h'
    | .ret=>Q .ret σ ({ target:=.collected d,args:=#[] } ::ds) h'
    | _=>False)):Tr E (.rangeFunc f #[par] assign body) σ ds hc Q:=by
 refine RX hrd fun t d l hs hd hl hne=>?_;have hl':hB l=none:=hB0.nothing hl;have hd':hB d=none:=hB0.nothing hd;let lo:Loop:={ state:=.ready,pending:=none,fn:=E.fn,tmps:=t,params:=#[par],assign,body,defers:=d };have nYl:¬Y0 l:=hJ.off j0 hl;have nYd:¬Y0 d:=hJ.off j0 hd;have hL1:((hc.set d true (.deferred (some []))).set l true (.loop lo)) l=some (true,.loop lo):=GH.set_same _ _ _ _;have hL2:((hc.set d true (.deferred (some []))).set l true (.loop lo)) d=some (true,.deferred (some [])):=by rw [GH.set_ne _ _ _ (Ne.symm hne)];exact GH.set_same _ _ _ _
 have hL3:∀b,b≠l→b≠d→((hc.set d true (.deferred (some []))).set l true (.loop lo)) b=hc b:=fun b h1 h2=>by rw [GH.set_ne _ _ _ h1,GH.set_ne _ _ _ h2]
 have hLB:hB.Le ((hc.set d true (.deferred (some []))).set l true (.loop lo)):=(hB0.trans (GH.Le.new hd _ _)).trans (GH.Le.new (by rw [GH.set_ne _ _ _ hne];exact hl) _ _);have hI0:XL J l d lo [] (fun b=>Y0 b∨b=l∨b=d) ((hc.set d true (.deferred (some []))).set l true (.loop lo)):=by
  refine ⟨Y0,hJ.stable _ _ hc _ j0 (fun b hb=>hL3 b (fun e=>nYl (e▸hb)) (fun e=>nYd (e▸hb))) hLB,fun b=>Iff.rfl,nYl,nYd,hL1,hL2⟩
 have prom:Ix hB (XL J l d lo):=by
  refine ⟨?_,?_⟩
  ·rintro pre X h b ⟨Y,j,hX,_,_,h1,h2⟩ hb;rcases (hX b).1 hb with h3 | rfl | rfl
   ·exact hJ.dom _ _ _ _ j h3
   ·exact ⟨_,_,h1,rfl⟩
   ·exact ⟨_,_,h2,rfl⟩
  ·rintro pre X h h' ⟨Y,j,hX,n1,n2,h1,h2⟩ same lB;refine ⟨Y,hJ.stable _ _ h h' j (fun b hb=>same b ((hX b).2 (.inl hb))) lB,hX,n1,n2,?_,?_⟩
   ·rw [same l ((hX l).2 (.inr (.inl rfl)))];exact h1
   ·rw [same d ((hX d).2 (.inr (.inr rfl)))];exact h2
 have yk:Kp E.wk hB (.func (.yield l) #[] #[]) enc (XL J l d lo) (AAF Stop l d lo) all:=by
  refine ⟨prom,rfl,?_⟩;rintro pre p post X h hall ⟨Y,j,hX,n1,n2,h1,h2⟩ lB;refine Ur h1 rfl ?_;have ef:(lo.params.zip #[Value.agg (enc p)]).foldl (fun tmps x=>tmps.setIfInBounds x.1 x.2) lo.tmps=t.setIfInBounds par (.agg (enc p)):=by simp [lo]
  rw [ef];show B9 E.wk l E.fn (t.setIfInBounds par (.agg (enc p))) assign body h _;have hs':=hs.put hpar (.agg (enc p));refine S0 (N:=E.N) hs'.1 ?_;have e0:(fun i=>(t.setIfInBounds par (.agg (enc p))).getD i undef)=upd σ par (.agg (enc p)):=funext hs'.2;rw [e0];refine NY ?_ (round l d lo pre p post Y h hall j lB hl' n1 h1);rintro e σ' ds' ha ⟨rfl,ha1,hb⟩;refine ⟨rfl,lo,ha1,rfl,?_⟩;refine NY ?_ (hb _ (GH.set_same _ _ _ _) fun b hb=>GH.set_ne _ _ _ hb);rintro e σ2 ds2 h3 ⟨g1,Y',g2,g3,g4,g5⟩;have hd3:h3 d=some (true,.deferred (some [])):=g3.box h2 (fun q=>q.elim n2 (fun e=>hne e.symm)) rfl;have nl:¬Y' l:=fun q=>(g2 l q).elim n1 fun e=>by rw [h1] at e;cases e
  have nd:¬Y' d:=fun q=>(g2 d q).elim n2 fun e=>by rw [h2] at e;cases e
  have key:∀(lo2:Loop) (ok:Bool),(if ok then J (pre++[p]) Y' (h3.set l true (.loop lo2))∧lo2=lo else AAF Stop l d lo (h3.set l true (.loop lo2)))→Hm hB (XL J l d lo) (AAF Stop l d lo) pre X h [p] (.bool ok) (h3.set l true (.loop lo2)):=by
   intro lo2 ok hok;refine ⟨ok,fun b=>Y' b∨b=l∨b=d,rfl,?_,?_,?_,?_,?_⟩
   ·rintro b (hb | rfl | rfl)
    ·exact (g2 b hb).imp (fun q=>(hX b).2 (.inl q)) id
    ·exact .inl ((hX _).2 (.inr (.inl rfl)))
    ·exact .inl ((hX _).2 (.inr (.inr rfl)))
   ·intro b q o hb hn;have nb:b≠l:=fun e=>hn ((hX b).2 (.inr (.inl e)));rw [GH.set_ne _ _ _ nb];exact g3 b q o hb fun q=>q.elim (fun z=>hn ((hX b).2 (.inl z))) nb
   ·exact g4.upd hl' fun b hb=>GH.set_ne _ _ _ hb
   ·rintro rfl;simp only [if_true] at hok;obtain ⟨hj,rfl⟩:=hok;exact ⟨Y',hj,fun b=>Iff.rfl,nl,nd,GH.set_same _ _ _ _,by rw [GH.set_ne _ _ _ (Ne.symm hne)];exact hd3⟩
   ·rintro rfl;simpa using hok
  have js:∀(lo2:Loop),J (pre++[p]) Y' h3→J (pre++[p]) Y' (h3.set l true (.loop lo2)):=fun lo2 hj=>hJ.store hj nl (fun b hb=>GH.set_ne _ _ _ hb) (g4.upd hl' fun b hb=>GH.set_ne _ _ _ hb);have ss:∀c (lo2:Loop),Stop c h3→Stop c (h3.set l true (.loop lo2)):=fun c lo2 hc=>hS c h3 _ l _ hc g1 fun b hb=>GH.set_ne _ _ _ hb;refine ⟨_,g1,?_⟩;cases e with
  | normal=>exact key _ true (by simp only [if_true];exact ⟨js _ g5,rfl⟩)
  | exit id=>exact key _ false (by simp only [Bool.false_eq_true,if_false];exact ⟨_,ss _ _ g5,GH.set_same _ _ _ _,by rw [GH.set_ne _ _ _ (Ne.symm hne)];exact hd3⟩)
  | ret=>exact key _ false (by simp only [Bool.false_eq_true,if_false];exact ⟨_,ss _ _ g5,GH.set_same _ _ _ _,by rw [GH.set_ne _ _ _ (Ne.symm hne)];exact hd3⟩)
  | goto _=>exact g5.elim
  | panic _=>exact g5.elim
  | outgrown=>exact g5.elim
 refine (src _ _ _ _ _ yk hLB hI0).mono ?_;rintro v h' ⟨X',hs',hk,hl2,hor⟩;rcases hor with ⟨Y,j,hX,n1,n2,h1,h2⟩ | ⟨c,hst,h1,h2⟩
 ·refine ⟨lo,h1,rfl,?_⟩;show Q .normal σ _ _;have hB':=hl2.upd hl' (fun b hb=>GH.set_ne h' true (.loop { lo with state:=.exhausted }) hb);refine (fin d l _ hB' hd' hl' hd (by rw [GH.set_ne _ _ _ (Ne.symm hne)];exact h2)).1 Y (hJ.store j n1 (fun b hb=>GH.set_ne _ _ _ hb) hB') fun b hb e=>n2 (e▸hb)
 ·refine ⟨_,h1,rfl,?_⟩;have hB':=hl2.upd hl' (fun b hb=>GH.set_ne h' true (.loop { { lo with state:=.done,pending:=some c } with state:=.exhausted }) hb)
  have:=(fin d l _ hB' hd' hl' hd (by rw [GH.set_ne _ _ _ (Ne.symm hne)];exact h2)).2 c (hS c h' _ l _ hst h1 fun b hb=>GH.set_ne _ _ _ hb)
  cases c with
  | exit id=>exact this
  | ret=>exact this
  | _=>exact this.elim
structure Pj (hB:GH) (X:Nat→Prop) (h hc:GH):Prop where
 keep:Bl X h hc
 base:hB.Le hc
 dom:∀b,X b→∃o,hc b=some o
section
variable {hB h hc h':GH} {X:Nat→Prop}
theorem GH.Le.someOf {h h':GH} (l:h.Le h') {b:Nat} (x:∃o,h b=some o):∃o,h' b=some o:=by
 obtain ⟨o,hb⟩:=x;obtain ⟨o',h1,_⟩:=l b o.1 o.2 hb;exact ⟨_,h1⟩
theorem Pj.start (lB:hB.Le h) (d:∀b,X b→∃o,h b=some o):Pj hB X h h:=⟨Bl.refl _ _,lB,d⟩
theorem Pj.le (r:Pj hB X h hc) (l:hc.Le h'):Pj hB X h h':=⟨r.keep.trans (fun _ q=>.inl q) (l.keepX X),r.base.trans l,fun b hb=>l.someOf (r.dom b hb)⟩
theorem Pj.nothing (r:Pj hB X h hc) {q:Nat} (hq:hc q=none):h q=none:=by
 cases hx:h q with
 | none=>rfl
 | some x=>
  by_cases hX:X q
  ·obtain ⟨o,ho⟩:=r.dom q hX;rw [hq] at ho;cases ho
  ·obtain ⟨o',h1,_⟩:=r.keep q x.1 x.2 hx hX;rw [hq] at h1;cases h1
theorem Pj.store (r:Pj hB X h hc) {q:Nat} (hq:X q∨h q=none) (rB:hB q=none) (ho:∀b,b≠q→h' b=hc b) (hn:∃o,h' q=some o):Pj hB X h h':=
 ⟨fun b p o hb hX=>by
   have nb:b≠q:=fun e=>by
    subst e;rcases hq with hq | hq
    ·exact hX hq
    ·rw [hq] at hb;cases hb
   rw [ho b nb];exact r.keep b p o hb hX,
  r.base.upd rB ho,fun b hb=>by
   by_cases e:b=q
   ·subst e;exact hn
   ·rw [ho b e];exact r.dom b hb⟩
theorem Bl.app {v v':Value} (k:Bl X h hc) (g:F2 hc h' v v') (hv:∀b,Bw v=some b→X b):Bl X h h':=fun b p o hb hX=>by
 obtain ⟨o',h1,h2⟩:=k b p o hb hX;exact ⟨o',g.1 b _ h1 fun e=>hX (hv b e),h2⟩
theorem Bl.store' {q:Nat} (k:Bl X h hc) (hq:X q∨h q=none) (ho:∀b,b≠q→h' b=hc b):Bl X h h':=fun b p o hb hX=>by
 have nb:b≠q:=fun e=>by
  subst e;rcases hq with hq | hq
  ·exact hX hq
  ·rw [hq] at hb;cases hb
 rw [ho b nb];exact k b p o hb hX
end
def GH.del (h:GH) (r:Nat):GH:=fun b=>if b=r then none else h b
theorem GH.del_le (h:GH) (r:Nat):(h.del r).Le h:=fun b p o hb=>by
 unfold GH.del at hb;split at hb
 ·cases hb
 ·exact ⟨o,hb,.inl rfl⟩
theorem GH.del_none (h:GH) (r:Nat):h.del r r=none:=if_pos rfl
theorem GH.del_ne {h:GH} {r b:Nat} (e:b≠r):h.del r b=h b:=if_neg e
theorem GH.Le.del {h0 h:GH} (l:h0.Le h) {r:Nat} (hr:h0 r=none):h0.Le (h.del r):=fun b p o hb=>by
 rw [GH.del_ne (GH.ne_of hb hr)];exact l b p o hb
theorem AZ.del {h:GH} {r b off n:Nat} {vs:Array Value} (x:AZ h b off n vs) (e:b≠r):AZ (h.del r) b off n vs:=x.same (GH.del_ne e)
theorem Rq {W:Wk P} {x v:Value} {args:Array Value} {h:GH} {R:Value→GH→Prop} (e:x=v) (k:Cl W v args h R):Cl W x args h R:=e▸k
def JCol {α:Type} (hB:GH) (r:Nat) (T t:TypeId) (n:Nat) (enc:α→Array Value) (pre:List α) (Y:Nat→Prop) (h:GH):Prop:=
 ∃w,h r=some (true,.cells #[w] T (0,0))∧AR hB h w t n enc pre∧By w r∧hB r=none∧∀b,Y b↔b=r∨Bw w=some b
theorem AR.cellsAt {α:Type} {h0 h:GH} {v:Value} {t:TypeId} {n:Nat} {enc:α→Array Value} {xs:List α} (x:AR h0 h v t n enc xs):∀b,Bw v=some b→∃c,h b=some (true,.cells c t (0,0)):=by
 intro b hb;rcases x with ⟨rfl,_⟩ | ⟨b',cap,c,rfl,h1,h2,_⟩
 ·cases hb
 ·simp [Bw] at hb;subst hb;exact ⟨_,h2⟩
theorem QX {α:Type} (hB:GH) (r:Nat) (T t:TypeId) (n:Nat) (enc:α→Array Value):Ix hB (JCol hB r T t n enc):=by
 refine ⟨?_,?_⟩
 ·rintro pre Y h b ⟨w,h1,h2,h3,h0,h4⟩ hb;rcases (h4 b).1 hb with rfl | h5
  ·exact ⟨_,_,h1,rfl⟩
  ·obtain ⟨c,hc⟩:=h2.cellsAt b h5;exact ⟨_,_,hc,rfl⟩
 ·rintro pre Y h h' ⟨w,h1,h2,h3,h0,h4⟩ same lB;refine ⟨w,by rw [same r ((h4 r).2 (.inl rfl))];exact h1,h2.keep fun b o hb ho=>by rw [same b ((h4 b).2 (.inr hb))];exact ho,h3,h0,h4⟩
theorem Uz {α:Type} {hB h:GH} {r:Nat} {T t:TypeId} {n:Nat} {enc:α→Array Value} (x:h r=some (true,.cells #[.slice none 0 0] T (0,0))) (h0:hB r=none):JCol hB r T t n enc [] (fun b=>b=r) h:=
 ⟨_,x,AR.nil _ _ _ _ _,By.nil,h0,fun _=>⟨.inl,fun q=>q.elim id fun e=>by cases e⟩⟩
theorem AAG {α:Type} {hB h h' ha hb:GH} {r:Nat} {T t:TypeId} {n:Nat} {enc:α→Array Value} {pre:List α} {w w':Value} {Y:Nat→Prop} (hY:∀b,Y b↔b=r∨Bw w=some b) (g:F2 ha hb w w') (hn:∀q,ha q=none→h q=none)
  (x:h' r=some (true,.cells #[w'] T (0,0))) (o:AR hB h' w' t n enc pre) (f:By w' r) (h0:hB r=none) :
  ∃Y',(∀b,Y' b→Y b∨h b=none)∧JCol hB r T t n enc pre Y' h':=by
 refine ⟨fun b=>b=r∨Bw w'=some b,?_,w',x,o,f,h0,fun _=>Iff.rfl⟩;rintro b (rfl | hb)
 ·exact .inl ((hY _).2 (.inl rfl))
 ·rcases g.2 with e | ⟨⟨q,e1,e2⟩,_⟩
  ·exact .inl ((hY _).2 (.inr (by rw [←e];exact hb)))
  ·rw [e1] at hb;cases hb;exact .inr (hn _ e2)
theorem MQ {fn:Func} {σ:Nat→Value} {R:Value→GH→Prop} {d:Nat} {ds:List Deferred} {h:GH} (hd:h d=some (true,.deferred (some []))) (x:∀h',(∀b,b≠d→h' b=h b)→Gt P fn σ R ds h') :
  Gt P fn σ R ({ target:=.collected d,args:=#[] } ::ds) h:=⟨d,rfl,_,hd,rfl,x _ fun b hb=>GH.set_ne _ _ _ hb⟩
end
end Go.Ns
namespace Go.Ns
open Go.Conc
section
variable {P:Program} {E:Gm P}
abbrev IL:=(Nat→Value)→Value→GH→Prop
def F9 (Φ:List IL) (k:Nat):IL:=Φ.getD k fun _ _ _=>True
def OP (ops:List Oper) (Φ:List IL) (σ:Nat→Value) (h:GH) (j:Nat):Prop:=match ops[j]? with
 | some o=>Cp ops o σ→F9 Φ j σ (IF o σ) h
 | none=>True
def G1 (ops:List Oper) (Φ:List IL) (σ:Nat→Value) (h:GH):List Nat→Prop
 | []=>True
 | j ::l=>OP ops Φ σ h j∧G1 ops Φ σ h l
theorem G1.get {ops:List Oper} {Φ:List IL} {σ:Nat→Value} {h:GH}:∀{l:List Nat},(∀j ∈ l,OP ops Φ σ h j)→G1 ops Φ σ h l
 | [],_=>trivial
 | j ::l,x=>⟨x j (by simp),G1.get fun i hi=>x i (by simp [hi])⟩
def Rr (l:List Oper) (n:Nat) (cls:List (List Nat)) (Φ:List IL):Prop:=
 ∀k i oi d,k<n→i<n→i≠k→i ∉ cls.getD k []→l[i]? =some oi→oi.dst=some d→∀σ u v h,F9 Φ k σ v h→F9 Φ k (upd σ d u) v h
def St (R:GH→GH→Prop) (Pre:Nat→GH→Prop) (Φ:List IL) (cl:List Nat) (k:Nat) (h h':GH):Prop:=R h h'∧(∀j,j≠k→∀σ v,F9 Φ j σ v h→F9 Φ j σ v h')∧∀j,j≠k→j ∉ cl→Pre j h→Pre j h'
def XM (R:GH→GH→Prop) (Pre:Nat→GH→Prop) (E:Gm P) (ops:List Oper) (n:Nat) (Φ:List IL) (σ:Nat→Value) (ds:List Deferred) (h:GH) (k:Nat) (o:Oper) (cl:List Nat):Prop:=
 ∀σ' h',R h h'→(∀t,(DP ops n).contains t=false→σ' t=σ t)→G1 ops Φ σ' h' cl→Cp ops o σ'→Pre k h'→
  Bi E o σ' ds h' fun σ'' ds'' h''=>ds''=ds∧St R Pre Φ cl k h' h''∧∃v,σ''=putS σ' o.dst v∧F9 Φ k σ'' v h''∧(o.dst=none→v=undef)
def Jg (R:GH→GH→Prop) (Pre:Nat→GH→Prop) (E:Gm P) (ops:List Oper) (n:Nat) (Φ:List IL) (σ:Nat→Value) (ds:List Deferred) (h:GH) (Q:Post):Nat→Nat→List Oper→List (List Nat)→Prop
 | 0,k,rest,_=>∀σ' h',R h h'→(∀t,(DP ops n).contains t=false→σ' t=σ t)→G1 ops Φ σ' h' (List.range k)→EL E ops.toArray rest σ' ds h' Q
 | m+1,k,o ::rest,cl ::cls=>XM R Pre E ops n Φ σ ds h k o cl∧Jg R Pre E ops n Φ σ ds h Q m (k+1) rest cls
 | _,_,_,_=>False
theorem Jg.at {R:GH→GH→Prop} {Pre:Nat→GH→Prop} {ops:List Oper} {n:Nat} {Φ:List IL} {σ:Nat→Value} {ds:List Deferred} {h:GH} {Q:Post}:∀(m k:Nat) (rest:List Oper) (cls:List (List Nat)),
  Jg R Pre E ops n Φ σ ds h Q m k rest cls→(∀i o,i<m→rest[i]? =some o→XM R Pre E ops n Φ σ ds h (k+i) o (cls.getD i []))∧
   (∀σ' h',R h h'→(∀t,(DP ops n).contains t=false→σ' t=σ t)→G1 ops Φ σ' h' (List.range (k+m))→EL E ops.toArray (rest.drop m) σ' ds h' Q)
 | 0,k,rest,cls,x=>⟨fun i o hi=>by omega,x⟩
 | m+1,k,[],cls,x=>by cases cls <;> exact x.elim
 | m+1,k,o ::rest,[],x=>x.elim
 | m+1,k,o ::rest,cl ::cls,x=>by
  obtain ⟨h1,h2⟩:=x;obtain ⟨a,b⟩:=Jg.at m (k+1) rest cls h2;refine ⟨fun i o' hi ho=>?_,fun σ' h' hl hb hk=>?_⟩
  ·cases i with
   | zero=>simp at ho;subst ho;exact h1
   | succ i=>have:=a i o' (by omega) (by simpa using ho);rw [show k+(i+1)=k+1+i by omega];simpa using this
  ·rw [List.drop_succ_cons];exact b σ' h' hl hb (by rw [show k+1+m=k+(m+1) by omega];exact hk)
structure TJ (R:GH→GH→Prop) (Pre:Nat→GH→Prop) (l:List Oper) (n:Nat) (cls:List (List Nat)) (Φ:List IL) (σ:Nat→Value) (h:GH) (D:Nat→Bool) (σ':Nat→Value) (h':GH):Prop where
 le:R h h'
 base:∀t,(DP l n).contains t=false→σ' t=σ t
 lt:∀j,D j=true→j<n
 done:∀j,D j=true→OP l Φ σ' h' j
 clos:∀j,D j=true→∀i ∈ cls.getD j [],D i=true
 grd:∀j o,D j=true→l[j]? =some o→∀g w,o.guard=some (g,w)→D g=true
 pend:∀j,j<n→D j=false→Pre j h'
theorem AAH (R:GH→GH→Prop) {id:Nat} {l:List Oper} {σ:Nat→Value} {ds:List Deferred} {h:GH} {Q:Post} (n:Nat) (cls:List (List Nat)) (Φ:List IL) (Pre:Nat→GH→Prop)
  (hm:P.follows .mixedOrders=true) (ok:FI E.N l n cls=true) (rr:∀h,R h h) (rt:∀a b c,R a b→R b c→R a c) (p0:∀k,k<n→Pre k h) (ind:Rr l n cls Φ)
  (x:Jg R Pre E l n Φ σ ds h Q n 0 l cls):Tr E (.region id l.toArray true) σ ds h Q:=by
 obtain ⟨steps,fin⟩:=Jg.at n 0 l cls x;simp only [Nat.zero_add] at steps fin;have ok':=ok;unfold FI at ok';simp only [Bool.and_eq_true] at ok';have nd:(DP l n).Nodup:=of_decide_eq_true ok'.1.2;refine N2 n cls (TJ R Pre l n cls Φ σ h) hm ok ⟨rr h,fun _ _=>rfl,fun _ q=>(by cases q),fun _ q=>(by cases q),fun _ q=>(by cases q),fun _ _ q=>(by cases q),fun j hj _=>p0 j hj⟩ (fun D σ' h' i o I hin hiu ho hcl hgl=>?_) fun D σ' h' I hall=>fin σ' h' I.le I.base (G1.get fun j hj=>I.done j (hall j (List.mem_range.1 hj)));have hset:∀j,Hl D i j=if i=j then true else D j:=fun _=>rfl
 have next:∀(σ2:Nat→Value) (h2:GH) (v:Value),σ2=putS σ' o.dst v→St R Pre Φ (cls.getD i []) i h' h2→(Cp l o σ2→F9 Φ i σ2 v h2)→(o.dst=none→v=undef)→TJ R Pre l n cls Φ σ h (Hl D i) σ2 h2:=by
  rintro σ2 h2 v rfl hle hlaw hun;have hkeep:∀j oj e,j<n→j≠i→l[j]? =some oj→oj.dst=some e→putS σ' o.dst v e=σ' e:=fun j oj e hj hji hoj he=>by
   cases hd:o.dst with
   | none=>rfl
   | some d=>exact upd_ne σ' v (Ki (Dg nd hin hj (fun x=>hji x.symm) ho hoj hd he))
  refine ⟨rt _ _ _ I.le hle.1,fun u hu=>?_,fun j hjl=>?_,fun j hjl=>?_,fun j hjl q hq'=>?_,fun j oj hjl hoj g w hg=>?_,fun j hj hjl=>?_⟩
  ·rw [←I.base u hu];cases hd:o.dst with
   | none=>rfl
   | some d=>exact upd_ne σ' v (Ki fun e=>by rw [e,N1 hin ho hd] at hu;cases hu)
  ·rw [hset] at hjl;by_cases hij:i=j
   ·exact hij▸hin
   ·rw [if_neg hij] at hjl;exact I.lt j hjl
  ·rw [hset] at hjl;by_cases hij:i=j
   ·subst hij;unfold OP;rw [ho];intro hg
    have:IF o (putS σ' o.dst v)=v:=by
     cases hd:o.dst with
     | none=>rw [hun hd];simp [IF,hd]
     | some d=>simp [IF,hd,putS,upd]
    rw [this];exact hlaw hg
   ·rw [if_neg hij] at hjl;have K:=I.done j hjl;unfold OP at K ⊢;cases hoj:l[j]? with
    | none=>trivial
    | some oj=>
     rw [hoj] at K;simp only at K ⊢;intro hg;have hg':Cp l oj σ':=hg.congr fun g w og dg hgw hog hdg=>by
      have hgl':=I.grd j oj hjl hoj g w hgw;exact hkeep g og dg (I.lt g hgl') (fun e=>by rw [e,hiu] at hgl';cases hgl') hog hdg
     have hji:i ∉ cls.getD j []:=fun q=>by rw [I.clos j hjl i q] at hiu;cases hiu
     have:=hle.2.1 j (fun e=>hij e.symm) _ _ (K hg')
     have hsv:IF oj (putS σ' o.dst v)=IF oj σ':=by
      unfold IF;cases hdj:oj.dst with
      | none=>rfl
      | some e=>exact hkeep j oj e (I.lt j hjl) (fun x=>hij x.symm) hoj hdj
     rw [hsv];cases hd:o.dst with
     | none=>exact this
     | some d=>exact ind j i o d (I.lt j hjl) hin hij hji ho hd σ' v _ h2 this
  ·rw [hset] at hjl ⊢;split
   ·rfl
   ·rename_i hn
    by_cases hij:i=j
    ·subst hij;exact hcl q hq'
    ·rw [if_neg hij] at hjl;exact I.clos j hjl q hq'
  ·rw [hset] at hjl ⊢;split
   ·rfl
   ·by_cases hij:i=j
    ·subst hij;rw [ho] at hoj;cases hoj;exact hgl g w hg
    ·rw [if_neg hij] at hjl;exact I.grd j oj hjl hoj g w hg
  ·rw [hset] at hjl;by_cases hij:i=j
   ·rw [if_pos hij] at hjl;cases hjl
   ·rw [if_neg hij] at hjl;exact hle.2.2 j (fun e=>hij e.symm) (fun q=>by rw [hcl j q] at hjl;cases hjl) (I.pend j hj hjl)
 refine ⟨fun hG=>?_,fun hnG=>?_⟩
 ·exact Bi.mono (steps i o hin ho σ' h' I.le I.base (G1.get fun j hj=>I.done j (hcl j hj)) hG (I.pend i hin hiu)) fun σ2 ds2 h2 y=>⟨y.1,by
   obtain ⟨_,hle,v,hσ,hlaw,hun⟩:=y;exact next σ2 h2 v hσ hle (fun _=>hlaw) hun⟩
 ·refine next _ _ undef rfl ⟨rr _,fun _ _ _ _ z=>z,fun _ _ _ z=>z⟩ (fun hg=>?_) fun _=>rfl;refine absurd (hg.congr fun g w og dg hgw hog hdg=>?_) hnG;cases hd:o.dst with
  | none=>rfl
  | some d=>
   have hgi:g≠i:=fun e=>by have:=hgl g w hgw;rw [e,hiu] at this;cases this
   exact upd_ne σ' undef (Ki (Dg nd hin (I.lt g (hgl g w hgw)) (fun x=>hgi x.symm) ho hog hd hdg))
def D9 (S:Nat→Prop) (h h':GH):Prop:=Bl S h h'∧∀b,(∃o,h b=some o)→∃o,h' b=some o
theorem D9.refl (S:Nat→Prop) (h:GH):D9 S h h:=⟨Bl.refl _ _,fun _ x=>x⟩
theorem D9.trans {S:Nat→Prop} {a b c:GH} (x:D9 S a b) (y:D9 S b c):D9 S a c:=⟨x.1.trans (fun _ q=>.inl q) y.1,fun r q=>y.2 r (x.2 r q)⟩
theorem GH.Le.keepD {h h':GH} (l:h.Le h') (S:Nat→Prop):D9 S h h':=⟨l.keepX S,fun _ ⟨o,ho⟩=>let ⟨o',h1,_⟩:=l _ o.1 o.2 ho;⟨_,h1⟩⟩
theorem D9.nothing {S:Nat→Prop} {h h':GH} (k:D9 S h h') {r:Nat} (hr:h' r=none):h r=none:=by
 cases hx:h r with
 | none=>rfl
 | some x=>obtain ⟨o,ho⟩:=k.2 r ⟨x,hx⟩;rw [ho] at hr;cases hr
theorem D9.grown {α:Type} {S:Nat→Prop} {h0 h h':GH} {v v':Value} {t:TypeId} {n:Nat} {enc:α→Array Value} {xs:List α} (g:F2 h h' v v') (hv:∀b,Bw v=some b→S b) (o:AR h0 h' v' t n enc xs):D9 S h h':=
 ⟨fun b p o hb hX=>⟨o,g.1 b _ hb fun e=>hX (hv b e),.inl rfl⟩,fun b ⟨x,hx⟩=>by
  rcases g.2 with q | ⟨_,q⟩
  ·by_cases e:Bw v=some b
   ·exact o.inDom b (q.trans e)
   ·exact ⟨_,g.1 b x hx e⟩
  ·exact ⟨_,q b x hx⟩⟩
theorem AR.baseD {α:Type} {S:Nat→Prop} {h0 h00 h:GH} {v:Value} {t:TypeId} {n:Nat} {enc:α→Array Value} {xs:List α} (x:AR h0 h v t n enc xs) (k:D9 S h00 h0):AR h00 h v t n enc xs:=by
 rcases x with x | ⟨b,cap,c,h1,h2,h3,h4⟩
 ·exact .inl x
 ·exact .inr ⟨b,cap,c,h1,k.nothing h2,h3,h4⟩
def D5 (R:GH→GH→Prop):List IL→Prop
 | []=>True
 | φ ::l=>(∀σ v h h',R h h'→φ σ v h→φ σ v h')∧D5 R l
theorem D5.mono {R:GH→GH→Prop}:∀{Φ:List IL},D5 R Φ→∀k σ v h h',R h h'→F9 Φ k σ v h→F9 Φ k σ v h'
 | [],_,k,σ,v,h,h',_,x=>by cases k <;> exact x
 | φ ::l,ok,0,σ,v,h,h',r,x=>ok.1 σ v h h' r x
 | φ ::l,ok,k+1,σ,v,h,h',r,x=>D5.mono ok.2 k σ v h h' r x
theorem Xw {S:Nat→Prop} {id:Nat} {l:List Oper} {σ:Nat→Value} {ds:List Deferred} {h:GH} {Q:Post} (n:Nat) (cls:List (List Nat)) (Φ:List IL) (Pre:Nat→GH→Prop)
  (hm:P.follows .mixedOrders=true) (ok:FI E.N l n cls=true) (p0:∀k,k<n→Pre k h) (ind:Rr l n cls Φ) (x:Jg (D9 S) Pre E l n Φ σ ds h Q n 0 l cls):Tr E (.region id l.toArray true) σ ds h Q:=
 AAH (D9 S) n cls Φ Pre hm ok (fun h=>D9.refl S h) (fun _ _ _ x y=>x.trans y) p0 ind x
section
variable {Pre:Nat→GH→Prop} {Φ:List IL} {S:Nat→Prop} {k:Nat} {cl:List Nat} {h h':GH}
theorem St.same:St (D9 S) Pre Φ cl k h h:=⟨D9.refl _ _,fun _ _ _ _ z=>z,fun _ _ _ z=>z⟩
theorem St.ofLe (l:h.Le h') (m:D5 GH.Le Φ) (pm:∀k h h',GH.Le h h'→Pre k h→Pre k h'):St (D9 S) Pre Φ cl k h h':=⟨l.keepD S,fun j _ σ v z=>m.mono j σ v h h' l z,fun j _ _ z=>pm j h h' l z⟩
end
def QY (h0:GH) (w v:Value):Prop:=Bw v=Bw w∨∃r,Bw v=some r∧h0 r=none
theorem By.fromB {h0:GH} {w v:Value} (f:QY h0 w v) {r:Nat} {o:Bool×Obj} (hr:h0 r=some o) (x:By w r):By v r:=fun e=>by
 rcases f with q | ⟨b,q1,q2⟩
 ·exact x (q▸e)
 ·rw [q1] at e;cases e;rw [q2] at hr;cases hr
theorem QY.grown {h0 hk h':GH} {S:Nat→Prop} {w v:Value} (g:F2 hk h' w v) (k:D9 S h0 hk):QY h0 w v:=by
 rcases g.2 with q | ⟨⟨r,q1,q2⟩,_⟩
 ·exact .inl q
 ·exact .inr ⟨r,q1,k.nothing q2⟩
theorem AR.apartTy {α β:Type} {h0 h1 h:GH} {v w:Value} {t t':TypeId} {n n':Nat} {enc:α→Array Value} {enc':β→Array Value} {xs:List α} {ys:List β} (x:AR h0 h v t n enc xs) (y:AR h1 h w t' n' enc' ys) (ne:t≠t'):Apart v w:=fun b e e'=>by
 rcases x with ⟨rfl,_⟩ | ⟨b1,_,c1,rfl,_,h2,_⟩
 ·cases e
 ·rcases y with ⟨rfl,_⟩ | ⟨b2,_,c2,rfl,_,h3,_⟩
  ·cases e'
  ·simp only [Bw,Option.some.injEq] at e e';subst e;subst e';rw [h2] at h3;simp only [Option.some.injEq,Prod.mk.injEq,Obj.cells.injEq] at h3;exact ne h3.2.2.1
theorem AR.apartNew {α β:Type} {h1 h h2:GH} {v w:Value} {t t':TypeId} {n n':Nat} {enc:α→Array Value} {enc':β→Array Value} {xs:List α} {ys:List β} (x:AR h1 h2 w t n enc xs) (y:AR h2 h v t' n' enc' ys):Apart w v:=fun b e e'=>by
 obtain ⟨o,ho⟩:=x.inDom b e;rw [y.fresh b e'] at ho;cases ho
theorem Bl.leBase {S:Nat→Prop} {hb h h':GH} (k:Bl S h h') (l:hb.Le h) (hS:∀b,S b→hb b=none):hb.Le h':=fun b p o hx=>by
 obtain ⟨o1,h1,h2⟩:=l b p o hx;obtain ⟨o2,h3,h4⟩:=k b p o1 h1 fun q=>by rw [hS b q] at hx;cases hx
 refine ⟨o2,h3,?_⟩;rcases h2 with rfl | h2
 ·exact h4
 ·rcases h4 with rfl | h4
  ·exact .inr h2
  ·exact .inr ⟨h2.1,h4.2⟩
theorem AR.keepD {α:Type} {S:Nat→Prop} {h0 h h':GH} {v:Value} {t:TypeId} {n:Nat} {enc:α→Array Value} {xs:List α} (x:AR h0 h v t n enc xs) (k:D9 S h h') (hS:∀b,Bw v=some b→¬S b):AR h0 h' v t n enc xs:=by
 rcases x with x | ⟨b,cap,c,rfl,h2,h3,h4⟩
 ·exact .inl x
 ·exact .inr ⟨b,cap,c,rfl,h2,k.1.box h3 (hS b rfl) rfl,h4⟩
end
end Go.Ns
namespace Go.Ns
open Go.Conc
section
variable {P:Program} {E:Gm P} {σ:Nat→Value} {ds:List Deferred} {h:GH} {T:(Nat→Value)→List Deferred→GH→Prop}
variable {dst:Option Nat} {ty:TypeId} {pos:String} {af:Array Edge} {gd:Option (Nat×Bool)}
def Rs:Value→Bool
 | .slice none _ _=>true
 | _=>false
theorem Xx {xt yt:TypeId} {x y:Operand} {a:Option Addr} {l c:Nat} (ht:Jd P xt=true) (hx:AU σ x=.slice a l c) (hy:AU σ y=.slice none 0 0) (k:T (putS σ dst (.bool (Rs (.slice a l c)))) ds h) :
  Bi E ⟨dst,.binOp .eql xt x y yt,ty,pos,af,gd⟩ σ ds h T:=by
 unfold Bi execOp;simp only [hx,hy];refine F0 (AG _ _ ?_);show Sem.gh P (do pure (Value.bool (←Op.equal xt (.slice a l c) (.slice none 0 0))):Sem Value) h _;refine AG _ _ ?_;unfold Op.equal Op.maxDepth;show (Op.equalIn (9999+1) xt (.slice a l c) (.slice none 0 0)).gh P h _;unfold Op.equalIn;unfold Jd at ht;cases hu:P.underlying xt with
 | none=>rw [hu] at ht;cases ht
 | some d=>
  rw [hu] at ht;refine AG _ _ (Aq hu ?_);cases d <;> first | (cases ht;done) | skip
  cases a with
  | none=>exact k
  | some a=>exact k
theorem U0 {α:Type} {xt yt:TypeId} {x y:Operand} {v:Value} {n:Nat} {enc:α→Array Value} {xs:List α} (ht:Jd P xt=true) (s:AJ h v n enc xs) (hx:AU σ x=v) (hy:AU σ y=.slice none 0 0) (k:T (putS σ dst (.bool (Rs v))) ds h) :
  Bi E ⟨dst,.binOp .eql xt x y yt,ty,pos,af,gd⟩ σ ds h T:=by
 obtain ⟨a,cap,rfl,_⟩:=s;exact Xx ht hx hy k
theorem U1 {α:Type} {v:Value} {n:Nat} {enc:α→Array Value} {xs:List α} (s:AJ h v n enc xs) (e:Rs v=true):xs=[]:=by
 obtain ⟨a,cap,rfl,_,_,q⟩:=s;cases a with
 | some a=>cases e
 | none=>
  cases xs with
  | nil=>rfl
  | cons x xs=>obtain ⟨b,off,h1,_⟩:=q 0 (by simp);cases h1
theorem AAI {a:Int} {k:Nat} (h:k≤63):a.fdiv (2 ^ (min ((k:Int)).toNat IntKind.i64.bits))=a.fdiv (2 ^ k):=by
 have:min ((k:Int)).toNat IntKind.i64.bits=k:=by
  show min ((k:Int)).toNat 64=k;omega
 rw [this]
theorem AAJ {k:Nat} (h:k≤60):IntKind.i64.wrap (1*2 ^ (min ((k:Int)).toNat IntKind.i64.bits))=2 ^ k:=by
 have:min ((k:Int)).toNat IntKind.i64.bits=k:=by
  show min ((k:Int)).toNat 64=k;omega
 rw [this,Int.one_mul];have h1:(2:Int) ^ k≤2 ^ 60:=by
  have:=Nat.pow_le_pow_right (show 0<2 by decide) h
  exact_mod_cast this
 have h2:(0:Int)≤2 ^ k:=by
  have:=Nat.zero_le (2 ^ k)
  exact_mod_cast this
 exact IntWalk.i64_in _ (by omega)
end
theorem OQ {a:Int} (h:0≤a∧a≤65535) (k:Nat):0≤a.fdiv (2 ^ k)∧a.fdiv (2 ^ k)≤65535:=by
 have hp:(0:Int)<2 ^ k:=by
  have:=Nat.pow_pos (n:=k) (show 0<2 by decide)
  exact_mod_cast this
 rw [Int.fdiv_eq_ediv_of_nonneg _ (Int.le_of_lt hp)];refine ⟨Int.ediv_nonneg h.1 (Int.le_of_lt hp),Int.le_trans (Int.ediv_le_self _ h.1) h.2⟩
def HP (mask:Int) (k:Nat):Bool:=decide (mask.fdiv (2 ^ k)%2=1)
def Cv (cs:List AF) (mask:Int) (k:Nat):List AF:=((List.range k).filter (HP mask)).map fun (i:Nat)=>cs.getD i AF.z
def BJ (mask:Int) (k:Nat):List Int:=((List.range k).filter (HP mask)).map fun (i:Nat)=>(i:Int)
theorem Jh {p:Nat→Bool} {k:Nat} (h:p k=true):(List.range (k+1)).filter p=(List.range k).filter p++[k]:=by
 rw [List.range_succ,List.filter_append];simp [h]
theorem Ji {p:Nat→Bool} {k:Nat} (h:p k=false):(List.range (k+1)).filter p=(List.range k).filter p:=by
 rw [List.range_succ,List.filter_append];simp [h]
theorem pickC_t {cs:List AF} {mask:Int} {k:Nat} (h:mask.fdiv (2 ^ k)%2=1):Cv cs mask (k+1)=Cv cs mask k++[cs.getD k AF.z]:=by
 unfold Cv;rw [Jh (by unfold HP;rw [decide_eq_true h]),List.map_append];rfl
theorem pickC_f {cs:List AF} {mask:Int} {k:Nat} (h:¬mask.fdiv (2 ^ k)%2=1):Cv cs mask (k+1)=Cv cs mask k:=by
 unfold Cv;rw [Ji (by unfold HP;rw [decide_eq_false h])]
theorem XN {mask:Int} {k:Nat} (h:mask.fdiv (2 ^ k)%2=1):BJ mask (k+1)=BJ mask k++[(k:Int)]:=by
 unfold BJ;rw [Jh (by unfold HP;rw [decide_eq_true h]),List.map_append];rfl
theorem XO {mask:Int} {k:Nat} (h:¬mask.fdiv (2 ^ k)%2=1):BJ mask (k+1)=BJ mask k:=by
 unfold BJ;rw [Ji (by unfold HP;rw [decide_eq_false h])]
theorem QZ (cs:List AF) (mask:Int) (k:Nat):(Cv cs mask k).length≤k:=by
 unfold Cv;rw [List.length_map]
 have:=List.length_filter_le (HP mask) (List.range k)
 rwa [List.length_range] at this
theorem Qa (mask:Int) (k:Nat):(BJ mask k).length≤k:=by
 unfold BJ;rw [List.length_map]
 have:=List.length_filter_le (HP mask) (List.range k)
 rwa [List.length_range] at this
def Pu (a b:Int):Int:=if a<b then-1 else if b<a then 1 else 0
def J4 (a b:List Int):Nat→Nat→Int
 | 0,_=>if (a.length:Int)<b.length then-1 else 0
 | f+1,k=>if (b.length:Int)≤k then 1 else if¬Pu (a.getD k 0) (b.getD k 0)=0 then Pu (a.getD k 0) (b.getD k 0) else J4 a b f (k+1)
def Pv (a b:List Int):Int:=J4 a b a.length 0
theorem M3 {a b:List Int} {k:Nat} (hk:¬(k:Int)<a.length):J4 a b (a.length-k) k=if (a.length:Int)<b.length then-1 else 0:=by
 rw [show a.length-k=0 by omega];rfl
theorem Kr {a b:List Int} {k:Nat} (hk:k<a.length):J4 a b (a.length-k) k=if (b.length:Int)≤k then 1 else if¬Pu (a.getD k 0) (b.getD k 0)=0 then Pu (a.getD k 0) (b.getD k 0) else J4 a b (a.length-(k+1)) (k+1):=by
 rw [show a.length-k=(a.length-(k+1))+1 by omega];rfl
def Ru (a b:List Int):Bool:=decide ((a.length:Int)<b.length) || (decide ((a.length:Int)=b.length) && decide (Pv a b<0))
abbrev Sl:=Value×List Int
def Sl.z:Sl:=(.slice none 0 0,[])
def Ii (x:Sl):Array Value:=#[x.1]
def B8 (h:GH) (l:List Sl):Prop:=∀k,AJ h (l.getD k Sl.z).1 1 eI (l.getD k Sl.z).2
theorem B8.le {h h':GH} {l:List Sl} (x:B8 h l) (e:h.Le h'):B8 h' l:=fun k=>(x k).le e
theorem B8.nil (h:GH):B8 h []:=fun k=>by
 rw [B2 (by simp)];exact AJ.nil _ _ _
theorem B8.snoc {h:GH} {l:List Sl} {x:Sl} (a:B8 h l) (b:AJ h x.1 1 eI x.2):B8 h (l++[x]):=fun k=>by
 rcases Nat.lt_trichotomy k l.length with q | q | q
 ·have e:(l++[x]).getD k Sl.z=l.getD k Sl.z:=by simp [List.getD_eq_getElem?_getD,List.getElem?_append_left q]
  rw [e];exact a k
 ·have e:(l++[x]).getD k Sl.z=x:=by subst q;simp [List.getD_eq_getElem?_getD]
  rw [e];exact b
 ·rw [B2 (by simp;omega)];exact AJ.nil _ _ _
def Lc (x c:List Int):List Int:=if Ru x c then x else c
def JQ (c:List Int) (l:List (List Int)):List Int:=l.foldl (fun c x=>Lc x c) c
def A8 (l:List Sl):List (List Int):=l.map (·.2)
theorem Cg {l:List Sl} {k:Nat} (hk:k<l.length):(A8 l).getD k []=(l.getD k Sl.z).2:=by
 unfold A8;rw [BW [] (by simpa using hk),BW Sl.z hk];simp
theorem OR {c:List Int} {l:List Sl} {k:Nat} (hk:k<l.length):JQ c ((A8 l).take (k+1))=Lc (l.getD k Sl.z).2 (JQ c ((A8 l).take k)):=by
 rw [CN [] (by simpa [A8] using hk),Cg hk];unfold JQ;rw [List.foldl_append];rfl
def DK (d:Int) (gs:List Good) (ms:List AB) (cs:List AF) (mo:Int):Bool:= !(AV d gs ms cs mo).isEmpty
theorem someB_t {d:Int} {gs:List Good} {ms:List AB} {cs:List AF} {mo:Int} (h:AV d gs ms cs mo≠[]):DK d gs ms cs mo=true:=by
 unfold DK;cases hx:AV d gs ms cs mo with
 | nil=>exact absurd hx h
 | cons _ _=>rfl
theorem someB_f {d:Int} {gs:List Good} {ms:List AB} {cs:List AF} {mo:Int} (h:AV d gs ms cs mo=[]):DK d gs ms cs mo=false:=by
 unfold DK;rw [h];rfl
def AAK {α:Type} (hB:GH) (r:Nat) (T:TypeId) (pre:List α) (Y:Nat→Prop) (h:GH):Prop:=pre=[]∧h r=some (true,.cells #[.bool false] T (0,0))∧hB r=none∧∀b,Y b↔b=r
def AAL {α:Type} (r:Nat) (T:TypeId) (all:List α) (c:Code) (h:GH):Prop:=c=.ret∧h r=some (true,.cells #[.bool true] T (0,0))∧all≠[]
theorem OS {α:Type} (hB:GH) (r:Nat) (T:TypeId):Ix hB (AAK (α:=α) hB r T):=by
 refine ⟨?_,?_⟩
 ·rintro pre Y h b ⟨_,h1,_,h2⟩ hb;rw [h2] at hb;subst hb;exact ⟨_,_,h1,rfl⟩
 ·rintro pre Y h h' ⟨h0,h1,h3,h2⟩ same _;exact ⟨h0,(same r ((h2 r).2 rfl)).trans h1,h3,h2⟩
theorem TK {α:Type} {hB h:GH} {r:Nat} {T:TypeId} (nr:hB r=none) (x:h r=some (true,.cells #[.bool false] T (0,0))):AAK (α:=α) hB r T [] (fun b=>b=r) h:=⟨rfl,x,nr,fun _=>Iff.rfl⟩
theorem Rv {α:Type} {r:Nat} {T:TypeId} {all:List α}:∀c (h h':GH) l lo,AAL r T all c h→h l=some (true,.loop lo)→(∀b,b≠l→h' b=h b)→AAL r T all c h':=by
 rintro c h h' l lo ⟨q1,q2,q3⟩ hl ho;exact ⟨q1,(ho _ fun e=>by subst e;rw [q2] at hl;cases hl).trans q2,q3⟩
end Go.Ns
namespace Go.Ns
open Go.Conc
abbrev Key:=Int×Int×Int
def KH (a:Key):Value:=.agg #[.int .i64 a.1,.int .i64 a.2.1,.int .i64 a.2.2]
def Ed (n:Int):Value:=.int .i64 n
def Ah (ms:List AB) (pasts:List AT) (r:Nat) (h:GH):Prop:=
 ∃M:Key→Option Int,E6 h r KH Ed M∧∀a v,M a=some v→v=(AN ms (pasts.getD a.1.toNat AT.zero) a.2.1 a.2.2).1
theorem Ah.same {ms:List AB} {pasts:List AT} {r:Nat} {h h':GH} (x:Ah ms pasts r h) (e:h' r=h r):Ah ms pasts r h':=by
 obtain ⟨M,h1,h2⟩:=x;exact ⟨M,h1.le_other e,h2⟩
theorem Ah.known {ms:List AB} {pasts:List AT} {r:Nat} {h:GH} (x:Ah ms pasts r h):∃o,h r=some (true,o):=by
 obtain ⟨M,⟨es,clk,h1,_⟩,_⟩:=x;exact ⟨_,h1⟩
structure CR (hB:GH) (ms:List AB) (pasts:List AT) (r:Nat) (h hc:GH):Prop where
 ok:Ah ms pasts r hc
 keep:Bl (fun b=>b=r) h hc
 base:hB.Le hc
def JY (hB:GH) (ms:List AB) (pasts:List AT) (r:Nat) (h h':GH):Prop:=Ah ms pasts r h'∧Bl (fun b=>b=r) h h'∧hB.Le h'
section
variable {hB h hc h':GH} {ms:List AB} {pasts:List AT} {r:Nat}
theorem CR.start (x:Ah ms pasts r h) (l:hB.Le h):CR hB ms pasts r h h:=⟨x,Bl.refl _ _,l⟩
theorem CR.le (y:CR hB ms pasts r h hc) (l:hc.Le h'):CR hB ms pasts r h h':=by
 obtain ⟨o,ho⟩:=y.ok.known;exact ⟨y.ok.same ((l.keep ho rfl).trans ho.symm),y.keep.trans (fun _ q=>.inl q) (l.keepX _),y.base.trans l⟩
theorem CR.store (y:CR hB ms pasts r h hc) {q:Nat} (hq:h q=none) (qB:hB q=none) (hn:q≠r) (ho:∀b,b≠q→h' b=hc b):CR hB ms pasts r h h':=
 ⟨y.ok.same (ho r (Ne.symm hn)),y.keep.store hq ho,y.base.upd qB ho⟩
theorem CR.app {v v':Value} (y:CR hB ms pasts r h hc) (g:F2 hc h' v v') (f:By v r) (hv:∀b,Bw v=some b→h b=none) (hvB:∀b,Bw v=some b→hB b=none):CR hB ms pasts r h h':=by
 obtain ⟨o,ho⟩:=y.ok.known;refine ⟨y.ok.same ((g.1 r _ ho f).trans ho.symm),fun b p o hb hX=>?_,GH.Le.grown g y.base hvB⟩;obtain ⟨o',h1,h2⟩:=y.keep b p o hb hX;exact ⟨o',g.1 b _ h1 (fun e=>by rw [hv b e] at hb;cases hb),h2⟩
theorem CR.call (y:CR hB ms pasts r h hc) (m:JY hB ms pasts r hc h'):CR hB ms pasts r h h':=⟨m.1,y.keep.trans (fun _ q=>.inl q) m.2.1,m.2.2⟩
theorem CR.ne (y:CR hB ms pasts r h hc) {q:Nat} (hq:hc q=none):q≠r:=fun e=>by
 obtain ⟨o,ho⟩:=y.ok.known;rw [e,ho] at hq;cases hq
theorem CR.res (y:CR hB ms pasts r h hc):JY hB ms pasts r h hc:=⟨y.ok,y.keep,y.base⟩
end
theorem Key.eq_iff (a b:Key):(a.1==b.1 && (a.2.1==b.2.1 && (a.2.2==b.2.2 && true)))=decide (a=b):=by
 obtain ⟨a1,a2,a3⟩:=a;obtain ⟨b1,b2,b3⟩:=b;simp only [Bool.and_true,Prod.mk.injEq];by_cases h1:a1=b1 <;> by_cases h2:a2=b2 <;> by_cases h3:a3=b3 <;> simp [h1,h2,h3]
section
variable {P:Program} {E:Gm P} {σ:Nat→Value} {ds:List Deferred} {h:GH} {T:(Nat→Value)→List Deferred→GH→Prop}
variable {dst:Option Nat} {ty:TypeId} {pos:String} {af:Array Edge} {gd:Option (Nat×Bool)}
theorem Rw {t kt vt:TypeId} {x ix:Operand} {r d:Nat} {ms:List AB} {pasts:List AT} {i g dy:Int} (ht:KM P t=some (kt,vt)) (hx:AU σ x=.map (some r)) (hk:AU σ ix=.agg #[.int .i64 i,.int .i64 g,.int .i64 dy]) (hm:Ah ms pasts r h) (hd:Nat.ble (d+1) 10000=true)
  (hc:∀a,Z8 P (d+1) kt (KH a)=true) (he:∀a b,N5 P (d+1) kt (KH a) (KH b)=some (a.1==b.1 && (a.2.1==b.2.1 && (a.2.2==b.2.2 && true)))) (hz:(P.info? vt).bind (·.zero)=some (.int .i64 0))
  (k:∀(n:Int) (is:Bool),(is=true→n=(AN ms (pasts.getD i.toNat AT.zero) g dy).1)→T (putS σ dst (.tuple #[.int .i64 n,.bool is])) ds h):Bi E ⟨dst,.lookup t x ix true,ty,pos,af,gd⟩ σ ds h T:=by
 obtain ⟨M,h1,h2⟩:=hm;refine QP (a:=(i,g,dy)) (z:=.int .i64 0) ht hx hk h1 hd (hc _) (fun b=>by rw [he,Key.eq_iff]) hz ?_;cases hM:M (i,g,dy) with
 | none=>exact k 0 false (by intro e;cases e)
 | some v=>exact k v true fun _=>h2 _ _ hM
theorem TL {t kt vt:TypeId} {om ok ox:Operand} {r d:Nat} {ms:List AB} {pasts:List AT} {i g dy n:Int} (ht:KM P t=some (kt,vt)) (hm':AU σ om=.map (some r)) (hk:AU σ ok=.agg #[.int .i64 i,.int .i64 g,.int .i64 dy]) (hv:AU σ ox=.int .i64 n) (hm:Ah ms pasts r h) (hd:Nat.ble (d+1) 10000=true)
  (hc:∀a,Z8 P (d+1) kt (KH a)=true) (he:∀a b,N5 P (d+1) kt (KH a) (KH b)=some (a.1==b.1 && (a.2.1==b.2.1 && (a.2.2==b.2.2 && true)))) (hs:∀a,Instr.sameBits 10000 (KH a) (KH a)=true) (hn:n=(AN ms (pasts.getD i.toNat AT.zero) g dy).1)
  (k:∀h',Ah ms pasts r h'→(∀b,b≠r→h' b=h b)→T (putS σ dst undef) ds h'):Bi E ⟨dst,.mapUpdate t om ok ox,ty,pos,af,gd⟩ σ ds h T:=by
 obtain ⟨M,h1,h2⟩:=hm;refine LV (a:=(i,g,dy)) (v:=n) (ek:=KH) (ev:=Ed) ht hm' hk hv h1 hd (hc _) (fun b=>by rw [he,Key.eq_iff]) (hs _) fun h' g1 g2=>k h' ⟨_,g1,fun a v hav=>?_⟩ g2;by_cases e:a=(i,g,dy)
 ·subst e;rw [if_pos rfl] at hav;cases hav;exact hn
 ·rw [if_neg e] at hav;exact h2 a v hav
end
section
variable {hB h hc h':GH} {ms:List AB} {pasts:List AT} {r:Nat}
theorem CR.nothing (y:CR hB ms pasts r h hc) {q:Nat} (hq:hc q=none):h q=none:=by
 cases hx:h q with
 | none=>rfl
 | some x=>
  obtain ⟨o',h1,_⟩:=y.keep q x.1 x.2 hx (y.ne hq);rw [h1] at hq;cases hq
theorem Ah.le (x:Ah ms pasts r h) (l:h.Le h'):Ah ms pasts r h':=by
 obtain ⟨o,ho⟩:=x.known;exact x.same ((l.keep ho rfl).trans ho.symm)
theorem Ah.empty (x:h r=some (true,.map #[] 0)):Ah ms pasts r h:=⟨fun _=>none,E6.empty x,fun a v e=>by cases e⟩
theorem Ah.neCells {b:Nat} {p:Bool} {c:Array Value} {t:TypeId} {z:Nat×Nat} (x:Ah ms pasts r h) (hb:h b=some (p,.cells c t z)):b≠r:=fun e=>by
 obtain ⟨M,⟨es,clk,h1,_⟩,_⟩:=x;rw [e,h1] at hb;cases hb
theorem AR.keepX {α:Type} {X:Nat→Prop} {h0:GH} {v:Value} {t:TypeId} {n:Nat} {enc:α→Array Value} {xs:List α} (x:AR h0 h v t n enc xs) (k:Bl X h h') (hS:∀b,Bw v=some b→¬X b):AR h0 h' v t n enc xs:=by
 rcases x with x | ⟨b,cap,c,rfl,h2,h3,h4⟩
 ·exact .inl x
 ·exact .inr ⟨b,cap,c,rfl,h2,k.box h3 (hS b rfl) rfl,h4⟩
theorem AJ.slDel {α:Type} {v:Value} {n:Nat} {enc:α→Array Value} {xs:List α} (x:AJ h v n enc xs) {p:Bool} {es:Array MapEntry} {clk:Nat} (hr:h r=some (p,.map es clk)):AJ (h.del r) v n enc xs:=by
 obtain ⟨a,cap,hv,hc,hm,he⟩:=x;refine ⟨a,cap,hv,hc,hm,fun i hi=>?_⟩;obtain ⟨b,off,h1,h2⟩:=he i hi;refine ⟨b,off,h1,h2.del fun e=>?_⟩;obtain ⟨p',c,t,f,hb,_⟩:=h2;rw [e,hr] at hb;cases hb
theorem Ah.slDel {α:Type} (k:Ah ms pasts r h) {v:Value} {n:Nat} {enc:α→Array Value} {xs:List α} (x:AJ h v n enc xs):AJ (h.del r) v n enc xs:=by
 obtain ⟨M,⟨es,clk,h1,_⟩,_⟩:=k;exact x.slDel h1
end
section
variable {P:Program} {E:Gm P} {σ:Nat→Value} {ds:List Deferred} {h:GH}
end
theorem Rx (a:Key):Instr.sameBits 10000 (KH a) (KH a)=true:=by
 have hi:∀(n:Nat) (x:Int),Instr.sameBits n (.int .i64 x) (.int .i64 x)=true:=fun n x=>by
  cases n <;> (unfold Instr.sameBits;simp)
 unfold KH;show Instr.sameBits (9999+1) _ _=true;unfold Instr.sameBits;simp only [List.zip_cons_cons,List.zip_nil_left,List.all_cons,List.all_nil,hi];simp
def Af (d m:Int) (gs:List Good) (ms:List AB) (cs:List AF) (o:List Int):Int:=
 if¬Ak d m gs ms cs=0 then Ak d m gs ms cs else if¬Dh (fun k=>o.getD k 0) 0 o.length=0 then Dh (fun k=>o.getD k 0) 0 o.length else if (AV d gs ms cs m).length=0 then 9 else 0
section
variable {d m:Int} {gs:List Good} {ms:List AB} {cs:List AF} {o:List Int}
theorem OT (h:¬Ak d m gs ms cs=0):Af d m gs ms cs o=Ak d m gs ms cs:=by unfold Af;rw [if_pos h]
theorem OU (h:¬¬Ak d m gs ms cs=0) {k:Nat} (hs:∀j,j<k→o.getD j 0=0) (hk:k<o.length) (h2:¬o.getD k 0=0):Af d m gs ms cs o=o.getD k 0:=by
 unfold Af;rw [if_neg h,BX (f:=fun k=>o.getD k 0) hs hk rfl h2,if_pos h2]
theorem OV (h:¬¬Ak d m gs ms cs=0) {k:Nat} (hs:∀j,j<k→o.getD j 0=0) (hk:o.length≤k) (h2:(AV d gs ms cs m).length=0):Af d m gs ms cs o=9:=by
 unfold Af;rw [if_neg h,Ce (f:=fun k=>o.getD k 0) hs hk,if_neg (by simp),if_pos h2]
theorem U2 (h:¬¬Ak d m gs ms cs=0) {k:Nat} (hs:∀j,j<k→o.getD j 0=0) (hk:o.length≤k) (h2:¬(AV d gs ms cs m).length=0):Af d m gs ms cs o=0:=by
 unfold Af;rw [if_neg h,Ce (f:=fun k=>o.getD k 0) hs hk,if_neg (by simp),if_neg h2]
theorem EK (h:Af d m gs ms cs o=0):At d m gs ms cs∧(∀k,k<o.length→o.getD k 0=0)∧0<(AV d gs ms cs m).length:=by
 unfold Af at h;split at h <;> first | (rename_i q;exact absurd h q) | skip
 split at h <;> first | (rename_i q;exact absurd h q) | skip
 split at h <;> first | (cases h;done) | skip
 rename_i a b c
 exact ⟨Iz (Decidable.not_not.1 a),fun k hk=>Fd (Decidable.not_not.1 b) k (Nat.zero_le _) (by omega),by omega⟩
end
end Go.Ns
namespace Go.Ns
open Go.Conc Go.Sort
def BP (rest:List Value) (d:Array Int):Array Value:=(d.toList.map (fun x=>Value.int .i64 x)++rest).toArray
theorem BH (rest:List Value) (d:Array Int):(BP rest d).size=d.size+rest.length:=by simp [BP]
theorem Ar {rest:List Value} {d:Array Int} {i:Nat} (h:i<d.size):(BP rest d)[0+i*1]? =some (.int .i64 d[i]!):=by
 have h1:i<(d.toList.map (fun x=>Value.int .i64 x)).length:=by simpa using h
 rw [Nat.zero_add,Nat.mul_one];unfold BP;rw [List.getElem?_toArray,List.getElem?_append_left h1,List.getElem?_map];simp [h,getElem!_pos]
theorem Bj {rest:List Value} {d:Array Int} {i:Nat} {v:Int} (h:i<d.size):B0 (BP rest d) (0+i*1) [.int .i64 v]=BP rest (d.setIfInBounds i v):=by
 rw [Nat.zero_add,Nat.mul_one];show (BP rest d).setIfInBounds i (.int .i64 v)=_;unfold BP;apply Array.toList_inj.1;have h1:i<(d.toList.map (fun x=>Value.int .i64 x)).length:=by simpa using h
 rw [Array.toList_setIfInBounds];simp only [];rw [List.set_append_left _ _ h1,Array.toList_setIfInBounds,List.map_set]
structure Al (b:Nat) (h hc:GH):Prop where
 keep:Bl (fun x=>x=b) h hc
 dom:∃o,hc b=some o
section
variable {b:Nat} {h hc h':GH}
theorem Al.start (x:∃o,h b=some o):Al b h h:=⟨Bl.refl _ _,x⟩
theorem Al.le (y:Al b h hc) (l:hc.Le h'):Al b h h':=⟨y.keep.trans (fun _ q=>.inl q) (l.keepX _),l.someOf y.dom⟩
theorem Al.put (y:Al b h hc) (ho:∀x,x≠b→h' x=hc x) (x:∃o,h' b=some o):Al b h h':=⟨y.keep.store' (.inl rfl) ho,x⟩
theorem Al.ne (y:Al b h hc) {q:Nat} (hq:hc q=none):q≠b:=fun e=>by
 obtain ⟨o,ho⟩:=y.dom;rw [e,ho] at hq;cases hq
theorem Al.nothing (y:Al b h hc) {q:Nat} (hq:hc q=none):h q=none:=by
 cases hx:h q with
 | none=>rfl
 | some x=>
  obtain ⟨o',h1,_⟩:=y.keep q x.1 x.2 hx (y.ne hq);rw [h1] at hq;cases hq
theorem Al.store (y:Al b h hc) {q:Nat} (hq:h q=none) (hn:q≠b) (ho:∀x,x≠q→h' x=hc x):Al b h h':=⟨y.keep.store hq ho,by rw [ho b (Ne.symm hn)];exact y.dom⟩
theorem Al.call (y:Al b h hc) (k:Bl (fun x=>x=b) hc h') (x:∃o,h' b=some o):Al b h h':=⟨y.keep.trans (fun _ q=>.inl q) k,x⟩
end
def GU (d:Array Int) (off:Nat):Array Int:=(d.toList.take off++List.replicate (d.size-off) 0).toArray
theorem Pw (d:Array Int) (off:Nat):(GU d off).size=d.size:=by simp [GU];omega
theorem Xy {a j:Nat} {dd:Array Int} (h:(a:Int)<(j:Int)∧dd[j]! <dd[((j:Int)-1).toNat]!) :
  insInner ltInt a j dd=insInner ltInt a (j-1) ((dd.setIfInBounds j dd[((j:Int)-1).toNat]!).setIfInBounds ((j:Int)-1).toNat dd[j]!):=by
 obtain ⟨h1,h2⟩:=h;cases j with
 | zero=>omega
 | succ j=>
  have e:(((j+1:Nat):Int)-1).toNat=j:=by omega
  rw [e] at h2 ⊢
  conv=>lhs;unfold insInner
  rw [if_pos (by unfold ltInt;simp;exact ⟨by omega,h2⟩)];rfl
theorem AAM {a j:Nat} {dd:Array Int} (h:¬((a:Int)<(j:Int)∧dd[j]! <dd[((j:Int)-1).toNat]!)):insInner ltInt a j dd=dd:=by
 cases j with
 | zero=>rfl
 | succ j=>
  have e:(((j+1:Nat):Int)-1).toNat=j:=by omega
  rw [e] at h;unfold insInner;rw [if_neg (by unfold ltInt;simp;intro q;exact Int.not_lt.1 fun r=>h ⟨by omega,r⟩)]
theorem Px {a b i:Nat} {dd:Array Int} (h:i<b):insOuter ltInt a b i dd=insOuter ltInt a b (i+1) (insInner ltInt a i dd):=by
 conv=>lhs;unfold insOuter
 rw [if_pos h]
theorem Ry {a b i:Nat} {dd:Array Int} (h:¬(i:Int)<b):insOuter ltInt a b i dd=dd:=by
 unfold insOuter;rw [if_neg (by omega)]
def JR (l:List Int):List Int:=(Go.Sort.sort ltInt l.toArray).toList
theorem Hr {a r:Int} {k:Nat} (h:k≤63) (e:a / 2 ^ k=r):a.fdiv (2 ^ (min ((k:Int)).toNat IntKind.u64.bits))=r:=by
 have:min ((k:Int)).toNat IntKind.u64.bits=k:=by
  show min ((k:Int)).toNat 64=k;omega
 have hp:(0:Int)≤2 ^ k:=by
  have:=Nat.zero_le (2 ^ k)
  exact_mod_cast this
 rw [this,Int.fdiv_eq_ediv_of_nonneg _ hp,e]
section
variable {P:Program} {E:Gm P} {σ:Nat→Value} {ds:List Deferred} {h:GH} {T:(Nat→Value)→List Deferred→GH→Prop}
variable {dst:Option Nat} {ty:TypeId} {pos:String} {af:Array Edge} {gd:Option (Nat×Bool)}
end
theorem XP (l:List Int):DJ eI l=l.map (fun x=>Value.int .i64 x):=by
 induction l with
 | nil=>rfl
 | cons x l ih=>show (eI x).toList++DJ eI l=_;rw [ih];rfl
theorem AR.row {h0 h:GH} {v:Value} {xs:List Int} (x:AR h0 h v 3 1 eI xs) (hne:xs≠[]) :
  ∃b cap rest,v=.slice (some ⟨b,0,none⟩) xs.toArray.size cap∧h b=some (true,.cells (BP rest xs.toArray) 3 (0,0)):=by
 rcases x with ⟨_,e⟩ | ⟨b,cap,c,rfl,h1,h2,h3,h4,h5,h6,h7⟩
 ·exact absurd e hne
 ·refine ⟨b,cap,c.toList.drop xs.length,by simp,?_⟩;have e:c=BP (c.toList.drop xs.length) xs.toArray:=by
   apply Array.toList_inj.1;unfold BP;simp only [];rw [←XP,←h6,Nat.mul_one,List.take_append_drop]
  rw [←e];exact h2
theorem AR.ofRow {h0 h h':GH} {b cap:Nat} {rest:List Value} {xs:List Int} {D:Array Int} (x:AR h0 h (.slice (some ⟨b,0,none⟩) xs.toArray.size cap) 3 1 eI xs) (hne:xs≠[]) (hD:D.size=xs.length) (hb:h b=some (true,.cells (BP rest xs.toArray) 3 (0,0))) (hb':h' b=some (true,.cells (BP rest D) 3 (0,0))) :
  AR h0 h' (.slice (some ⟨b,0,none⟩) xs.toArray.size cap) 3 1 eI D.toList:=by
 rcases x with ⟨e,_⟩ | ⟨b1,cap1,c,e,h1,h2,h3,h4,h5,h6,h7⟩
 ·cases e
 ·simp only [Value.slice.injEq,Option.some.injEq,Addr.mk.injEq] at e;obtain ⟨⟨rfl,_⟩,_,rfl⟩:=e;rw [hb] at h2;simp only [Option.some.injEq,Prod.mk.injEq,Obj.cells.injEq,true_and,and_true] at h2;subst h2;have hDl:D.toList.length=xs.length:=by rw [Array.length_toList];exact hD
  refine .inr ⟨b,cap,_,by rw [hDl];simp,h1,hb',?_,by omega,by omega,?_,fun y _=>rfl⟩
  ·rw [BH] at h3 ⊢;rw [hD];simpa using h3
  ·unfold BP;simp only [Nat.mul_one];rw [XP,←List.length_map (f:=fun x=>Value.int .i64 x),List.take_append_of_le_length (Nat.le_refl _),List.take_length]
theorem Bl.grownSame {h h':GH} {b cap n:Nat} (k:Bl (fun x=>x=b) h h'):F2 h h' (.slice (some ⟨b,0,none⟩) n cap) (.slice (some ⟨b,0,none⟩) n cap):=
 ⟨fun r o hr hn=>(by
  obtain ⟨o',h1,rfl | ⟨h2,_⟩⟩:=k r o.1 o.2 hr (fun e=>hn (by rw [e];rfl))
  ·exact h1
  ·cases h2),.inl rfl⟩
section
variable {P:Program} {E:Gm P} {σ:Nat→Value} {ds:List Deferred} {h:GH} {T:(Nat→Value)→List Deferred→GH→Prop}
variable {dst:Option Nat} {ty:TypeId} {pos:String} {af:Array Edge} {gd:Option (Nat×Bool)}
theorem U3 {t:TypeId} {x o:Operand} {b len cap hi:Nat} (ht:EI P t=some 1) (hc:len≤cap) (hx:AU σ x=.slice (some ⟨b,0,none⟩) len cap) (ho:∃kd,AU σ o=.int kd hi) (h2:hi≤len) (k:T (putS σ dst (.slice (some ⟨b,0,none⟩) hi cap)) ds h) :
  Bi E ⟨dst,.slice t x none (some o) none,ty,pos,af,gd⟩ σ ds h T:=by
 refine MN (olo:=none) (ohi:=some o) 0 hi ht hc hx rfl ho (Nat.zero_le _) h2 ?_;have e:(if cap=0 then (some ⟨b,0,none⟩:Option Addr) else (some ⟨b,0,none⟩:Option Addr).map (·.add (0*1)))=some ⟨b,0,none⟩:=by
  split
  ·rfl
  ·simp [Ip]
 rw [e];exact k
theorem Lf {t:TypeId} {x o:Operand} {b len cap lo:Nat} (ht:EI P t=some 1) (hc:len≤cap) (hx:AU σ x=.slice (some ⟨b,0,none⟩) len cap) (ho:∃kd,AU σ o=.int kd lo) (h2:lo<len) (k:T (putS σ dst (.slice (some ⟨b,lo,none⟩) (len-lo) (cap-lo))) ds h) :
  Bi E ⟨dst,.slice t x (some o) none none,ty,pos,af,gd⟩ σ ds h T:=by
 refine MN (olo:=some o) (ohi:=none) lo len ht hc hx ho rfl (Nat.le_of_lt h2) (Nat.le_refl _) ?_;have e:(if cap=lo then (some ⟨b,0,none⟩:Option Addr) else (some ⟨b,0,none⟩:Option Addr).map (·.add (lo*1)))=some ⟨b,lo,none⟩:=by
  rw [if_neg (by omega)];simp [Ip]
 rw [e];exact k
theorem TM {t e:TypeId} {x:Operand} {b off len cap:Nat} {rest:List Value} {d:Array Int} {z:Nat} (ht:Dt P t=some (1,#[.int .i64 0],e)) (hx:AU σ x=.slice (some ⟨b,off,none⟩) len cap) (hb:h b=some (true,.cells (BP rest d) z (0,0))) (hn:off+len=d.size) (hl:0<len)
  (k:∀h',h' b=some (true,.cells (BP rest (GU d off)) z (0,0))→(∀x,x≠b→h' x=h x)→T (putS σ dst (.tuple #[])) ds h') :
  Bi E ⟨dst,.call ⟨.builtin .clear,#[x],#[t]⟩,ty,pos,af,gd⟩ σ ds h T:=by
 refine FP (vs:=#[.slice (some ⟨b,off,none⟩) len cap]) (s:=Builtin.clear_ #[t] ty #[.slice (some ⟨b,off,none⟩) len cap]) (by simp [hx]) (fun _=>rfl) ?_;unfold Dt at ht;cases hu:P.underlying t with
 | none=>rw [hu] at ht;cases ht
 | some dd=>
 rw [hu] at ht;cases dd <;> first | (cases ht;done) | skip
 rename_i el
 simp only at ht;cases hty:CT P el with
 | none=>rw [hty] at ht;cases ht
 | some g=>
 cases hz:CA P el with
 | none=>rw [hty,hz] at ht;cases ht
 | some z'=>
 rw [hty,hz] at ht;simp only [Option.some.injEq,Prod.mk.injEq] at ht;obtain ⟨_,rfl,rfl⟩:=ht;unfold Builtin.clear_;simp only [List.getElem?_toArray,List.getElem?_cons_zero];refine AG _ _ (Aq hu ?_);obtain ⟨len,rfl⟩:∃m,len=m+1:=⟨len-1,by omega⟩;have hzero:∀{Q:Value→GH→Prop} {h:GH},(∀v,v.cells=#[.int .i64 0]→Q v h)→(zeroValue el).gh P h Q:=fun {Q h} q=>by
  unfold CA at hz;unfold zeroValue;cases hi:P.info? el with
  | none=>rw [hi] at hz;cases hz
  | some i=>
   rw [hi] at hz;simp only [Option.map_eq_some_iff] at hz;obtain ⟨v,hv,e⟩:=hz;refine AG _ _ (C4 hi ?_);rw [hv];exact q v e
 refine AG _ _ (hzero fun vz hvz=>?_);rw [hvz];have hcells:(Builtin.zeroCells #[.int .i64 0] (len+1)).toList=List.replicate (len+1) (.int .i64 0):=by
  unfold Builtin.zeroCells;apply List.ext_getElem
  ·simp
  ·intro i h1 h2;simp [Nat.mod_one]
 rw [hcells];have hsz:d.size=d.toList.length:=by simp
 refine AG _ _ (GL (a:=⟨b,off,none⟩) rfl _ 0 (BP rest d) h ?_ hb ?_ ?_)
 ·intro y hy;rw [List.eq_of_mem_replicate hy];rfl
 ·rw [BH,List.length_replicate];show off+0+(len+1)≤_;omega
 ·refine A1 (k _ ?_ fun x hx=>GH.set_ne _ _ _ hx);have e:B0 (BP rest d) (off+0) (List.replicate (len+1) (.int .i64 0))=BP rest (GU d off):=by
   apply Array.toList_inj.1;rw [ES _ _ _ (by rw [BH,List.length_replicate];omega)];unfold BP GU;simp only [List.length_replicate,Nat.add_zero,List.map_append,List.map_take,List.map_replicate];have h1:off≤(d.toList.map (fun x=>Value.int .i64 x)).length:=by simp;omega
   rw [List.take_append_of_le_length h1,show d.size-off=len+1 by omega];congr 1;rw [show off+(len+1)=(d.toList.map (fun x=>Value.int .i64 x)).length by simp;omega,List.drop_left]
  rw [←e];exact GH.set_same _ _ _ _
end
def Gn (acc:List Int) (x:Int):List Int:=if acc.getLast? =some x then acc else acc++[x]
def DR (l:List Int):List Int:=l.foldl Gn []
theorem OW (acc:List Int) (x:Int):(Gn acc x).getLast? =some x:=by
 unfold Gn;split
 ·assumption
 ·simp
theorem HQ {d:Array Int} {j:Nat} (hj:j<d.size):DR (d.toList.take (j+1))=Gn (DR (d.toList.take j)) d[j]! :=by
 have e:d.toList.take (j+1)=d.toList.take j++[d[j]!]:=by
  rw [List.take_succ_eq_append_getElem (by simpa using hj)];simp [getElem!_pos,hj]
 rw [e];unfold DR;rw [List.foldl_append];rfl
theorem U4 {d:Array Int} {j:Nat} (hj:j<d.size):(DR (d.toList.take (j+1))).getLast? =some d[j]! :=by
 rw [HQ hj];exact OW _ _
theorem MR {rest:List Value} {d:Array Int} {o i:Nat} (h:o+i<d.size):(BP rest d)[o+i*1]? =some (.int .i64 d[o+i]!):=by
 have:=Ar (rest:=rest) h
 rw [Nat.zero_add,Nat.mul_one] at this;rw [Nat.mul_one];exact this
theorem KR {d:Array Int} {j:Nat} (hj:j<d.size):d.toList.take (j+1)=d.toList.take j++[d[j]!]:=by
 rw [List.take_succ_eq_append_getElem (by simpa using hj)];simp [getElem!_pos,hj]
theorem I4 {d:Array Int} {j:Nat} (h1:1≤j) (hj:j≤d.size):(DR (d.toList.take j)).getLast? =some d[j-1]! :=by
 obtain ⟨i,rfl⟩:∃i,j=i+1:=⟨j-1,by omega⟩;exact U4 (by omega)
theorem Rz {d:Array Int} {k:Nat} (h1:1≤k) (hk:k<d.size) (h:¬d[k]! =d[((k:Int)-1).toNat]!) (hs:DR (d.toList.take k)=d.toList.take k):DR (d.toList.take (k+1))=d.toList.take (k+1):=by
 rw [HQ hk,KR hk];unfold Gn;rw [I4 h1 (by omega),if_neg (by rw [show ((k:Int)-1).toNat=k-1 by omega] at h;simpa using fun e=>h e.symm),hs]
theorem R0 {d:Array Int} {k:Nat} (h1:1≤k) (hk:k<d.size) (h:d[k]! =d[((k:Int)-1).toNat]!) (hs:DR (d.toList.take k)=d.toList.take k):d.toList.take k=DR (d.toList.take (k+1)):=by
 rw [HQ hk];unfold Gn;rw [I4 h1 (by omega),if_pos (by rw [show ((k:Int)-1).toNat=k-1 by omega] at h;rw [h]),hs]
theorem U5 {d dd:Array Int} {k q kk:Nat} (hq:1≤q∧k+q<d.size) (hkk:k≤kk∧kk+1≤k+q) (hsz:dd.size=d.size) (hd:∀j,kk≤j→dd[j]! =d[j]!) (hdd:dd.toList.take kk=DR (d.toList.take (k+q))) (h:¬dd[k+q]! =dd[k+((q:Int)-1).toNat]!) :
  (dd.setIfInBounds kk dd[k+q]!).toList.take (kk+1)=DR (d.toList.take (k+(q+1))):=by
 have e1:((q:Int)-1).toNat=q-1:=by omega
 rw [e1,hd _ (by omega),hd _ (by omega)] at h;rw [show k+(q+1)=(k+q)+1 by omega,HQ hq.2];unfold Gn;rw [I4 (by omega) (by omega),if_neg (by rw [show k+q-1=k+(q-1) by omega];simpa using fun e=>h e.symm),←hdd,hd _ (by omega),Array.toList_setIfInBounds];rw [List.take_succ_eq_append_getElem (by simp;omega),List.take_set_of_le (by omega)];simp
theorem U6 {d dd:Array Int} {k q kk:Nat} (hq:1≤q∧k+q<d.size) (hkk:k≤kk∧kk+1≤k+q) (hd:∀j,kk≤j→dd[j]! =d[j]!) (hdd:dd.toList.take kk=DR (d.toList.take (k+q))) (h:dd[k+q]! =dd[k+((q:Int)-1).toNat]!) :
  dd.toList.take kk=DR (d.toList.take (k+(q+1))):=by
 have e1:((q:Int)-1).toNat=q-1:=by omega
 rw [e1,hd _ (by omega),hd _ (by omega)] at h;rw [show k+(q+1)=(k+q)+1 by omega,HQ hq.2];unfold Gn;rw [I4 (by omega) (by omega),if_pos (by rw [show k+q-1=k+(q-1) by omega,h]),hdd]
theorem Xz {d dd:Array Int} {kk:Nat} {x:Int} (hd:∀j,kk≤j→dd[j]! =d[j]!):∀j,kk+1≤j→(dd.setIfInBounds kk x)[j]! =d[j]! :=fun j hj=>by
 rw [←hd j (by omega)];simp only [getElem!_def,Array.getElem?_setIfInBounds_ne (show kk≠j by omega)]
theorem Py {d:Array Int} {k:Nat} (h:k≤d.size):(GU d k).toList.take k=d.toList.take k:=by
 unfold GU;simp only [];rw [List.take_append_of_le_length (by simp;omega),List.take_take];simp
theorem TN {d:Array Int} (h:2≤d.size):DR (d.toList.take 1)=d.toList.take 1:=by
 have e:=KR (d:=d) (j:=0) (by omega);rw [Nat.zero_add] at e;rw [e];rfl
theorem TO {d:Array Int} {k:Nat} (hs:DR (d.toList.take k)=d.toList.take k) (h1:k≤d.size) (h2:d.size≤k):d.toList.take d.size=DR d.toList:=by
 rw [show k=d.toList.length by simp;omega,List.take_length] at hs;rw [hs,←Array.length_toList,List.take_length]
theorem TP {d:Array Int} (h:d.size<2):d.toList.take d.size=DR d.toList:=by
 rw [←Array.length_toList,List.take_length]
 have:d.toList.length<2:=by simpa using h
 match hd:d.toList,this with
 | [],_=>rfl
 | [x],_=>rfl
 | _ ::_ ::_,h=>simp at h;omega
theorem Jj (l:List Int):JR l=l.mergeSort (fun x y=>decide (x≤y)):=sortInt l
theorem I5 (l:List Int):(JR l).length=l.length:=by rw [Jj,List.length_mergeSort]
theorem TQ {l:List Int} (h:l≠[]):JR l≠[]:=fun e=>by
 have:=congrArg List.length e
 rw [I5] at this;exact h (List.length_eq_zero_iff.1 this)
end Go.Ns
namespace Go.Ns
open Go.Conc Go.Sort
theorem MS:SWO ltInt:=⟨fun x=>by unfold ltInt;simp,fun x y z=>by unfold ltInt;simp;omega,fun x y z=>by unfold ltInt;simp;omega⟩
theorem TR {d dd:Array Int} {a b i j:Nat} (h:PermIn a b d dd) (hi:a≤i∧i<b) (hj:a≤j∧j<b) (hb:b≤d.size):PermIn a b d ((dd.setIfInBounds i dd[j]!).setIfInBounds j dd[i]!):=
 permIn_trans _ _ _ a b h (swp_permIn dd a b i j hi.1 hi.2 hj.1 hj.2 (by rw [h.1];exact hb))
theorem AAN {hi first root:Nat} {dd:Array Int} (h:hi≤2*root+1):siftDown ltInt hi first root dd=dd:=by
 unfold siftDown;rw [dif_pos h]
theorem sift_r {hi first root:Nat} {dd:Array Int} (h:¬hi≤2*root+1) (h1:2*root+1+1<hi) (h1':dd[first+(2*root+1)]! <dd[first+(2*root+1)+1]!) (h2:dd[first+root]! <dd[first+(2*root+1+1)]!) :
  siftDown ltInt hi first root dd=siftDown ltInt hi first (2*root+1+1) (swp dd (first+root) (first+(2*root+1+1))):=by
 have h2':dd[first+root]! <dd[first+(2*root+2)]! :=h2
 conv=>lhs;unfold siftDown
 rw [dif_neg h,if_pos (by unfold ltInt;simpa using ⟨h1,h1'⟩),if_neg (by unfold ltInt;simpa using h2'),dif_pos (by omega)]
theorem sift_r0 {hi first root:Nat} {dd:Array Int} (h:¬hi≤2*root+1) (h1:2*root+1+1<hi) (h1':dd[first+(2*root+1)]! <dd[first+(2*root+1)+1]!) (h2:¬dd[first+root]! <dd[first+(2*root+1+1)]!) :
  siftDown ltInt hi first root dd=dd:=by
 have h2':¬dd[first+root]! <dd[first+(2*root+2)]! :=h2;unfold siftDown;rw [dif_neg h,if_pos (by unfold ltInt;simpa using ⟨h1,h1'⟩),if_pos (by unfold ltInt;simpa using h2')]
theorem sift_l {hi first root:Nat} {dd:Array Int} (h:¬hi≤2*root+1) (h1:¬(2*root+1+1<hi∧dd[first+(2*root+1)]! <dd[first+(2*root+1)+1]!)) (h2:dd[first+root]! <dd[first+(2*root+1)]!) :
  siftDown ltInt hi first root dd=siftDown ltInt hi first (2*root+1) (swp dd (first+root) (first+(2*root+1))):=by
 conv=>lhs;unfold siftDown
 rw [dif_neg h,if_neg (by unfold ltInt;simpa using h1),if_neg (by unfold ltInt;simpa using h2)]
theorem sift_l0 {hi first root:Nat} {dd:Array Int} (h:¬hi≤2*root+1) (h1:¬(2*root+1+1<hi∧dd[first+(2*root+1)]! <dd[first+(2*root+1)+1]!)) (h2:¬dd[first+root]! <dd[first+(2*root+1)]!) :
  siftDown ltInt hi first root dd=dd:=by
 unfold siftDown;rw [dif_neg h,if_neg (by unfold ltInt;simpa using h1),if_pos (by unfold ltInt;simpa using h2)]
theorem MT (hi first root:Nat) (d:Array Int):(siftDown ltInt hi first root d).size=d.size:=by
 fun_induction siftDown ltInt hi first root d <;> simp_all [swp]
theorem U7 {z a k:Nat} {dd:Array Int} (hk:(0:Int)≤(k:Int)-1):heapBuild ltInt (z-a) a k dd=heapBuild ltInt (z-a) a (k-1) (siftDown ltInt ((z:Int)-(a:Int)).toNat a ((k:Int)-1).toNat dd):=by
 obtain ⟨q,rfl⟩:∃q,k=q+1:=⟨k-1,by omega⟩;rw [show ((z:Int)-(a:Int)).toNat=z-a by omega,show (((q+1:Nat):Int)-1).toNat=q by omega];rfl
theorem X2 {z a k:Nat} {dd:Array Int} (hk:¬(0:Int)≤(k:Int)-1):heapBuild ltInt (z-a) a k dd=dd:=by
 obtain rfl:k=0:=by omega
 rfl
theorem U8 {a k:Nat} {dd:Array Int} (hk:(0:Int)≤(k:Int)-1):heapPop ltInt a k dd=heapPop ltInt a (k-1) (siftDown ltInt ((k:Int)-1).toNat a (0:Int).toNat ((dd.setIfInBounds a dd[((a:Int)+((k:Int)-1)).toNat]!).setIfInBounds ((a:Int)+((k:Int)-1)).toNat dd[a]!)):=by
 obtain ⟨q,rfl⟩:∃q,k=q+1:=⟨k-1,by omega⟩;rw [show ((a:Int)+(((q+1:Nat):Int)-1)).toNat=a+q by omega,show (((q+1:Nat):Int)-1).toNat=q by omega];rfl
theorem X3 {a k:Nat} {dd:Array Int} (hk:¬(0:Int)≤(k:Int)-1):heapPop ltInt a k dd=dd:=by
 obtain rfl:k=0:=by omega
 rfl
theorem EU {P:Program} {W:Wk P} {f:FuncId} {b cap m n:Nat} {as:List Value} {h:GH} {R:Value→GH→Prop} (e:m=n) (x:Ab W f (Value.slice (some ⟨b,0,none⟩) m cap ::as).toArray h R):Ab W f (Value.slice (some ⟨b,0,none⟩) n cap ::as).toArray h R:=e▸x
def U9 (dd:Array Int) (a j i:Nat):Nat:=scanUp (fun x=>ltInt x dd[a]!) dd j i
def X4 (dd:Array Int) (a i j:Nat):Nat:=scanDown (fun x=> !ltInt x dd[a]!) dd i j
def Zj (dd:Array Int) (a j i:Nat):Nat:=scanUp (fun x=> !ltInt dd[a]! x) dd j i
def dnE (dd:Array Int) (a i j:Nat):Nat:=scanDown (fun x=>ltInt dd[a]! x) dd i j
theorem Qb {p:Int→Bool} {dd:Array Int} {j i:Nat} (h1:i≤j) (h2:p dd[i]! =true):scanUp p dd j i=scanUp p dd j (i+1):=by
 conv=>lhs;unfold scanUp
 rw [if_pos (by simp [h1,h2])]
theorem OX {p:Int→Bool} {dd:Array Int} {j i:Nat} (h:¬(i≤j∧p dd[i]! =true)):scanUp p dd j i=i:=by
 unfold scanUp;rw [if_neg (by simpa using h)]
theorem M4 {p:Int→Bool} {dd:Array Int} {i j:Nat} (hi:1≤i) (h1:i≤j) (h2:p dd[j]! =true):scanDown p dd i j=scanDown p dd i (j-1):=by
 obtain ⟨q,rfl⟩:∃q,j=q+1:=⟨j-1,by omega⟩
 conv=>lhs;unfold scanDown
 rw [if_pos (by simp [h1,h2])];rfl
theorem Lg {p:Int→Bool} {dd:Array Int} {i j:Nat} (h:¬(i≤j∧p dd[j]! =true)):scanDown p dd i j=j:=by
 cases j with
 | zero=>rfl
 | succ q=>unfold scanDown;rw [if_neg (by simpa using h)]
section
variable {d dd:Array Int} {a z p i j i0 j0:Nat}
theorem TS {J:Int} (h:(i:Int)≤J∧dd[i]! <dd[a]!) (hJ:J=(j:Int)):U9 dd a j i=U9 dd a j (i+1):=Qb (by omega) (decide_eq_true h.2)
theorem XQ {J:Int} (h:¬((i:Int)≤J∧dd[i]! <dd[a]!)) (hJ:J=(j:Int)):U9 dd a j i=i:=OX fun q=>h ⟨by omega,of_decide_eq_true q.2⟩
theorem TT (hi:1≤i) (h:(i:Int)≤(j:Int)∧¬dd[j]! <dd[a]!):X4 dd a i j=X4 dd a i (j-1):=M4 hi (by omega) (by unfold ltInt;simpa using h.2)
theorem Na (h:¬((i:Int)≤(j:Int)∧¬dd[j]! <dd[a]!)):X4 dd a i j=j:=Lg fun q=>h ⟨by omega,by have:=q.2;unfold ltInt at this;simpa using this⟩
theorem upE_next {J:Int} (h:(i:Int)≤J∧¬dd[a]! <dd[i]!) (hJ:J=(j:Int)):Zj dd a j i=Zj dd a j (i+1):=Qb (by omega) (by unfold ltInt;simpa using h.2)
theorem upE_end {J:Int} (h:¬((i:Int)≤J∧¬dd[a]! <dd[i]!)) (hJ:J=(j:Int)):Zj dd a j i=i:=OX fun q=>h ⟨by omega,by have:=q.2;unfold ltInt at this;simpa using this⟩
theorem dnE_next (hi:1≤i) (h:(i:Int)≤(j:Int)∧dd[a]! <dd[j]!):dnE dd a i j=dnE dd a i (j-1):=M4 hi (by omega) (decide_eq_true h.2)
theorem XR (h:¬((i:Int)≤(j:Int)∧dd[a]! <dd[j]!)):dnE dd a i j=j:=Lg fun q=>h ⟨by omega,of_decide_eq_true q.2⟩
theorem Qc (hu:U9 dd a j0 i=U9 dd a j0 i0) (hue:U9 dd a j0 i=i) (hv:X4 dd a i j=X4 dd a i j0) (hve:X4 dd a i j=j) (h:j<i):partLoop ltInt a i0 j0 dd=(j,dd):=by
 have e1:scanUp (fun x=>ltInt x dd[a]!) dd j0 i0=i:=by rw [←hue,hu];rfl
 have e2:scanDown (fun x=> !ltInt x dd[a]!) dd i j0=j:=by rw [←hve,hv];rfl
 rw [partLoop_eq,e1,e2,if_pos h]
theorem TU (hu:U9 dd a j0 i=U9 dd a j0 i0) (hue:U9 dd a j0 i=i) (hv:X4 dd a i j=X4 dd a i j0) (hve:X4 dd a i j=j) (h:¬j<i):partLoop ltInt a i0 j0 dd=partLoop ltInt a (i+1) (j-1) (swp dd i j):=by
 have e1:scanUp (fun x=>ltInt x dd[a]!) dd j0 i0=i:=by rw [←hue,hu];rfl
 have e2:scanDown (fun x=> !ltInt x dd[a]!) dd i j0=j:=by rw [←hve,hv];rfl
 rw [partLoop_eq,e1,e2,if_neg h]
theorem X5 (hu:Zj dd a j0 i=Zj dd a j0 i0) (hue:Zj dd a j0 i=i) (hv:dnE dd a i j=dnE dd a i j0) (hve:dnE dd a i j=j) (h:j<i):partEqLoop ltInt a i0 j0 dd=(i,dd):=by
 have e1:scanUp (fun x=> !ltInt dd[a]! x) dd j0 i0=i:=by rw [←hue,hu];rfl
 have e2:scanDown (fun x=>ltInt dd[a]! x) dd i j0=j:=by rw [←hve,hv];rfl
 rw [partEqLoop_eq,e1,e2,if_pos h]
theorem partE_on (hu:Zj dd a j0 i=Zj dd a j0 i0) (hue:Zj dd a j0 i=i) (hv:dnE dd a i j=dnE dd a i j0) (hve:dnE dd a i j=j) (h:¬j<i):partEqLoop ltInt a i0 j0 dd=partEqLoop ltInt a (i+1) (j-1) (swp dd i j):=by
 have e1:scanUp (fun x=> !ltInt dd[a]! x) dd j0 i0=i:=by rw [←hue,hu];rfl
 have e2:scanDown (fun x=>ltInt dd[a]! x) dd i j0=j:=by rw [←hve,hv];rfl
 rw [partEqLoop_eq,e1,e2,if_neg h]
theorem TV (h:partLoop ltInt a (a+1) (z-1) (swp d a p)=(j,dd)):∃q,partition ltInt d a z p=(j,q,swp dd j a):=by
 have h1:=partition_fst ltInt d a z p;have h2:=partition_arr ltInt d a z p;rw [h] at h1 h2;exact ⟨(partition ltInt d a z p).2.1,Prod.ext h1 (Prod.ext rfl h2)⟩
theorem X6 (h:partEqLoop ltInt a (a+1) (z-1) (swp d a p)=(i,dd)):partitionEqual ltInt d a z p=(i,dd):=h
theorem ijL {J:Int} {c:Int} (h1:¬((i:Int)≤J∧dd[i]! <c)) (hJ:(j:Int)≤J) (h2:¬((i:Int)≤(j:Int)∧¬dd[j]! <c)) (h:¬(j:Int)<(i:Int)):i<j:=by
 by_cases e:i=j
 ·subst e;exact absurd (Decidable.not_not.1 fun q=>h2 ⟨by omega,q⟩) fun q=>h1 ⟨hJ,q⟩
 ·omega
theorem ijE {J:Int} {c:Int} (h1:¬((i:Int)≤J∧¬c<dd[i]!)) (hJ:(j:Int)≤J) (h2:¬((i:Int)≤(j:Int)∧c<dd[j]!)) (h:¬(j:Int)<(i:Int)):i<j:=by
 by_cases e:i=j
 ·subst e;exact absurd (show¬c<dd[i]! from fun q=>h2 ⟨by omega,q⟩) fun q=>h1 ⟨hJ,q⟩
 ·omega
variable {de df:Array Int} {s i2:Nat} {J:Int}
theorem VA (h:(i:Int)<(z:Int)∧¬dd[i]! <dd[((i:Int)-1).toNat]!):scanSorted ltInt dd z i=scanSorted ltInt dd z (i+1):=by
 rw [show ((i:Int)-1).toNat=i-1 by omega] at h
 conv=>lhs;unfold scanSorted
 rw [if_pos (by unfold ltInt;simp only [Bool.and_eq_true,decide_eq_true_eq,Bool.not_eq_true',decide_eq_false_iff_not];exact ⟨by omega,h.2⟩)]
theorem IM (h:¬((i:Int)<(z:Int)∧¬dd[i]! <dd[((i:Int)-1).toNat]!)):scanSorted ltInt dd z i=i:=by
 rw [show ((i:Int)-1).toNat=i-1 by omega] at h;unfold scanSorted;rw [if_neg (by unfold ltInt;simp only [Bool.and_eq_true,decide_eq_true_eq,Bool.not_eq_true',decide_eq_false_iff_not];exact fun q=>h ⟨by omega,q.2⟩)]
theorem R1 (hj:1≤j) (h:dd[j]! <dd[((j:Int)-1).toNat]!):shiftDown ltInt j dd=shiftDown ltInt (j-1) ((dd.setIfInBounds j dd[((j:Int)-1).toNat]!).setIfInBounds ((j:Int)-1).toNat dd[j]!):=by
 obtain ⟨q,rfl⟩:∃q,j=q+1:=⟨j-1,by omega⟩;rw [show (((q+1:Nat):Int)-1).toNat=q by omega] at h ⊢
 conv=>lhs;unfold shiftDown
 rw [if_neg (by unfold ltInt;simpa using h)];rfl
theorem M5 (h:¬(1:Int)≤(j:Int)∨¬dd[j]! <dd[((j:Int)-1).toNat]!):shiftDown ltInt j dd=dd:=by
 cases j with
 | zero=>rfl
 | succ q=>
  rw [show (((q+1:Nat):Int)-1).toNat=q by omega] at h;unfold shiftDown;rw [if_pos (by unfold ltInt;simp only [Bool.not_eq_true',decide_eq_false_iff_not];rcases h with h | h;omega;exact h)]
theorem R2 (hj:(j:Int)<(z:Int)) (h1:1≤j) (h:dd[j]! <dd[((j:Int)-1).toNat]!):shiftUp ltInt z j dd=shiftUp ltInt z (j+1) ((dd.setIfInBounds j dd[((j:Int)-1).toNat]!).setIfInBounds ((j:Int)-1).toNat dd[j]!):=by
 rw [show ((j:Int)-1).toNat=j-1 by omega] at h ⊢
 conv=>lhs;unfold shiftUp
 rw [if_pos (by omega),if_neg (by unfold ltInt;simpa using h)];rfl
theorem M6 (h:¬(j:Int)<(z:Int)∨¬dd[j]! <dd[((j:Int)-1).toNat]!):shiftUp ltInt z j dd=dd:=by
 by_cases hj:j<z
 ·rw [show ((j:Int)-1).toNat=j-1 by omega] at h;unfold shiftUp;rw [if_pos hj,if_pos (by unfold ltInt;simp only [Bool.not_eq_true',decide_eq_false_iff_not];rcases h with h | h;omega;exact h)]
 ·unfold shiftUp;rw [if_neg hj]
theorem X7 (he:scanSorted ltInt dd z i=i2) (h:i2=z):partialIns ltInt a z (s+1) i dd=(dd,true):=by
 rw [partialIns_succ,he,if_pos h]
theorem VB (he:scanSorted ltInt dd z i=i2) (h:¬i2=z) (h2:z-a<50):partialIns ltInt a z (s+1) i dd=(dd,false):=by
 rw [partialIns_succ,he,if_neg h,if_pos h2]
theorem MU (he:scanSorted ltInt dd z i=i2) (h:¬i2=z) (h2:¬z-a<50) (hd:de=if i2-a≥2 then shiftDown ltInt (i2-1) (swp dd i2 (i2-1)) else swp dd i2 (i2-1)) (hf:df=if z-i2≥2 then shiftUp ltInt z (i2+1) de else de) :
  partialIns ltInt a z (s+1) i dd=partialIns ltInt a z s i2 df:=by
 rw [partialIns_succ,he,if_neg h,if_neg h2,hf,hd];rfl
end
section
variable {P:Program} {E:Gm P} {σ:Nat→Value} {ds:List Deferred} {h:GH} {T:(Nat→Value)→List Deferred→GH→Prop} {dst:Option Nat} {ty:TypeId} {pos:String} {af:Array Edge} {gd:Option (Nat×Bool)} {xt yt:TypeId} {x y:Operand} {a b:Int}
def KI (a b:Int):Int:=IntKind.u64.wrap ((BitVec.ofInt 64 a ^^^ BitVec.ofInt 64 b).toNat)
def Lh (a b:Int):Int:=IntKind.u64.wrap ((BitVec.ofInt 64 a &&& BitVec.ofInt 64 b).toNat)
def EV (a b:Int):Int:=IntKind.u64.wrap (a*2 ^ (min b.toNat IntKind.u64.bits))
theorem R3 (hx:AU σ x=.int .u64 a) (hy:AU σ y=.int .u64 b) (k:T (putS σ dst (.int .u64 (KI a b))) ds h):Bi E ⟨dst,.binOp .xor xt x y yt,ty,pos,af,gd⟩ σ ds h T:=FA hx hy rfl k
theorem ok_andU (hx:AU σ x=.int .u64 a) (hy:AU σ y=.int .u64 b) (k:T (putS σ dst (.int .u64 (Lh a b))) ds h):Bi E ⟨dst,.binOp .and xt x y yt,ty,pos,af,gd⟩ σ ds h T:=FA hx hy rfl k
theorem R4 {ke:IntKind} (hx:AU σ x=.int .u64 a) (hy:AU σ y=.int ke b) (h0:0≤b) (k:T (putS σ dst (.int .u64 (EV a b))) ds h):Bi E ⟨dst,.binOp .shl xt x y yt,ty,pos,af,gd⟩ σ ds h T:=Uq hx hy h0 rfl k
theorem ok_subU (hx:AU σ x=.int .u64 a) (hy:AU σ y=.int .u64 b) (hr:0≤a-b∧a-b≤18446744073709551615) (k:T (putS σ dst (.int .u64 (a-b))) ds h):Bi E ⟨dst,.binOp .sub xt x y yt,ty,pos,af,gd⟩ σ ds h T:=FA hx hy (by
 show (pure (Value.int .u64 (IntKind.u64.wrap (a-b))):Sem Value)=_;rw [IntWalk.u64_in _ (by omega)]) k
theorem VC (hb:0≤b∧b≤9223372036854775807):0≤Lh a b∧Lh a b≤b:=by
 unfold Lh;obtain ⟨n,rfl⟩:=Int.eq_ofNat_of_zero_le hb.1;have e1:(BitVec.ofInt 64 (n:Int)).toNat=n:=by rw [BitVec.toNat_ofInt];omega
 have e2:(BitVec.ofInt 64 a &&& BitVec.ofInt 64 (n:Int)).toNat≤n:=by rw [BitVec.toNat_and,e1];exact Nat.and_le_right
 rw [IntWalk.u64_in _ (by omega)];omega
theorem shlU_one {k:Nat} (h:k≤60):EV 1 (k:Int)=2 ^ k:=by
 unfold EV
 have:min ((k:Int)).toNat IntKind.u64.bits=k:=by show min ((k:Int)).toNat 64=k;omega
 rw [this,Int.one_mul];have h1:(2:Int) ^ k≤2 ^ 60:=by
  have:=Nat.pow_le_pow_right (show 0<2 by decide) h
  exact_mod_cast this
 have h2:(0:Int)≤2 ^ k:=by
  have:=Nat.zero_le (2 ^ k)
  exact_mod_cast this
 rw [IntWalk.u64_in _ (by have:(2:Int) ^ 60=1152921504606846976:=rfl;omega)]
def tabOK (s:ByteArray):Bool:=s.size==256 && (List.range 256).all fun i=>(s.get! i).toNat==bitsLen i
theorem Fe {t:TypeId} {x ix:Operand} {s:ByteArray} {kd:IntKind} {i:Int} (ht:Ny P t=true) (hx:AU σ x=.string s) (hi:AU σ ix=.int kd i) (h0:0≤i) (h1:i<((256:Nat):Int)) (hs:tabOK s=true)
  (k:T (putS σ dst (.int .u8 (bitsLen i.toNat:Int))) ds h):Bi E ⟨dst,.index t x ix,ty,pos,af,gd⟩ σ ds h T:=by
 unfold tabOK at hs;rw [Bool.and_eq_true,List.all_eq_true] at hs;have hz:s.size=256:=by simpa using hs.1
 have e:=hs.2 i.toNat (List.mem_range.2 (by omega));refine QN ht hx hi h0 (by omega) ?_;have e2:(s[i.toNat]'(by omega)).toNat=bitsLen i.toNat:=by
  rw [←(show (s.get! i.toNat).toNat=bitsLen i.toNat by simpa using e)];have hlt:i.toNat<s.size:=by omega
  congr 1;show s.data[i.toNat]=s.data[i.toNat]!;rw [getElem!_pos s.data i.toNat hlt]
 rw [e2];exact k
theorem M7 {n k:Nat} (h:2 ^ k≤n):bitsLen n=k+bitsLen (n / 2 ^ k):=by
 have hp:0<2 ^ k:=Nat.two_pow_pos k;have h1:∀j,bitsLen n≤j↔k+bitsLen (n / 2 ^ k)≤j:=fun j=>by
  rw [bitsLen_le_iff];constructor
  ·intro q;have hkj:k<j:=(Nat.pow_lt_pow_iff_right (by decide:1<2)).1 (Nat.lt_of_le_of_lt h q)
   have:=(bitsLen_le_iff (n / 2 ^ k) (j-k)).2 ((Nat.div_lt_iff_lt_mul hp).2 (by rw [←Nat.pow_add,show j-k+k=j by omega];exact q))
   omega
  ·intro q;have h2:=(bitsLen_le_iff (n / 2 ^ k) (j-k)).1 (by omega);have h3:=(Nat.div_lt_iff_lt_mul hp).1 h2;rw [←Nat.pow_add,show j-k+k=j by omega] at h3;exact h3
 have a1:=(h1 (bitsLen n)).1 (Nat.le_refl _);have a2:=(h1 (k+bitsLen (n / 2 ^ k))).2 (Nat.le_refl _);omega
theorem TW {n:Int} (h:65536≤n):(bitsLen n.toNat:Int)=16+bitsLen (n / 65536).toNat:=by
 rw [M7 (n:=n.toNat) (k:=16) (by omega),show (n / 65536).toNat=n.toNat / 2 ^ 16 by omega];omega
theorem Uf {n:Int} (h:256≤n):(bitsLen n.toNat:Int)=8+bitsLen (n / 256).toNat:=by
 rw [M7 (n:=n.toNat) (k:=8) (by omega),show (n / 256).toNat=n.toNat / 2 ^ 8 by omega];omega
theorem D0 {n:Nat} (h:n<4294967296):bitsLen n≤32:=(bitsLen_le_iff n 32).2 h
end
section
variable {d dd D D' R:Array Int} {a z a0 z0 p mid:Nat} {ap:Bool}
def Fo (a0 z0:Nat) (d:Array Int) (a z:Nat) (dd:Array Int):Prop:=a≤z∧z≤dd.size∧dd.size=d.size∧Below ltInt a z dd∧∀R,PermIn a z dd R→SortedIn ltInt a z R→PermIn a0 z0 d R∧SortedIn ltInt a0 z0 R
theorem Fo.start (h:a≤z) (hz:z≤d.size) (hB:Below ltInt a z d):Fo a z d a z d:=⟨h,hz,rfl,hB,fun _ x y=>⟨x,y⟩⟩
theorem Fo.perm (r:Fo a0 z0 d a z dd) (x:PermIn a z dd D):Fo a0 z0 d a z D:=
 ⟨r.1,by rw [x.1];exact r.2.1,x.1.trans r.2.2.1,r.2.2.2.1.perm r.2.1 x,fun R y s=>r.2.2.2.2 R (permIn_trans _ _ _ a z x y) s⟩
theorem Fo.done (r:Fo a0 z0 d a z dd) (x:PermIn a z dd D) (s:SortedIn ltInt a z D):PermIn a0 z0 d D∧SortedIn ltInt a0 z0 D:=r.2.2.2.2 D x s
theorem Fo.ins (r:Fo a0 z0 d a z dd):PermIn a0 z0 d (insertionSort ltInt dd a z)∧SortedIn ltInt a0 z0 (insertionSort ltInt dd a z):=
 let x:=insertionSort_holds (lt:=ltInt) MS dd a z r.1 r.2.1
 r.done x.1 x.2
theorem Fo.heap (r:Fo a0 z0 d a z dd):PermIn a0 z0 d (heapSort ltInt dd a z)∧SortedIn ltInt a0 z0 (heapSort ltInt dd a z):=
 let x:=heapSort_holds (lt:=ltInt) MS dd a z r.1 r.2.1
 r.done x.1 x.2
theorem Fo.pins (r:Fo a0 z0 d a z dd) (h:a<z) {fl:Bool} (e:partialInsertionSort ltInt dd a z=(D,fl)):Fo a0 z0 d a z D∧(fl=true→PermIn a0 z0 d D∧SortedIn ltInt a0 z0 D):=by
 have x:=partialInsertionSort_holds (lt:=ltInt) MS dd a z h r.2.1 r.2.2.2.1;rw [e] at x;exact ⟨r.perm x.1,fun q=>r.done x.1 (x.2 q)⟩
theorem Fo.eq (r:Fo a0 z0 d a z dd) (h0:0<a) (hp:a≤p∧p<z) (hl:¬dd[a-1]! <dd[p]!) (e:partitionEqual ltInt dd a z p=(mid,D)):a<mid∧mid≤z∧Fo a0 z0 d mid z D:=by
 obtain ⟨h1,h2,h3,h4,h5⟩:=round_eq MS (partitionEqual_holds ltInt) h0 hp.1 hp.2 r.2.1 r.2.2.2.1 (decide_eq_false hl) e;exact ⟨h1,h2,h2,by rw [h3];exact r.2.1,h3.trans r.2.2.1,h4,fun R x s=>let y:=h5 R x s;r.2.2.2.2 R y.1 y.2⟩
theorem Fo.eq' (r:Fo a0 z0 d a z dd) (h0:0<a) (hp:a≤p∧p<z) (hl:¬dd[((a:Int)-1).toNat]! <dd[p]!) (e:partitionEqual ltInt dd a z p=(mid,D)):a<mid∧mid≤z∧Fo a0 z0 d mid z D:=
 r.eq h0 hp (by rw [show ((a:Int)-1).toNat=a-1 by omega] at hl;exact hl) e
theorem Fo.part (r:Fo a0 z0 d a z dd) (hp:a≤p∧p<z) (e:∃q,partition ltInt dd a z p=(mid,q,D)):a≤mid∧mid<z∧D.size=d.size∧z≤D.size∧Below ltInt a mid D∧Below ltInt (mid+1) z D∧
  (∀L,PermIn a mid D L→SortedIn ltInt a mid L→Fo a0 z0 d (mid+1) z L)∧(∀L,PermIn (mid+1) z D L→SortedIn ltInt (mid+1) z L→Fo a0 z0 d a mid L):=by
 obtain ⟨q,e⟩:=e;obtain ⟨h1,h2,h3,h4,h5,h6,h7⟩:=round_part MS (partition_holds ltInt) hp.1 hp.2 r.2.1 r.2.2.2.1 e;have hz:=r.2.1;refine ⟨h1,h2,h3.trans r.2.2.1,by omega,h4,h5,fun L x s=>?_,fun L x s=>?_⟩
 ·obtain ⟨y1,y2⟩:=h6 L x s
  have:=x.1
  exact ⟨by omega,by omega,by rw [x.1,h3];exact r.2.2.1,y1,fun R x2 s2=>let y:=y2 R x2 s2;r.2.2.2.2 R y.1 y.2⟩
 ·obtain ⟨y1,y2⟩:=h7 L x s
  have:=x.1
  exact ⟨h1,by omega,by rw [x.1,h3];exact r.2.2.1,y1,fun R x2 s2=>let y:=y2 R x2 s2;r.2.2.2.2 R y.1 y.2⟩
theorem VD {D:Array Int} {xs:List Int} (x:PermIn 0 xs.length xs.toArray D) (s:SortedIn ltInt 0 xs.length D):D=(JR xs).toArray:=by
 have y:=sorted_unique_holds (lt:=ltInt) MS (fun x y h1 h2=>by simp only [ltInt,decide_eq_false_iff_not] at h1 h2;omega) xs.toArray D (by simpa using x) (by simpa using s);rw [Jj];apply Array.toList_inj.1;rw [y];congr 1;funext a b;unfold ltInt;simp only [Bool.not_eq_eq_eq_not];by_cases h:a≤b
 ·simp [h]
 ·simp [h];omega
theorem TX {D d:Array Int} (x:PermIn 0 d.size d D∧SortedIn ltInt 0 d.size D):D=(JR d.toList).toArray:=
 VD (xs:=d.toList) (by simpa using x.1) (by simpa using x.2)
end
end Go.Ns
namespace Go.Ns
open Go.Conc
theorem I6 {ag:AT→Bool} {ms:List AB} {mo:Int} (hf:∀k,0≤(ms.getD k AB.z).low∧(ms.getD k AB.z).high≤99):∀f i p,Bn p→∀q ∈ Aw ag ms mo f i p,Bn q
 | 0,_,p,hp,q,hq=>by
  unfold Aw at hq;split at hq
  ·rw [List.mem_singleton] at hq;subst hq;exact hp
  ·cases hq
 | f+1,i,p,hp,q,hq=>by
  rw [Cc,List.mem_flatMap] at hq;obtain ⟨n,hn,hq⟩:=hq;rw [Fc] at hn
  have:=hf i
  unfold BZ at hq;rw [List.mem_append] at hq;rcases hq with hq | hq
  ·exact I6 hf f (i+1) _ (hp.setMove (by omega)) q hq
  ·split at hq
   ·exact I6 hf f (i+1) _ (hp.setMove (by omega)) q hq
   ·cases hq
theorem Li {ag:AT→Bool} {gs:List Good} {ms:List AB} {mo:Int} (hg:∀k,0≤(gs.getD k Good.z).low∧(gs.getD k Good.z).high≤99) (hf:∀k,0≤(ms.getD k AB.z).low∧(ms.getD k AB.z).high≤99) :
  ∀f i p,Bn p→∀q ∈ BG ag gs ms mo f i p,Bn q
 | 0,_,p,hp,q,hq=>I6 hf _ _ p hp q hq
 | f+1,i,p,hp,q,hq=>by
  rw [Ct,List.mem_flatMap] at hq;obtain ⟨n,hn,hq⟩:=hq;rw [Fc] at hn
  have:=hg i
  exact Li hg hf f (i+1) _ (hp.setFirst (by omega)) q hq
theorem GV {d m:Int} {gs:List Good} {ms:List AB} {cs:List AF} (b:At d m gs ms cs) (mo:Int):∀k,Bn ((AV d gs ms cs mo).getD k AT.zero):=fun k=>by
 by_cases h:k<(AV d gs ms cs mo).length
 ·exact Li (fun j=>⟨(b.gfew j).1,(b.gfew j).2.2.1⟩) (fun j=>⟨(b.few j).1,(b.few j).2.2.1⟩) _ _ _ Bn.zero _ (CB h)
 ·rw [B2 (by omega)];exact Bn.zero
def CK (n:Nat) (f:Nat→Int):List Int:=DR (JR ((List.range n).map f))
theorem I7 {n:Nat} {f:Nat→Int} (h:0<n):(List.range n).map f≠[]:=by
 intro e
 have:=congrArg List.length e
 simp at this;omega
section
variable (d m:Int) (gs:List Good) (ms:List AB) (cs:List AF)
def Cw (g dy:Int):Int:=Af d m gs ms cs [if (decide (0≤g∧g≤(gs.length:Int)-1)) then (0:Int) else 6,if (decide (0≤dy∧dy≤d)) then (0:Int) else 1]
def IN (g dy:Int):List Int:=if Cw d m gs ms cs g dy=0 then CK (AV d gs ms cs m).length (fun (i:Nat)=>(AN ms ((AV d gs ms cs m).getD ((i:Int)).toNat AT.zero) g dy).1) else []
def DV (mv:Int):Int:=Af d m gs ms cs [if (decide (0≤mv∧mv≤(ms.length:Int)-1)) then (0:Int) else 6]
def FE (mv:Int):List Int:=if DV d m gs ms cs mv=0 then CK (AV d gs ms cs m).length (fun (i:Nat)=>CG ((AV d gs ms cs m).getD ((i:Int)).toNat AT.zero) (mv).toNat) else []
def C1 (mv:Int):Int:=Af d m gs ms cs [if (decide ((0≤mv∧mv≤(ms.length:Int)-1)∧(ms.getD (mv).toNat AB.z).kind=0)) then (0:Int) else 6]
def GA (ps:List AT) (i:Nat):Nat:=(ps.filter fun p=>p.lies i).length
def MV (n l:Nat):Int:=if n=0 then 2 else if n=l then 1 else 0
def C2 (mv:Int):Int:=if C1 d m gs ms cs mv=0 then MV (GA (AV d gs ms cs m) (mv).toNat) (AV d gs ms cs m).length else 0
end
theorem OY {p:Prop} [Decidable p] {c:Int} (hc:c≠0) {o:List Int} (h:∀k,k<(((if decide p then (0:Int) else c) ::o)).length→(((if decide p then (0:Int) else c) ::o)).getD k 0=0):p:=by
 have:=h 0 (by simp)
 by_cases hp:p
 ·exact hp
 ·simp [hp] at this;exact absurd this hc
theorem OZ {x:Int} {o:List Int} (h:∀k,k<(x ::o).length→(x ::o).getD k 0=0):∀k,k<o.length→o.getD k 0=0:=fun k hk=>by
 have:=h (k+1) (by simp;omega)
 simpa using this
theorem own_2 {p q:Prop} [Decidable p] [Decidable q] {c e:Int} (hc:c≠0) (he:e≠0) {o:List Int} (h:∀k,k<(((if decide p then (0:Int) else c) ::(if decide q then (0:Int) else e) ::o)).length→(((if decide p then (0:Int) else c) ::(if decide q then (0:Int) else e) ::o)).getD k 0=0):p∧q:=
 ⟨OY hc h,OY he (OZ h)⟩
theorem own_3 {p q r:Prop} [Decidable p] [Decidable q] [Decidable r] {c e f:Int} (hc:c≠0) (he:e≠0) (hf:f≠0) {o:List Int} (h:∀k,k<(((if decide p then (0:Int) else c) ::(if decide q then (0:Int) else e) ::(if decide r then (0:Int) else f) ::o)).length→(((if decide p then (0:Int) else c) ::(if decide q then (0:Int) else e) ::(if decide r then (0:Int) else f) ::o)).getD k 0=0):p∧q∧r:=
 ⟨OY hc h,own_2 he hf (OZ h)⟩
theorem HR {α:Type} {l:List α} {k:Nat} (z:α) (h:k<l.length):l.take (k+1)=l.take k++[l.getD k z]:=by
 rw [List.take_add_one,List.getElem?_eq_getElem h,List.getD_eq_getElem?_getD,List.getElem?_eq_getElem h];rfl
theorem lies_t {ps:List AT} {k q i:Nat} (hk:k<ps.length) (h:q=GA (ps.take k) i) (e:(ps.getD k AT.zero).lies i=true):q+1=GA (ps.take (k+1)) i:=by
 unfold GA at *;rw [HR AT.zero hk,List.filter_append,List.length_append,←h,List.filter_cons,if_pos e];rfl
theorem lies_f {ps:List AT} {k q i:Nat} (hk:k<ps.length) (h:q=GA (ps.take k) i) (e:(ps.getD k AT.zero).lies i=false):q=GA (ps.take (k+1)) i:=by
 unfold GA at *;rw [HR AT.zero hk,List.filter_append,List.length_append,←h,List.filter_cons,if_neg (by rw [e];decide)];rfl
theorem Pz {d m:Int} {gs:List Good} {ms:List AB} {cs:List AF} {mv:Int} (h:¬C1 d m gs ms cs mv=0):C2 d m gs ms cs mv=0:=by unfold C2;rw [if_neg h]
theorem I8 {d m:Int} {gs:List Good} {ms:List AB} {cs:List AF} {mv:Int} {k q:Nat} (h:C1 d m gs ms cs mv=0) (hq:q=GA ((AV d gs ms cs m).take k) (mv).toNat) (hk:(AV d gs ms cs m).length≤k):C2 d m gs ms cs mv=MV q (AV d gs ms cs m).length:=by
 unfold C2;rw [if_pos h,hq,List.take_of_length_le hk]
theorem Jk {ms:List AB} {p:AT} {g dy:Int} (hp:Bn p):∀(f k:Nat) (n low B:Int),-B≤n∧n≤B→-(B+99*(f:Int))≤(Cs ms p g dy f k n low).1∧(Cs ms p g dy f k n low).1≤B+99*(f:Int)
 | 0,k,n,low,B,h=>by unfold Cs;simpa using h
 | f+1,k,n,low,B,h=>by
  unfold Cs;split
  ·show-(B+99*((f+1:Nat):Int))≤n∧n≤B+99*((f+1:Nat):Int);omega
  ·have:=Jk (ms:=ms) (g:=g) (dy:=dy) hp f (k+1) (GS ms p g k n) (Fl ms k low (GS ms p g k n)) (B+99) (by
    unfold GS
    have:=La (k:=(ms.getD k AB.z).kind.toNat) (Gy hp k)
    split <;> omega)
   omega
theorem H5 {ms:List AB} {p:AT} {g dy:Int} (hp:Bn p) (hm:ms.length≤6): -693≤(AN ms p g dy).1∧(AN ms p g dy).1≤693:=by
 have h0:=hp.1 g.toNat
 have:=Jk (ms:=ms) (g:=g) (dy:=dy) hp ms.length 0 (p.first g.toNat) (p.first g.toNat) 99 (by omega)
 unfold AN;omega
theorem JS {x:Int}:∀(l acc:List Int),x ∈ l.foldl Gn acc→x ∈ acc∨x ∈ l
 | [],acc,h=>.inl h
 | y ::l,acc,h=>by
  rcases JS l _ h with h | h
  ·unfold Gn at h;split at h
   ·exact .inl h
   ·rcases List.mem_append.1 h with h | h
    ·exact .inl h
    ·rw [List.mem_singleton] at h;exact .inr (by rw [h];exact List.mem_cons_self ..)
  ·exact .inr (List.mem_cons_of_mem _ h)
theorem Jl:∀(l acc:List Int),acc≠[]∨l≠[]→l.foldl Gn acc≠[]
 | [],acc,h=>by
  rcases h with h | h
  ·exact h
  ·exact absurd rfl h
 | y ::l,acc,h=>Jl l _ (.inl fun e=>by
   have:=OW acc y
   rw [e] at this;cases this)
theorem IO {n:Nat} (f:Nat→Int) (h:0<n):0<(CK n f).length:=by
 have:CK n f≠[]:=Jl _ _ (.inr (TQ (I7 h)))
 exact List.length_pos_iff.2 this
theorem Qd {n:Nat} {f:Nat→Int} {x:Int} (h:x ∈ CK n f):∃i,i<n∧f i=x:=by
 rcases JS _ _ h with h | h
 ·cases h
 ·rw [Jj] at h
  have:=List.mem_mergeSort.1 h
  obtain ⟨i,hi,e⟩:=List.mem_map.1 this;exact ⟨i,List.mem_range.1 hi,e⟩
def BQ (l:List Int):Int:=l.getD 0 0
def CY (l:List Int):Int:=l.getD ((l.length:Int)-1).toNat 0
theorem VE {n:Nat} {f:Nat→Int} {A B:Int} (h:∀i,A≤f i∧f i≤B) (hn:0<n):(A≤BQ (CK n f)∧BQ (CK n f)≤B)∧A≤CY (CK n f)∧CY (CK n f)≤B:=by
 have hp:=IO f hn;have q:∀k,k<(CK n f).length→A≤(CK n f).getD k 0∧(CK n f).getD k 0≤B:=fun k hk=>by
  obtain ⟨i,_,e⟩:=Qd (CB (d:=0) hk);rw [←e];exact h i
 exact ⟨q 0 hp,q _ (by omega)⟩
def CM (ms:List AB) (p:AT) (g a b:Int):Nat→Int
 | 0=>0
 | k+1=>CM ms p g a b k+(if ((ms.getD k AB.z).kind=2∧(ms.getD k AB.z).good=g)∧a≤(ms.getD k AB.z).day∧(ms.getD k AB.z).day≤b then CG p k else 0)
theorem Lj {ms:List AB} {p:AT} {g a b:Int} (hp:Bn p):∀k:Nat,0≤CM ms p g a b k∧CM ms p g a b k≤99*(k:Int)
 | 0=>by unfold CM;omega
 | k+1=>by
  have:=Lj (ms:=ms) (g:=g) (a:=a) (b:=b) hp k
  have:=Gy hp k
  unfold CM;split <;> omega
def CC (gs:List Good) (ms:List AB) (p:AT) (dy:Int):Nat→Int
 | 0=>0
 | k+1=>CC gs ms p dy k+(gs.getD k Good.z).cost*(AN ms p (k:Int) dy).1
theorem GB {a b A B:Int} (ha:0≤a∧a≤A) (hb: -B≤b∧b≤B): -(A*B)≤a*b∧a*b≤A*B:=by
 have hB:0≤B:=by omega
 have e1:a*B≤A*B:=Int.mul_le_mul_of_nonneg_right ha.2 hB;have e2:a*b≤a*B:=Int.mul_le_mul_of_nonneg_left hb.2 ha.1;have e3:a*(-B)≤a*b:=Int.mul_le_mul_of_nonneg_left hb.1 ha.1;rw [Int.mul_neg] at e3;omega
theorem KT {gs:List Good} {ms:List AB} {p:AT} {dy:Int} (hp:Bn p) (hm:ms.length≤6) (hc:∀k,0≤(gs.getD k Good.z).cost∧(gs.getD k Good.z).cost≤999):∀k:Nat,-(692307*(k:Int))≤CC gs ms p dy k∧CC gs ms p dy k≤692307*(k:Int)
 | 0=>by unfold CC;omega
 | k+1=>by
  have:=KT (dy:=dy) hp hm hc k
  have:=GB (hc k) (H5 (g:=(k:Int)) (dy:=dy) hp hm)
  unfold CC;omega
theorem At.costs {d m:Int} {gs:List Good} {ms:List AB} {cs:List AF} (b:At d m gs ms cs):∀k,0≤(gs.getD k Good.z).cost∧(gs.getD k Good.z).cost≤999:=fun k=>by
 by_cases h:k<gs.length
 ·exact (b.good' h).1
 ·rw [B2 (by omega)];decide
section
variable (d m:Int) (gs:List Good) (ms:List AB) (cs:List AF)
def DC (g a b:Int):Int:=Af d m gs ms cs [if (decide (0≤g∧g≤(gs.length:Int)-1)) then (0:Int) else 6,if (decide (1≤a∧a≤d)) then (0:Int) else 1,if (decide (a≤b∧b≤d)) then (0:Int) else 1]
def R5 (g a b:Int):List Int:=CK (AV d gs ms cs m).length (fun (i:Nat)=>CM ms ((AV d gs ms cs m).getD ((i:Int)).toNat AT.zero) g a b ms.length)
def FT (g a b:Int):Int:=if DC d m gs ms cs g a b=0 then BQ (R5 d m gs ms cs g a b) else 0
def FU (g a b:Int):Int:=if DC d m gs ms cs g a b=0 then CY (R5 d m gs ms cs g a b) else 0
def Cb (dy:Int):Int:=Af d m gs ms cs [if (decide (0≤dy∧dy≤d)) then (0:Int) else 1]
def Oa (dy:Int):List Int:=CK (AV d gs ms cs m).length (fun (i:Nat)=>CC gs ms ((AV d gs ms cs m).getD ((i:Int)).toNat AT.zero) dy gs.length)
def EN (dy:Int):Int:=if Cb d m gs ms cs dy=0 then BQ (Oa d m gs ms cs dy) else 0
def EO (dy:Int):Int:=if Cb d m gs ms cs dy=0 then CY (Oa d m gs ms cs dy) else 0
end
def Gp (d:Int) (ms:List AB) (ps:List AT) (g:Int):List Int:=CK ps.length (fun (i:Nat)=>(AN ms (ps.getD ((i:Int)).toNat AT.zero) g d).1)
theorem TY {d:Int} {ms:List AB} {ps:List AT} {g:Int} (hp:∀k,Bn (ps.getD k AT.zero)) (hm:ms.length≤6) (hn:0<ps.length):(-693≤BQ (Gp d ms ps g)∧BQ (Gp d ms ps g)≤693)∧-693≤CY (Gp d ms ps g)∧CY (Gp d ms ps g)≤693:=
 VE (fun _=>H5 (hp _) hm) hn
section
variable (d m:Int) (gs:List Good) (ms:List AB) (cs:List AF)
def HD (g r:Int):Int:=Af d m gs ms cs [if (decide (0≤g∧g≤(gs.length:Int)-1)) then (0:Int) else 6,if (decide (1≤r∧r≤99)) then (0:Int) else 1]
def Nc (g r:Int):Int:=if HD d m gs ms cs g r=0 then (BQ (Gp d ms (AV d gs ms cs m) g)).tdiv r else 0
def Nd (g r:Int):Int:=if HD d m gs ms cs g r=0 then (CY (Gp d ms (AV d gs ms cs m) g)).tdiv r else 0
end
theorem AR.offKnown {α:Type} {h0 h:GH} {v:Value} {t:TypeId} {n:Nat} {enc:α→Array Value} {xs:List α} {ms:List AB} {ps:List AT} {r:Nat} (x:AR h0 h v t n enc xs) (m:Ah ms ps r h):By v r:=fun e=>by
 obtain ⟨c',h1⟩:=x.cellsAt r e;exact m.neCells h1 rfl
section
variable (d m:Int) (gs:List Good) (ms:List AB) (cs:List AF)
def Hs (ls:List Int) (r:Int):Int:=Af d m gs ms cs [BA ls (gs.length:Int),if (decide (0≤r∧r≤99)) then (0:Int) else 1]
def GC (ls:List Int) (r:Int) (k:Nat):Int:=(max 0 ((ls.getD k 0)*r-(BQ (Gp d ms (AV d gs ms cs m) (k:Int))))+(gs.getD k Good.z).pack-1) / ((gs.getD k Good.z).pack)
def Eo (ls:List Int) (r:Int):Nat→Int
 | 0=>0
 | k+1=>Eo ls r k+(GC d m gs ms cs ls r k)*((gs.getD k Good.z).pack)*((gs.getD k Good.z).cost)
def X8 (ls:List Int) (r:Int):List Int:=if Hs d m gs ms cs ls r=0 then (List.range gs.length).map (GC d m gs ms cs ls r) else []
def Nf (ls:List Int) (r:Int):Int:=if Hs d m gs ms cs ls r=0 then Eo d m gs ms cs ls r gs.length else 0
end
theorem R6 {d m:Int} {gs:List Good} {ms:List AB} {cs:List AF} {ls:List Int} {r:Int} {k:Nat} (hl:0≤ls.getD k 0∧ls.getD k 0≤99) (hr:0≤r∧r≤99) (hp:1≤(gs.getD k Good.z).pack∧(gs.getD k Good.z).pack≤20)
  (hs: -693≤BQ (Gp d ms (AV d gs ms cs m) (k:Int))∧BQ (Gp d ms (AV d gs ms cs m) (k:Int))≤693):(0≤GC d m gs ms cs ls r k∧GC d m gs ms cs ls r k≤10600):=by
 have h1:=GB (a:=ls.getD k 0) (b:=r) (A:=99) (B:=99) hl (by omega);unfold GC;have h0:0≤max 0 ((ls.getD k 0)*r-(BQ (Gp d ms (AV d gs ms cs m) (k:Int))))+(gs.getD k Good.z).pack-1:=by omega
 refine ⟨Int.ediv_nonneg h0 (by omega),Int.le_trans (Int.ediv_le_self _ h0) (by omega)⟩
theorem Jm {p a c:Int} (hp:0≤p∧p≤10600) (ha:1≤a∧a≤20) (hc:0≤c∧c≤999):(0≤p*a∧p*a≤212000)∧0≤p*a*c∧p*a*c≤211788000:=by
 have h1:=GB (a:=p) (b:=a) (A:=10600) (B:=20) hp (by omega);have h2:0≤p*a:=Int.mul_nonneg hp.1 (by omega);have h3:=GB (a:=p*a) (b:=c) (A:=212000) (B:=999) (by omega) (by omega);have h4:0≤p*a*c:=Int.mul_nonneg h2 hc.1;omega
theorem TZ {d m:Int} {gs:List Good} {ms:List AB} {cs:List AF} {ls:List Int} {r:Int} {k:Nat} (hp:0≤GC d m gs ms cs ls r k∧GC d m gs ms cs ls r k≤10600) (ha:1≤(gs.getD k Good.z).pack∧(gs.getD k Good.z).pack≤20) (hc:0≤(gs.getD k Good.z).cost∧(gs.getD k Good.z).cost≤999)
  (h:0≤Eo d m gs ms cs ls r k∧Eo d m gs ms cs ls r k≤211788000*(k:Int)):0≤Eo d m gs ms cs ls r (k+1)∧Eo d m gs ms cs ls r (k+1)≤211788000*((k+1:Nat):Int):=by
 have:=Jm hp ha hc
 unfold Eo;omega
theorem nums_few {l:List Int} {n:Int} (h:¬(l.length:Int)=n):(Value.int .i64 2)=.int .i64 (BA l n):=by unfold BA;rw [if_pos h]
theorem nums_any {l:List Int} {n:Int} (h:(l.length:Int)=n):(Value.int .i64 (if (!(l.any (fun x=>decide (¬(0≤x∧x≤99))))) then (0:Int) else 1))=.int .i64 (BA l n):=by
 have e:BA l n=if l.any (fun x=>decide (¬(0≤x∧x≤99))) then 1 else 0:=by unfold BA;rw [if_neg (fun q=>q h)]
 rw [e];cases l.any (fun x=>decide (¬(0≤x∧x≤99))) <;> rfl
section
variable {P:Program} {E:Gm P} {σ:Nat→Value} {ds:List Deferred} {h:GH} {T:(Nat→Value)→List Deferred→GH→Prop}
variable {dst:Option Nat} {ty:TypeId} {pos:String} {af:Array Edge} {gd:Option (Nat×Bool)}
def fieldP (P:Program) (s:TypeId) (f:Nat) (cs:Array Value):Option Value:=match P.underlying s with
 | some (.struct fields)=>match fields[f]? with
  | some fl=>IH P fl.type cs fl.offset
  | none=>none
 | _=>none
theorem X9 {t:TypeId} {x:Operand} {f:Nat} {cs:Array Value} {v:Value} (hx:AU σ x=.agg cs) (hp:fieldP P t f cs=some v) (k:T (putS σ dst v) ds h):Bi E ⟨dst,.field t x f,ty,pos,af,gd⟩ σ ds h T:=by
 refine Z3 (v:=v) ?_ k;rw [hx];unfold fieldP at hp;unfold Instr.field;cases hu:P.underlying t with
 | none=>rw [hu] at hp;cases hp
 | some d=>
  rw [hu] at hp;cases d <;> first | (cases hp;done) | skip
  rename_i fields
  refine AG _ _ (Aq hu ?_);simp only at hp ⊢;cases hf:fields[f]? with
  | none=>rw [hf] at hp;cases hp
  | some fl=>
   rw [hf] at hp;simp only at hp ⊢;exact II hp ⟨rfl,rfl⟩
theorem XS {xt yt:TypeId} {x y:Operand} {a b:Int} (hx:AU σ x=.int .i64 a) (hy:AU σ y=.int .i64 b) (ha: -9223372036854775807≤a) (ha':a≤9223372036854775807) (hb:0<b) (k:T (putS σ dst (.int .i64 (a.tdiv b))) ds h) :
  Bi E ⟨dst,.binOp .quo xt x y yt,ty,pos,af,gd⟩ σ ds h T:=FA hx hy (by
 show (if b=0 then _ else (pure (Value.int .i64 (IntKind.i64.wrap (a.tdiv b))):Sem Value))=_;rw [if_neg (by omega)];have h1:(a.tdiv b).natAbs≤a.natAbs:=by rw [Int.natAbs_tdiv];exact Nat.div_le_self _ _
 rw [IntWalk.i64_in _ (by omega)]) k
end
def FF (hB:GH) (ms:List AB) (pasts:List AT) (r:Nat) (h h':GH):Prop:=Bl (fun b=>b=r) h h'∧(Ah ms pasts r h→Ah ms pasts r h')∧(hB.Le h→hB.Le h')
section
variable {hB h hc h':GH} {ms:List AB} {pasts:List AT} {r:Nat}
theorem FF.refl (h:GH):FF hB ms pasts r h h:=⟨Bl.refl _ _,id,id⟩
theorem FF.trans (a b c:GH) (x:FF hB ms pasts r a b) (y:FF hB ms pasts r b c):FF hB ms pasts r a c:=⟨x.1.trans (fun _ q=>.inl q) y.1,fun z=>y.2.1 (x.2.1 z),fun z=>y.2.2 (x.2.2 z)⟩
theorem FF.ofRes (m:JY hB ms pasts r h h'):FF hB ms pasts r h h':=⟨m.2.1,fun _=>m.1,fun _=>m.2.2⟩
theorem CR.rel (y:CR hB ms pasts r h hc) (m:FF hB ms pasts r hc h'):CR hB ms pasts r h h':=⟨m.2.1 y.ok,y.keep.trans (fun _ q=>.inl q) m.1,m.2.2 y.base⟩
theorem CR.callDel (y:CR hB ms pasts r h hc) (l:hB.Le (hc.del r)) (m:JY (hc.del r) ms pasts r hc h'):CR hB ms pasts r h h':=⟨m.1,y.keep.trans (fun _ q=>.inl q) m.2.1,l.trans m.2.2⟩
end
section
variable {P:Program} {E:Gm P} {σ:Nat→Value} {ds:List Deferred} {h hB:GH} {ms:List AB} {pasts:List AT} {r:Nat}
theorem Qe {id:Nat} {l:List Oper} {Q:Post} (n:Nat) (cls:List (List Nat)) (Φ:List Pn) (hm:P.follows .mixedOrders=true) (ok:N0 E.N l n cls=true) (mono:FQ (FF hB ms pasts r) Φ) (x:LU (FF hB ms pasts r) E l n Φ σ ds h Q n 0 l cls) :
  Tr E (.region id l.toArray true) σ ds h Q:=S1 FF.refl FF.trans n cls Φ hm ok mono x
end
theorem D9.leOf {h0 h:GH} (k:D9 (fun b=>h0 b=none) h0 h):h0.Le h:=fun b p o hb=>k.1 b p o hb fun (e:h0 b=none)=>by rw [hb] at e;cases e
theorem AR.offTy {α:Type} {h0 h:GH} {v:Value} {t T:TypeId} {n:Nat} {enc:α→Array Value} {xs:List α} (x:AR h0 h v t n enc xs) {r:Nat} {p:Bool} {c:Array Value} {f:Nat×Nat} (hr:h r=some (p,.cells c T f)) (ne:t≠T):By v r:=fun e=>by
 obtain ⟨c',h1⟩:=x.cellsAt r e;rw [h1] at hr;simp only [Option.some.injEq,Prod.mk.injEq,Obj.cells.injEq] at hr;exact ne hr.2.2.1
section
variable {P:Program} {E:Gm P} {σ:Nat→Value} {ds:List Deferred} {h:GH} {T:(Nat→Value)→List Deferred→GH→Prop}
variable {dst:Option Nat} {ty:TypeId} {pos:String} {af:Array Edge} {gd:Option (Nat×Bool)}
end
section
variable {h h':GH} {q r:Nat} {M:Int→Option Int}
theorem E6.keepNum (x:E6 h q Ed Ed M) (k:Bl (fun b=>b=r) h h') (hq:q≠r):E6 h' q Ed Ed M:=by
 obtain ⟨es,clk,h1,y⟩:=x;obtain ⟨o,h2,h3⟩:=k q _ _ h1 hq;rcases h3 with rfl | ⟨h3,_⟩
 ·exact ⟨es,clk,h2,y⟩
 ·cases h3
end
section
variable {P:Program} {E:Gm P} {σ:Nat→Value} {ds:List Deferred} {h:GH} {T:(Nat→Value)→List Deferred→GH→Prop}
variable {dst:Option Nat} {ty:TypeId} {pos:String} {af:Array Edge} {gd:Option (Nat×Bool)}
theorem Ob {t kt vt:TypeId} {x ix:Operand} {r d:Nat} {M:Int→Option Int} {a:Int} (ht:KM P t=some (kt,vt)) (hx:AU σ x=.map (some r)) (hk:AU σ ix=.int .i64 a) (hm:E6 h r Ed Ed M) (hd:Nat.ble (d+1) 10000=true)
  (hc:∀a,Z8 P (d+1) kt (Ed a)=true) (he:∀a b,N5 P (d+1) kt (Ed a) (Ed b)=some (a==b)) (hz:(P.info? vt).bind (·.zero)=some (.int .i64 0))
  (k:T (putS σ dst (.int .i64 ((M a).getD 0))) ds h):Bi E ⟨dst,.lookup t x ix false,ty,pos,af,gd⟩ σ ds h T:=by
 refine QP (ek:=Ed) (ev:=Ed) (a:=a) (z:=.int .i64 0) ht hx hk hm hd (hc _) (fun b=>he a b) hz ?_;cases hM:M a <;> (rw [hM] at k;exact k)
theorem YA {t kt vt:TypeId} {om ok ox:Operand} {r d:Nat} {M:Int→Option Int} {a n:Int} (ht:KM P t=some (kt,vt)) (hm':AU σ om=.map (some r)) (hk:AU σ ok=.int .i64 a) (hv:AU σ ox=.int .i64 n) (hm:E6 h r Ed Ed M) (hd:Nat.ble (d+1) 10000=true)
  (hc:∀a,Z8 P (d+1) kt (Ed a)=true) (he:∀a b,N5 P (d+1) kt (Ed a) (Ed b)=some (a==b)) (hs:∀a,Instr.sameBits 10000 (Ed a) (Ed a)=true)
  (k:∀h',E6 h' r Ed Ed (fun b=>if b=a then some n else M b)→(∀b,b≠r→h' b=h b)→T (putS σ dst undef) ds h'):Bi E ⟨dst,.mapUpdate t om ok ox,ty,pos,af,gd⟩ σ ds h T:=
 LV (a:=a) (v:=n) (ek:=Ed) (ev:=Ed) ht hm' hk hv hm hd (hc _) (fun b=>he a b) (hs _) k
end
theorem R7 (a:Int):Instr.sameBits 10000 (Ed a) (Ed a)=true:=by
 show Instr.sameBits (9999+1) (Value.int .i64 a) (Value.int .i64 a)=true;unfold Instr.sameBits;simp
def Ff (f:Nat→Int):Nat→Int→Option Int
 | 0=>fun _=>none
 | k+1=>fun b=>if b=f k then some ((Ff f k (f k)).getD 0+1) else Ff f k b
theorem Jn (f:Nat→Int):∀(k:Nat) (b:Int),0≤(Ff f k b).getD 0∧(Ff f k b).getD 0≤(k:Int)
 | 0,b=>by simp [Ff]
 | k+1,b=>by
  have h1:=Jn f k b;have h2:=Jn f k (f k);unfold Ff;split
  ·show 0≤(Ff f k (f k)).getD 0+1∧(Ff f k (f k)).getD 0+1≤((k+1:Nat):Int);omega
  ·omega
def IP (f:Nat→Int):Nat→Int
 | 0=>0
 | k+1=>max (IP f k) ((Ff f (k+1) (f k)).getD 0)
def EA (w:Nat→Int) (n:Int):Nat→Int×Int
 | 0=>(-1,n)
 | k+1=>if w k<(EA w n k).2 then ((k:Int),w k) else EA w n k
section
variable (d m:Int) (gs:List Good) (ms:List AB) (cs:List AF)
def J5:Int:=Af d m gs ms cs []
def Gj (g:Nat):Int:=IP (fun i=>(AN ms ((AV d gs ms cs m).getD ((i:Int)).toNat AT.zero) (g:Int) d).1) (AV d gs ms cs m).length
def Ng:Int:=if J5 d m gs ms cs=0 then (EA (Gj d m gs ms cs) ((AV d gs ms cs m).length:Int) gs.length).1 else 0
def Lk:Int:=if J5 d m gs ms cs=0 then (EA (Gj d m gs ms cs) ((AV d gs ms cs m).length:Int) gs.length).2 else 0
end
end Go.Ns
namespace Go.Ns
open Go.Conc
open Classical in
noncomputable def GH.delS (h:GH) (X:Nat→Prop):GH:=fun b=>if X b then none else h b
section
variable {h h0 h':GH} {X:Nat→Prop}
theorem GH.delS_in {b:Nat} (x:X b):h.delS X b=none:=if_pos x
theorem GH.delS_ne {b:Nat} (x:¬X b):h.delS X b=h b:=if_neg x
theorem GH.delS_le (h:GH) (X:Nat→Prop):(h.delS X).Le h:=fun b p o hb=>by
 by_cases e:X b
 ·rw [GH.delS_in e] at hb;cases hb
 ·rw [GH.delS_ne e] at hb;exact ⟨o,hb,.inl rfl⟩
theorem GH.Le.delS (l:h0.Le h) (hX:∀b,X b→h0 b=none):h0.Le (h.delS X):=fun b p o hb=>by
 have e:¬X b:=fun x=>by rw [hX b x] at hb;cases hb
 rw [GH.delS_ne e];exact l b p o hb
theorem AZ.delS {b off n:Nat} {vs:Array Value} (x:AZ h b off n vs) (e:¬X b):AZ (h.delS X) b off n vs:=x.same (GH.delS_ne e)
theorem AR.slDelS {α:Type} {v:Value} {t:TypeId} {n:Nat} {enc:α→Array Value} {xs:List α} (x:AR h0 h v t n enc xs) (f:∀b,Bw v=some b→¬X b):AJ (h.delS X) v n enc xs:=
 AR.sl (h0:=h0) (x.keep fun b o hb ho=>by rw [GH.delS_ne (f b hb)];exact ho)
theorem AR.rebase {α:Type} {h1:GH} {v:Value} {t:TypeId} {n:Nat} {enc:α→Array Value} {xs:List α} (x:AR h0 h v t n enc xs) (f:∀b,Bw v=some b→h1 b=none):AR h1 h v t n enc xs:=by
 rcases x with x | ⟨b,cap,c,rfl,h2,h3⟩
 ·exact .inl x
 ·exact .inr ⟨b,cap,c,rfl,f b rfl,h3⟩
end
def mkD (d:Nat):Deferred:={ target:=.collected d,args:=#[] }
def HT (h0 h:GH) (ds:List Deferred):Prop:=∃l:List Nat,ds=l.map mkD∧l.Nodup∧∀d ∈ l,h0 d=none∧h d=some (true,.deferred (some []))
theorem HT.nil (h0 h:GH):HT h0 h []:=⟨[],rfl,List.nodup_nil,fun _ hd=>by cases hd⟩
theorem HT.le {h0 h h':GH} {ds:List Deferred} (m:HT h0 h ds) (l:h.Le h'):HT h0 h' ds:=by
 obtain ⟨L,e,n,x⟩:=m;exact ⟨L,e,n,fun d hd=>⟨(x d hd).1,l.keep (x d hd).2 rfl⟩⟩
theorem HT.cons {h0 h h':GH} {ds:List Deferred} {d:Nat} (m:HT h0 h ds) (l:h.Le h') (hn:h d=none) (h0n:h0 d=none) (hd:h' d=some (true,.deferred (some []))):HT h0 h' ({ target:=.collected d,args:=#[] } ::ds):=by
 obtain ⟨L,rfl,n,x⟩:=m;refine ⟨d ::L,rfl,List.nodup_cons.2 ⟨fun hm=>?_,n⟩,fun b hb=>?_⟩
 ·rw [(x d hm).2] at hn;cases hn
 ·rcases List.mem_cons.1 hb with rfl | hb
  ·exact ⟨h0n,hd⟩
  ·exact ⟨(x b hb).1,l.keep (x b hb).2 rfl⟩
def SameM (h h':GH):Prop:=∀b,h b≠some (true,.deferred (some []))→h' b=h b
theorem AJ.sameM {α:Type} {h h':GH} {v:Value} {n:Nat} {enc:α→Array Value} {xs:List α} (x:AJ h v n enc xs) (s:SameM h h'):AJ h' v n enc xs:=by
 obtain ⟨a,cap,hv,hc,hm,he⟩:=x;refine ⟨a,cap,hv,hc,hm,fun i hi=>?_⟩;obtain ⟨b,off,h1,h2⟩:=he i hi;refine ⟨b,off,h1,h2.same (s b fun e=>?_)⟩;obtain ⟨p,c,t,z,q,_⟩:=h2;rw [e] at q;cases q
theorem Oc {P:Program} {fn:Func} {σ:Nat→Value} {R:Value→GH→Prop} {h0:GH}:∀{ds:List Deferred} {h:GH},HT h0 h ds→h0.Le h→(∀h',SameM h h'→h0.Le h'→Gt P fn σ R [] h')→Gt P fn σ R ds h:=by
 intro ds h ⟨l,e,n,x⟩ lB k;subst e
 induction l generalizing h with
 | nil=>exact k h (fun _ _=>rfl) lB
 | cons d l ih=>
  have hd:=x d (List.mem_cons_self ..);refine ⟨d,rfl,_,hd.2,rfl,?_⟩;have nd:=List.nodup_cons.1 n;have ho:∀b,b≠d→(h.set d true (.deferred none)) b=h b:=fun b hb=>GH.set_ne _ _ _ hb;refine ih nd.2 (fun b hb=>?_) (lB.upd hd.1 ho) fun h' s l'=>k h' (fun b hb=>?_) l'
  ·have:=x b (List.mem_cons_of_mem _ hb)
   exact ⟨this.1,(ho b fun e=>nd.1 (e▸hb)).trans this.2⟩
  ·have e:b≠d:=fun e=>hb (e▸hd.2);rw [s b (by rw [ho b e];exact hb),ho b e]
theorem Od {α:Type} {enc:α→Array Value} {n:Nat}:∀{xs:List α},(∀x ∈ xs,(enc x).size=n)→∀(i:Nat) (z:α),i<xs.length→DJ enc xs=DJ enc (xs.take i)++(enc (xs.getD i z)).toList++DJ enc (xs.drop (i+1))
 | [],_,i,z,h=>by simp at h
 | y ::xs,hn,0,z,h=>by simp [DJ]
 | y ::xs,hn,i+1,z,h=>by
  have:=Od (fun x hx=>hn x (List.mem_cons_of_mem _ hx)) i z (by simpa using h)
  show (enc y).toList++DJ enc xs=((enc y).toList++DJ enc (xs.take i))++(enc (xs.getD i z)).toList++DJ enc (xs.drop (i+1));rw [this];simp only [List.append_assoc]
theorem Ta {α:Type} {enc:α→Array Value}:∀{xs:List α} (i:Nat) (x:α),i<xs.length→DJ enc (xs.set i x)=DJ enc (xs.take i)++(enc x).toList++DJ enc (xs.drop (i+1))
 | [],i,x,h=>by simp at h
 | y ::xs,0,x,h=>by simp [DJ]
 | y ::xs,i+1,x,h=>by
  have:=Ta (enc:=enc) (xs:=xs) i x (by simpa using h)
  show (enc y).toList++DJ enc (xs.set i x)=((enc y).toList++DJ enc (xs.take i))++(enc x).toList++DJ enc (xs.drop (i+1));rw [this];simp only [List.append_assoc]
theorem AR.put {α:Type} {h0 h h':GH} {t:TypeId} {n cap b i dl:Nat} {enc:α→Array Value} {xs:List α} {c:Array Value} {vs:List Value} {x':α} (z:α) (x:AR h0 h (.slice (some ⟨b,0,none⟩) xs.length cap) t n enc xs) (hb:h b=some (true,.cells c t (0,0)))
  (hi:i<xs.length) (hz:dl+vs.length≤n) (heq:B0 (enc (xs.getD i z)) dl vs=enc x') (hb':h' b=some (true,.cells (B0 c (i*n+dl) vs) t (0,0))):AR h0 h' (.slice (some ⟨b,0,none⟩) xs.length cap) t n enc (xs.set i x'):=by
 rcases x with ⟨e,_⟩ | ⟨b1,cap1,c1,e,f0,f1,f2,f3,f4,f5,f6⟩
 ·cases e
 simp only [Value.slice.injEq,Option.some.injEq,Addr.mk.injEq] at e;obtain ⟨⟨rfl,_⟩,_,rfl⟩:=e;rw [hb] at f1;simp only [Option.some.injEq,Prod.mk.injEq,Obj.cells.injEq,true_and] at f1;obtain ⟨rfl,_⟩:=f1;have hx:(enc (xs.getD i z)).size=n:=f6 _ (CB hi);have hx':(enc x').size=n:=by rw [←heq,GK];exact hx
 refine .inr ⟨_,_,_,by rw [List.length_set],f0,hb',by rw [GK];exact f2,by rw [List.length_set];exact f3,by rw [List.length_set];exact f4,?_,fun y hy=>?_⟩
 ·rw [List.length_set];have hA:(DJ enc (xs.take i)).length=i*n:=by
   rw [EJ (n:=n) (fun y hy=>f6 y (List.mem_of_mem_take hy)),List.length_take];congr 1;omega
  have hlen:(DJ enc xs).length=xs.length*n:=EJ f6;have hmul:i*n+n≤xs.length*n:=by rw [←Nat.succ_mul];exact Nat.mul_le_mul_right n hi
  have hcap:xs.length*n≤c.size:=by rw [f2];exact Nat.mul_le_mul_right n f3
  have hc:c.toList=DJ enc xs++c.toList.drop (xs.length*n):=by rw [←f5,List.take_append_drop]
  have hB:(enc x').toList=(enc (xs.getD i z)).toList.take dl++vs++(enc (xs.getD i z)).toList.drop (dl+vs.length):=by rw [←heq,ES _ _ _ (by omega)]
  have hBl:(enc (xs.getD i z)).toList.length=n:=by rw [Array.length_toList];exact hx
  have hC:(DJ enc (xs.take i)).length+n+(DJ enc (xs.drop (i+1))).length=xs.length*n:=by
   rw [←hlen];conv=>rhs;rw [Od f6 i z hi]
   rw [List.length_append,List.length_append,hBl]
  rw [ES _ _ _ (by omega),Ta i x' hi,hB,hc,Od f6 i z hi];generalize enc (xs.getD i z)=B at *;generalize DJ enc (xs.take i)=A at *;generalize DJ enc (xs.drop (i+1))=C at *;generalize c.toList.drop (xs.length*n)=R at *;have e1:(A++B.toList++C++R).take (i*n+dl)=A++B.toList.take dl:=by
   rw [List.append_assoc,List.append_assoc,←hA,List.take_length_add_append,List.take_append_of_le_length (by omega)]
  have e2:(A++B.toList++C++R).drop (i*n+dl+vs.length)=B.toList.drop (dl+vs.length)++C++R:=by
   rw [List.append_assoc,List.append_assoc,show i*n+dl+vs.length=A.length+(dl+vs.length) by omega,List.drop_length_add_append,List.drop_append_of_le_length (by omega),List.append_assoc]
  rw [e1,e2];have e3:A++B.toList.take dl++vs++(B.toList.drop (dl+vs.length)++C++R)=(A++(B.toList.take dl++vs++B.toList.drop (dl+vs.length))++C)++R:=by simp only [List.append_assoc]
  rw [e3,List.take_left' ?_];simp only [List.length_append,List.length_take,List.length_drop,hBl];omega
 ·rcases List.mem_or_eq_of_mem_set hy with h | rfl
  ·exact f6 y h
  ·exact hx'
theorem AR.opened {α:Type} {h0 h:GH} {v:Value} {t:TypeId} {n k:Nat} {enc:α→Array Value} {xs:List α} (x:AR h0 h v t n enc xs) (hk:k<xs.length):∃b cap c,v=.slice (some ⟨b,0,none⟩) xs.length cap∧h b=some (true,.cells c t (0,0)):=by
 rcases x with ⟨_,rfl⟩ | ⟨b,cap,c,h1,_,h2,_⟩
 ·simp at hk
 ·exact ⟨b,cap,c,h1,h2⟩
theorem AR.room {α:Type} {h0 h:GH} {t:TypeId} {n cap b k:Nat} {enc:α→Array Value} {xs:List α} {c:Array Value} (x:AR h0 h (.slice (some ⟨b,0,none⟩) xs.length cap) t n enc xs) (hb:h b=some (true,.cells c t (0,0))) (hk:k<xs.length):k*n+n≤c.size:=by
 rcases x with ⟨e,_⟩ | ⟨b1,cap1,c1,e,f0,f1,f2,f3,_⟩
 ·cases e
 simp only [Value.slice.injEq,Option.some.injEq,Addr.mk.injEq] at e;obtain ⟨⟨rfl,_⟩,_,rfl⟩:=e;rw [hb] at f1;simp only [Option.some.injEq,Prod.mk.injEq,Obj.cells.injEq,true_and] at f1;obtain ⟨rfl,_⟩:=f1;rw [f2,←Nat.succ_mul];exact Nat.mul_le_mul_right n (by omega)
def clearAt (ms:List AB) (i:Nat):List AB:=ms.set i { ms.getD i AB.z with low:=0,high:=0 }
def D1 (ms:List AB) (l:List Int):List AB:=l.foldl (fun ms i=>clearAt ms i.toNat) ms
theorem Tb {ms:List AB} {l:List Int} {k:Nat} (hk:k<l.length):D1 ms (l.take (k+1))=clearAt (D1 ms (l.take k)) (l.getD k 0).toNat:=by
 unfold D1;rw [HR 0 hk,List.foldl_append];rfl
theorem HU (ms:List AB) (i:Nat):(clearAt ms i).length=ms.length:=by unfold clearAt;rw [List.length_set]
theorem P0 (ms:List AB):∀(l:List Int),(D1 ms l).length=ms.length:=by
 intro l;unfold D1
 induction l generalizing ms with
 | nil=>rfl
 | cons i l ih=>show (l.foldl _ (clearAt ms i.toNat)).length=_;rw [ih,HU]
theorem G2 (ms:List AB) (i k:Nat):(clearAt ms i).getD k AB.z=ms.getD k AB.z∨(clearAt ms i).getD k AB.z={ ms.getD k AB.z with low:=0,high:=0 }:=by
 unfold clearAt;rw [List.getD_eq_getElem?_getD,List.getElem?_set];split
 ·rename_i e
  subst e;split
  ·exact .inr rfl
  ·rename_i h
   refine .inl ?_;rw [List.getD_eq_getElem?_getD,List.getElem?_eq_none (by omega)]
 ·refine .inl ?_;rw [←List.getD_eq_getElem?_getD]
theorem YB {d:Int} {gs:List Good} {ms:List AB} {k:Nat} (h1:0≤(ms.getD k AB.z).kind∧(ms.getD k AB.z).kind≤4) (h2:0≤(ms.getD k AB.z).good∧(ms.getD k AB.z).good≤(gs.length:Int)-1)
  (h3:1≤(ms.getD k AB.z).day∧(ms.getD k AB.z).day≤d) (h4:Du ms k≤(ms.getD k AB.z).day) (h5:E7 (ms.getD k AB.z).low (ms.getD k AB.z).high):DY d gs ms k=0:=by
 unfold DY;rw [if_neg (not_not_intro h1),if_neg (not_not_intro h2),if_neg (not_not_intro h3),if_neg (by omega),if_neg (not_not_intro h5)]
theorem At.clearAt {d m:Int} {gs:List Good} {ms:List AB} {cs:List AF} (b:At d m gs ms cs) (i:Nat):At d m gs (clearAt ms i) cs:=by
 refine ⟨b.days,b.most,b.glen,b.good,by rw [HU];exact b.mlen,fun k hk=>?_,b.clen,b.count⟩;rw [HU] at hk;have hd:∀k,((Go.Ns.clearAt ms i).getD k AB.z).day=(ms.getD k AB.z).day:=fun k=>by rcases G2 ms i k with e | e <;> rw [e]
 have hl:Du (Go.Ns.clearAt ms i) k=Du ms k:=by unfold Du;rw [hd]
 obtain ⟨g1,g2,g3,g4,g5⟩:=b.move' hk;refine YB ?_ ?_ ?_ ?_ ?_
 ·rcases G2 ms i k with e | e <;> rw [e] <;> exact g1
 ·rcases G2 ms i k with e | e <;> rw [e] <;> exact g2
 ·rw [hd];exact g3
 ·rw [hl,hd];exact g4
 ·rcases G2 ms i k with e | e <;> rw [e]
  ·exact g5
  ·show E7 0 0;decide
theorem At.clear {d m:Int} {gs:List Good} {cs:List AF}:∀{l:List Int} {ms:List AB},At d m gs ms cs→At d m gs (D1 ms l) cs
 | [],_,b=>b
 | i ::l,_,b=>At.clear (l:=l) (b.clearAt i.toNat)
def Fp (ms:List AB) (mask:Int) (k:Nat):Bool:=(List.range k).all fun i=> !HP mask i || DQ ms i
def FG (d:Int) (gs:List Good) (ms:List AB) (cs:List AF) (mask:Nat):Option (List Int):=
 if Fp ms (mask:Int) ms.length=true then
  if AV d gs (D1 ms (BJ (mask:Int) ms.length)) cs 0=[] then none else some (BJ (mask:Int) ms.length)
 else none
def Dv (d:Int) (gs:List Good) (ms:List AB) (cs:List AF) (k:Nat):List (List Int):=(List.range k).filterMap (FG d gs ms cs)
theorem Ll {d:Int} {gs:List Good} {ms:List AB} {cs:List AF} {k:Nat} (h:FG d gs ms cs k=none):Dv d gs ms cs (k+1)=Dv d gs ms cs k:=by
 unfold Dv;rw [List.range_succ,List.filterMap_append];simp [h]
theorem R8 {d:Int} {gs:List Good} {ms:List AB} {cs:List AF} {k:Nat} {l:List Int} (h:FG d gs ms cs k=some l):Dv d gs ms cs (k+1)=Dv d gs ms cs k++[l]:=by
 unfold Dv;rw [List.range_succ,List.filterMap_append];simp [h]
theorem pow_64 {n:Nat} (h:n≤6):1≤(2:Int) ^ n∧(2:Int) ^ n≤64:=by
 have:n=0∨n=1∨n=2∨n=3∨n=4∨n=5∨n=6:=by omega
 rcases this with rfl | rfl | rfl | rfl | rfl | rfl | rfl <;> decide
theorem YC (mask:Int) (n q:Nat):q<(BJ mask n).length→0≤(BJ mask n).getD q 0∧(BJ mask n).getD q 0<(n:Int):=fun hq=>by
 have:=CB (d:=(0:Int)) hq
 unfold BJ at this ⊢;obtain ⟨i,hi,e⟩:=List.mem_map.1 this
 have:=List.mem_range.1 (List.mem_filter.1 hi).1
 rw [←e];omega
theorem P1 (ms:List AB) (mask:Int):Fp ms mask 0=true:=rfl
theorem KU {ms:List AB} {mask:Int} {j:Nat} (h:Fp ms mask j=true) (e:mask.fdiv (2 ^ j)%2=0∨DQ ms (j:Int)=true):Fp ms mask (j+1)=true:=by
 unfold Fp at *;rw [List.range_succ,List.all_append,h];rcases e with e | e
 ·have:HP mask j=false:=by unfold HP;rw [decide_eq_false (by omega)]
  simp [this]
 ·simp [e]
theorem VF {d:Int} {gs:List Good} {ms:List AB} {cs:List AF} {k j:Nat} (hj:j<ms.length) (hb:¬(k:Int).fdiv (2 ^ j)%2=0) (hn:¬((0≤(j:Int)∧(j:Int)≤(ms.length:Int)-1)∧(ms.getD ((j:Int)).toNat AB.z).kind=0)):FG d gs ms cs k=none:=by
 unfold FG;rw [if_neg];unfold Fp;rw [List.all_eq_true];intro h
 have:=h j (List.mem_range.2 hj)
 have e1:HP (k:Int) j=true:=by unfold HP;rw [decide_eq_true];omega
 have e2:DQ ms (j:Int)=false:=by unfold DQ;exact decide_eq_false hn
 rw [e1,e2] at this;cases this
theorem blame_no {d:Int} {gs:List Good} {ms:List AB} {cs:List AF} {k j q:Nat} (hj:j≤ms.length) (hj':¬(j:Int)<(ms.length:Int)) (ha:Fp ms (k:Int) j=true) (hq:¬(q:Int)<((BJ (k:Int) j).length:Int)) (h:AV d gs (D1 ms ((BJ (k:Int) j).take q)) cs 0=[]):FG d gs ms cs k=none:=by
 obtain rfl:j=ms.length:=by omega
 rw [List.take_of_length_le (by omega)] at h;unfold FG;rw [if_pos ha,if_pos h]
theorem YD {d:Int} {gs:List Good} {ms:List AB} {cs:List AF} {k j q:Nat} (hj:j≤ms.length) (hj':¬(j:Int)<(ms.length:Int)) (ha:Fp ms (k:Int) j=true) (hq:¬(q:Int)<((BJ (k:Int) j).length:Int)) (h:AV d gs (D1 ms ((BJ (k:Int) j).take q)) cs 0≠[]):FG d gs ms cs k=some (BJ (k:Int) j):=by
 obtain rfl:j=ms.length:=by omega
 rw [List.take_of_length_le (by omega)] at h;unfold FG;rw [if_pos ha,if_neg h]
theorem Oe {fl:List Sl} {v:Value} {xs:List Int} {l:List (List Int)} (h:A8 fl=l):A8 (fl++[(v,xs)])=l++[xs]:=by unfold A8 at *;rw [List.map_append,h];rfl
theorem B8.drop {h:GH} {l:List Sl} (a:B8 h l) (n:Nat):B8 h (l.drop n):=fun k=>by
 have:=a (n+k)
 rw [List.getD_eq_getElem?_getD] at this ⊢;rw [List.getElem?_drop];exact this
section
variable (d m:Int) (gs:List Good) (ms:List AB) (cs:List AF)
def Ea:Int:=if Ak d m gs ms cs=0 then (if (Dv d gs ms cs (2 ^ ms.length)).length=0 then 9 else 0) else Ak d m gs ms cs
def HV:List Int:=if Ea d m gs ms cs=0 then JQ ((Dv d gs ms cs (2 ^ ms.length)).getD 0 []) ((Dv d gs ms cs (2 ^ ms.length)).drop 1) else []
end
section
variable {d m:Int} {gs:List Good} {ms:List AB} {cs:List AF} {fl:List Sl} {k:Nat}
theorem KV (h:¬Ak d m gs ms cs=0):Ea d m gs ms cs=Ak d m gs ms cs:=by unfold Ea;rw [if_neg h]
theorem Lm (h:Ak d m gs ms cs=0):Ea d m gs ms cs=if (Dv d gs ms cs (2 ^ ms.length)).length=0 then 9 else 0:=by unfold Ea;rw [if_pos h]
theorem R9 (n:Nat):((2 ^ n:Nat):Int)=(2:Int) ^ n:=by induction n with
 | zero=>rfl
 | succ n ih=>rw [Nat.pow_succ,Int.pow_succ,←ih];rfl
theorem MW (hk:(k:Int)≤(2:Int) ^ ((ms.length:Int)).toNat) (hk':¬(k:Int)<(2:Int) ^ ((ms.length:Int)).toNat):k=2 ^ ms.length:=by
 have:=R9 ms.length
 rw [Int.toNat_natCast] at hk hk';omega
theorem DH (l:List Sl):(A8 l).length=l.length:=by unfold A8;simp
theorem VG (h:¬Ak d m gs ms cs=0):(.tuple #[.slice none 0 0,.int .i64 (Ak d m gs ms cs)]:Value)=.tuple #[.slice none 0 0,.int .i64 (Ea d m gs ms cs)]:=by rw [KV h]
theorem Jo (hfl:A8 fl=Dv d gs ms cs k) (hk:(k:Int)≤(2:Int) ^ ((ms.length:Int)).toNat) (hk':¬(k:Int)<(2:Int) ^ ((ms.length:Int)).toNat) (hb:¬¬Ak d m gs ms cs=0) (h0:(fl.length:Int)=0):Ea d m gs ms cs=9:=by
 obtain rfl:=MW hk hk';rw [Lm (Decidable.not_not.1 hb),←hfl,DH,if_pos (by omega)]
theorem Jp (hfl:A8 fl=Dv d gs ms cs k) (hk:(k:Int)≤(2:Int) ^ ((ms.length:Int)).toNat) (hk':¬(k:Int)<(2:Int) ^ ((ms.length:Int)).toNat) (hb:¬¬Ak d m gs ms cs=0) (h0:¬(fl.length:Int)=0):Ea d m gs ms cs=0:=by
 obtain rfl:=MW hk hk';rw [Lm (Decidable.not_not.1 hb),←hfl,DH,if_neg (by omega)]
theorem VH (h:¬Ak d m gs ms cs=0):HV d m gs ms cs=[]:=by unfold HV;rw [KV h,if_neg h]
theorem Tc (hfl:A8 fl=Dv d gs ms cs k) (hk:(k:Int)≤(2:Int) ^ ((ms.length:Int)).toNat) (hk':¬(k:Int)<(2:Int) ^ ((ms.length:Int)).toNat) (hb:¬¬Ak d m gs ms cs=0) (h0:(fl.length:Int)=0):HV d m gs ms cs=[]:=by
 unfold HV;rw [Jo hfl hk hk' hb h0,if_neg (by decide)]
theorem YE (hfl:A8 fl=Dv d gs ms cs k) (hk:(k:Int)≤(2:Int) ^ ((ms.length:Int)).toNat) (hk':¬(k:Int)<(2:Int) ^ ((ms.length:Int)).toNat) (hb:¬¬Ak d m gs ms cs=0) (h0:¬(fl.length:Int)=0):HV d m gs ms cs=JQ (fl.getD 0 Sl.z).2 (A8 (fl.drop 1)):=by
 have e:=MW hk hk';unfold HV;rw [Jp hfl hk hk' hb h0,if_pos rfl];subst e;rw [←hfl,Cg (by omega)];congr 1;unfold A8;rw [List.map_drop]
end
theorem fl_len {d:Int} {gs:List Good} {ms:List AB} {cs:List AF} {fl:List Sl} {k:Nat} (h:A8 fl=Dv d gs ms cs k):fl.length≤k:=by
 rw [←DH,h];unfold Dv
 have:=List.length_filterMap_le (FG d gs ms cs) (List.range k)
 rw [List.length_range] at this;exact this
theorem Lo {v:Value} (h:v.cells=#[v]):Instr.fill (fun i=>some (i*1,1)) ((Array.range (1*1)).map (#[Value.slice none 0 0][·% #[Value.slice none 0 0].size]!)) [(0,v)]=some #[v]:=by
 have e:((Array.range (1*1)).map (#[Value.slice none 0 0][·% #[Value.slice none 0 0].size]!))=#[Value.slice none 0 0]:=by kernel_rfl
 rw [e];simp [Instr.fill,h]
def JFnd {α:Type} (hB:GH) (r:Nat) (T t:TypeId) (wf:Value) (fl:List Sl) (pre:List α) (Y:Nat→Prop) (h:GH):Prop:=
 pre=[]∧h r=some (true,.cells #[wf] T (0,0))∧AR hB h wf t 1 Ii fl∧By wf r∧hB r=none∧∀b,Y b↔b=r∨Bw wf=some b
def SFnd {α:Type} (hB:GH) (r:Nat) (T t:TypeId) (fl:List Sl) (cd:Code) (all:List α) (c:Code) (h:GH):Prop:=
 c=cd∧(∃w,h r=some (true,.cells #[w] T (0,0))∧AR hB h w t 1 Ii fl∧By w r)∧all≠[]
theorem Qf {α:Type} (hB:GH) (r:Nat) (T t:TypeId) (wf:Value) (fl:List Sl):Ix hB (JFnd (α:=α) hB r T t wf fl):=by
 refine ⟨?_,?_⟩
 ·rintro pre Y h b ⟨_,h1,h2,h3,h0,h4⟩ hb;rcases (h4 b).1 hb with rfl | h5
  ·exact ⟨_,_,h1,rfl⟩
  ·obtain ⟨c,hc⟩:=h2.cellsAt b h5;exact ⟨_,_,hc,rfl⟩
 ·rintro pre Y h h' ⟨e,h1,h2,h3,h0,h4⟩ same lB;exact ⟨e,by rw [same r ((h4 r).2 (.inl rfl))];exact h1,h2.keep fun b o hb ho=>by rw [same b ((h4 b).2 (.inr hb))];exact ho,h3,h0,h4⟩
theorem VI {α:Type} {hK h:GH} {r:Nat} {T t:TypeId} {wf:Value} {fl:List Sl} (x:h r=some (true,.cells #[wf] T (0,0))) (o:AR hK h wf t 1 Ii fl) (f:By wf r) :
  JFnd (α:=α) (h.delS fun b=>b=r∨Bw wf=some b) r T t wf fl [] (fun b=>b=r∨Bw wf=some b) h:=
 ⟨rfl,x,o.rebase fun _ q=>GH.delS_in (.inr q),f,GH.delS_in (.inl rfl),fun _=>Iff.rfl⟩
theorem Td {α:Type} {hB:GH} {r:Nat} {T t:TypeId} {fl:List Sl} {cd:Code} {all:List α}:∀c (h h':GH) l lo,SFnd hB r T t fl cd all c h→h l=some (true,.loop lo)→(∀b,b≠l→h' b=h b)→SFnd hB r T t fl cd all c h':=by
 rintro c h h' l lo ⟨q1,⟨w,q2,q3,q4⟩,q5⟩ hl ho;refine ⟨q1,⟨w,(ho _ fun e=>by subst e;rw [q2] at hl;cases hl).trans q2,q3.keep fun b o hb hbo=>?_,q4⟩,q5⟩;obtain ⟨c,hc⟩:=q3.cellsAt b hb;exact (ho b fun e=>by subst e;rw [hc] at hl;cases hl).trans hbo
end Go.Ns
