/- Rules and walks, part 2 of 6. No conditions. -/
import Derived.Sort.AssemblyPlain
import Derived.Sort.LotD3
import Derived.Test.YthccgklboafliaaGreatDoorEnA
set_option linter.unusedVariables false
set_option linter.unusedSimpArgs false
set_option linter.unnecessarySimpa false
set_option linter.unusedSectionVars false
namespace Go.Ns
open Go.Conc
section
variable {P:Program} {E:FN P} {σ:Nat→Value} {ds:List Deferred} {h:GH} {T:(Nat→Value)→List Deferred→GH→Prop}
variable {dst:Option Nat} {ty:TypeId} {pos:String} {af:Array Edge} {gd:Option (Nat×Bool)}
variable {α:Type}
def EE (R:GH→GH→Prop):List Lx→Prop
 | []=>True
 | φ ::l=>(∀v h h',R h h'→φ v h→φ v h')∧EE R l
theorem EE.mono {R:GH→GH→Prop}:∀{Φ:List Lx},EE R Φ→∀k v h h',R h h'→Io Φ k v h→Io Φ k v h'
 | [],_,k,v,h,h',_,x=>by cases k <;> exact x
 | φ ::l,ok,0,v,h,h',r,x=>ok.1 v h h' r x
 | φ ::l,ok,k+1,v,h,h',r,x=>EE.mono ok.2 k v h h' r x
theorem OQ {R:GH→GH→Prop} (rr:∀h,R h h) (rt:∀a b c,R a b→R b c→R a c) {id:Nat} {l:List Oper} {Q:Post} (n:Nat) (cls:List (List Nat)) (Φ:List Lx)
  (hm:P.follows .mixedOrders=true) (ok:Kg E.N l n cls=true) (mono:EE R Φ) (x:Ip R E l n Φ σ ds h Q n 0 l cls):Tr E (.region id l.toArray true) σ ds h Q:=
 UB R n cls Φ hm ok rr rt mono.mono x
theorem Kp {id:Nat} {l:List Oper} {Q:Post} (n:Nat) (cls:List (List Nat)) (Φ:List Lx)
  (hm:P.follows .mixedOrders=true) (ok:Kg E.N l n cls=true) (mono:EE GH.Le Φ) (x:Ip GH.Le E l n Φ σ ds h Q n 0 l cls):Tr E (.region id l.toArray true) σ ds h Q:=
 OQ GH.Le.refl (fun _ _ _=>GH.Le.trans) n cls Φ hm ok mono x
theorem Bf {ops:Array Oper} {o:Oper} {l:List Oper} {Q:Post} {j d:Nat} {want:Bool} {oj:Oper} (hg:o.guard=some (j,want)) (hj:ops[j]? =some oj) (hjd:oj.dst=some d) (hv:σ d=.bool want) (hdj:Nat.blt d E.N=true)
  (hdf:E.rd=none∨DN o.op=false) (hd:Df o.dst E.N=true) (x:Bd E o σ ds h fun σ' ds' h'=>DS E ops l σ' ds' h' Q):DS E ops (o ::l) σ ds h Q:=M6 hg hj hjd hv hdj hdf hd x
theorem Bn {ops:Array Oper} {o:Oper} {l:List Oper} {Q:Post} {j d:Nat} {want:Bool} {oj:Oper} (hg:o.guard=some (j,want)) (hj:ops[j]? =some oj) (hjd:oj.dst=some d) (hv:σ d=undef) (hdj:Nat.blt d E.N=true)
  (hd:Df o.dst E.N=true) (x:DS E ops l (putS σ o.dst undef) ds h Q):DS E ops (o ::l) σ ds h Q:=by
 intro i b k cs L t hi hb hr hl hs hc;have ho:ops[i]? =some o:=by simpa using (hi 0).symm
 have hy:yielded ops t j=none:=by
  have hlt:d<t.size:=by rw [hs.1];exact Nat.blt_eq▸hdj
  have h2:=hs.2 d;rw [hv] at h2;have h3:t[d]? =some undef:=by
   simp only [Array.getD_eq_getD_getElem?,Array.getElem?_eq_getElem hlt,Option.getD_some] at h2;rw [Array.getElem?_eq_getElem hlt,h2]
  simp [yielded,hj,hjd,h3,undef]
 refine Wk.go (CH b (Rf t o.dst undef) ds (.inRegion ops (List.range' (i+1) l.length) ::k)) (fun w=>?_) ?_
 ·have hw':((ops[i]?).map (Region.wanted · (yielded ops t))).getD false=false:=by
   simp only [ho,Option.map_some,Option.getD_some,Region.wanted,hg,hy];cases want <;> rfl
  rw [←Cf ho (rest:=List.range' (i+1) l.length),List.length_cons,List.range'_succ,A0];unfold stepG.exec;simp only [CH,hw',Bool.false_eq_true,↓reduceIte];rfl
 ·exact x (i+1) b k cs L _ (fun j=>by have:=hi (j+1);simpa [Nat.add_assoc,Nat.add_comm 1 j] using this) hb hr hl (hs.putS hd undef) hc
theorem BM {ops:Array Oper} {l:List Oper} {Q:Post} {p:Prop} [Decidable p] (a:p→DS E ops l σ ds h Q) (a':¬p→DS E ops l σ ds h Q):DS E ops l σ ds h Q:=if h:p then a h else a' h
theorem FP {ops:Array Oper} {l:List Oper} {Q:Post} {b:Bool} (a:b=true→DS E ops l σ ds h Q) (a':b=false→DS E ops l σ ds h Q):DS E ops l σ ds h Q:=by
 cases b with
 | true=>exact a rfl
 | false=>exact a' rfl
theorem Ir {f:Fn} {x1:Operand} {v1:Value} (h1:AV σ x1=v1) (k:T (putS σ dst (.func f #[] #[v1])) ds h):Bd E ⟨dst,.makeFunc f #[] #[x1],ty,pos,af,gd⟩ σ ds h T:=Ew (by simp [h1]) k
theorem FE {f:Fn} {x1 x2:Operand} {v1 v2:Value} (h1:AV σ x1=v1) (h2:AV σ x2=v2) (k:T (putS σ dst (.func f #[] #[v1,v2])) ds h):Bd E ⟨dst,.makeFunc f #[] #[x1,x2],ty,pos,af,gd⟩ σ ds h T:=Ew (by simp [h1,h2]) k
theorem FF {f:Fn} {x1 x2 x3:Operand} {v1 v2 v3:Value} (h1:AV σ x1=v1) (h2:AV σ x2=v2) (h3:AV σ x3=v3) (k:T (putS σ dst (.func f #[] #[v1,v2,v3])) ds h):Bd E ⟨dst,.makeFunc f #[] #[x1,x2,x3],ty,pos,af,gd⟩ σ ds h T:=Ew (by simp [h1,h2,h3]) k
theorem NE {f:Fn} {x1 x2 x3 x4:Operand} {v1 v2 v3 v4:Value} (h1:AV σ x1=v1) (h2:AV σ x2=v2) (h3:AV σ x3=v3) (h4:AV σ x4=v4) (k:T (putS σ dst (.func f #[] #[v1,v2,v3,v4])) ds h):Bd E ⟨dst,.makeFunc f #[] #[x1,x2,x3,x4],ty,pos,af,gd⟩ σ ds h T:=Ew (by simp [h1,h2,h3,h4]) k
theorem NF {f:Fn} {x1 x2 x3 x4 x5:Operand} {v1 v2 v3 v4 v5:Value} (h1:AV σ x1=v1) (h2:AV σ x2=v2) (h3:AV σ x3=v3) (h4:AV σ x4=v4) (h5:AV σ x5=v5) (k:T (putS σ dst (.func f #[] #[v1,v2,v3,v4,v5])) ds h):Bd E ⟨dst,.makeFunc f #[] #[x1,x2,x3,x4,x5],ty,pos,af,gd⟩ σ ds h T:=Ew (by simp [h1,h2,h3,h4,h5]) k
theorem Ce {v:Value} {p:Prop} [Decidable p] (e:v=.bool (decide p)) (g:v=.bool false):¬p:=by
 rw [e] at g;simpa using g
theorem AU.fresh {h0 h:GH} {v:Value} {t:TypeId} {n:Nat} {enc:α→Array Value} {xs:List α} (x:AU h0 h v t n enc xs):∀b,back v=some b→h0 b=none:=by
 intro b hb;rcases x with ⟨rfl,_⟩ | ⟨b',cap,c,rfl,h1,_⟩
 ·cases hb
 ·simp [back] at hb;subst hb;exact h1
theorem AU.inDom {h0 h:GH} {v:Value} {t:TypeId} {n:Nat} {enc:α→Array Value} {xs:List α} (x:AU h0 h v t n enc xs):∀b,back v=some b→∃o,h b=some o:=by
 intro b hb;rcases x with ⟨rfl,_⟩ | ⟨b',cap,c,rfl,h1,h2,_⟩
 ·cases hb
 ·simp [back] at hb;subst hb;exact ⟨_,h2⟩
def BA (v:Value) (b:Nat):Prop:=back v≠some b
def Apart (v w:Value):Prop:=∀b,back v=some b→back w≠some b
theorem Apart.symm {v w:Value} (a:Apart v w):Apart w v:=fun b h h'=>a b h' h
theorem BA.nil {b:Nat}:BA (.slice none 0 0) b:=by intro h;cases h
theorem Apart.nil {w:Value}:Apart (.slice none 0 0) w:=by intro b h;cases h
theorem BA.old {h0 h:GH} {v:Value} {t:TypeId} {n:Nat} {enc:α→Array Value} {xs:List α} (x:AU h0 h v t n enc xs) {b:Nat} {o:Bool×Obj} (hb:h0 b=some o):BA v b:=fun e=>by
 rw [x.fresh b e] at hb;cases hb
theorem BA.new {h0 h:GH} {v:Value} {t:TypeId} {n:Nat} {enc:α→Array Value} {xs:List α} (x:AU h0 h v t n enc xs) {b:Nat} (hb:h b=none):BA v b:=fun e=>by
 obtain ⟨o,ho⟩:=x.inDom b e;rw [hb] at ho;cases ho
def Dx (h h':GH) (v v':Value):Prop:=(∀b o,h b=some o→back v≠some b→h' b=some o)∧(back v'=back v∨((∃r,back v'=some r∧h r=none)∧∀b o,h b=some o→h' b=some o))
theorem BA.grown {h h':GH} {v v':Value} (g:Dx h h' v v') {b:Nat} {o:Bool×Obj} (hb:h b=some o) (x:BA v b):BA v' b:=fun e=>by
 rcases g.2 with q | ⟨⟨r,q1,q2⟩,_⟩
 ·exact x (q▸e)
 ·rw [q1] at e;cases e;rw [q2] at hb;cases hb
theorem Apart.grown {h h' h0:GH} {v v' w:Value} (g:Dx h h' v v') {t:TypeId} {n:Nat} {enc:α→Array Value} {xs:List α} (y:AU h0 h w t n enc xs) (x:Apart v w):Apart v' w:=fun b e e'=>by
 obtain ⟨o,ho⟩:=y.inDom b e';rcases g.2 with q | ⟨⟨r,q1,q2⟩,_⟩
 ·exact x b (q▸e) e'
 ·rw [q1] at e;cases e;rw [q2] at ho;cases ho
theorem AU.grown {h h' h0:GH} {v v' w:Value} (g:Dx h h' v v') {t:TypeId} {n:Nat} {enc:α→Array Value} {xs:List α} (y:AU h0 h w t n enc xs) (x:Apart v w):AU h0 h' w t n enc xs:=
 y.keep fun b o hb ho=>g.1 b o ho fun e=>x b e hb
theorem GH.Le.grown {h1 h h':GH} {v v':Value} (g:Dx h h' v v') (l:h1.Le h) (f:∀b,back v=some b→h1 b=none):h1.Le h':=fun b p o hb=>by
 obtain ⟨o',h2,h3⟩:=l b p o hb;exact ⟨o',g.1 b _ h2 fun e=>(by rw [f b e] at hb;cases hb),h3⟩
theorem CI {h h':GH} {v v':Value} (g:Dx h h' v v') {b:Nat} {o:Bool×Obj} (hb:h b=some o) (x:BA v b):h' b=some o:=g.1 b o hb x
theorem AU.stored {h0 h h':GH} {v:Value} {t:TypeId} {n:Nat} {enc:α→Array Value} {xs:List α} (y:AU h0 h v t n enc xs) {r:Nat} (x:BA v r) (ho:∀b,b≠r→h' b=h b):AU h0 h' v t n enc xs:=
 y.keep fun b o hb hb'=>by rw [ho b fun e=>by subst e;exact x hb];exact hb'
theorem Bz {s x:TypeId} {o1 o2:Operand} {h0:GH} {v w:Value} {e n bytes:Nat} {enc:α→Array Value} {xs ys:List α} (ht:Hx P s x=some (e,n,bytes)) (h1:AV σ o1=v) (h2:AV σ o2=w)
  (hv:AU h0 h v e n enc xs) (hw:AN h w n enc ys) (l0:∀r,h r=none→h0 r=none) (hb:(2*(xs.length+ys.length)+512)*bytes≤2 ^ 48) (hfine:∀y ∈ ys,(enc y).toList.all (·.oneCell')=true)
  (k:∀v' h',AU h0 h' v' e n enc (xs++ys)→Dx h h' v v'→T (putS σ dst v') ds h') :
  Bd E ⟨dst,.call ⟨.builtin .append,#[o1,o2],#[s,x]⟩,ty,pos,af,gd⟩ σ ds h T:=
 Rk ht h1 h2 hv hw l0 hb hfine fun v' h' a b c=>k v' h' a ⟨b,c⟩
theorem Az {h0:GH} {t:TypeId} {x ix:Operand} {n:Nat} {enc:α→Array Value} {xs:List α} {v:Value} {kd:IntKind} {i:Int} (ht:Dc P t=some n) (hs:AN h0 v n enc xs) (hx:AV σ x=v) (hi:AV σ ix=.int kd i) (h0':0≤i) (h1:i<xs.length)
  (k:∀b off,Aa h0 b off n (enc (xs[i.toNat]'(by omega)))→T (putS σ dst (.pointer (some ⟨b,off,none⟩))) ds h):Bd E ⟨dst,.indexAddr t x ix,ty,pos,af,gd⟩ σ ds h T:=by
 obtain ⟨a,cap,rfl,_,_,he⟩:=hs;obtain ⟨b,off,rfl,hb⟩:=he i.toNat (by omega);exact AJ ht hx hi h0' h1 (k b _ hb)
theorem AU.built {h h':GH} {r:Nat} {t:TypeId} {n:Nat} {enc:α→Array Value} {xs:List α} {c:Array Value} {m:Nat} (hr:h r=none) (hb:h' r=some (true,.cells c t (0,0))) (hm:xs.length=m) (hml:Nat.ble m 16777216=true) (hn:∀x ∈ xs,(enc x).size=n) (hc:c.toList=Cc enc xs) :
  AU h h' (.slice (some ⟨r,0,none⟩) m m) t n enc xs:=by
 subst hm
 have:=Nat.le_of_ble_eq_true hml
 refine .inr ⟨r,_,c,rfl,hr,hb,?_,Nat.le_refl _,by omega,?_,hn⟩
 ·rw [←DL hn,←hc,Array.length_toList]
 ·rw [hc,←DL hn,List.take_length]
theorem Af {t:TypeId} {len n:Nat} {z cells:Array Value} {e:TypeId} {parts:Array (Nat×Operand)} (hs:Dd P t=some (n,z,e)) (hl:len*n≤2 ^ 24) (hn:(len*n=0)=False)
  (hf:Instr.fill (fun i=>some (i*n,n)) ((Array.range (len*n)).map (z[·%z.size]!)) (parts.map fun (i,x)=>(i,AV σ x)).toList=some cells)
  (k:∀r h',h r=none→h.Le h'→h' r=some (true,.cells cells e (0,0))→(∀b,b≠r→h' b=h b)→T (putS σ dst (.slice (some ⟨r,0,none⟩) len len)) ds h'):Bd E ⟨dst,.buildSlice t len parts,ty,pos,af,gd⟩ σ ds h T:=
 Lw hs hl hn hf fun r hr=>k r _ hr (GH.Le.new hr _ _) (GH.set_same _ _ _ _) fun b hb=>GH.set_ne _ _ _ hb
theorem OR {s x:TypeId} {o1 o2:Operand} {b off dl cap n:Nat} {e:TypeId} {enc:α→Array Value} {ys:List α} {w:Value} {c c':Array Value} (ht:Dc P s=some n) (h1:AV σ o1=.slice (some ⟨b,off,none⟩) dl cap) (h2:AV σ o2=w)
  (hb:h b=some (true,.cells c e (0,0))) (hn:off+dl*n≤c.size) (hw:AN h w n enc ys) (hl:ys.length≤dl) (hfine:∀y ∈ ys,(enc y).toList.all (·.oneCell')=true) (hsz:∀y ∈ ys,(enc y).size=n) (hc:Bj c off (Cc enc ys)=c')
  (k:∀h',h' b=some (true,.cells c' e (0,0))→(∀x,x≠b→h' x=h x)→T (putS σ dst (.int .i64 ys.length)) ds h') :
  Bd E ⟨dst,.call ⟨.builtin .copy,#[o1,o2],#[s,x]⟩,ty,pos,af,gd⟩ σ ds h T:=
 UC ht h1 h2 hb hn hw hl hfine hsz (k _ (by rw [hc];exact GH.set_same _ _ _ _) fun x hx=>GH.set_ne _ _ _ hx)
theorem EU {t:TypeId} {n:Nat} {z:Array Value} {e:TypeId} (hs:Dd P t=some (n,z,e)) (k:∀r h',h r=none→h.Le h'→h' r=some (true,.cells #[] e (0,0))→(∀b,b≠r→h' b=h b)→T (putS σ dst (.slice (some ⟨r,0,none⟩) 0 0)) ds h') :
  Bd E ⟨dst,.buildSlice t 0 #[],ty,pos,af,gd⟩ σ ds h T:=by
 unfold Bd execOp;refine Eg ?_;unfold Dd at hs;unfold Instr.buildSlice;cases hu:P.underlying t with
 | none=>rw [hu] at hs;cases hs
 | some d=>
  rw [hu] at hs;cases d <;> first | (cases hs;done) | skip
  rename_i e'
  simp only at hs;cases ht:B8 P e' with
  | none=>rw [ht] at hs;cases hs
  | some x=>
   cases hz:Bt P e' with
   | none=>rw [ht,hz] at hs;cases hs
   | some z'=>
    rw [ht,hz] at hs;simp only [Option.some.injEq,Prod.mk.injEq] at hs;obtain ⟨rfl,rfl,rfl⟩:=hs;refine AG _ _ (Ak hu ?_);refine AG _ _ (Eh (by rw [ht];rfl) ?_);rw [Nat.zero_mul,if_neg (by decide)];dsimp only;rw [if_pos rfl];refine AG _ _ (Au ?_);have e0:Instr.fill (fun i=>some (i*x.snd,x.snd)) (Array.map (fun y=>(#[]:Array Value)[y%(#[]:Array Value).size]!) (Array.range 0)) (Array.map (fun y:Nat×Operand=>(y.fst,AV σ y.snd)) #[]).toList=some #[]:=by
     simp [Instr.fill]
    rw [e0];dsimp only;refine AG _ _ ?_;unfold newRow;refine AG _ _ (fun r hr=>?_);exact k r _ hr (GH.Le.new hr _ _) (GH.set_same _ _ _ _) fun b hb=>GH.set_ne _ _ _ hb
end
end Go.Ns
namespace Go.Ns
open Go.Conc
section
variable {P:Program} {E:FN P}
def F0:Op→Option (List Operand)
 | .move x | .assign x | .box _ x | .unOp _ _ x | .convert _ _ x | .load _ x | .fieldAddr _ x _ | .field _ x _ | .nilCheck x | .extract x _ | .makeInterface _ x | .makeChan _ x | .typeAssert x _ _ _=>some [x]
 | .pick c a b=>some [c,a,b]
 | .alloc _=>some []
 | .build _ ps | .buildSlice _ _ ps=>some (ps.toList.map (·.2))
 | .store _ a x | .binOp _ _ a x _ | .indexAddr _ a x | .index _ a x | .lookup _ a x _ | .makeSlice _ a x=>some [a,x]
 | .makeFunc _ f c=>some (f.toList++c.toList)
 | .makeMap _ r=>some r.toList
 | .slice _ x lo hi mx=>some (x ::(lo.toList++(hi.toList++mx.toList)))
 | .mapUpdate _ m k x=>some [m,k,x]
 | .call c=>some (c.args.toList++match c.callee with | .value f=>[f] | .invoke r _=>[r] | .builtin _=>[])
 | _=>none
theorem Kq {ρ ρ':Operand→Value} {a:Array Operand} (e:∀x ∈ a.toList,ρ x=ρ' x):a.map ρ=a.map ρ':=by
 apply Array.toList_inj.1;rw [Array.toList_map,Array.toList_map];exact List.map_congr_left e
theorem OS {ρ ρ':Operand→Value} {a:Array (Nat×Operand)} (e:∀x ∈ a.toList.map (·.2),ρ x=ρ' x):(a.map fun (i,x)=>(i,ρ x))=a.map fun (i,x)=>(i,ρ' x):=by
 apply Array.toList_inj.1;rw [Array.toList_map,Array.toList_map];exact List.map_congr_left fun x hx=>by
  have:=e x.2 (List.mem_map.2 ⟨x,hx,rfl⟩)
  obtain ⟨i,y⟩:=x;exact congrArg (Prod.mk i) this
theorem RF {ρ ρ':Operand→Value} {a:Option Operand} (e:∀x ∈ a.toList,ρ x=ρ' x):a.map ρ=a.map ρ':=by
 cases a with
 | none=>rfl
 | some x=>simp [e x (by simp)]
theorem Is {ρ ρ':Operand→Value} {o:Oper} {xs:List Operand} (hx:F0 o.op=some xs) (e:∀x ∈ xs,ρ x=ρ' x):execOp ρ o=execOp ρ' o:=by
 obtain ⟨dst,op,ty,pos,af,gd⟩:=o;cases op <;> simp only [F0,Option.some.injEq,reduceCtorEq] at hx
 case call c=>
  subst hx;have e1:=Kq (a:=c.args) fun x hx=>e x (List.mem_append_left _ hx);simp only [execOp,resolve,e1];cases hc:c.callee with
  | builtin b=>rfl
  | value f=>simp only [];rw [e f (List.mem_append_right _ (by rw [hc];simp))]
  | invoke r m=>simp only [];rw [e r (List.mem_append_right _ (by rw [hc];simp))]
 case makeFunc f a b=>
  subst hx;simp only [execOp];rw [Kq (a:=a) fun x hx=>e x (List.mem_append_left _ hx),Kq (a:=b) fun x hx=>e x (List.mem_append_right _ hx)]
 case slice t x lo hi mx=>
  subst hx;simp only [execOp];rw [e x (by simp),RF (a:=lo) fun y hy=>e y (by simp_all),RF (a:=hi) fun y hy=>e y (by simp_all),RF (a:=mx) fun y hy=>e y (by simp_all)]
 case build t ps=>subst hx;simp only [execOp];rw [OS e]
 case buildSlice t n ps=>subst hx;simp only [execOp];rw [OS e]
 case makeMap t r=>subst hx;simp only [execOp];rw [RF e]
 all_goals
  subst hx;simp only [List.mem_cons,or_false,forall_eq_or_imp,forall_eq,List.not_mem_nil,false_implies,implies_true] at e;simp [execOp,e]
def F1 (xs:List Operand):List Nat:=xs.filterMap fun x=>match x with | .tmp t=>some t | _=>none
theorem Jx {σ σ':Nat→Value} {xs:List Operand} (e:∀t ∈ F1 xs,σ t=σ' t):∀x ∈ xs,AV σ x=AV σ' x:=fun x hx=>by
 cases x with
 | tmp t=>exact e t (List.mem_filterMap.2 ⟨_,hx,rfl⟩)
 | const v=>rfl
 | global g=>rfl
 | func f=>rfl
def Hz:Op→Bool
 | .call c=>match c.callee with
  | .builtin b=>b==.len || b==.cap || b==.min || b==.max
  | _=>false
 | .move _ | .assign _ | .nilCheck _ | .pick .. | .build .. | .load .. | .binOp .. | .unOp .. | .convert .. | .makeFunc .. | .fieldAddr .. | .field .. | .indexAddr .. | .index .. | .extract .. | .lookup .. | .slice .. | .makeInterface .. | .typeAssert .. =>true
 | _=>false
theorem Hf {β:Type} {s:Sem β} {f:β→Value} {h:GH} {Q:Next→GH→Prop}:(s.bind fun x=>(Sem.pure (Next.value (f x)):Sem Next)).gh P h Q→(s.bind fun x=>(Sem.pure (Next.value (f x)):Sem Next)).gh P h fun a h'=>Q a h'∧∃v,a=.value v:=by
 induction s generalizing h with
 | pure a=>intro x;exact ⟨x,_,rfl⟩
 | load m a k ih=>rintro ⟨x1,x2,p,c,t,f,v,y1,y2,z⟩;exact ⟨x1,x2,p,c,t,f,v,y1,y2,ih v z⟩
 | store m a v k ih=>rintro ⟨x1,x2,x3,c,t,f,y1,y2,y3,z⟩;exact ⟨x1,x2,x3,c,t,f,y1,y2,y3,ih z⟩
 | new o k ih=>intro x r hr;exact ih r (x r hr)
 | shape r k ih=>rintro ⟨p,c,t,f,y,z⟩;exact ⟨p,c,t,f,y,ih _ z⟩
 | freeze a n k ih=>
  rintro (⟨y,z⟩ | ⟨y,c,t,f,y2,z⟩)
  ·exact .inl ⟨y,ih z⟩
  ·exact .inr ⟨y,c,t,f,y2,ih z⟩
 | frozen a k ih=>rintro ⟨p,c,t,f,y,z⟩;exact ⟨p,c,t,f,y,ih _ z⟩
 | getObj r k ih=>rintro ⟨p,o,y1,y2,y3,z⟩;exact ⟨p,o,y1,y2,y3,ih _ z⟩
 | setObj r o k ih=>rintro ⟨o',y1,y2,y2',y3,z⟩;exact ⟨o',y1,y2,y2',y3,ih z⟩
 | choose q k ih=>rintro ⟨y,z⟩;exact ⟨fun x=>ih _ (y x),fun x t=>ih _ (z x t)⟩
 | sys c k ih=>intro x;exact x.elim
 | program k ih=>intro x;exact ih _ x
 | mark m k ih=>rintro ⟨y,z⟩;exact ⟨y,ih z⟩
 | halt x=>intro y;exact y.elim
def FY (P:Program) (e:Sem Next):Prop:=∀(h:GH) (Q:Next→GH→Prop),e.gh P h Q→e.gh P h fun a h'=>Q a h'∧∃v,a=.value v
theorem FY.bind {β:Type} {s:Sem β} {f:β→Sem Next} (hf:∀a,FY P (f a)):FY P (s.bind f):=by
 induction s with
 | pure a=>exact hf a
 | load m a k ih=>rintro h Q ⟨x1,x2,p,c,t,f,v,y1,y2,z⟩;exact ⟨x1,x2,p,c,t,f,v,y1,y2,ih v _ _ z⟩
 | store m a v k ih=>rintro h Q ⟨x1,x2,x3,c,t,f,y1,y2,y3,z⟩;exact ⟨x1,x2,x3,c,t,f,y1,y2,y3,ih _ _ z⟩
 | new o k ih=>intro h Q x r hr;exact ih r _ _ (x r hr)
 | shape r k ih=>rintro h Q ⟨p,c,t,f,y,z⟩;exact ⟨p,c,t,f,y,ih _ _ _ z⟩
 | freeze a n k ih=>
  rintro h Q (⟨y,z⟩ | ⟨y,c,t,f,y2,z⟩)
  ·exact .inl ⟨y,ih _ _ z⟩
  ·exact .inr ⟨y,c,t,f,y2,ih _ _ z⟩
 | frozen a k ih=>rintro h Q ⟨p,c,t,f,y,z⟩;exact ⟨p,c,t,f,y,ih _ _ _ z⟩
 | getObj r k ih=>rintro h Q ⟨p,o,y1,y2,y3,z⟩;exact ⟨p,o,y1,y2,y3,ih _ _ _ z⟩
 | setObj r o k ih=>rintro h Q ⟨o',y1,y2,y2',y3,z⟩;exact ⟨o',y1,y2,y2',y3,ih _ _ z⟩
 | choose q k ih=>rintro h Q ⟨y,z⟩;exact ⟨fun x=>ih _ _ _ (y x),fun x t=>ih _ _ _ (z x t)⟩
 | sys c k ih=>intro h Q x;exact x.elim
 | program k ih=>intro h Q x;exact ih _ _ _ x
 | mark m k ih=>rintro h Q ⟨y,z⟩;exact ⟨y,ih _ _ z⟩
 | halt x=>intro h Q y;exact y.elim
theorem FY.value (v:Value):FY P (pure (.value v)):=fun _ _ x=>⟨x,v,rfl⟩
theorem S3 {ρ:Operand→Value} {o:Oper} (hv:Hz o.op=true) {h:GH} {Q:Next→GH→Prop} (x:(execOp ρ o).gh P h Q):(execOp ρ o).gh P h fun a h'=>Q a h'∧∃v,a=.value v:=by
 obtain ⟨dst,op,ty,pos,af,gd⟩:=o;cases op
 case nilCheck a=>
  have hp:FY P (runtimePanic .nilDeref:Sem Next):=fun _ _ y=>by first | exact y.elim | exact FY.bind (fun _=>fun _ _ z=>z.elim) _ _ y
  have key:FY P (execOp ρ ⟨dst,.nilCheck a,ty,pos,af,gd⟩):=by
   unfold execOp;dsimp only;split
   ·exact hp
   ·exact hp
   ·exact hp
   ·split
    ·exact hp
    ·refine FY.bind fun p=>FY.bind fun r=>?_;split
     ·exact FY.bind fun _=>FY.value _
     ·exact FY.value _
    ·exact FY.value _
   ·exact FY.value _
  exact key _ _ x
 case call c=>
  simp only [Hz] at hv;have e:∀s:Sem Value,execOp ρ ⟨dst,.call c,ty,pos,af,gd⟩=s.bind (fun x=>Sem.pure (Next.value x))→(execOp ρ ⟨dst,.call c,ty,pos,af,gd⟩).gh P h fun a h'=>Q a h'∧∃v,a=.value v:=fun s q=>by
   rw [q] at x ⊢;exact Hf (f:=fun x=>x) x
  cases hc:c.callee with
  | value f=>rw [hc] at hv;cases hv
  | invoke r m=>rw [hc] at hv;cases hv
  | builtin b=>
   rw [hc] at hv;have q:execOp ρ ⟨dst,.call c,ty,pos,af,gd⟩=builtin b c.argTypes ty (c.args.map fun | .const _=>true | _=>false) (c.args.map ρ):=by
    show (resolve ρ c ty).bind _=_;unfold resolve;rw [hc];rfl
   cases b <;> first | (simp at hv;done) | exact e _ q
 all_goals first | (simp [Hz] at hv;done) | skip
 all_goals first | exact Hf (s:=Sem.pure _) (f:=fun _=>_) x | exact Hf (f:=fun x=>x) x | exact Hf (β:=Bool) x
theorem GH.Le.get {h h':GH} (l:h.Le h') {b:Nat} {x:Bool×Obj} (hb:h b=some x):h' b=some x:=l.keep (p:=x.1) (o:=x.2) hb rfl
theorem GH.Le.of {h h':GH} (x:∀b y,h b=some y→h' b=some y):h.Le h':=fun b p o hb=>⟨o,x b _ hb,.inl rfl⟩
def Rl (h' h2:GH):GH:=fun b=>match h' b with
 | some x=>some x
 | none=>h2 b
theorem MY {h h2:GH} (l:h.Le h2):Rl h h2=h2:=funext fun b=>by
 unfold Rl;split
 ·rename_i x hb;exact (l.get hb).symm
 ·rfl
theorem GH.Le.set2 {h h2:GH} (l:h.Le h2) (r:Nat) (p:Bool) (o:Obj):(h.set r p o).Le (h2.set r p o):=.of fun b y hb=>by
 by_cases e:b=r
 ·subst e;rw [GH.set_same] at hb ⊢;exact hb
 ·rw [GH.set_ne h p o e] at hb;rw [GH.set_ne h2 p o e];exact l.get hb
def OT (h h':GH):Prop:=∀b,(∃x,h b=some x)→∃x,h' b=some x
theorem It {h h' h2:GH} {r:Nat} {p:Bool} {o:Obj} (d:OT (h.set r p o) h'):Rl h' (h2.set r p o)=Rl h' h2:=funext fun b=>by
 unfold Rl;by_cases e:b=r
 ·subst e;obtain ⟨x,hx⟩:=d b ⟨_,GH.set_same h b p o⟩;rw [hx]
 ·rw [GH.set_ne h2 p o e]
theorem OT.set {h h':GH} {r:Nat} {p:Bool} {o:Obj} (d:OT (h.set r p o) h'):OT h h':=fun b ⟨x,hx⟩=>by
 by_cases e:b=r
 ·subst e;exact d b ⟨_,GH.set_same h b p o⟩
 ·exact d b ⟨x,by rw [GH.set_ne h p o e];exact hx⟩
theorem UE {α:Type} (e:Sem α) {Q:α→GH→Prop}:∀{h h2:GH},h.Le h2→e.gh P h Q→e.gh P h2 fun a h3=>∃h',OT h h'∧Q a h'∧h3=Rl h' h2:=by
 induction e with
 | pure a=>intro h h2 l x;exact ⟨h,fun _ y=>y,x,(MY l).symm⟩
 | load m a k ih=>rintro h h2 l ⟨x1,x2,p,c,t,f,v,y1,y2,z⟩;exact ⟨x1,x2,p,c,t,f,v,l.get y1,y2,ih v l z⟩
 | store m a v k ih=>
  rintro h h2 l ⟨x1,x2,x3,c,t,f,y1,y2,y3,z⟩;exact ⟨x1,x2,x3,c,t,f,l.get y1,y2,y3,Do _ (fun _ _ ⟨h',d,q,r⟩=>⟨h',d.set,q,r.trans (It d)⟩) _ (ih (l.set2 _ _ _) z)⟩
 | new o k ih=>
  intro h h2 l x r hr;have hr0:h r=none:=by
   cases hb:h r with
   | none=>rfl
   | some y=>rw [l.get hb] at hr;cases hr
  exact Do _ (fun _ _ ⟨h',d,q,r⟩=>⟨h',d.set,q,r.trans (It d)⟩) _ (ih r (l.set2 _ _ _) (x r hr0))
 | shape r k ih=>rintro h h2 l ⟨p,c,t,f,y,z⟩;exact ⟨p,c,t,f,l.get y,ih _ l z⟩
 | freeze a n k ih=>
  rintro h h2 l (⟨y,z⟩ | ⟨y,c,t,f,y2,z⟩)
  ·exact .inl ⟨y,ih l z⟩
  ·exact .inr ⟨y,c,t,f,l.get y2,Do _ (fun _ _ ⟨h',d,q,r⟩=>⟨h',d.set,q,r.trans (It d)⟩) _ (ih (l.set2 _ _ _) z)⟩
 | frozen a k ih=>rintro h h2 l ⟨p,c,t,f,y,z⟩;exact ⟨p,c,t,f,l.get y,ih _ l z⟩
 | getObj r k ih=>rintro h h2 l ⟨p,o,y1,y2,y3,z⟩;exact ⟨p,o,l.get y1,y2,y3,ih _ l z⟩
 | setObj r o k ih=>
  rintro h h2 l ⟨o',y1,y2,y2',y3,z⟩;exact ⟨o',l.get y1,y2,y2',y3,Do _ (fun _ _ ⟨h',d,q,r⟩=>⟨h',d.set,q,r.trans (It d)⟩) _ (ih (l.set2 _ _ _) z)⟩
 | choose q k ih=>rintro h h2 l ⟨y,z⟩;exact ⟨fun x=>ih _ l (y x),fun x t=>ih _ l (z x t)⟩
 | sys c k ih=>intro h h2 l x;exact x.elim
 | program k ih=>intro h h2 l x;exact ih _ l x
 | mark m k ih=>rintro h h2 l ⟨y,z⟩;exact ⟨y,ih l z⟩
 | halt x=>intro h h2 l y;exact y.elim
def RG (E:FN P) (o:Oper) (σ:Nat→Value) (ds:List Deferred) (h:GH) (v:Value):Prop:=Bd E o σ ds h fun σ' ds' h'=>σ'=putS σ o.dst v∧ds'=ds∧h'=h
theorem RG.move {o:Oper} {xs:List Operand} {σ σ2:Nat→Value} {ds:List Deferred} {h h2:GH} {v:Value} (hv:Hz o.op=true) (hx:F0 o.op=some xs) (e:∀t ∈ F1 xs,σ t=σ2 t) (l:h.Le h2)
  (y:RG E o σ ds h v):RG E o σ2 ds h2 v:=by
 unfold RG Bd at y ⊢;rw [←Is hx (Jx e)];refine Do _ ?_ _ (UE _ l (S3 hv y));rintro a h3 ⟨h',_,⟨q,v',rfl⟩,rfl⟩;obtain ⟨q1,_,rfl⟩:=q;refine ⟨?_,rfl,MY l⟩;cases hd:o.dst with
 | none=>rfl
 | some d=>
  have:=congrFun q1 d
  simp only [hd,putS,upd_same] at this;rw [this]
theorem Bd.move {o:Oper} {xs:List Operand} {σ σ2:Nat→Value} {ds:List Deferred} {h:GH} {T T2:(Nat→Value)→List Deferred→GH→Prop} (hx:F0 o.op=some xs) (e:∀t ∈ F1 xs,σ t=σ2 t)
  (ht:∀x ds' h',T (putS σ o.dst x) ds' h'→T2 (putS σ2 o.dst x) ds' h') (y:Bd E o σ ds h T):Bd E o σ2 ds h T2:=by
 unfold Bd at y ⊢;rw [←Is hx (Jx e)];refine Do _ (fun nx h' q=>?_) _ y;cases nx <;> first | exact ht _ _ _ q | exact Ab.mono q fun v h'' r=>ht _ _ _ r | exact Bs.mono q fun v h'' r=>ht _ _ _ r | exact q
inductive Kd where
 | p | r | e | w | a
 deriving DecidableEq
def Gd (l:List Oper) (o:Oper) (σ:Nat→Value) (b:Bool):Prop:=match o.guard with
 | none=>b=true
 | some (g,w)=>∃og d is,l[g]? =some og∧og.dst=some d∧σ d=.bool is∧b=(is==w)
theorem Gd.iff {l:List Oper} {o:Oper} {σ:Nat→Value} {b:Bool} (x:Gd l o σ b):CS l o σ↔b=true:=by
 unfold Gd at x;unfold CS;cases hg:o.guard with
 | none=>rw [hg] at x;simp only at x;simp [x]
 | some y=>
  obtain ⟨g,w⟩:=y;rw [hg] at x;obtain ⟨og,d,is,h1,h2,h3,rfl⟩:=x;simp only [h1,h2,h3];simp
def Gw (fl:Bool) (h hx:GH):Prop:=h.Le hx∧(fl=false→hx=h)
theorem Gw.refl (fl:Bool) (h:GH):Gw fl h h:=⟨GH.Le.refl h,fun _=>rfl⟩
def VJ (P:Program) (t:TypeId):Array Value:=(Bt P t).getD #[]
def TD (E:FN P) (l:List Oper) (n:Nat) (fl:Bool) (hs:GH) (ds:List Deferred) (F:(Nat→Value)→GH→Prop):List (Kd×Nat)→(Nat→Value)→GH→Prop
 | [],σ,h=>∀hx,Gw fl h hx→F σ hx
 | (kd,k) ::π,σ,h=>∃o b,l[k]? =some o∧Gd l o σ b∧(b=false→TD E l n fl hs ds F π (putS σ o.dst undef) h)∧(b=true→match kd with
  | .p=>∃v,(∀hx,RG E o σ ds hx v)∧TD E l n fl hs ds F π (putS σ o.dst v) h
  | .r=>∃v,RG E o σ ds h v∧TD E l n fl hs ds F π (putS σ o.dst v) h
  | .e=>∀hx,Gw fl h hx→Bd E o σ ds hx fun σ' ds' h'=>ds'=ds∧∃v,σ'=putS σ o.dst v∧hx.Le h'∧TD E l n fl hs ds F π (putS σ o.dst v) h'
  | .w=>∀hx,Gw fl h hx→Bd E o σ ds hx fun σ' ds' h'=>ds'=ds∧∃v,σ'=putS σ o.dst v∧TD E l n fl hs ds F π (putS σ o.dst v) h'
  | .a=>∀t r hx,o.op=.alloc t→h.Le hx→hs r=none→hx r=some (true,.cells (VJ P t) t (0,0))→TD E l n fl hs ds F π (putS σ o.dst (.pointer (some ⟨r,0,none⟩))) hx)
def GE (l:List Oper) (n:Nat) (cl seen:List Nat) (t:Nat):Bool:= !(Cw l n).contains t || seen.any fun j=>cl.contains j && match l[j]? with
 | some oj=>oj.dst==some t
 | none=>false
def NG (P:Program):Op→Bool
 | .alloc t=>(Bt P t).isSome
 | _=>false
def FG (P:Program) (l:List Oper) (n:Nat) (cls:List (List Nat)) (fl:Bool):List (Kd×Nat)→List Nat→List Nat→List Nat→Bool→Bool
 | [],seen,_,_,_=>(List.range n).all seen.contains
 | (kd,k) ::π,seen,effs,rds,wr=>match l[k]? with
  | none=>false
  | some o=>(match F0 o.op with
    | none=>false
    | some xs=>Nat.blt k n && !seen.contains k && (F1 xs).all (GE l n (cls.getD k []) seen)) &&
   (match o.guard with
    | none=>true
    | some (g,_)=>seen.contains g && (cls.getD k []).contains g) &&
   (match kd with
    | .p=>Hz o.op && effs.all (cls.getD k []).contains && FG P l n cls fl π (k ::seen) effs rds wr
    | .r=>Hz o.op && effs.all (cls.getD k []).contains && FG P l n cls fl π (k ::seen) effs (k ::rds) wr
    | .e=>effs.all (cls.getD k []).contains && FG P l n cls fl π (k ::seen) (k ::effs) rds wr
    | .w=>effs.all (cls.getD k []).contains && rds.all (cls.getD k []).contains && FG P l n cls fl π (k ::seen) (k ::effs) rds true
    | .a=>fl && !wr && NG P o.op && o.dst.isSome && o.guard.isNone && FG P l n cls fl π (k ::seen) (k ::effs) rds wr)
structure PF (E:FN P) (l:List Oper) (n:Nat) (cls:List (List Nat)) (ds:List Deferred) (seen rds:List Nat) (σr:Nat→Value) (h':GH) (k:Nat) (o:Oper) (xs:List Operand) (b:Bool) (v:Value):Prop where
 at':l[k]? =some o
 op:F0 o.op=some xs
 val:Hz o.op=true
 fix:∀t ∈ F1 xs,GE l n (cls.getD k []) seen t=true
 gfix:∀g w,o.guard=some (g,w)→g ∈ seen∧g ∈ cls.getD k []
 gd:Gd l o σr b
 vop:b=true→RG E o σr ds h' v∧(k ∈ rds∨∀hx,RG E o σr ds hx v)
 is:∀d,o.dst=some d→σr d=if b=true then v else undef
structure JU (E:FN P) (l:List Oper) (n:Nat) (cls:List (List Nat)) (fl:Bool) (hs:GH) (ds:List Deferred) (F:(Nat→Value)→GH→Prop) (seen effs rds:List Nat) (wr:Bool) (π:List (Kd×Nat)) (σr:Nat→Value) (hr:GH)
  (D:Nat→Bool) (σ':Nat→Value) (h':GH):Prop where
 td:TD E l n fl hs ds F π σr hr
 ok:FG P l n cls fl π seen effs rds wr=true
 gw:Gw fl hr h'
 base:∀t,(Cw l n).contains t=false→σ' t=σr t
 lt:∀k ∈ seen,k<n
 eff:∀k ∈ effs,D k=true
 rest:∀kd k,(kd,k) ∈ π→kd≠.a→D k=false
 done:∀k ∈ seen,D k=true→∀o d,l[k]? =some o→o.dst=some d→σ' d=σr d
 pend:∀k ∈ seen,D k=false→∃o xs b v,PF E l n cls ds seen rds σr h' k o xs b v
 flo:∀k,(Kd.a,k) ∈ π→D k=true→∀o t d,l[k]? =some o→o.op=.alloc t→o.dst=some d→∃r,σ' d=.pointer (some ⟨r,0,none⟩)∧hs r=none∧h' r=some (true,.cells (VJ P t) t (0,0))
 pre:wr=false→hs.Le h'
 clos:∀k,k<n→D k=true→∀q ∈ cls.getD k [],D q=true
theorem Jy {l:List Oper} {n:Nat} {cl seen:List Nat} {k t:Nat} (x:GE l n cl seen t=true):GE l n cl (k ::seen) t=true:=by
 unfold GE at x ⊢;rw [Bool.or_eq_true] at x ⊢;rcases x with x | x
 ·exact .inl x
 ·exact .inr (by rw [List.any_cons,x];simp)
theorem MZ {l:List Oper} {n:Nat} {cl seen:List Nat} {k t d:Nat} {o:Oper} (nd:(Cw l n).Nodup) (hlt:∀k ∈ seen,k<n) (hk:k<n) (hs:k ∉ seen) (ho:l[k]? =some o) (hd:o.dst=some d) (x:GE l n cl seen t=true):t≠d:=by
 intro e;subst e;unfold GE at x;rw [Bool.or_eq_true] at x;rcases x with x | x
 ·have:t ∈ Cw l n:=by
   simp only [Cw,List.mem_filterMap];refine ⟨o,?_,hd⟩
   have:(l.take n)[k]? =some o:=by rw [List.getElem?_take];simp [hk,ho]
   exact List.mem_of_getElem? this
  simp [this] at x
 ·rw [List.any_eq_true] at x;obtain ⟨j,hj,y⟩:=x;rw [Bool.and_eq_true] at y;cases hoj:l[j]? with
  | none=>rw [hoj] at y;simp at y
  | some oj=>
   rw [hoj] at y;have y2:oj.dst=some t:=by simpa using y.2
   exact ED nd hk (hlt j hj) (fun e=>hs (e▸hj)) ho hoj hd y2 rfl
theorem DO {σ:Nat→Value} {o:Oper} {v:Value} {t:Nat} (h:∀d,o.dst=some d→t≠d):putS σ o.dst v t=σ t:=by
 cases hd:o.dst with
 | none=>rfl
 | some d=>exact upd_ne σ v (II (h d hd))
theorem Hg {l:List Oper} {n k t:Nat} {o:Oper} (hk:k<n) (ho:l[k]? =some o) (ht:(Cw l n).contains t=false):∀d,o.dst=some d→t≠d:=fun d hd e=>by
 subst e;rw [Kh hk ho hd] at ht;cases ht
section
variable {l:List Oper} {n:Nat} {cls:List (List Nat)} {fl:Bool} {hs:GH} {ds:List Deferred} {F:(Nat→Value)→GH→Prop} {seen effs rds:List Nat} {wr:Bool} {π:List (Kd×Nat)} {σr σ':Nat→Value} {hr h':GH} {D:Nat→Bool}
theorem Gd.put {o ok:Oper} {k:Nat} {b:Bool} {v:Value} (nd:(Cw l n).Nodup) (hlt:∀k ∈ seen,k<n) (hk:k<n) (hks:k ∉ seen) (hok:l[k]? =some ok) (hg:∀g w,o.guard=some (g,w)→g ∈ seen) (x:Gd l o σr b):Gd l o (putS σr ok.dst v) b:=by
 unfold Gd at x ⊢;cases hgd:o.guard with
 | none=>rw [hgd] at x;exact x
 | some y=>
  obtain ⟨g,w⟩:=y;rw [hgd] at x;obtain ⟨og,d,is,h1,h2,h3,h4⟩:=x;have hgs:=hg g w hgd;exact ⟨og,d,is,h1,h2,by rw [DO fun d' hd'=>ED nd hk (hlt g hgs) (fun e=>hks (e▸hgs)) hok h1 hd' h2];exact h3,h4⟩
theorem PF.put {k j:Nat} {o ok:Oper} {xs:List Operand} {b:Bool} {v w:Value} (nd:(Cw l n).Nodup) (hlt:∀k ∈ seen,k<n) (hk:k<n) (hks:k ∉ seen) (hok:l[k]? =some ok) (hj:j ∈ seen) (l2:hr.Le h')
  (x:PF E l n cls ds seen rds σr hr j o xs b v):PF E l n cls ds (k ::seen) rds (putS σr ok.dst w) h' j o xs b v where
 at':=x.at'
 op:=x.op
 val:=x.val
 fix:=fun t ht=>Jy (x.fix t ht)
 gfix:=fun g w' hg=>⟨List.mem_cons_of_mem _ (x.gfix g w' hg).1,(x.gfix g w' hg).2⟩
 gd:=x.gd.put nd hlt hk hks hok fun g w' hg=>(x.gfix g w' hg).1
 vop:=fun hb=>by
  have e:∀t ∈ F1 xs,σr t=putS σr ok.dst w t:=fun t ht=>(DO fun d hd=>MZ nd hlt hk hks hok hd (x.fix t ht)).symm;obtain ⟨y1,y2⟩:=x.vop hb;exact ⟨y1.move x.val x.op e l2,y2.imp id fun y hx=>(y hx).move x.val x.op e (GH.Le.refl _)⟩
 is:=fun d hd=>by rw [DO fun d' hd'=>ED nd hk (hlt j hj) (fun e=>hks (e▸hj)) hok x.at' hd' hd];exact x.is d hd
theorem PF.more {j:Nat} {o:Oper} {xs:List Operand} {b:Bool} {v:Value} {k:Nat} (x:PF E l n cls ds seen rds σr h' j o xs b v):PF E l n cls ds seen (k ::rds) σr h' j o xs b v:=
 { x with vop:=fun hb=>⟨(x.vop hb).1,(x.vop hb).2.imp (List.mem_cons_of_mem _) id⟩ }
def S4 (P:Program) (l:List Oper) (n:Nat) (cls:List (List Nat)) (fl:Bool) (π:List (Kd×Nat)) (seen effs rds:List Nat) (wr:Bool) (k:Nat) (o:Oper):Kd→Prop
 | .p=>Hz o.op=true∧(∀q ∈ effs,q ∈ cls.getD k [])∧FG P l n cls fl π (k ::seen) effs rds wr=true
 | .r=>Hz o.op=true∧(∀q ∈ effs,q ∈ cls.getD k [])∧FG P l n cls fl π (k ::seen) effs (k ::rds) wr=true
 | .e=>(∀q ∈ effs,q ∈ cls.getD k [])∧FG P l n cls fl π (k ::seen) (k ::effs) rds wr=true
 | .w=>(∀q ∈ effs,q ∈ cls.getD k [])∧(∀q ∈ rds,q ∈ cls.getD k [])∧FG P l n cls fl π (k ::seen) (k ::effs) rds true=true
 | .a=>fl=true∧wr=false∧NG P o.op=true∧o.dst.isSome=true∧o.guard=none∧FG P l n cls fl π (k ::seen) (k ::effs) rds wr=true
theorem Ej {kd:Kd} {k:Nat} (x:FG P l n cls fl ((kd,k) ::π) seen effs rds wr=true) :
  ∃o xs,l[k]? =some o∧F0 o.op=some xs∧k<n∧k ∉ seen∧(∀t ∈ F1 xs,GE l n (cls.getD k []) seen t=true)∧(∀g w,o.guard=some (g,w)→g ∈ seen∧g ∈ cls.getD k [])∧
  S4 P l n cls fl π seen effs rds wr k o kd:=by
 unfold FG at x;cases ho:l[k]? with
 | none=>rw [ho] at x;cases x
 | some o=>
  rw [ho] at x;simp only [Bool.and_eq_true] at x;obtain ⟨⟨x1,x2⟩,x3⟩:=x;cases hx:F0 o.op with
  | none=>rw [hx] at x1;cases x1
  | some xs=>
   rw [hx] at x1;simp only [Bool.and_eq_true,Bool.not_eq_true',List.all_eq_true] at x1;obtain ⟨⟨y1,y2⟩,y3⟩:=x1;refine ⟨o,xs,rfl,hx,Nat.blt_eq▸y1,(fun hm=>by rw [List.contains_iff_mem.2 hm] at y2;cases y2),y3,fun g w hg=>?_,?_⟩
   ·rw [hg] at x2;simp only [Bool.and_eq_true] at x2;exact ⟨List.contains_iff_mem.1 x2.1,List.contains_iff_mem.1 x2.2⟩
   ·cases kd <;> unfold S4 <;> simp only [Bool.and_eq_true,List.all_eq_true,List.contains_iff_mem,Bool.not_eq_true',Option.isNone_iff_eq_none] at x3 ⊢
    ·exact ⟨x3.1.1,x3.1.2,x3.2⟩
    ·exact ⟨x3.1.1,x3.1.2,x3.2⟩
    ·exact x3
    ·exact ⟨x3.1.1,x3.1.2,x3.2⟩
    ·exact ⟨x3.1.1.1.1.1,x3.1.1.1.1.2,x3.1.1.1.2,x3.1.1.2,x3.1.2,x3.2⟩
theorem GP {kd:Kd} {k:Nat} (x:FG P l n cls fl ((kd,k) ::π) seen effs rds wr=true):∃effs' rds' wr',FG P l n cls fl π (k ::seen) effs' rds' wr'=true∧(∀q ∈ effs,q ∈ effs')∧(kd=.e∨kd=.w∨kd=.a→k ∈ effs'):=by
 obtain ⟨o,xs,_,_,_,_,_,_,y⟩:=Ej x;cases kd with
 | p=>exact ⟨_,_,_,y.2.2,fun _ q=>q,fun e=>by rcases e with e | e | e <;> cases e⟩
 | r=>exact ⟨_,_,_,y.2.2,fun _ q=>q,fun e=>by rcases e with e | e | e <;> cases e⟩
 | e=>exact ⟨_,_,_,y.2,fun _ q=>List.mem_cons_of_mem _ q,fun _=>List.mem_cons_self⟩
 | w=>exact ⟨_,_,_,y.2.2,fun _ q=>List.mem_cons_of_mem _ q,fun _=>List.mem_cons_self⟩
 | a=>exact ⟨_,_,_,y.2.2.2.2.2,fun _ q=>List.mem_cons_of_mem _ q,fun _=>List.mem_cons_self⟩
theorem Dy:∀{π:List (Kd×Nat)} {seen effs rds:List Nat} {wr:Bool},FG P l n cls fl π seen effs rds wr=true→∀kd k,(kd,k) ∈ π→k ∉ seen∧k<n
 | [],_,_,_,_,_,kd,k,h=>by cases h
 | (kd',k') ::π,seen,effs,rds,wr,x,kd,k,h=>by
  obtain ⟨o,xs,_,_,h1,h2,_⟩:=Ej x;rcases List.mem_cons.1 h with e | h
  ·cases e;exact ⟨h2,h1⟩
  ·obtain ⟨effs',rds',wr',y,_⟩:=GP x
   have:=Dy y kd k h
   exact ⟨fun q=>this.1 (List.mem_cons_of_mem _ q),this.2⟩
theorem Kr:∀{π:List (Kd×Nat)} {seen effs rds:List Nat} {wr:Bool},FG P l n cls fl π seen effs rds wr=true→∀i,i<n→i ∈ seen∨∃kd,(kd,i) ∈ π
 | [],seen,_,_,_,x,i,hi=>by
  unfold FG at x;exact .inl (List.contains_iff_mem.1 (List.all_eq_true.1 x i (List.mem_range.2 hi)))
 | (kd',k') ::π,seen,effs,rds,wr,x,i,hi=>by
  obtain ⟨effs',rds',wr',y,_⟩:=GP x;rcases Kr y i hi with h | ⟨kd,h⟩
  ·rcases List.mem_cons.1 h with e | h
   ·exact .inr ⟨kd',e▸List.mem_cons_self⟩
   ·exact .inl h
  ·exact .inr ⟨kd,List.mem_cons_of_mem _ h⟩
theorem OU:∀{π:List (Kd×Nat)} {seen effs rds:List Nat} {wr:Bool},FG P l n cls fl π seen effs rds wr=true→∀kd k,(kd,k) ∈ π→kd≠.a→∀q ∈ effs,q ∈ cls.getD k []
 | [],_,_,_,_,_,kd,k,h=>by cases h
 | (kd',k') ::π,seen,effs,rds,wr,x,kd,k,h=>by
  intro hne q hq;rcases List.mem_cons.1 h with e | h
  ·cases e;obtain ⟨o,xs,_,_,_,_,_,_,y⟩:=Ej x;cases kd' with
   | p=>exact y.2.1 q hq
   | r=>exact y.2.1 q hq
   | e=>exact y.1 q hq
   | w=>exact y.1 q hq
   | a=>exact absurd rfl hne
  ·obtain ⟨effs',rds',wr',y,z,_⟩:=GP x;exact OU y kd k h hne q (z q hq)
theorem EF:∀{π:List (Kd×Nat)} {seen effs rds:List Nat} {wr:Bool},FG P l n cls fl π seen effs rds wr=true→∀k,(Kd.a,k) ∈ π→fl=true∧wr=false∧k<n∧∃o,l[k]? =some o∧NG P o.op=true∧o.dst.isSome=true∧o.guard=none
 | [],_,_,_,_,_,k,h=>by cases h
 | (kd',k') ::π,seen,effs,rds,wr,x,k,h=>by
  obtain ⟨o,xs,ho,hx,h1,h2,h3,h4,hh⟩:=Ej x;rcases List.mem_cons.1 h with e | h6
  ·cases e;exact ⟨hh.1,hh.2.1,h1,o,ho,hh.2.2.1,hh.2.2.2.1,hh.2.2.2.2.1⟩
  ·cases kd' with
   | p=>exact EF hh.2.2 k h6
   | r=>exact EF hh.2.2 k h6
   | e=>exact EF hh.2 k h6
   | w=>have:=(EF hh.2.2 k h6).2.1;cases this
   | a=>exact EF hh.2.2.2.2.2 k h6
theorem JZ {k:Nat}:Ft D k k=true:=by simp [Ft]
theorem DP {k j:Nat} (h:j≠k):Ft D k j=D j:=by unfold Ft;rw [if_neg (fun e=>h e.symm)]
theorem FH {k j:Nat} (h:D j=true):Ft D k j=true:=by unfold Ft;split <;> simp [h]
theorem JU.agree (x:JU E l n cls fl hs ds F seen effs rds wr π σr hr D σ' h') {cl:List Nat} (hcl:∀q ∈ cl,D q=true) {t:Nat} (y:GE l n cl seen t=true):σr t=σ' t:=by
 unfold GE at y;rw [Bool.or_eq_true] at y;rcases y with y | y
 ·exact (x.base t (by simpa using y)).symm
 ·rw [List.any_eq_true] at y;obtain ⟨j,hj,z⟩:=y;rw [Bool.and_eq_true] at z;cases hoj:l[j]? with
  | none=>rw [hoj] at z;simp at z
  | some oj=>
   rw [hoj] at z;exact (x.done j hj (hcl j (List.contains_iff_mem.1 z.1)) oj t hoj (by simpa using z.2)).symm
theorem JU.guard (x:JU E l n cls fl hs ds F seen effs rds wr π σr hr D σ' h') {cl:List Nat} (hcl:∀q ∈ cl,D q=true) {o:Oper} {b:Bool} (hg:∀g w,o.guard=some (g,w)→g ∈ seen∧g ∈ cl) (y:Gd l o σr b):Gd l o σ' b:=by
 unfold Gd at y ⊢;cases hgd:o.guard with
 | none=>rw [hgd] at y;exact y
 | some z=>
  obtain ⟨g,w⟩:=z;rw [hgd] at y;obtain ⟨og,d,is,h1,h2,h3,h4⟩:=y;exact ⟨og,d,is,h1,h2,by rw [x.done g (hg g w hgd).1 (hcl g (hg g w hgd).2) og d h1 h2];exact h3,h4⟩
theorem JU.unfoldV {kd:Kd} {k:Nat} (nd:(Cw l n).Nodup) (hkd:kd=.p∨kd=.r) (x:JU E l n cls fl hs ds F seen effs rds wr ((kd,k) ::π) σr hr D σ' h') :
  ∃rds' σr',JU E l n cls fl hs ds F (k ::seen) effs rds' wr π σr' hr D σ' h':=by
 obtain ⟨o,xs,ho,hx,hkn,hks,hfix,hg,hh⟩:=Ej x.ok;obtain ⟨o2,b,ho2,hgd,hF,hT⟩:=x.td;obtain rfl:o2=o:=Option.some.inj (ho2.symm.trans ho);have hkD:D k=false:=x.rest kd k List.mem_cons_self (by rintro rfl;rcases hkd with e | e <;> cases e);have hval:Hz o2.op=true:=by rcases hkd with rfl | rfl <;> exact hh.1
 have key:∀(v:Value) (rds':List Nat),(rds'=rds∨rds'=k ::rds)→FG P l n cls fl π (k ::seen) effs rds' wr=true→TD E l n fl hs ds F π (putS σr o2.dst (if b=true then v else undef)) hr→
   (b=true→RG E o2 σr ds hr v∧(k ∈ rds'∨∀hx,RG E o2 σr ds hx v))→JU E l n cls fl hs ds F (k ::seen) effs rds' wr π (putS σr o2.dst (if b=true then v else undef)) hr D σ' h':=by
  intro v rds' hrds ok' td' hv;refine ⟨td',ok',x.gw,fun t ht=>?_,fun j hj=>?_,x.eff,fun kd' j hj hne=>x.rest kd' j (List.mem_cons_of_mem _ hj) hne,fun j hj hDj o' d ho' hd=>?_,fun j hj hDj=>?_,fun j hj=>x.flo j (List.mem_cons_of_mem _ hj),x.pre,x.clos⟩
  ·rw [DO (Hg hkn ho ht)];exact x.base t ht
  ·rcases List.mem_cons.1 hj with rfl | hj
   ·exact hkn
   ·exact x.lt j hj
  ·rcases List.mem_cons.1 hj with rfl | hj
   ·rw [hkD] at hDj;cases hDj
   ·rw [DO fun d' hd'=>ED nd hkn (x.lt j hj) (fun e=>hks (e▸hj)) ho ho' hd' hd];exact x.done j hj hDj o' d ho' hd
  ·rcases List.mem_cons.1 hj with rfl | hj
   ·refine ⟨o2,xs,b,v,ho,hx,hval,fun t ht=>Jy (hfix t ht),fun g w hgg=>⟨List.mem_cons_of_mem _ (hg g w hgg).1,(hg g w hgg).2⟩,hgd.put nd x.lt hkn hks ho fun g w hgg=>(hg g w hgg).1,fun hb=>?_,fun d hd=>?_⟩
    ·have e:∀t ∈ F1 xs,σr t=putS σr o2.dst (if b=true then v else undef) t:=fun t ht=>(DO fun d hd=>MZ nd x.lt hkn hks ho hd (hfix t ht)).symm;obtain ⟨y1,y2⟩:=hv hb;exact ⟨y1.move hval hx e x.gw.1,y2.imp id fun y hx'=>(y hx').move hval hx e (GH.Le.refl _)⟩
    ·rw [hd];exact upd_same _ _ _
   ·obtain ⟨o',xs',b',v',pf⟩:=x.pend j hj hDj
    have:=pf.put (w:=if b=true then v else undef) nd x.lt hkn hks ho hj (GH.Le.refl _)
    rcases hrds with rfl | rfl
    ·exact ⟨o',xs',b',v',this⟩
    ·exact ⟨o',xs',b',v',this.more⟩
 cases b with
 | false=>
  rcases hkd with rfl | rfl
  ·exact ⟨_,_,key undef _ (.inl rfl) hh.2.2 (hF rfl) (fun e=>by cases e)⟩
  ·exact ⟨_,_,key undef _ (.inr rfl) hh.2.2 (hF rfl) (fun e=>by cases e)⟩
 | true=>
  rcases hkd with rfl | rfl
  ·obtain ⟨v,h1,h2⟩:=hT rfl;exact ⟨_,_,key v _ (.inl rfl) hh.2.2 h2 (fun _=>⟨h1 _,.inr h1⟩)⟩
  ·obtain ⟨v,h1,h2⟩:=hT rfl;exact ⟨_,_,key v _ (.inr rfl) hh.2.2 h2 (fun _=>⟨h1,.inl List.mem_cons_self⟩)⟩
theorem JU.unfoldA {k:Nat} (nd:(Cw l n).Nodup) (hD:D k=true) (x:JU E l n cls fl hs ds F seen effs rds wr ((Kd.a,k) ::π) σr hr D σ' h') :
  ∃σr',JU E l n cls fl hs ds F (k ::seen) (k ::effs) rds wr π σr' h' D σ' h':=by
 obtain ⟨o,xs,ho,hx,hkn,hks,hfix,hg,hh⟩:=Ej x.ok;obtain ⟨o2,b,ho2,hgd,hF,hT⟩:=x.td;obtain rfl:o2=o:=Option.some.inj (ho2.symm.trans ho);obtain ⟨hfl,hwr,hal,hds,hgn,ok'⟩:=hh;obtain rfl:b=true:=by unfold Gd at hgd;rw [hgn] at hgd;exact hgd
 obtain ⟨t,hop⟩:∃t,o2.op=.alloc t:=by
  cases hq:o2.op <;> rw [hq] at hal <;> first | exact ⟨_,rfl⟩ | cases hal
 obtain ⟨d,hd⟩:=Option.isSome_iff_exists.1 hds;obtain ⟨r,h1,h2,h3⟩:=x.flo k List.mem_cons_self hD o2 t d ho hop hd;refine ⟨putS σr o2.dst (.pointer (some ⟨r,0,none⟩)),hT rfl t r h' hop x.gw.1 h2 h3,ok',Gw.refl _ _,fun t ht=>?_,fun j hj=>?_,fun j hj=>?_,fun kd' j hj hne=>x.rest kd' j (List.mem_cons_of_mem _ hj) hne,fun j hj hDj o' d' ho' hd'=>?_,fun j hj hDj=>?_,
  fun j hj=>x.flo j (List.mem_cons_of_mem _ hj),x.pre,x.clos⟩
 ·rw [DO (Hg hkn ho ht)];exact x.base t ht
 ·rcases List.mem_cons.1 hj with rfl | hj
  ·exact hkn
  ·exact x.lt j hj
 ·rcases List.mem_cons.1 hj with rfl | hj
  ·exact hD
  ·exact x.eff j hj
 ·rcases List.mem_cons.1 hj with rfl | hj
  ·obtain rfl:o'=o2:=Option.some.inj (ho'.symm.trans ho);obtain rfl:d'=d:=Option.some.inj (hd'.symm.trans hd);rw [h1,hd];exact (upd_same _ _ _).symm
  ·rw [DO fun e he=>ED nd hkn (x.lt j hj) (fun e=>hks (e▸hj)) ho ho' he hd'];exact x.done j hj hDj o' d' ho' hd'
 ·rcases List.mem_cons.1 hj with rfl | hj
  ·rw [hD] at hDj;cases hDj
  ·obtain ⟨o',xs',b',v',pf⟩:=x.pend j hj hDj;exact ⟨o',xs',b',v',pf.put nd x.lt hkn hks ho hj (GH.Le.refl _)⟩
theorem JU.ran {kd:Kd} {k:Nat} {o:Oper} {xs:List Operand} {v:Value} {hr2 h2:GH} {wr':Bool} (nd:(Cw l n).Nodup) (ho:l[k]? =some o) (hkn:k<n) (hks:k ∉ seen) (hcl:∀q ∈ cls.getD k [],D q=true)
  (x:JU E l n cls fl hs ds F seen effs rds wr ((kd,k) ::π) σr hr D σ' h') (td:TD E l n fl hs ds F π (putS σr o.dst v) hr2) (ok':FG P l n cls fl π (k ::seen) (k ::effs) rds wr'=true) (gw:Gw fl hr2 h2)
  (how:(wr'=wr∧h'.Le h2)∨(wr'=true∧∀q ∈ rds,D q=true)) :
  JU E l n cls fl hs ds F (k ::seen) (k ::effs) rds wr' π (putS σr o.dst v) hr2 (Ft D k) (putS σ' o.dst v) h2:=by
 refine ⟨td,ok',gw,fun t ht=>?_,fun j hj=>?_,fun j hj=>?_,fun kd' j hj hne=>?_,fun j hj hDj o' d' ho' hd'=>?_,fun j hj hDj=>?_,fun j hj hDj o' t d' ho' hop hd'=>?_,fun hw=>?_,fun j hjn hDj q hq=>?_⟩
 ·rw [DO (Hg hkn ho ht),DO (Hg hkn ho ht)];exact x.base t ht
 ·rcases List.mem_cons.1 hj with rfl | hj
  ·exact hkn
  ·exact x.lt j hj
 ·rcases List.mem_cons.1 hj with rfl | hj
  ·exact JZ
  ·exact FH (x.eff j hj)
 ·have hnew:=(Dy ok' kd' j hj).1;rw [DP fun e=>hnew (by rw [e];exact List.mem_cons_self)];exact x.rest kd' j (List.mem_cons_of_mem _ hj) hne
 ·rcases List.mem_cons.1 hj with rfl | hj
  ·obtain rfl:o'=o:=Option.some.inj (ho'.symm.trans ho);rw [hd'];exact (upd_same _ _ _).trans (upd_same _ _ _).symm
  ·have hjk:j≠k:=fun e=>hks (e▸hj);rw [DP hjk] at hDj;have hne:∀e,o.dst=some e→d'≠e:=fun e he=>ED nd hkn (x.lt j hj) (fun e=>hjk e.symm) ho ho' he hd';rw [DO hne,DO hne];exact x.done j hj hDj o' d' ho' hd'
 ·rcases List.mem_cons.1 hj with rfl | hj
  ·rw [JZ] at hDj;cases hDj
  ·have hjk:j≠k:=fun e=>hks (e▸hj);rw [DP hjk] at hDj;obtain ⟨o',xs',b',v',pf⟩:=x.pend j hj hDj;rcases how with ⟨_,l2⟩ | ⟨_,hrd⟩
   ·exact ⟨o',xs',b',v',pf.put nd x.lt hkn hks ho hj l2⟩
   ·have pf2:PF E l n cls ds seen rds σr h2 j o' xs' b' v':=⟨pf.at',pf.op,pf.val,pf.fix,pf.gfix,pf.gd,fun hb=>(pf.vop hb).2.elim (fun hm=>by rw [hrd j hm] at hDj;cases hDj) fun hall=>⟨hall h2,.inr hall⟩,pf.is⟩;exact ⟨o',xs',b',v',pf2.put nd x.lt hkn hks ho hj (GH.Le.refl _)⟩
 ·have hnew:=(Dy ok' _ j hj);have hjk:j≠k:=fun e=>hnew.1 (by rw [e];exact List.mem_cons_self);rw [DP hjk] at hDj;obtain ⟨r,h1,h3,h4⟩:=x.flo j (List.mem_cons_of_mem _ hj) hDj o' t d' ho' hop hd';rcases how with ⟨_,l2⟩ | ⟨hw,_⟩
  ·exact ⟨r,by rw [DO fun e he=>ED nd hkn hnew.2 (fun e=>hjk e.symm) ho ho' he hd'];exact h1,h3,l2.get h4⟩
  ·have:=(EF ok' j hj).2.1;rw [hw] at this;cases this
 ·rcases how with ⟨e,l2⟩ | ⟨e,_⟩
  ·exact (x.pre (e▸hw)).trans l2
  ·rw [e] at hw;cases hw
 ·by_cases e:j=k
  ·subst e;exact FH (hcl q hq)
  ·rw [DP e] at hDj;exact FH (x.clos j hjn hDj q hq)
def Uw (E:FN P) (l:List Oper) (n:Nat) (cls:List (List Nat)) (fl:Bool) (hs:GH) (ds:List Deferred) (F:(Nat→Value)→GH→Prop) (D:Nat→Bool) (σ':Nat→Value) (h':GH):Prop:=
 ∃seen effs rds wr π σr hr,JU E l n cls fl hs ds F seen effs rds wr π σr hr D σ' h'
abbrev Ux (E:FN P) (l:List Oper) (n:Nat) (cls:List (List Nat)) (fl:Bool) (hs:GH) (ds:List Deferred) (F:(Nat→Value)→GH→Prop) (D:Nat→Bool) (σ':Nat→Value) (h':GH) (k:Nat) (o:Oper):Prop:=
 (CS l o σ'→Bd E o σ' ds h' fun σ'' ds'' h''=>ds''=ds∧Uw E l n cls fl hs ds F (Ft D k) σ'' h'')∧(¬CS l o σ'→Uw E l n cls fl hs ds F (Ft D k) (putS σ' o.dst undef) h')
theorem JU.runV {k:Nat} {o:Oper} (nd:(Cw l n).Nodup) (ho:l[k]? =some o) (hks:k ∈ seen) (hkD:D k=false) (hcl:∀q ∈ cls.getD k [],D q=true) (x:JU E l n cls fl hs ds F seen effs rds wr π σr hr D σ' h') :
  Ux E l n cls fl hs ds F D σ' h' k o:=by
 obtain ⟨o2,xs,b,v,pf⟩:=x.pend k hks hkD;obtain rfl:o2=o:=Option.some.inj (pf.at'.symm.trans ho);have hkn:=x.lt k hks;have hgi:=(x.guard hcl pf.gfix pf.gd).iff;have key:JU E l n cls fl hs ds F seen effs rds wr π σr hr (Ft D k) (putS σ' o2.dst (if b=true then v else undef)) h':=by
  refine ⟨x.td,x.ok,x.gw,fun t ht=>?_,x.lt,fun j hj=>FH (x.eff j hj),fun kd' j hj hne=>?_,fun j hj hDj o' d' ho' hd'=>?_,fun j hj hDj=>?_,fun j hj hDj o' t d' ho' hop hd'=>?_,x.pre,fun j hjn hDj q hq=>?_⟩
  ·rw [DO (Hg hkn ho ht)];exact x.base t ht
  ·have hnew:=(Dy x.ok kd' j hj).1;rw [DP fun (e:j=k)=>hnew (by rw [e];exact hks)];exact x.rest kd' j hj hne
  ·by_cases hjk:j=k
   ·subst hjk;obtain rfl:o'=o2:=Option.some.inj (ho'.symm.trans ho);rw [pf.is d' hd',hd'];exact upd_same _ _ _
   ·rw [DP hjk] at hDj;rw [DO fun e he=>ED nd hkn (x.lt j hj) (fun e=>hjk e.symm) ho ho' he hd'];exact x.done j hj hDj o' d' ho' hd'
  ·by_cases hjk:j=k
   ·subst hjk;rw [JZ] at hDj;cases hDj
   ·rw [DP hjk] at hDj;exact x.pend j hj hDj
  ·have hnew:=Dy x.ok _ j hj;have hjk:j≠k:=fun e=>hnew.1 (by rw [e];exact hks);rw [DP hjk] at hDj;obtain ⟨r,h1,h3⟩:=x.flo j hj hDj o' t d' ho' hop hd';exact ⟨r,by rw [DO fun e he=>ED nd hkn hnew.2 (fun e=>hjk e.symm) ho ho' he hd'];exact h1,h3⟩
  ·by_cases e:j=k
   ·subst e;exact FH (hcl q hq)
   ·rw [DP e] at hDj;exact FH (x.clos j hjn hDj q hq)
 refine ⟨fun hG=>?_,fun hG=>?_⟩
 ·obtain rfl:=hgi.1 hG;have y:=(pf.vop rfl).1.move pf.val pf.op (fun t ht=>x.agree hcl (pf.fix t ht)) (GH.Le.refl _);refine Bd.move pf.op (fun _ _=>rfl) (fun z ds' h'' q=>?_) y;obtain ⟨q1,rfl,rfl⟩:=q;exact ⟨rfl,_,_,_,_,_,_,_,by rw [q1];exact key⟩
 ·cases b with
  | true=>exact absurd (hgi.2 rfl) hG
  | false=>exact ⟨_,_,_,_,_,_,_,key⟩
theorem JU.runE {kd:Kd} {k:Nat} {o:Oper} (nd:(Cw l n).Nodup) (hkd:kd=.e∨kd=.w) (ho:l[k]? =some o) (hcl:∀q ∈ cls.getD k [],D q=true) (x:JU E l n cls fl hs ds F seen effs rds wr ((kd,k) ::π) σr hr D σ' h') :
  Ux E l n cls fl hs ds F D σ' h' k o:=by
 obtain ⟨o1,xs,ho1,hx,hkn,hks,hfix,hg,hh⟩:=Ej x.ok;obtain rfl:o1=o:=Option.some.inj (ho1.symm.trans ho);obtain ⟨o2,b,ho2,hgd,hF,hT⟩:=x.td;obtain rfl:o2=o1:=Option.some.inj (ho2.symm.trans ho);have hgi:=(x.guard hcl hg hgd).iff;refine ⟨fun hG=>?_,fun hG=>?_⟩
 ·obtain rfl:=hgi.1 hG;rcases hkd with rfl | rfl
  ·refine (hT rfl h' x.gw).move hx (fun t ht=>x.agree hcl (hfix t ht)) fun z ds' h'' q=>?_;obtain ⟨rfl,v,hv,l2,td⟩:=q;refine ⟨rfl,?_⟩;have e:putS σ' o2.dst z=putS σ' o2.dst v:=by
    cases hd:o2.dst with
    | none=>rfl
    | some d=>
     have:=congrFun hv d
     simp only [hd,putS,upd_same] at this;rw [this]
   rw [e];exact ⟨_,_,_,_,_,_,_,x.ran (xs:=xs) nd ho hkn hks hcl td hh.2 (Gw.refl _ _) (.inl ⟨rfl,l2⟩)⟩
  ·refine (hT rfl h' x.gw).move hx (fun t ht=>x.agree hcl (hfix t ht)) fun z ds' h'' q=>?_;obtain ⟨rfl,v,hv,td⟩:=q;refine ⟨rfl,?_⟩;have e:putS σ' o2.dst z=putS σ' o2.dst v:=by
    cases hd:o2.dst with
    | none=>rfl
    | some d=>
     have:=congrFun hv d
     simp only [hd,putS,upd_same] at this;rw [this]
   rw [e];exact ⟨_,_,_,_,_,_,_,x.ran (xs:=xs) nd ho hkn hks hcl td hh.2.2 (Gw.refl _ _) (.inr ⟨rfl,fun q hq=>hcl q (hh.2.1 q hq)⟩)⟩
 ·cases b with
  | true=>exact absurd (hgi.2 rfl) hG
  | false=>
   rcases hkd with rfl | rfl
   ·exact ⟨_,_,_,_,_,_,_,x.ran (xs:=xs) nd ho hkn hks hcl (hF rfl) hh.2 x.gw (.inl ⟨rfl,GH.Le.refl _⟩)⟩
   ·exact ⟨_,_,_,_,_,_,_,x.ran (xs:=xs) nd ho hkn hks hcl (hF rfl) hh.2.2 x.gw (.inr ⟨rfl,fun q hq=>hcl q (hh.2.1 q hq)⟩)⟩
theorem JU.runA {k:Nat} {o:Oper} (nd:(Cw l n).Nodup) (hk:(Kd.a,k) ∈ π) (hkD:D k=false) (ho:l[k]? =some o) (hcl:∀q ∈ cls.getD k [],D q=true) (x:JU E l n cls fl hs ds F seen effs rds wr π σr hr D σ' h') :
  Ux E l n cls fl hs ds F D σ' h' k o:=by
 obtain ⟨hfl,hwr,hkn,o2,ho2,hal,hds,hgn⟩:=EF x.ok k hk;obtain rfl:o2=o:=Option.some.inj (ho2.symm.trans ho);have hks:=(Dy x.ok _ k hk).1;obtain ⟨t,hop⟩:∃t,o2.op=.alloc t:=by
  cases hq:o2.op <;> rw [hq] at hal <;> first | exact ⟨_,rfl⟩ | cases hal
 have hz:Bt P t=some (VJ P t):=by
  rw [hop] at hal;obtain ⟨z,hz⟩:=Option.isSome_iff_exists.1 (show (Bt P t).isSome=true from hal);unfold VJ;rw [hz];rfl
 refine ⟨fun _=>?_,fun hG=>absurd (by unfold CS;rw [hgn];trivial) hG⟩;obtain ⟨dst,op,ty,pos,af,gd⟩:=o2;simp only at hop hds hgn;subst hop;obtain ⟨d,rfl⟩:=Option.isSome_iff_exists.1 hds;refine Aj hz fun r h2 hr0 l2 hnb hoth=>⟨rfl,seen,effs,rds,wr,π,σr,hr,x.td,x.ok,⟨x.gw.1.trans l2,fun e=>by rw [hfl] at e;cases e⟩,fun t' ht=>?_,x.lt,fun j hj=>FH (x.eff j hj),fun kd' j hj hne=>?_,fun j hj hDj o' d' ho' hd'=>?_,fun j hj hDj=>?_,fun j hj hDj o' t' d' ho' hop' hd'=>?_,fun hw=>(x.pre hw).trans l2,fun j hjn hDj q hq=>?_⟩
 ·rw [DO (Hg hkn ho ht)];exact x.base t' ht
 ·by_cases e:j=k
  ·subst e;refine absurd (x.rest kd' j hj hne) fun _=>?_;exact hne (by
    have:∀{π:List (Kd×Nat)} {seen effs rds:List Nat} {wr:Bool},FG P l n cls fl π seen effs rds wr=true→(Kd.a,j) ∈ π→(kd',j) ∈ π→kd'=.a:=by
     intro π
     induction π with
     | nil=>intro _ _ _ _ _ h;cases h
     | cons y π ih=>
      intro seen effs rds wr ok h1 h2;obtain ⟨kd2,k2⟩:=y;obtain ⟨e',r',w',ok2,_⟩:=GP ok;rcases List.mem_cons.1 h1 with e1 | h3 <;> rcases List.mem_cons.1 h2 with e2 | h4
      ·cases e1;cases e2;rfl
      ·cases e1;exact absurd List.mem_cons_self (Dy ok2 _ _ h4).1
      ·cases e2;exact absurd List.mem_cons_self (Dy ok2 _ _ h3).1
      ·exact ih ok2 h3 h4
    exact this x.ok hk hj)
  ·rw [DP e];exact x.rest kd' j hj hne
 ·have hjk:j≠k:=fun e=>hks (e▸hj);rw [DP hjk] at hDj;rw [DO fun e he=>ED nd hkn (x.lt j hj) (fun e=>hjk e.symm) ho ho' he hd'];exact x.done j hj hDj o' d' ho' hd'
 ·have hjk:j≠k:=fun e=>hks (e▸hj);rw [DP hjk] at hDj;obtain ⟨o',xs',b',v',pf⟩:=x.pend j hj hDj;exact ⟨o',xs',b',v',pf.at',pf.op,pf.val,pf.fix,pf.gfix,pf.gd,fun hb=>⟨(pf.vop hb).1.move pf.val pf.op (fun _ _=>rfl) l2,(pf.vop hb).2⟩,pf.is⟩
 ·by_cases e:j=k
  ·subst e;cases ho'.symm.trans ho;cases hd';cases hop';have hb0:hs r=none:=by
    cases hb:hs r with
    | none=>rfl
    | some y=>rw [(x.pre hwr).get hb] at hr0;cases hr0
   exact ⟨r,upd_same _ _ _,hb0,hnb⟩
  ·rw [DP e] at hDj;have hnew:=Dy x.ok _ j hj;obtain ⟨r',h1,h3,h4⟩:=x.flo j hj hDj o' t' d' ho' hop' hd';exact ⟨r',by rw [DO fun e' he=>ED nd hkn hnew.2 (fun q=>e q.symm) ho ho' he hd'];exact h1,h3,l2.get h4⟩
 ·by_cases e:j=k
  ·subst e;exact FH (hcl q hq)
  ·rw [DP e] at hDj;exact FH (x.clos j hjn hDj q hq)
theorem JU.reach {kd:Kd} {i:Nat} (nd:(Cw l n).Nodup) (hne:kd≠.a) (hcl:∀q ∈ cls.getD i [],D q=true):∀{π:List (Kd×Nat)} {seen effs rds:List Nat} {wr:Bool} {σr:Nat→Value} {hr:GH},
  JU E l n cls fl hs ds F seen effs rds wr π σr hr D σ' h'→(kd,i) ∈ π→∃seen effs rds wr π' σr hr,JU E l n cls fl hs ds F seen effs rds wr ((kd,i) ::π') σr hr D σ' h':=by
 intro π
 induction π with
 | nil=>intro _ _ _ _ _ _ _ h;cases h
 | cons y π ih=>
  intro seen effs rds wr σr hr x hm;obtain ⟨kd2,k2⟩:=y;rcases List.mem_cons.1 hm with e | hm2
  ·cases e;exact ⟨_,_,_,_,_,_,_,x⟩
  ·have hv:kd2=.p∨kd2=.r→∃seen effs rds wr π' σr hr,JU E l n cls fl hs ds F seen effs rds wr ((kd,i) ::π') σr hr D σ' h':=fun hk=>by
    obtain ⟨rds',σr',x'⟩:=x.unfoldV nd hk;exact ih x' hm2
   have heff:kd2=.e∨kd2=.w∨kd2=.a→D k2=true:=fun hk=>by
    obtain ⟨e',r',w',ok2,_,z⟩:=GP x.ok;exact hcl _ (OU ok2 kd i hm2 hne k2 (z hk))
   cases kd2 with
   | p=>exact hv (.inl rfl)
   | r=>exact hv (.inr rfl)
   | e=>have:=x.rest _ _ List.mem_cons_self (fun e=>by cases e);rw [heff (.inl rfl)] at this;cases this
   | w=>have:=x.rest _ _ List.mem_cons_self (fun e=>by cases e);rw [heff (.inr (.inl rfl))] at this;cases this
   | a=>
    obtain ⟨σr',x'⟩:=x.unfoldA nd (heff (.inr (.inr rfl)));exact ih x' hm2
theorem JU.ends (nd:(Cw l n).Nodup) (hall:∀i,i<n→D i=true):∀{π:List (Kd×Nat)} {seen effs rds:List Nat} {wr:Bool} {σr:Nat→Value} {hr:GH},
  JU E l n cls fl hs ds F seen effs rds wr π σr hr D σ' h'→F σ' h':=by
 intro π
 induction π with
 | nil=>
  intro seen effs rds wr σr hr x;have e:σ'=σr:=funext fun t=>by
   cases hc:(Cw l n).contains t with
   | false=>exact x.base t hc
   | true=>
    rw [List.contains_iff_mem] at hc;simp only [Cw,List.mem_filterMap] at hc;obtain ⟨o,ho,hd⟩:=hc;obtain ⟨k,hk⟩:=List.mem_iff_getElem?.1 ho;have hkn:k<n:=by
     have:=(List.getElem?_eq_some_iff.1 hk).1
     simp at this;omega
    have hok:l[k]? =some o:=by rw [List.getElem?_take] at hk;simpa [hkn] using hk
    rcases Kr x.ok k hkn with h | ⟨_,h⟩
    ·exact x.done k h (hall k hkn) o t hok hd
    ·cases h
  rw [e];exact x.td h' x.gw
 | cons y π ih=>
  intro seen effs rds wr σr hr x;obtain ⟨kd,k⟩:=y;have hk:=(Dy x.ok kd k List.mem_cons_self).2;by_cases hne:kd=.a
  ·subst hne;obtain ⟨σr',x'⟩:=x.unfoldA nd (hall k hk);exact ih x'
  ·have:=x.rest kd k List.mem_cons_self hne
   rw [hall k hk] at this;cases this
end
def NH (c:List Nat) (k:List Nat→Bool):Bool:=match c with
 | []=>k []
 | x ::xs=>NH xs fun xs'=>k (x ::xs')
theorem Ma:∀(c:List Nat) (k:List Nat→Bool),NH c k=k c
 | [],_=>rfl
 | x ::xs,k=>by unfold NH;rw [Ma xs]
def NI (cls:List (List Nat)) (k:List (List Nat)→Bool):Bool:=match cls with
 | []=>k []
 | c ::cs=>NI cs fun cs'=>k (c ::cs')
theorem Mb:∀(cls:List (List Nat)) (k:List (List Nat)→Bool),NI cls k=k cls
 | [],_=>rfl
 | c ::cs,k=>by unfold NI;exact Mb cs _
def OV (l:List Oper):List Oper→Nat→List (List Nat)→(List (List Nat)→Bool)→Bool
 | [],_,acc,c=>NI acc.reverse c
 | o ::os,k,acc,c=>NH ((List.range k).filter fun j=>Fy o j || (List.range k).any fun e=>Fy o e && (acc.getD (k-1-e) []).contains j) fun x=>OV l os (k+1) (x ::acc) c
theorem IL {l:List Oper} {c:List (List Nat)→Bool}:∀{os:List Oper} {k:Nat} {acc:List (List Nat)},OV l os k acc c=true→∃cls,c cls=true
 | [],k,acc,h=>⟨acc.reverse,(Mb acc.reverse c).symm.trans h⟩
 | o ::os,k,acc,h=>by unfold OV at h;rw [Ma] at h;exact IL h
def RH (P:Program) (N:Nat) (l:List Oper) (n:Nat) (cls:List (List Nat)) (fl:Bool) (π:List (Kd×Nat)):Bool:=D4 N l n cls && FG P l n cls fl π [] [] [] false
theorem Up {F:(Nat→Value)→GH→Prop} {id:Nat} {l:List Oper} {σ:Nat→Value} {ds:List Deferred} {h:GH} {Q:Post} (n:Nat) (cls:List (List Nat)) (fl:Bool) (π:List (Kd×Nat)) (hm:P.follows .mixedOrders=true)
  (ok:RH P E.N l n cls fl π=true) (x:TD E l n fl h ds F π σ h) (y:∀σ' h',F σ' h'→DS E l.toArray (l.drop n) σ' ds h' Q):Tr E (.region id l.toArray true) σ ds h Q:=by
 unfold RH at ok;rw [Bool.and_eq_true] at ok;obtain ⟨ok1,ok2⟩:=ok;have nd:(Cw l n).Nodup:=by
  have:=ok1
  unfold D4 at this;simp only [Bool.and_eq_true] at this;exact of_decide_eq_true this.1.2
 refine Ki n cls (Uw E l n cls fl h ds F) hm ok1 ?_ ?_ ?_
 ·exact ⟨[],[],[],false,π,σ,h,x,ok2,Gw.refl _ _,fun _ _=>rfl,(fun _ hk=>by cases hk),(fun _ hk=>by cases hk),(fun _ _ _ _=>rfl),(fun _ hk=>by cases hk),(fun _ hk=>by cases hk),(fun _ _ hD=>by cases hD),(fun _=>GH.Le.refl _),(fun _ _ hD=>by cases hD)⟩
 ·rintro D σ' h' i o ⟨seen,effs,rds,wr,π',σr,hr,z0⟩ hin hiD ho hcl hgl;rcases Kr z0.ok i hin with hs | ⟨kd,hk⟩
  ·exact z0.runV nd ho hs hiD hcl
  ·by_cases hne:kd=.a
   ·subst hne;exact z0.runA nd hk hiD ho hcl
   ·obtain ⟨seen,effs,rds,wr,π'',σr,hr,z⟩:=z0.reach nd hne hcl hk;cases kd with
    | p=>
     obtain ⟨rds',σr',z'⟩:=z.unfoldV nd (.inl rfl);exact z'.runV nd ho List.mem_cons_self hiD hcl
    | r=>
     obtain ⟨rds',σr',z'⟩:=z.unfoldV nd (.inr rfl);exact z'.runV nd ho List.mem_cons_self hiD hcl
    | e=>exact z.runE nd (.inl rfl) ho hcl
    | w=>exact z.runE nd (.inr rfl) ho hcl
    | a=>exact absurd rfl hne
 ·rintro D σ' h' ⟨seen,effs,rds,wr,π',σr,hr,z0⟩ hall;exact y _ _ (z0.ends nd hall)
abbrev VK (σ:Nat→Value) (o:Option Operand) (lo d:Nat):Prop:=match o with
 | none=>lo=d
 | some o=>∃kd,AV σ o=.int kd lo
def Pw (m:Nat):Kd×Nat:=(match m%5 with | 0=>.p | 1=>.r | 2=>.e | 3=>.w | _=>.a,m / 5)
def dK:List Nat→List (Kd×Nat)
 | []=>[]
 | m ::l=>Pw m ::dK l
theorem BQ {id:Nat} {l:List Oper} {σ:Nat→Value} {ds:List Deferred} {h:GH} {Q:Post} (n:Nat) (fl:Bool) (π:List Nat) (hm:P.follows .mixedOrders=true)
  (ok:OV l (l.take n) 0 [] (fun cls=>RH P E.N l n cls fl (dK π))=true) (x:TD E l n fl h ds (fun σ' h'=>DS E l.toArray (l.drop n) σ' ds h' Q) (dK π) σ h):Tr E (.region id l.toArray true) σ ds h Q:=
 let ⟨cls,h1⟩:=IL ok
 Up n cls fl (dK π) hm h1 x fun _ _ y=>y
theorem Ek {id:Nat} {l:List Oper} {σ:Nat→Value} {ds:List Deferred} {h:GH} {Q:Post} (F:(Nat→Value)→GH→Prop) (n:Nat) (fl:Bool) (π:List Nat) (hm:P.follows .mixedOrders=true)
  (ok:OV l (l.take n) 0 [] (fun cls=>RH P E.N l n cls fl (dK π))=true) (x:TD E l n fl h ds F (dK π) σ h) (y:∀σ' h',F σ' h'→DS E l.toArray (l.drop n) σ' ds h' Q):Tr E (.region id l.toArray true) σ ds h Q:=
 let ⟨cls,h1⟩:=IL ok
 Up n cls fl (dK π) hm h1 x y
section
variable {l:List Oper} {n:Nat} {fl:Bool} {hs:GH} {ds:List Deferred} {F:(Nat→Value)→GH→Prop} {π:List Nat} {σ:Nat→Value} {h:GH} {m k g d:Nat} {dst:Option Nat} {op:Op} {ty:TypeId} {pos:String} {af:Array Edge} {v:Value} {w is:Bool} {og:Oper}
theorem vz {α β γ:Type} {a:α} {b:β} {c:γ}:a=a∧b=b∧c=c:=⟨rfl,rfl,rfl⟩
theorem tP (hk:Pw m=(.p,k)) (ho:l[k]? =some ⟨dst,op,ty,pos,af,none⟩) (x:∀hx,RG E ⟨dst,op,ty,pos,af,none⟩ σ ds hx v) (y:TD E l n fl hs ds F (dK π) (putS σ dst v) h):TD E l n fl hs ds F (dK (m ::π)) σ h:=by
 unfold dK;rw [hk];exact ⟨_,true,ho,rfl,fun e=>(by cases e),fun _=>⟨v,x,y⟩⟩
theorem tR (hk:Pw m=(.r,k)) (ho:l[k]? =some ⟨dst,op,ty,pos,af,none⟩) (x:RG E ⟨dst,op,ty,pos,af,none⟩ σ ds h v) (y:TD E l n fl hs ds F (dK π) (putS σ dst v) h):TD E l n fl hs ds F (dK (m ::π)) σ h:=by
 unfold dK;rw [hk];exact ⟨_,true,ho,rfl,fun e=>(by cases e),fun _=>⟨v,x,y⟩⟩
theorem tE (hk:Pw m=(.e,k)) (ho:l[k]? =some ⟨dst,op,ty,pos,af,none⟩)
  (x:Bd E ⟨dst,op,ty,pos,af,none⟩ σ ds h fun σ' ds' h'=>ds'=ds∧∃v,σ'=putS σ dst v∧h.Le h'∧TD E l n false hs ds F (dK π) (putS σ dst v) h'):TD E l n false hs ds F (dK (m ::π)) σ h:=by
 unfold dK;rw [hk];exact ⟨_,true,ho,rfl,fun e=>(by cases e),fun _ hx hg=>by rw [hg.2 rfl];exact x⟩
theorem F2 (hk:Pw m=(.e,k)) (ho:l[k]? =some ⟨dst,op,ty,pos,af,none⟩)
  (x:∀hx,h.Le hx→Bd E ⟨dst,op,ty,pos,af,none⟩ σ ds hx fun σ' ds' h'=>ds'=ds∧∃v,σ'=putS σ dst v∧hx.Le h'∧TD E l n true hs ds F (dK π) (putS σ dst v) h'):TD E l n true hs ds F (dK (m ::π)) σ h:=by
 unfold dK;rw [hk];exact ⟨_,true,ho,rfl,fun e=>(by cases e),fun _ hx hg=>x hx hg.1⟩
theorem tW (hk:Pw m=(.w,k)) (ho:l[k]? =some ⟨dst,op,ty,pos,af,none⟩)
  (x:Bd E ⟨dst,op,ty,pos,af,none⟩ σ ds h fun σ' ds' h'=>ds'=ds∧∃v,σ'=putS σ dst v∧TD E l n false hs ds F (dK π) (putS σ dst v) h'):TD E l n false hs ds F (dK (m ::π)) σ h:=by
 unfold dK;rw [hk];exact ⟨_,true,ho,rfl,fun e=>(by cases e),fun _ hx hg=>by rw [hg.2 rfl];exact x⟩
theorem RI (hk:Pw m=(.w,k)) (ho:l[k]? =some ⟨dst,op,ty,pos,af,none⟩)
  (x:∀hx,h.Le hx→Bd E ⟨dst,op,ty,pos,af,none⟩ σ ds hx fun σ' ds' h'=>ds'=ds∧∃v,σ'=putS σ dst v∧TD E l n true hs ds F (dK π) (putS σ dst v) h'):TD E l n true hs ds F (dK (m ::π)) σ h:=by
 unfold dK;rw [hk];exact ⟨_,true,ho,rfl,fun e=>(by cases e),fun _ hx hg=>x hx hg.1⟩
theorem tA {t:TypeId} {z:Array Value} (hk:Pw m=(.a,k)) (ho:l[k]? =some ⟨dst,.alloc t,ty,pos,af,none⟩) (hz:Bt P t=some z)
  (x:∀r hx,h.Le hx→hs r=none→hx r=some (true,.cells z t (0,0))→TD E l n true hs ds F (dK π) (putS σ dst (.pointer (some ⟨r,0,none⟩))) hx):TD E l n true hs ds F (dK (m ::π)) σ h:=by
 unfold dK;rw [hk];refine ⟨_,true,ho,rfl,fun e=>(by cases e),fun _ t' r hx e l2 hr hb=>?_⟩;cases e;exact x r hx l2 hr (by rw [hb];unfold VJ;rw [hz];rfl)
theorem NJ (h1:l[g]? =some og) (h2:og.dst=some d) (h3:σ d=.bool w):Gd l ⟨dst,op,ty,pos,af,some (g,w)⟩ σ true:=⟨og,d,w,h1,h2,h3,by cases w <;> rfl⟩
theorem WB (hk:Pw m=(.p,k)) (ho:l[k]? =some ⟨dst,op,ty,pos,af,some (g,w)⟩) (h1:l[g]? =some og) (h2:og.dst=some d) (h3:σ d=.bool w) (x:∀hx,RG E ⟨dst,op,ty,pos,af,some (g,w)⟩ σ ds hx v)
  (y:TD E l n fl hs ds F (dK π) (putS σ dst v) h):TD E l n fl hs ds F (dK (m ::π)) σ h:=by
 unfold dK;rw [hk];exact ⟨_,true,ho,NJ h1 h2 h3,fun e=>(by cases e),fun _=>⟨v,x,y⟩⟩
theorem B4 (hk:Pw m=(.r,k)) (ho:l[k]? =some ⟨dst,op,ty,pos,af,some (g,w)⟩) (h1:l[g]? =some og) (h2:og.dst=some d) (h3:σ d=.bool w) (x:RG E ⟨dst,op,ty,pos,af,some (g,w)⟩ σ ds h v)
  (y:TD E l n fl hs ds F (dK π) (putS σ dst v) h):TD E l n fl hs ds F (dK (m ::π)) σ h:=by
 unfold dK;rw [hk];exact ⟨_,true,ho,NJ h1 h2 h3,fun e=>(by cases e),fun _=>⟨v,x,y⟩⟩
theorem Pi (hk:Pw m=(.e,k)) (ho:l[k]? =some ⟨dst,op,ty,pos,af,some (g,w)⟩) (h1:l[g]? =some og) (h2:og.dst=some d) (h3:σ d=.bool w)
  (x:Bd E ⟨dst,op,ty,pos,af,some (g,w)⟩ σ ds h fun σ' ds' h'=>ds'=ds∧∃v,σ'=putS σ dst v∧h.Le h'∧TD E l n false hs ds F (dK π) (putS σ dst v) h'):TD E l n false hs ds F (dK (m ::π)) σ h:=by
 unfold dK;rw [hk];exact ⟨_,true,ho,NJ h1 h2 h3,fun e=>(by cases e),fun _ hx hg=>by rw [hg.2 rfl];exact x⟩
theorem tS {kd:Kd} (hk:Pw m=(kd,k)) (ho:l[k]? =some ⟨dst,op,ty,pos,af,some (g,w)⟩) (h1:l[g]? =some og) (h2:og.dst=some d) (h3:σ d=.bool is) (hne:(is==w)=false)
  (y:TD E l n fl hs ds F (dK π) (putS σ dst undef) h):TD E l n fl hs ds F (dK (m ::π)) σ h:=by
 unfold dK;rw [hk];exact ⟨_,false,ho,⟨og,d,is,h1,h2,h3,hne.symm⟩,fun _=>y,fun e=>(by cases e)⟩
theorem tN (x:F σ h):TD E l n false hs ds F (dK []) σ h:=fun hx hg=>by rw [hg.2 rfl];exact x
theorem Px (x:∀hx,h.Le hx→F σ hx):TD E l n true hs ds F (dK []) σ h:=fun hx hg=>x hx hg.1
section
variable {α:Type} {enc:α→Array Value} {xs:List α} {h0:GH} {t:TypeId} {a ix:Operand} {z:Nat} {sv:Value} {kd:IntKind} {i:Int}
theorem tI (hk:Pw m=(.p,k)) (ho:l[k]? =some ⟨dst,.indexAddr t a ix,ty,pos,af,none⟩) (ht:Dc P t=some z) (hs':AN h0 sv z enc xs) (hx:AV σ a=sv) (hi:AV σ ix=.int kd i) (h0':0≤i) (h1:i<xs.length)
  (y:∀b off,Aa h0 b off z (enc (xs[i.toNat]'(by omega)))→TD E l n fl hs ds F (dK π) (putS σ dst (.pointer (some ⟨b,off,none⟩))) h):TD E l n fl hs ds F (dK (m ::π)) σ h:=by
 obtain ⟨p,cap,rfl,_,_,he⟩:=hs';obtain ⟨b,off,rfl,hb⟩:=he i.toNat (by omega);exact tP hk ho (fun _=>AJ ht hx hi h0' h1 vz) (y b _ hb)
theorem V4 {olo ohi:Option Operand} (lo hi:Nat) (hk:Pw m=(.p,k)) (ho:l[k]? =some ⟨dst,.slice t a olo ohi none,ty,pos,af,none⟩) (ht:Dc P t=some z) (hs':AN h0 sv z enc xs) (hx:AV σ a=sv)
  (hlo:VK σ olo lo 0) (hhi:VK σ ohi hi xs.length) (h1:lo≤hi) (h2:hi≤xs.length)
  (y:∀v',AN h0 v' z enc ((xs.take hi).drop lo)→TD E l n fl hs ds F (dK π) (putS σ dst v') h):TD E l n fl hs ds F (dK (m ::π)) σ h:=by
 have h3:=hs';obtain ⟨p,cap,rfl,hc,_,_⟩:=hs';exact tP hk ho (fun _=>JY lo hi ht hc hx hlo hhi h1 h2 vz) (y _ (h3.part h1 h2))
theorem Vm (hk:Pw m=(.p,k)) (ho:l[k]? =some ⟨dst,.indexAddr t a ix,ty,pos,af,some (g,w)⟩) (h1':l[g]? =some og) (h2':og.dst=some d) (h3':σ d=.bool w) (ht:Dc P t=some z) (hs':AN h0 sv z enc xs) (hx:AV σ a=sv) (hi:AV σ ix=.int kd i) (h0':0≤i) (h1:i<xs.length)
  (y:∀b off,Aa h0 b off z (enc (xs[i.toNat]'(by omega)))→TD E l n fl hs ds F (dK π) (putS σ dst (.pointer (some ⟨b,off,none⟩))) h):TD E l n fl hs ds F (dK (m ::π)) σ h:=by
 obtain ⟨p,cap,rfl,_,_,he⟩:=hs';obtain ⟨b,off,rfl,hb⟩:=he i.toNat (by omega);exact WB hk ho h1' h2' h3' (fun _=>AJ ht hx hi h0' h1 vz) (y b _ hb)
end
theorem eT {h':GH} {π':List (Kd×Nat)} (l2:h.Le h') (y:TD E l n fl hs ds F π' (putS σ dst v) h'):ds=ds∧∃v',putS σ dst v=putS σ dst v'∧h.Le h'∧TD E l n fl hs ds F π' (putS σ dst v') h':=⟨rfl,v,rfl,l2,y⟩
theorem wT {h':GH} {π':List (Kd×Nat)} (y:TD E l n fl hs ds F π' (putS σ dst v) h'):ds=ds∧∃v',putS σ dst v=putS σ dst v'∧TD E l n fl hs ds F π' (putS σ dst v') h':=⟨rfl,v,rfl,y⟩
end
theorem CY {X:Prop} {p:Prop} [Decidable p] (a:p→X) (b:¬p→X):X:=if h:p then a h else b h
end
end Go.Ns
namespace Go.Ns
def eI (i:Int):Array Value:=#[.int .i64 i]
def eB (i:Int):Array Value:=#[.int .u8 i]
structure Good where
 name:ByteArray
 cost:Int
 pack:Int
 low:Int
 high:Int
structure AB where
 kind:Int
 good:Int
 day:Int
 low:Int
 high:Int
structure AK where
 good:Int
 day:Int
 low:Int
 high:Int
def BD (x:Good):Array Value:=#[.string x.name,.int .i64 x.cost,.int .i64 x.pack,.int .i64 x.low,.int .i64 x.high]
def A1 (x:AB):Array Value:=#[.int .i64 x.kind,.int .i64 x.good,.int .i64 x.day,.int .i64 x.low,.int .i64 x.high]
def Av (x:AK):Array Value:=#[.int .i64 x.good,.int .i64 x.day,.int .i64 x.low,.int .i64 x.high]
structure AS where
 first:Nat→Int
 many:Nat→Int
 lies:Nat→Bool
def AS.zero:AS:=⟨fun _=>0,fun _=>0,fun _=>false⟩
def Ai (p:AS):Array Value:=#[.int .i64 (p.first 0),.int .i64 (p.first 1),.int .i64 (p.first 2),.int .i64 (p.many 0),.int .i64 (p.many 1),.int .i64 (p.many 2),.int .i64 (p.many 3),.int .i64 (p.many 4),.int .i64 (p.many 5),
 .bool (p.lies 0),.bool (p.lies 1),.bool (p.lies 2),.bool (p.lies 3),.bool (p.lies 4),.bool (p.lies 5)]
def AS.setFirst (p:AS) (i:Nat) (n:Int):AS:={ p with first:=fun k=>if k=i then n else p.first k }
def AS.setMany (p:AS) (i:Nat) (n:Int):AS:={ p with many:=fun k=>if k=i then n else p.many k }
def AS.setLie (p:AS) (i:Nat) (b:Bool):AS:={ p with lies:=fun k=>if k=i then b else p.lies k }
theorem OW {p:AS} {i:Nat} (h:i<3):(Ai p)[i*1]? =some (.int .i64 (p.first i)):=by
 match i,h with
 | 0,_=>rfl
 | 1,_=>rfl
 | 2,_=>rfl
theorem Py {p:AS} {i:Nat} (h:i<6):(Ai p)[3+i*1]? =some (.int .i64 (p.many i)):=by
 match i,h with
 | 0,_=>rfl
 | 1,_=>rfl
 | 2,_=>rfl
 | 3,_=>rfl
 | 4,_=>rfl
 | 5,_=>rfl
theorem IM {p:AS} {i:Nat} (h:i<6):(Ai p)[9+i*1]? =some (.bool (p.lies i)):=by
 match i,h with
 | 0,_=>rfl
 | 1,_=>rfl
 | 2,_=>rfl
 | 3,_=>rfl
 | 4,_=>rfl
 | 5,_=>rfl
theorem OX {p:AS} {i:Nat} (h:i<6):(if false=true then some (Value.agg ((#[.bool (p.lies 0),.bool (p.lies 1),.bool (p.lies 2),.bool (p.lies 3),.bool (p.lies 4),.bool (p.lies 5)]:Array Value).extract (i*1) (i*1+1))) else (#[.bool (p.lies 0),.bool (p.lies 1),.bool (p.lies 2),.bool (p.lies 3),.bool (p.lies 4),.bool (p.lies 5)]:Array Value)[i*1]?)=some (.bool (p.lies i)):=by
 match i,h with
 | 0,_=>rfl
 | 1,_=>rfl
 | 2,_=>rfl
 | 3,_=>rfl
 | 4,_=>rfl
 | 5,_=>rfl
theorem Ks {p:AS} {i:Nat} {n:Int} (h:i<3):Bj (Ai p) (i*1) [.int .i64 n]=Ai (p.setFirst i n):=by
 match i,h with
 | 0,_=>rfl
 | 1,_=>rfl
 | 2,_=>rfl
theorem KD {p:AS} {i:Nat} {n:Int} (h:i<3):Bj (Ai p) (0+i*1) [.int .i64 n]=Ai (p.setFirst i n):=by rw [Nat.zero_add];exact Ks h
theorem Ly {p:AS} {i:Nat} {n:Int} (h:i<6):Bj (Ai p) (3+i*1) [.int .i64 n]=Ai (p.setMany i n):=by
 match i,h with
 | 0,_=>rfl
 | 1,_=>rfl
 | 2,_=>rfl
 | 3,_=>rfl
 | 4,_=>rfl
 | 5,_=>rfl
theorem Gm {p:AS} {i:Nat} {b:Bool} (h:i<6):Bj (Ai p) (9+i*1) [.bool b]=Ai (p.setLie i b):=by
 match i,h with
 | 0,_=>rfl
 | 1,_=>rfl
 | 2,_=>rfl
 | 3,_=>rfl
 | 4,_=>rfl
 | 5,_=>rfl
theorem NK {p:AS} {i:Nat} (h:i<3):(Ai p)[0+i*1]? =some (.int .i64 (p.first i)):=by rw [Nat.zero_add];exact OW h
def An (p:AS):Nat→Nat
 | 0=>0
 | k+1=>An p k+if p.lies k then 1 else 0
theorem Kt (p:AS):∀k,An p k≤k
 | 0=>Nat.le_refl _
 | k+1=>by have:=Kt p k;unfold An;split <;> omega
def BV (p:AS) (i:Nat):Int:=if p.lies i then 0 else p.many i
def Good.z:Good:=⟨⟨#[]⟩,0,0,0,0⟩
def AB.z:AB:=⟨0,0,0,0,0⟩
def AK.z:AK:=⟨0,0,0,0⟩
theorem Cr {α:Type} {xs:List α} {i:Nat} (d:α) (hi:i<xs.length):xs.getD i d=xs[i]'hi:=by
 simp [List.getD_eq_getElem?_getD,List.getElem?_eq_getElem hi]
theorem Aa.getD {α:Type} {h:GH} {b off n:Nat} {enc:α→Array Value} {xs:List α} {i:Nat} {hi:i<xs.length} (d:α) (x:Aa h b off n (enc (xs[i]'hi))):Aa h b off n (enc (xs.getD i d)):=by
 rw [Cr d hi];exact x
theorem EK {α:Type} {a:List α} {k:Nat} (d:α) (ha:k<a.length):a.take (k+1)=a.take k++[a.getD k d]:=by
 rw [List.take_succ_eq_append_getElem ha,Cr d ha]
theorem Ku {α:Type} {a b:List α} {k:Nat} (d:α) (h:a.take k=b.take k) (ha:k<a.length) (hb:k<b.length) (e:a.getD k d=b.getD k d):a.take (k+1)=b.take (k+1):=by
 rw [EK d ha,EK d hb,h,e]
theorem NL {a b:List Int} {k:Nat} (h:a.take k=b.take k) (hk:k≤a.length) (hk':¬(k:Int)<a.length) (hl:(a.length:Int)=b.length):a=b:=by
 have h1:k=a.length:=by omega
 have h2:b.length=a.length:=by omega
 rw [h1,List.take_length,←h2,List.take_length] at h;exact h
theorem Uy {α:Type} {a b:List α} (h:¬(a.length:Int)=b.length):¬a=b:=fun e=>h (by rw [e])
theorem UF {α:Type} {a b:List α} {k:Nat} {d:α} (e:¬a.getD k d=b.getD k d):¬a=b:=fun h=>e (by rw [h])
theorem UG {a:List Int} {k:Nat} {n:Int} (hk:(k:Int)<a.length) (e:a.getD k 0=n):n ∈ a:=by
 have hk':k<a.length:=by omega
 rw [Cr 0 hk'] at e;exact e▸List.getElem_mem hk'
theorem S5 {a:List Int} {k:Nat} {n:Int} (hk:(k:Int)<a.length) (h:¬n ∈ a.take k) (e:¬a.getD k 0=n):¬n ∈ a.take (k+1):=by
 rw [EK 0 (by omega)];simp only [List.mem_append,List.mem_singleton,not_or];exact ⟨h,fun q=>e q.symm⟩
theorem UH {a:List Int} {k:Nat} {n:Int} (hk:¬(k:Int)<a.length) (h:¬n ∈ a.take k):¬n ∈ a:=by
 rwa [List.take_of_length_le (by omega)] at h
def DE (c:Int):Prop:=97≤c∧c≤122
def DQ (c:Int):Prop:=48≤c∧c≤57
instance (c:Int):Decidable (DE c):=inferInstanceAs (Decidable (_∧_))
instance (c:Int):Decidable (DQ c):=inferInstanceAs (Decidable (_∧_))
def DU (d m:Int):Int:=if¬(1≤d∧d≤99)∨¬(0≤m∧m≤2) then 1 else 0
def idxOf {α:Type} (p:α→Bool):List α→Int
 | []=> -1
 | x ::l=>if p x then 0 else if idxOf p l<0 then-1 else idxOf p l+1
theorem Kv {α:Type} (p:α→Bool):∀l:List α,-1≤idxOf p l
 | []=>by simp [idxOf]
 | x ::l=>by have:=Kv p l;unfold idxOf;split <;> (try split) <;> omega
theorem GQ {α:Type} (p:α→Bool):∀l:List α,(0≤idxOf p l)↔l.any p=true
 | []=>by simp [idxOf]
 | x ::l=>by
  have:=GQ p l
  have h2:=Kv p l;unfold idxOf;cases hp:p x with
  | true=>simp [hp]
  | false=>
   simp only [Bool.false_eq_true,if_false,List.any_cons,hp,Bool.false_or];rw [←this];split <;> omega
theorem Ja {α:Type} {p:α→Bool} {l:List α} {k:Nat} {d:α} (hk:(k:Int)<l.length) (h:(l.take k).any p=false) (e:p (l.getD k d)=true):idxOf p l=k:=by
 induction l generalizing k with
 | nil=>simp at hk;omega
 | cons x l ih=>
  unfold idxOf;cases k with
  | zero=>simp at e;simp [e]
  | succ k=>
   simp only [List.take_succ_cons,List.any_cons,Bool.or_eq_false_iff] at h;rw [h.1]
   have:=ih (k:=k) (by simp at hk;omega) h.2 (by simpa using e)
   rw [this];simp only [Bool.false_eq_true,if_false];rw [if_neg (by omega)];omega
theorem IN {α:Type} {p:α→Bool} {l:List α} {k:Nat} (hk:¬(k:Int)<l.length) (h:(l.take k).any p=false):idxOf p l= -1:=by
 rw [List.take_of_length_le (by omega)] at h
 have:=GQ p l
 have h2:=Kv p l;rw [h] at this;simp at this;omega
theorem Iu {α:Type} {p:α→Bool} {l:List α} {k:Nat} {d:α} (hk:(k:Int)<l.length) (h:(l.take k).any p=false) (e:p (l.getD k d)=false):(l.take (k+1)).any p=false:=by
 rw [EK d (by omega),List.any_append,h];simp only [Bool.false_or,List.any_cons,List.any_nil,Bool.or_false,e]
theorem Ck {α:Type} {l:List α} {k:Nat} {d:α} (hk:k<l.length):l.getD k d ∈ l:=by
 rw [Cr d hk];exact List.getElem_mem hk
def Aw (l:List Int) (m:Int):Int:=if¬(l.length:Int)=m then 2 else if l.any (fun x=>decide (¬(0≤x∧x≤99))) then 1 else 0
def DF (f:Nat→Int):Nat→Nat→Int
 | _,0=>0
 | i,n+1=>if f i=0 then DF f (i+1) n else f i
theorem Kw {f:Nat→Int} {c:Int}:∀{n i k:Nat},(∀j,i≤j→j<i+k→f j=0)→k<n→f (i+k)=c→c≠0→DF f i n=c
 | 0,i,k,_,hk,_,_=>by omega
 | n+1,i,0,_,_,e,hc=>by unfold DF;rw [Nat.add_zero] at e;rw [e,if_neg hc]
 | n+1,i,k+1,h,hk,e,hc=>by
  unfold DF;rw [if_pos (h i (Nat.le_refl _) (by omega))];exact Kw (k:=k) (fun j h1 h2=>h j (by omega) (by omega)) (by omega) (by rw [←e];congr 1;omega) hc
theorem EL {f:Nat→Int}:∀{n i:Nat},(∀j,i≤j→j<i+n→f j=0)→DF f i n=0
 | 0,_,_=>rfl
 | n+1,i,h=>by
  unfold DF;rw [if_pos (h i (Nat.le_refl _) (by omega))];exact EL fun j h1 h2=>h j (by omega) (by omega)
theorem Cx {f:Nat→Int} {k:Nat} (h:∀j,j<k→f j=0) (e:f k=0):∀j,j<k+1→f j=0:=fun j hj=>by
 rcases Nat.lt_or_ge j k with q | q
 ·exact h j q
 ·rw [show j=k by omega];exact e
theorem BP {f:Nat→Int} {c:Int} {n k:Nat} (h:∀j,j<k→f j=0) (hk:k<n) (e:f k=c) (hc:c≠0):DF f 0 n=c:=
 Kw (i:=0) (k:=k) (fun j _ hj=>h j (by omega)) hk (by rw [Nat.zero_add];exact e) hc
theorem CB {f:Nat→Int} {n k:Nat} (h:∀j,j<k→f j=0) (hk:n≤k):DF f 0 n=0:=EL fun j _ hj=>h j (by omega)
def GF (s:ByteArray) (k:Nat):Int:=if¬DE ((bytesOf s).getD k 0)∧(k=0∨¬DQ ((bytesOf s).getD k 0)) then 1 else 0
def C5 (s:ByteArray):Bool:=decide (DF (GF s) 0 s.size=0) && decide (1≤(s.size:Int)∧(s.size:Int)≤10)
def CM (l h:Int):Prop:=((0≤l∧l≤h)∧h≤99)∧h-l<3
instance (l h:Int):Decidable (CM l h):=inferInstanceAs (Decidable (_∧_))
def EG (gs:List Good) (k:Nat):Int:=
 if C5 (gs.getD k Good.z).name=false then 4
 else if (gs.take k).any (fun x=>x.name.toList==(gs.getD k Good.z).name.toList) then 5
 else if (¬(0≤(gs.getD k Good.z).cost∧(gs.getD k Good.z).cost≤999)∨¬(1≤(gs.getD k Good.z).pack∧(gs.getD k Good.z).pack≤20))∨¬CM (gs.getD k Good.z).low (gs.getD k Good.z).high then 1 else 0
def BR (gs:List Good):Int:=if¬(1≤(gs.length:Int)∧(gs.length:Int)≤3) then 2 else DF (EG gs) 0 gs.length
def CT (ms:List AB) (k:Nat):Int:=if k=0 then 0 else (ms.getD (k-1) AB.z).day
def Cl (d:Int) (gs:List Good) (ms:List AB) (k:Nat):Int:=
 if¬(0≤(ms.getD k AB.z).kind∧(ms.getD k AB.z).kind≤4) then 1
 else if¬(0≤(ms.getD k AB.z).good∧(ms.getD k AB.z).good≤(gs.length:Int)-1) then 6
 else if¬(1≤(ms.getD k AB.z).day∧(ms.getD k AB.z).day≤d) then 1
 else if (ms.getD k AB.z).day<CT ms k then 7
 else if¬CM (ms.getD k AB.z).low (ms.getD k AB.z).high then 1 else 0
def BI (d:Int) (gs:List Good) (ms:List AB):Int:=if (6:Int)<ms.length then 2 else DF (Cl d gs ms) 0 ms.length
def D5 (d:Int) (gs:List Good) (cs:List AK) (k:Nat):Int:=
 if¬(0≤(cs.getD k AK.z).good∧(cs.getD k AK.z).good≤(gs.length:Int)-1) then 6
 else if¬(0≤(cs.getD k AK.z).day∧(cs.getD k AK.z).day≤d)∨¬((0≤(cs.getD k AK.z).low∧(cs.getD k AK.z).low≤(cs.getD k AK.z).high)∧(cs.getD k AK.z).high≤999) then 1 else 0
def By (d:Int) (gs:List Good) (cs:List AK):Int:=if (4:Int)<cs.length then 2 else DF (D5 d gs cs) 0 cs.length
theorem H0 (s:ByteArray) (k:Nat):0≤(bytesOf s).getD k 0∧(bytesOf s).getD k 0≤255:=by
 by_cases h:k<(bytesOf s).length
 ·rw [Cr 0 h];have h2:k<s.data.toList.length:=by rw [CL] at h;rw [Array.length_toList];exact h
  have e:(bytesOf s)[k]'h=((s.data.toList[k]'h2).toNat:Int):=List.getElem_map _;rw [e]
  have:=(s.data.toList[k]'h2).toNat_lt
  omega
 ·simp only [List.getD_eq_getElem?_getD];rw [List.getElem?_eq_none (by omega)];decide
theorem Kx {s:ByteArray} {k:Nat} (h:∀j,j<k→GF s j=0) (hk:k<s.size) (e:GF s k=1):C5 s=false:=by
 unfold C5;rw [BP h hk e (by decide)];simp
theorem Ky {s:ByteArray} {k:Nat} (h:∀j,j<k→GF s j=0) (hk:s.size≤k):C5 s=decide (1≤(s.size:Int)∧(s.size:Int)≤10):=by
 unfold C5;rw [CB h hk];simp
theorem Uz {P:Program} {h:GH} {t:TypeId} {b n m o:Nat} {vs:Array Value} {v:Value} (ht:B8 P t=some (false,m)) (x:Aa h b 0 n vs) (hv:vs[o]? =some v):Rd P h t b o v:=by
 have:=Bq (o:=o) ht x hv
 rwa [Nat.zero_add] at this
def DG (d m:Int) (gs:List Good) (ms:List AB) (cs:List AK):Nat→Int
 | 0=>DU d m
 | 1=>BR gs
 | 2=>BI d gs ms
 | _=>By d gs cs
def AM (d m:Int) (gs:List Good) (ms:List AB) (cs:List AK):Int:=DF (DG d m gs ms cs) 0 4
def signed (k:Nat) (n:Int):Int:=if k=0∨k=4 then n else-n
theorem Iv {k:Nat} {n:Int} (h:0≤n∧n≤99): -99≤signed k n∧signed k n≤99:=by unfold signed;split <;> omega
def Be (p:AS):Prop:=(∀i,0≤p.first i∧p.first i≤99)∧∀i,0≤p.many i∧p.many i≤99
theorem FI {p:AS} (h:Be p) (i:Nat):0≤BV p i∧BV p i≤99:=by
 unfold BV;have:=h.2 i;split <;> omega
def Ey (ms:List AB) (p:AS) (g:Int) (k:Nat) (n:Int):Int:=if (ms.getD k AB.z).good=g then n+signed (ms.getD k AB.z).kind.toNat (BV p k) else n
def EV (ms:List AB) (k:Nat) (low n:Int):Int:=if (k:Int)+1=ms.length∨(ms.getD k AB.z).day<(ms.getD (k+1) AB.z).day then min low n else low
def CN (ms:List AB) (p:AS) (g dy:Int):Nat→Nat→Int→Int→Int×Int
 | 0,_,n,low=>(n,low)
 | f+1,k,n,low=>if dy<(ms.getD k AB.z).day then (n,low) else CN ms p g dy f (k+1) (Ey ms p g k n) (EV ms k low (Ey ms p g k n))
def AH (ms:List AB) (p:AS) (g dy:Int):Int×Int:=CN ms p g dy ms.length 0 (p.first g.toNat) (p.first g.toNat)
theorem DX {ms:List AB} {p:AS} {g dy:Int} {k:Nat} {n low:Int} (hk:k<ms.length) (hd:¬dy<(ms.getD k AB.z).day) :
  CN ms p g dy (ms.length-k) k n low=CN ms p g dy (ms.length-(k+1)) (k+1) (Ey ms p g k n) (EV ms k low (Ey ms p g k n)):=by
 rw [show ms.length-k=(ms.length-(k+1))+1 by omega]
 conv=>lhs;unfold CN
 rw [if_neg hd]
theorem Lz {ms:List AB} {p:AS} {g dy:Int} {k:Nat} {n low:Int} (hk:k<ms.length) (hd:dy<(ms.getD k AB.z).day):CN ms p g dy (ms.length-k) k n low=(n,low):=by
 rw [show ms.length-k=(ms.length-(k+1))+1 by omega]
 conv=>lhs;unfold CN
 rw [if_pos hd]
theorem NM {ms:List AB} {p:AS} {g dy:Int} {k:Nat} {n low:Int} (hk:¬(k:Int)<ms.length):CN ms p g dy (ms.length-k) k n low=(n,low):=by
 rw [show ms.length-k=0 by omega];rfl
def A8 (d:Int) (ng:Nat) (ms:List AB) (cs:List AK) (p:AS):Bool:=
 decide (∀j,j<ng→¬(AH ms p (j:Int) d).2<0) && !(cs.any fun x=>decide (¬(x.low≤(AH ms p x.good x.day).1∧(AH ms p x.good x.day).1≤x.high)))
theorem Pz {d:Int} {ng:Nat} {ms:List AB} {cs:List AK} {p:AS} {k:Nat} (hk:k<ng) (h:(AH ms p (k:Int) d).2<0):A8 d ng ms cs p=false:=by
 unfold A8;rw [decide_eq_false (fun q=>q k hk h)];rfl
theorem OY {d:Int} {ng:Nat} {ms:List AB} {cs:List AK} {p:AS} {k:Nat} (hk:ng≤k) (h:∀j,j<k→¬(AH ms p (j:Int) d).2<0) :
  A8 d ng ms cs p= !(cs.any fun x=>decide (¬(x.low≤(AH ms p x.good x.day).1∧(AH ms p x.good x.day).1≤x.high))):=by
 unfold A8;rw [decide_eq_true (fun j hj=>h j (by omega))];rfl
theorem Hh {q:Nat→Prop} {k:Nat} (h:∀j,j<k→q j) (e:q k):∀j,j<k+1→q j:=fun j hj=>by
 rcases Nat.lt_or_ge j k with r | r
 ·exact h j r
 ·rw [show j=k by omega];exact e
def AS.setFirsts (p:AS) (l:List Int):AS:={ p with first:=fun k=>if k<l.length then l.getD k 0 else p.first k }
def AS.setManys (p:AS) (l:List Int):AS:={ p with many:=fun k=>if k<l.length then l.getD k 0 else p.many k }
theorem KE {p:AS} {l:List Int} (h:l.length≤3):Bj (Ai p) 0 (Cc eI l)=Ai (p.setFirsts l):=by
 match l,h with
 | [],_=>rfl
 | [_],_=>rfl
 | [_,_],_=>rfl
 | [_,_,_],_=>rfl
 | _ ::_ ::_ ::_ ::_,h=>simp at h
theorem Kz {p:AS} {l:List Int} (h:l.length≤6):Bj (Ai p) 3 (Cc eI l)=Ai (p.setManys l):=by
 match l,h with
 | [],_=>rfl
 | [_],_=>rfl
 | [_,_],_=>rfl
 | [_,_,_],_=>rfl
 | [_,_,_,_],_=>rfl
 | [_,_,_,_,_],_=>rfl
 | [_,_,_,_,_,_],_=>rfl
 | _ ::_ ::_ ::_ ::_ ::_ ::_ ::_,h=>simp at h
end Go.Ns
namespace Go.Ns
open Go.Conc
def Bl (lo:Int) (k:Nat):List Int:=(List.range k).map fun (j:Nat)=>lo+(j:Int)
def E8 (lo hi:Int):List Int:=Bl lo (hi-lo+1).toNat
theorem Jz (lo:Int) (k:Nat):Bl lo (k+1)=Bl lo k++[lo+(k:Int)]:=by
 simp [Bl,List.range_succ]
theorem P0 {lo n:Int} {k:Nat}:n ∈ Bl lo k↔lo≤n∧n<lo+k:=by
 simp only [Bl,List.mem_map,List.mem_range];constructor
 ·rintro ⟨j,hj,rfl⟩;omega
 ·rintro ⟨h1,h2⟩;exact ⟨(n-lo).toNat,by omega,by omega⟩
theorem FQ {lo hi n:Int}:n ∈ E8 lo hi↔lo≤n∧n≤hi:=by
 unfold E8;rw [P0];omega
theorem P1 {β:Type} {f:Int→List β} {lo hi:Int} {k:Nat} (h:¬lo+(k:Int)≤hi) (hk:(k:Int)≤hi-lo+1∨k=0):(Bl lo k).flatMap f=(E8 lo hi).flatMap f:=by
 unfold E8;congr 2;omega
theorem HF {β:Type} {f:Int→List β} {lo:Int} {k:Nat}:(Bl lo (k+1)).flatMap f=(Bl lo k).flatMap f++f (lo+k):=by
 rw [Jz,List.flatMap_append];simp
def AS.setMove (p:AS) (i:Nat) (n:Int) (b:Bool):AS:=(p.setMany i n).setLie i b
theorem KF (p:AS) (i:Nat) (n n':Int) (b b':Bool):(p.setMove i n b).setMove i n' b'=p.setMove i n' b':=by
 unfold AS.setMove AS.setMany AS.setLie;congr 1 <;> funext k <;> simp only [] <;> split <;> rfl
theorem FZ (p:AS) (i:Nat) (n:Int) (b b':Bool):(p.setMove i n b).setLie i b'=p.setMove i n b':=by
 unfold AS.setMove AS.setMany AS.setLie;congr 1;funext k;simp only [];split <;> rfl
theorem Iw (p:AS) (i:Nat) (n n':Int):(p.setFirst i n).setFirst i n'=p.setFirst i n':=by
 unfold AS.setFirst;congr 1;funext k;simp only [];split <;> rfl
theorem Be.zero:Be AS.zero:=⟨fun _=>⟨Int.le_refl 0,(by decide:(0:Int)≤99)⟩,fun _=>⟨Int.le_refl 0,(by decide:(0:Int)≤99)⟩⟩
theorem Be.setFirst {p:AS} (h:Be p) {i:Nat} {n:Int} (hn:0≤n∧n≤99):Be (p.setFirst i n):=
 ⟨fun k=>by unfold AS.setFirst;simp only [];split;exact hn;exact h.1 k,h.2⟩
theorem Be.setMany {p:AS} (h:Be p) {i:Nat} {n:Int} (hn:0≤n∧n≤99):Be (p.setMany i n):=
 ⟨h.1,fun k=>by unfold AS.setMany;simp only [];split;exact hn;exact h.2 k⟩
theorem Be.setMove {p:AS} (h:Be p) {i:Nat} {n:Int} {b:Bool} (hn:0≤n∧n≤99):Be (p.setMove i n b):=h.setMany hn
def CZ (ms:List AB) (i:Int):Bool:=decide ((0≤i∧i≤(ms.length:Int)-1)∧(ms.getD i.toNat AB.z).kind=0)
def Aq (ag:AS→Bool) (ms:List AB) (most:Int):Nat→Nat→AS→List AS
 | 0,_,p=>if ag p then [p] else []
 | f+1,i,p=>(E8 (ms.getD i AB.z).low (ms.getD i AB.z).high).flatMap fun n=>
   Aq ag ms most f (i+1) (p.setMove i n false)++
    if CZ ms i && decide ((An (p.setMove i n false) 6:Int)<most) then Aq ag ms most f (i+1) (p.setMove i n true) else []
def BJ (ag:AS→Bool) (gs:List Good) (ms:List AB) (most:Int):Nat→Nat→AS→List AS
 | 0,_,p=>Aq ag ms most ms.length 0 p
 | f+1,i,p=>(E8 (gs.getD i Good.z).low (gs.getD i Good.z).high).flatMap fun n=>BJ ag gs ms most f (i+1) (p.setFirst i n)
def AP (d:Int) (gs:List Good) (ms:List AB) (cs:List AK) (most:Int):List AS:=BJ (A8 d gs.length ms cs) gs ms most gs.length 0 AS.zero
def Bb (ag:AS→Bool) (ms:List AB) (most:Int) (f i:Nat) (p:AS) (n:Int):List AS:=
 Aq ag ms most f (i+1) (p.setMove i n false)++
  if CZ ms i && decide ((An (p.setMove i n false) 6:Int)<most) then Aq ag ms most f (i+1) (p.setMove i n true) else []
theorem CO (ag:AS→Bool) (ms:List AB) (most:Int) (f i:Nat) (p:AS) :
  Aq ag ms most (f+1) i p=(E8 (ms.getD i AB.z).low (ms.getD i AB.z).high).flatMap (Bb ag ms most f i p):=rfl
theorem Cm (ag:AS→Bool) (gs:List Good) (ms:List AB) (most:Int) (f i:Nat) (p:AS) :
  BJ ag gs ms most (f+1) i p=(E8 (gs.getD i Good.z).low (gs.getD i Good.z).high).flatMap (fun n=>BJ ag gs ms most f (i+1) (p.setFirst i n)):=rfl
def BZ (X:Nat→Prop) (h h':GH):Prop:=∀b p o,h b=some (p,o)→¬X b→∃o',h' b=some (p,o')∧(o'=o∨(IB o=true∧IB o'=true))
theorem BZ.refl (X:Nat→Prop) (h:GH):BZ X h h:=fun _ _ o x _=>⟨o,x,.inl rfl⟩
theorem GH.Le.keepX {h h':GH} (l:h.Le h') (X:Nat→Prop):BZ X h h':=fun b p o x _=>l b p o x
theorem BZ.trans {X X1:Nat→Prop} {a b c:GH} (x:BZ X a b) (hX:∀r,X1 r→X r∨a r=none) (y:BZ X1 b c):BZ X a c:=fun r p o hr hn=>by
 obtain ⟨o1,h1,h2⟩:=x r p o hr hn;obtain ⟨o2,h3,h4⟩:=y r p o1 h1 fun q=>(hX r q).elim hn fun e=>by rw [e] at hr;cases hr
 refine ⟨o2,h3,?_⟩;rcases h2 with rfl | h2
 ·exact h4
 ·rcases h4 with rfl | h4
  ·exact .inr h2
  ·exact .inr ⟨h2.1,h4.2⟩
theorem BZ.box {X:Nat→Prop} {h h':GH} (x:BZ X h h') {b:Nat} {p:Bool} {o:Obj} (hb:h b=some (p,o)) (hX:¬X b) (ho:IB o=false):h' b=some (p,o):=by
 obtain ⟨o',h1,rfl | ⟨h2,_⟩⟩:=x b p o hb hX
 ·exact h1
 ·rw [ho] at h2;cases h2
theorem BZ.store {X:Nat→Prop} {h h1 h2:GH} (x:BZ X h h1) {r:Nat} (hr:h r=none) (ho:∀b,b≠r→h2 b=h1 b):BZ X h h2:=fun b p o hb hn=>by
 rw [ho b fun e=>by subst e;rw [hr] at hb;cases hb];exact x b p o hb hn
structure Gn {α:Type} (hB:GH) (I:List α→(Nat→Prop)→GH→Prop):Prop where
 dom:∀pre X h b,I pre X h→X b→∃p o,h b=some (p,o)∧IB o=false
 stable:∀pre X h h',I pre X h→(∀b,X b→h' b=h b)→hB.Le h'→I pre X h'
theorem Gn.le {α:Type} {hB:GH} {I:List α→(Nat→Prop)→GH→Prop} (P:Gn hB I) {pre:List α} {X:Nat→Prop} {h h':GH} (x:I pre X h) (l:h.Le h') (lB:hB.Le h'):I pre X h':=
 P.stable pre X h h' x (fun b hb=>by
  obtain ⟨p,o,h1,h2⟩:=P.dom pre X h b x hb;rw [l.keep h1 h2,h1]) lB
theorem Gn.store {α:Type} {hB:GH} {I:List α→(Nat→Prop)→GH→Prop} (P:Gn hB I) {pre:List α} {X:Nat→Prop} {h h':GH} (x:I pre X h) {r:Nat} (hr:¬X r) (ho:∀b,b≠r→h' b=h b) (lB:hB.Le h'):I pre X h':=
 P.stable pre X h h' x (fun b hb=>ho b fun e=>hr (e▸hb)) lB
theorem Gn.off {α:Type} {hB:GH} {I:List α→(Nat→Prop)→GH→Prop} (P:Gn hB I) {pre:List α} {X:Nat→Prop} {h:GH} (x:I pre X h) {r:Nat} (hr:h r=none):¬X r:=fun q=>by
 obtain ⟨p,o,h1,_⟩:=P.dom pre X h r x q;rw [hr] at h1;cases h1
theorem L0 {X X1:Nat→Prop} {h:GH} (hX:∀r,X1 r→X r∨h r=none) {r:Nat} {o:Bool×Obj} (hr:h r=some o) (n:¬X r):¬X1 r:=fun q=>(hX r q).elim n fun e=>by rw [e] at hr;cases hr
def Fu {α:Type} (hB:GH) (I:List α→(Nat→Prop)→GH→Prop) (S:GH→Prop) (pre:List α) (X:Nat→Prop) (h:GH) (l:List α) (v:Value) (h':GH):Prop:=
 ∃ok X',v=.bool ok∧(∀b,X' b→X b∨h b=none)∧BZ X h h'∧hB.Le h'∧(ok=true→I (pre++l) X' h')∧(ok=false→S h')
structure IO {α:Type} {P:Program} (W:Wk P) (hB:GH) (yv:Value) (enc:α→Array Value) (I:List α→(Nat→Prop)→GH→Prop) (S:GH→Prop) (all:List α):Prop where
 prom:Gn hB I
 one:yv.cells=#[yv]
 call:∀pre p post X h,all=pre++p ::post→I pre X h→hB.Le h→CJ W yv #[.agg (enc p)] h (Fu hB I S pre X h [p])
structure Fs {α:Type} (hB:GH) (I:List α→(Nat→Prop)→GH→Prop) (X0:Nat→Prop) (h:GH) (pre:List α) (X:Nat→Prop) (hc:GH):Prop where
 inv:I pre X hc
 sub:∀b,X b→X0 b∨h b=none
 keep:BZ X0 h hc
 base:hB.Le hc
section
variable {α:Type} {hB:GH} {I:List α→(Nat→Prop)→GH→Prop} {S:GH→Prop} {X0 X X1:Nat→Prop} {h hc h':GH} {pre l:List α}
theorem Fs.start (x:I pre X h) (lB:hB.Le h):Fs hB I X h pre X h:=⟨x,fun _ q=>.inl q,BZ.refl _ _,lB⟩
theorem Fs.le (P:Gn hB I) (y:Fs hB I X0 h pre X hc) (l:hc.Le h'):Fs hB I X0 h pre X h':=
 ⟨P.le y.inv l (y.base.trans l),y.sub,y.keep.trans (fun _ q=>.inl q) (l.keepX X0),y.base.trans l⟩
theorem Fs.store (P:Gn hB I) (y:Fs hB I X0 h pre X hc) {r:Nat} (hr:h r=none) (rB:hB r=none) (hn:¬X r) (ho:∀b,b≠r→h' b=hc b):Fs hB I X0 h pre X h':=
 ⟨P.store y.inv hn ho (y.base.upd rB ho),y.sub,y.keep.store hr ho,y.base.upd rB ho⟩
theorem VL (s:∀b,X b→X0 b∨h b=none) (k:BZ X0 h hc) (s':∀b,X1 b→X b∨hc b=none):∀b,X1 b→X0 b∨h b=none:=fun b q=>by
 rcases s' b q with q | q
 ·exact s b q
 ·by_cases q0:X0 b
  ·exact .inl q0
  ·refine .inr ?_;cases hb:h b with
   | none=>rfl
   | some x=>
    obtain ⟨o',h1,_⟩:=k b x.1 x.2 hb q0;rw [h1] at q;cases q
theorem Fs.call (y:Fs hB I X0 h pre X hc) {v:Value} (r:Fu hB I S pre X hc l v h') :
  ∃ok X',v=.bool ok∧(∀b,X' b→X b∨hc b=none)∧BZ X hc h'∧(ok=true→Fs hB I X0 h (pre++l) X' h')∧(ok=false→∀l',Fu hB I S pre X0 h l' (.bool false) h'):=by
 obtain ⟨ok,X',hv,hs,hk,hl,h1,h2⟩:=r;have kk:BZ X0 h h':=y.keep.trans y.sub hk;have ss:=VL y.sub y.keep hs;exact ⟨ok,X',hv,hs,hk,fun e=>⟨h1 e,ss,kk,hl⟩,fun e l'=>⟨false,X',rfl,ss,kk,hl,(fun x=>by cases x),fun _=>h2 e⟩⟩
theorem Fs.done (y:Fs hB I X0 h (pre++l) X hc):Fu hB I S pre X0 h l (.bool true) hc:=⟨true,X,rfl,y.sub,y.keep,y.base,fun _=>y.inv,fun x=>by cases x⟩
theorem Fs.pass {α:Type} {hB:GH} {I:List α→(Nat→Prop)→GH→Prop} {S:GH→Prop} {X0 X:Nat→Prop} {h hc h':GH} {pre:List α} {l:List α} {v:Value} (y:Fs hB I X0 h pre X hc) (r:Fu hB I S pre X hc l v h'):Fu hB I S pre X0 h l v h':=by
 obtain ⟨ok,X',hv,hs,hk,hl,h1,h2⟩:=r;exact ⟨ok,X',hv,VL y.sub y.keep hs,y.keep.trans y.sub hk,hl,h1,h2⟩
theorem Fu.stopped {pre':List α} {v:Value} (hv:v=.bool false) (r:∀l',Fu hB I S pre X0 h l' (.bool false) h'):Fu hB I S pre' X0 h l v h':=by
 obtain ⟨ok,X',e,hs,hk,hl,_,h2⟩:=r [];cases e;exact ⟨false,X',hv,hs,hk,hl,(fun x=>by cases x),h2⟩
end
def CP {α:Type} (all pre l:List α):Prop:=∃post,all=pre++l++post
section
variable {α:Type} {all pre a b:List α}
theorem CP.left (w:CP all pre (a++b)):CP all pre a:=by
 obtain ⟨post,h⟩:=w;exact ⟨b++post,by rw [h];simp⟩
theorem CP.right (w:CP all pre (a++b)):CP all (pre++a) b:=by
 obtain ⟨post,h⟩:=w;exact ⟨post,by rw [h];simp⟩
theorem CP.one {p:α} (w:CP all pre [p]):∃post,all=pre++p ::post:=by
 obtain ⟨post,h⟩:=w;exact ⟨post,by rw [h];simp⟩
theorem P2 (lo:Int) (i j:Nat):Bl lo (i+j)=Bl lo i++Bl (lo+i) j:=by
 unfold Bl;rw [List.range_add,List.map_append,List.map_map];congr 1;apply List.map_congr_left;intro x _;simp only [Function.comp];omega
theorem CP.round {lo hi:Int} {k:Nat} {F:Int→List α} (w:CP all pre ((E8 lo hi).flatMap F)) (hk:lo+(k:Int)≤hi):CP all (pre++(Bl lo k).flatMap F) (F (lo+k)):=by
 have e:E8 lo hi=Bl lo k++([lo+(k:Int)]++Bl (lo+((k+1:Nat):Int)) ((hi-lo+1).toNat-(k+1))):=by
  unfold E8;rw [←List.append_assoc,←Jz,←P2];congr 1;omega
 rw [e,List.flatMap_append,List.flatMap_append] at w;have w2:=w.right.left;simpa using w2
theorem CP.roundEnd {lo hi:Int} {k:Nat} {F:Int→List α} (h:¬lo+(k:Int)≤hi) (hk:(k:Int)≤hi-lo+1∨k=0):(E8 lo hi).flatMap F=(Bl lo k).flatMap F:=(P1 h hk).symm
end
section
variable {ag:AS→Bool} {gs:List Good} {ms:List AB} {mo:Int} {f i k:Nat} {p pc:AS} {all pre:List AS} {lo hi x:Int}
theorem OZ {b1 b2:Bool} (hpc:∀n b,pc.setMove i n b=p.setMove i n b):∀n b,(((pc.setMany i x).setLie i b1).setLie i b2).setMove i n b=p.setMove i n b:=fun n b=>by
 rw [←hpc,show ((pc.setMany i x).setLie i b1)=pc.setMove i x b1 from rfl,FZ,KF]
theorem S6 (hpc:∀n,pc.setFirst i n=p.setFirst i n):∀n,(pc.setFirst i x).setFirst i n=p.setFirst i n:=fun n=>by rw [←hpc,Iw]
def Oa (ms:List AB) (mo:Int) (i:Nat) (q:AS):Prop:=((0≤(i:Int)∧(i:Int)≤(ms.length:Int)-1)∧(ms.getD ((i:Int)).toNat AB.z).kind=0)∧((An q 6:Int)<mo)
instance (ms:List AB) (mo:Int) (i:Nat) (q:AS):Decidable (Oa ms mo i q):=inferInstanceAs (Decidable (_∧_))
theorem NN {q:AS}:(CZ ms i && decide ((An q 6:Int)<mo))=decide (Oa ms mo i q):=by
 unfold CZ Oa;rw [←Bool.decide_and];exact decide_eq_decide.2 Iff.rfl
theorem K0 {q:AS} {b:Bool}:(q.setLie i b).lies i=b:=by simp [AS.setLie]
theorem Ob (hpc:∀n b,pc.setMove i n b=p.setMove i n b) (hC:(((pc.setMany i x).setLie i false).setLie i (decide (Oa ms mo i ((pc.setMany i x).setLie i false)))).lies i=true) (hx:x=lo+(k:Int)) :
  pre++(Bl lo (k+1)).flatMap (Bb ag ms mo f i p)=((pre++(Bl lo k).flatMap (Bb ag ms mo f i p))++Aq ag ms mo f (i+1) ((pc.setMany i x).setLie i false))++
   Aq ag ms mo f (i+1) (((pc.setMany i x).setLie i false).setLie i (decide (Oa ms mo i ((pc.setMany i x).setLie i false)))):=by
 rw [K0] at hC;rw [hC,show ((pc.setMany i x).setLie i false)=pc.setMove i x false from rfl,FZ,hpc,hpc,HF,←hx];rw [show ((pc.setMany i x).setLie i false)=pc.setMove i x false from rfl,hpc] at hC;unfold Bb;rw [NN,hC];simp
theorem Oc (hpc:∀n b,pc.setMove i n b=p.setMove i n b) (hC:(((pc.setMany i x).setLie i false).setLie i (decide (Oa ms mo i ((pc.setMany i x).setLie i false)))).lies i=false) (hx:x=lo+(k:Int)) :
  pre++(Bl lo (k+1)).flatMap (Bb ag ms mo f i p)=(pre++(Bl lo k).flatMap (Bb ag ms mo f i p))++Aq ag ms mo f (i+1) ((pc.setMany i x).setLie i false):=by
 rw [K0] at hC;rw [show ((pc.setMany i x).setLie i false)=pc.setMove i x false from rfl,hpc,HF,←hx];rw [show ((pc.setMany i x).setLie i false)=pc.setMove i x false from rfl,hpc] at hC;unfold Bb;rw [NN,hC];simp
theorem P3 (hpc:∀n,pc.setFirst i n=p.setFirst i n) (hx:x=lo+(k:Int)) :
  pre++(Bl lo (k+1)).flatMap (fun n=>BJ ag gs ms mo f (i+1) (p.setFirst i n))=(pre++(Bl lo k).flatMap (fun n=>BJ ag gs ms mo f (i+1) (p.setFirst i n)))++BJ ag gs ms mo f (i+1) (pc.setFirst i x):=by
 rw [hpc,HF,←hx];simp
theorem L3 (hpc:∀n b,pc.setMove i n b=p.setMove i n b) (hw:CP all pre (Aq ag ms mo (f+1) i p)) (hx:x=(ms.getD i AB.z).low+(k:Int)) (hk:x≤(ms.getD i AB.z).high) :
  CP all (pre++(Bl (ms.getD i AB.z).low k).flatMap (Bb ag ms mo f i p)) (Aq ag ms mo f (i+1) ((pc.setMany i x).setLie i false)):=by
 rw [CO] at hw;have w:=hw.round (k:=k) (by omega);rw [←hx] at w;unfold Bb at w;rw [←hpc] at w;exact w.left
theorem L5 (hpc:∀n b,pc.setMove i n b=p.setMove i n b) (hw:CP all pre (Aq ag ms mo (f+1) i p)) (hC:(((pc.setMany i x).setLie i false).setLie i (decide (Oa ms mo i ((pc.setMany i x).setLie i false)))).lies i=true) (hx:x=(ms.getD i AB.z).low+(k:Int)) (hk:x≤(ms.getD i AB.z).high) :
  CP all ((pre++(Bl (ms.getD i AB.z).low k).flatMap (Bb ag ms mo f i p))++Aq ag ms mo f (i+1) ((pc.setMany i x).setLie i false)) (Aq ag ms mo f (i+1) (((pc.setMany i x).setLie i false).setLie i (decide (Oa ms mo i ((pc.setMany i x).setLie i false))))):=by
 rw [K0] at hC;rw [hC,show ((pc.setMany i x).setLie i false)=pc.setMove i x false from rfl,FZ,hpc,hpc];rw [show ((pc.setMany i x).setLie i false)=pc.setMove i x false from rfl,hpc] at hC;rw [CO] at hw;have w:=hw.round (k:=k) (by omega);rw [←hx] at w;have w2:CP all (pre++(Bl (ms.getD i AB.z).low k).flatMap (Bb ag ms mo f i p)) (Aq ag ms mo f (i+1) (p.setMove i x false)++Aq ag ms mo f (i+1) (p.setMove i x true)):=by
  have e:Bb ag ms mo f i p x=Aq ag ms mo f (i+1) (p.setMove i x false)++Aq ag ms mo f (i+1) (p.setMove i x true):=by
   unfold Bb;rw [NN,hC,if_pos rfl]
  rw [←e];exact w
 exact w2.right
theorem NO (hpc:∀n,pc.setFirst i n=p.setFirst i n) (hw:CP all pre (BJ ag gs ms mo (f+1) i p)) (hx:x=(gs.getD i Good.z).low+(k:Int)) (hk:x≤(gs.getD i Good.z).high) :
  CP all (pre++(Bl (gs.getD i Good.z).low k).flatMap (fun n=>BJ ag gs ms mo f (i+1) (p.setFirst i n))) (BJ ag gs ms mo f (i+1) (pc.setFirst i x)):=by
 rw [Cm] at hw;have w:=hw.round (k:=k) (by omega);rw [←hx] at w;rw [hpc];exact w
end
def F3 (l:List Int) (k:Nat):Int:=if k=0 then-1 else l.getD (k-1) 0
def Ix (ms:List AB) (l:List Int) (k:Nat):Int:=if¬CZ ms (l.getD k 0)=true then 6 else if l.getD k 0≤F3 l k then 7 else 0
def Dv (p:AS) (l:List Int) (k:Nat):AS:=(l.take k).foldl (fun p i=>p.setLie i.toNat true) p
theorem Od {p:AS} {l:List Int} {k:Nat} (hk:k<l.length):Dv p l (k+1)=(Dv p l k).setLie (l.getD k 0).toNat true:=by
 unfold Dv;rw [EK 0 hk,List.foldl_append];rfl
def A2 (d m:Int) (gs:List Good) (ms:List AB) (cs:List AK) (f y l:List Int):Int:=
 if¬AM d m gs ms cs=0 then AM d m gs ms cs
 else if¬Aw f gs.length=0 then Aw f gs.length
 else if¬Aw y ms.length=0 then Aw y ms.length
 else DF (Ix ms l) 0 l.length
def IP (f y l:List Int):AS:=Dv ((AS.zero.setFirsts f).setManys y) l l.length
theorem EM {f:Nat→Int}:∀{n i:Nat},DF f i n=0→∀j,i≤j→j<i+n→f j=0
 | 0,i,_,j,h1,h2=>by omega
 | n+1,i,h,j,h1,h2=>by
  unfold DF at h;split at h
  ·rename_i e
   rcases Nat.eq_or_lt_of_le h1 with rfl | h3
   ·exact e
   ·exact EM h j h3 (by omega)
  ·rename_i e;exact absurd h e
structure BG (d m:Int) (gs:List Good) (ms:List AB) (cs:List AK):Prop where
 days:1≤d∧d≤99
 most:0≤m∧m≤2
 glen:1≤gs.length∧gs.length≤3
 good:∀k,k<gs.length→EG gs k=0
 mlen:ms.length≤6
 move:∀k,k<ms.length→Cl d gs ms k=0
 clen:cs.length≤4
 count:∀k,k<cs.length→D5 d gs cs k=0
theorem Fb {d m:Int} {gs:List Good} {ms:List AB} {cs:List AK} (h:AM d m gs ms cs=0):BG d m gs ms cs:=by
 have z:=fun j hj=>EM (f:=DG d m gs ms cs) h j (Nat.zero_le _) (by omega:j<0+4);have z0:DU d m=0:=z 0 (by decide);have z1:BR gs=0:=z 1 (by decide);have z2:BI d gs ms=0:=z 2 (by decide);have z3:By d gs cs=0:=z 3 (by decide);unfold DU at z0;unfold BR at z1;unfold BI at z2;unfold By at z3;split at z0 <;> first | (cases z0;done) | skip
 split at z1 <;> first | (cases z1;done) | skip
 split at z2 <;> first | (cases z2;done) | skip
 split at z3 <;> first | (cases z3;done) | skip
 exact ⟨by omega,by omega,by omega,fun k hk=>EM z1 k (Nat.zero_le _) (by omega),by omega,fun k hk=>EM z2 k (Nat.zero_le _) (by omega),by omega,fun k hk=>EM z3 k (Nat.zero_le _) (by omega)⟩
section
variable {d m:Int} {gs:List Good} {ms:List AB} {cs:List AK}
theorem BG.move' (b:BG d m gs ms cs) {k:Nat} (hk:k<ms.length):(0≤(ms.getD k AB.z).kind∧(ms.getD k AB.z).kind≤4)∧(0≤(ms.getD k AB.z).good∧(ms.getD k AB.z).good≤(gs.length:Int)-1)∧
  (1≤(ms.getD k AB.z).day∧(ms.getD k AB.z).day≤d)∧CT ms k≤(ms.getD k AB.z).day∧CM (ms.getD k AB.z).low (ms.getD k AB.z).high:=by
 have z:=b.move k hk;unfold Cl at z;split at z <;> first | (cases z;done) | skip
 split at z <;> first | (cases z;done) | skip
 split at z <;> first | (cases z;done) | skip
 split at z <;> first | (cases z;done) | skip
 split at z <;> first | (cases z;done) | skip
 rename_i a1 a2 a3 a4 a5
 exact ⟨Decidable.not_not.1 a1,Decidable.not_not.1 a2,Decidable.not_not.1 a3,by omega,Decidable.not_not.1 a5⟩
theorem Dj {α:Type} {l:List α} {k:Nat} {z:α} (h:l.length≤k):l.getD k z=z:=by
 simp [List.getD_eq_getElem?_getD,List.getElem?_eq_none h]
theorem BG.kind (b:BG d m gs ms cs):∀k,0≤(ms.getD k AB.z).kind∧(ms.getD k AB.z).kind≤4:=fun k=>by
 by_cases h:k<ms.length
 ·exact (b.move' h).1
 ·rw [Dj (by omega)];decide
theorem BG.few (b:BG d m gs ms cs):∀k,0≤(ms.getD k AB.z).low∧(ms.getD k AB.z).low≤(ms.getD k AB.z).high∧(ms.getD k AB.z).high≤99∧(ms.getD k AB.z).high-(ms.getD k AB.z).low<3:=fun k=>by
 by_cases h:k<ms.length
 ·have:=(b.move' h).2.2.2.2;unfold CM at this;omega
 ·rw [Dj (by omega)];decide
theorem BG.good' (b:BG d m gs ms cs) {k:Nat} (hk:k<gs.length):(0≤(gs.getD k Good.z).cost∧(gs.getD k Good.z).cost≤999)∧(1≤(gs.getD k Good.z).pack∧(gs.getD k Good.z).pack≤20)∧CM (gs.getD k Good.z).low (gs.getD k Good.z).high:=by
 have z:=b.good k hk;unfold EG at z;split at z <;> first | (cases z;done) | skip
 split at z <;> first | (cases z;done) | skip
 split at z <;> first | (cases z;done) | skip
 rename_i a1 a2 a3
 exact ⟨by omega,by omega,Decidable.byContradiction fun q=>a3 (.inr q)⟩
theorem BG.gfew (b:BG d m gs ms cs):∀k,0≤(gs.getD k Good.z).low∧(gs.getD k Good.z).low≤(gs.getD k Good.z).high∧(gs.getD k Good.z).high≤99∧(gs.getD k Good.z).high-(gs.getD k Good.z).low<3:=fun k=>by
 by_cases h:k<gs.length
 ·have:=(b.good' h).2.2;unfold CM at this;omega
 ·rw [Dj (by omega)];decide
theorem BG.cgood (b:BG d m gs ms cs):∀x ∈ cs,0≤x.good∧x.good<3:=fun x hx=>by
 obtain ⟨k,hk,rfl⟩:=List.getElem_of_mem hx;have z:=b.count k hk;unfold D5 at z;rw [Cr AK.z hk] at z
 have:=b.glen
 split at z <;> first | (cases z;done) | skip
 omega
theorem Ez {l:List Int} {n:Int} (h:Aw l n=0):(l.length:Int)=n∧∀k,0≤l.getD k 0∧l.getD k 0≤99:=by
 unfold Aw at h;split at h <;> first | (cases h;done) | skip
 split at h <;> first | (cases h;done) | skip
 rename_i a1 a2
 refine ⟨Decidable.not_not.1 a1,fun k=>?_⟩;by_cases hk:k<l.length
 ·refine Decidable.byContradiction fun q=>a2 ?_;rw [List.any_eq_true];exact ⟨l.getD k 0,Ck hk,decide_eq_true q⟩
 ·rw [Dj (by omega)];decide
variable {f y l:List Int}
def BH (d m:Int) (gs:List Good) (ms:List AB) (cs:List AK) (f y l:List Int):AS:=if A2 d m gs ms cs f y l=0 then IP f y l else AS.zero
theorem NP (h:¬AM d m gs ms cs=0):A2 d m gs ms cs f y l=AM d m gs ms cs:=by unfold A2;rw [if_pos h]
theorem NQ (h:¬¬AM d m gs ms cs=0) (h2:¬Aw f gs.length=0):A2 d m gs ms cs f y l=Aw f gs.length:=by unfold A2;rw [if_neg h,if_pos h2]
theorem NR (h:¬¬AM d m gs ms cs=0) (h2:¬¬Aw f gs.length=0) (h3:¬Aw y ms.length=0):A2 d m gs ms cs f y l=Aw y ms.length:=by unfold A2;rw [if_neg h,if_neg h2,if_pos h3]
theorem Gp (h:¬¬AM d m gs ms cs=0) (h2:¬¬Aw f gs.length=0) (h3:¬¬Aw y ms.length=0) {c:Int} (h4:DF (Ix ms l) 0 l.length=c):A2 d m gs ms cs f y l=c:=by unfold A2;rw [if_neg h,if_neg h2,if_neg h3,h4]
theorem Fc {c:Int} (e:A2 d m gs ms cs f y l=c) (hc:¬c=0):(.tuple #[.agg (Ai AS.zero),.int .i64 c]:Value)=.tuple #[.agg (Ai (BH d m gs ms cs f y l)),.int .i64 (A2 d m gs ms cs f y l)]:=by
 unfold BH;rw [e,if_neg hc]
theorem Oe (e:A2 d m gs ms cs f y l=0) {k:Nat} (hk:¬(k:Int)<l.length) (hk':k≤l.length):(.tuple #[.agg (Ai (Dv ((AS.zero.setFirsts f).setManys y) l k)),.int .i64 0]:Value)=.tuple #[.agg (Ai (BH d m gs ms cs f y l)),.int .i64 (A2 d m gs ms cs f y l)]:=by
 unfold BH IP;rw [e,if_pos rfl,show k=l.length by omega]
theorem UI {k:Nat} (h:¬((0≤l.getD k 0∧l.getD k 0≤(ms.length:Int)-1)∧(ms.getD (l.getD k 0).toNat AB.z).kind=0)):Ix ms l k=6:=by
 unfold Ix CZ;rw [if_pos (by simpa using h)]
theorem UJ {k:Nat} (h:¬¬((0≤l.getD k 0∧l.getD k 0≤(ms.length:Int)-1)∧(ms.getD (l.getD k 0).toNat AB.z).kind=0)) (h2:l.getD k 0≤F3 l k):Ix ms l k=7:=by
 unfold Ix CZ;rw [if_neg (by simpa using h),if_pos h2]
theorem UK {k:Nat} (h:¬¬((0≤l.getD k 0∧l.getD k 0≤(ms.length:Int)-1)∧(ms.getD (l.getD k 0).toNat AB.z).kind=0)) (h2:¬l.getD k 0≤F3 l k):Ix ms l k=0:=by
 unfold Ix CZ;rw [if_neg (by simpa using h),if_neg h2]
end
theorem Gq (p:AS):(Value.agg (Ai p)).cells.size=15:=rfl
theorem Gr (p:AS):Value.fine (.agg (Ai p))=true:=rfl
theorem Hi (p:AS):0+15≤(Ai p).size:=Nat.le_refl 15
theorem Hj (p q:AS):Bj (Ai p) 0 (Value.agg (Ai q)).cells.toList=Ai q:=by
 show Bj (Ai p) 0 (Ai q).toList=Ai q;apply Array.toList_inj.1;rw [DT _ _ _ (Nat.le_refl 15)];show []++(Ai q).toList++[]=_;simp
theorem EW {β:Type} (f:Nat→β) (k:Nat):(List.range (k+1)).map f=(List.range k).map f++[f k]:=by
 rw [List.range_succ,List.map_append];rfl
section
variable {d m:Int} {gs:List Good} {ms:List AB} {cs:List AK} {f y l:List Int}
theorem Be.lies {p:AS} (h:Be p) (l:List Int) (k:Nat):Be (Dv p l k):=by
 unfold Dv;generalize l.take k=t
 induction t generalizing p with
 | nil=>exact h
 | cons x t ih=>exact ih (p:=p.setLie x.toNat true) h
theorem Rm (h:A2 d m gs ms cs f y l=0):BG d m gs ms cs∧Be (BH d m gs ms cs f y l):=by
 have h0:=h;unfold A2 at h;split at h <;> first | (rename_i q;exact absurd h q) | skip
 split at h <;> first | (rename_i q;exact absurd h q) | skip
 split at h <;> first | (rename_i q;exact absurd h q) | skip
 rename_i a1 a2 a3
 refine ⟨Fb (Decidable.not_not.1 a1),?_⟩;unfold BH;rw [if_pos h0];unfold IP;refine Be.lies ?_ _ _;have b2:=(Ez (Decidable.not_not.1 a2)).2;have b3:=(Ez (Decidable.not_not.1 a3)).2;refine ⟨fun i=>?_,fun i=>?_⟩
 ·show 0≤(if i<f.length then f.getD i 0 else 0)∧(if i<f.length then f.getD i 0 else 0)≤99;split
  ·exact b2 i
  ·decide
 ·show 0≤(if i<y.length then y.getD i 0 else 0)∧(if i<y.length then y.getD i 0 else 0)≤99;split
  ·exact b3 i
  ·decide
def Fd (d m:Int) (gs:List Good) (ms:List AB) (cs:List AK) (f y l:List Int):List Int:=if A2 d m gs ms cs f y l=0 then (List.range gs.length).map (fun (i:Nat)=>(AH ms (BH d m gs ms cs f y l) (i:Int) d).1) else []
def Gt (d m:Int) (gs:List Good) (ms:List AB) (cs:List AK) (f y l:List Int):List Int:=if A2 d m gs ms cs f y l=0 then (List.range gs.length).map (fun (i:Nat)=>(AH ms (BH d m gs ms cs f y l) (i:Int) d).2) else []
theorem NS (h:¬A2 d m gs ms cs f y l=0):Fd d m gs ms cs f y l=[]:=if_neg h
theorem Of (h:¬A2 d m gs ms cs f y l=0):Gt d m gs ms cs f y l=[]:=if_neg h
theorem L6 (h:¬¬A2 d m gs ms cs f y l=0) {k:Nat} (hk:k≤gs.length) (hk':¬(k:Int)<gs.length):Fd d m gs ms cs f y l=(List.range k).map (fun (i:Nat)=>(AH ms (BH d m gs ms cs f y l) (i:Int) d).1):=by
 unfold Fd;rw [if_pos (Decidable.not_not.1 h),show gs.length=k by omega]
theorem NT (h:¬¬A2 d m gs ms cs f y l=0) {k:Nat} (hk:k≤gs.length) (hk':¬(k:Int)<gs.length):Gt d m gs ms cs f y l=(List.range k).map (fun (i:Nat)=>(AH ms (BH d m gs ms cs f y l) (i:Int) d).2):=by
 unfold Gt;rw [if_pos (Decidable.not_not.1 h),show gs.length=k by omega]
end
theorem K3 {α β:Type} {f:α→List β} {c:Nat}:∀{l:List α},(∀x ∈ l,(f x).length≤c)→(l.flatMap f).length≤l.length*c
 | [],_=>by simp
 | x ::l,h=>by
  rw [List.flatMap_cons,List.length_append,List.length_cons,Nat.succ_mul];have h1:=h x (by simp);have h2:=K3 (l:=l) fun y hy=>h y (by simp [hy]);omega
theorem Mc {lo hi:Int} (h:hi-lo<3):(E8 lo hi).length≤3:=by
 unfold E8 Bl;rw [List.length_map,List.length_range];omega
theorem GG {ag:AS→Bool} {ms:List AB} {mo:Int} (hf:∀k,(ms.getD k AB.z).high-(ms.getD k AB.z).low<3):∀f i p,(Aq ag ms mo f i p).length≤6 ^ f
 | 0,_,p=>by unfold Aq;split <;> simp
 | f+1,i,p=>by
  rw [CO];have h1:=K3 (f:=Bb ag ms mo f i p) (c:=2*6 ^ f) (l:=E8 (ms.getD i AB.z).low (ms.getD i AB.z).high) fun n _=>by
   unfold Bb;rw [List.length_append];have a:=GG (ag:=ag) (mo:=mo) hf f (i+1) (p.setMove i n false);have b:=GG (ag:=ag) (mo:=mo) hf f (i+1) (p.setMove i n true);split
   ·omega
   ·simp only [List.length_nil];omega
  have h2:=Nat.mul_le_mul_right (2*6 ^ f) (Mc (hf i));rw [Nat.pow_succ];omega
theorem H1 {ag:AS→Bool} {gs:List Good} {ms:List AB} {mo:Int} (hg:∀k,(gs.getD k Good.z).high-(gs.getD k Good.z).low<3) (hf:∀k,(ms.getD k AB.z).high-(ms.getD k AB.z).low<3) :
  ∀f i p,(BJ ag gs ms mo f i p).length≤3 ^ f*6 ^ ms.length
 | 0,_,p=>by unfold BJ;have:=GG (ag:=ag) (mo:=mo) hf ms.length 0 p;omega
 | f+1,i,p=>by
  rw [Cm];have h1:=K3 (f:=fun n=>BJ ag gs ms mo f (i+1) (p.setFirst i n)) (c:=3 ^ f*6 ^ ms.length) (l:=E8 (gs.getD i Good.z).low (gs.getD i Good.z).high) fun n _=>H1 hg hf f (i+1) _;have h2:=Nat.mul_le_mul_right (3 ^ f*6 ^ ms.length) (Mc (hg i));rw [Nat.pow_succ,Nat.mul_comm (3 ^ f) 3,Nat.mul_assoc];omega
theorem Cy {d m:Int} {gs:List Good} {ms:List AB} {cs:List AK} (b:BG d m gs ms cs) (mo:Int):(AP d gs ms cs mo).length≤2000000:=by
 unfold AP;have h:=H1 (ag:=A8 d gs.length ms cs) (mo:=mo) (fun k=>(b.gfew k).2.2.2) (fun k=>(b.few k).2.2.2) gs.length 0 AS.zero;have h1:3 ^ gs.length≤3 ^ 3:=Nat.pow_le_pow_right (by decide) b.glen.2;have h2:6 ^ ms.length≤6 ^ 6:=Nat.pow_le_pow_right (by decide) b.mlen;have h3:=Nat.mul_le_mul h1 h2
 have:3 ^ 3*6 ^ 6≤2000000:=by decide
 omega
theorem UL {α:Type} {all pre post:List α} {p:α} (h:all=pre++p ::post) {n:Nat} (hn:all.length≤n):pre.length+1≤n:=by
 rw [h,List.length_append,List.length_cons] at hn;omega
theorem AN.one {α:Type} {h:GH} {v:Value} {n:Nat} {enc:α→Array Value} {xs:List α} (x:AN h v n enc xs):v.cells=#[v]∧v.oneCell'=true:=by
 obtain ⟨a,cap,rfl,_⟩:=x;exact ⟨rfl,rfl⟩
theorem D6 {v:Value} (h:v.cells=#[v]∧v.oneCell'=true):Value.fine v=true:=by unfold Value.fine;rw [h.1];simp [h.2]
theorem D7 {v:Value} (h:v.cells=#[v]∧v.oneCell'=true):v.cells.size=1:=by rw [h.1];rfl
theorem E5 {v:Value} (h:v.cells=#[v]∧v.oneCell'=true) {c c':Array Value} {o:Nat} (e:Bj c o [v]=c'):Bj c o v.cells.toList=c':=by rw [h.1];exact e
end Go.Ns
namespace Go.Ns
open Go.Conc
section
variable {P:Program} {E:FN P} {σ:Nat→Value} {ds:List Deferred} {α:Type}
def S7 (hB:GH) (J:List α→(Nat→Prop)→GH→Prop) (Stop:Code→GH→Prop) (pre:List α) (Y:Nat→Prop) (h:GH) (l:Nat) (lo:Loop):Post:=fun e _ _ h3=>
 h3 l=some (true,.loop { lo with state:=.busy })∧∃Y',(∀b,Y' b→Y b∨h b=none)∧BZ (fun b=>Y b∨b=l) h h3∧hB.Le h3∧match e with
  | .normal=>J pre Y' h3
  | .exit id=>Stop (.exit id) h3
  | .ret=>Stop .ret h3
  | _=>False
def RJ (J:List α→(Nat→Prop)→GH→Prop) (l d:Nat) (lo:Loop) (pre:List α) (X:Nat→Prop) (h:GH):Prop:=
 ∃Y,J pre Y h∧(∀b,X b↔Y b∨b=l∨b=d)∧¬Y l∧¬Y d∧h l=some (true,.loop lo)∧h d=some (true,.deferred (some []))
def S8 (Stop:Code→GH→Prop) (l d:Nat) (lo:Loop) (h:GH):Prop:=
 ∃c,Stop c h∧h l=some (true,.loop { lo with state:=.done,pending:=some c })∧h d=some (true,.deferred (some []))
def U0 (hB:GH) (I:List α→(Nat→Prop)→GH→Prop) (Sp:GH→Prop) (all:List α) (X:Nat→Prop) (h h':GH):Prop:=
 ∃X',(∀b,X' b→X b∨h b=none)∧BZ X h h'∧hB.Le h'∧(I all X' h'∨Sp h')
theorem Fu.final {hB:GH} {I:List α→(Nat→Prop)→GH→Prop} {Sp:GH→Prop} {all:List α} {X:Nat→Prop} {h h':GH} {v:Value} (r:Fu hB I Sp [] X h all v h'):U0 hB I Sp all X h h':=by
 obtain ⟨ok,X',hv,hs,hk,hl,h1,h2⟩:=r;cases ok with
 | true=>exact ⟨X',hs,hk,hl,.inl (h1 rfl)⟩
 | false=>exact ⟨X',hs,hk,hl,.inr (h2 rfl)⟩
theorem K5 {enc:α→Array Value} {all:List α} {hB hc:GH} {J:List α→(Nat→Prop)→GH→Prop} {Stop:Code→GH→Prop} {Y0:Nat→Prop} {par:Tmp} {f:Operand} {assign body:Code} {Q:Post}
  (hrd:E.rd=none) (hpar:Nat.blt par E.N=true) (hJ:Gn hB J) (hB0:hB.Le hc) (j0:J [] Y0 hc)
  (hS:∀c (h h':GH) l lo,Stop c h→h l=some (true,.loop lo)→(∀b,b≠l→h' b=h b)→Stop c h')
  (src:∀(yv:Value) (I:List α→(Nat→Prop)→GH→Prop) (Sp:GH→Prop) (X:Nat→Prop) (h:GH),IO E.wk hB yv enc I Sp all→hB.Le h→I [] X h→CJ E.wk (AV σ f) #[yv] h fun _ h'=>U0 hB I Sp all X h h')
  (round:∀(l d:Nat) (lo:Loop) (pre:List α) (p:α) (post:List α) (Y:Nat→Prop) (h:GH),all=pre++p ::post→J pre Y h→hB.Le h→hB l=none→¬Y l→h l=some (true,.loop lo)→
   Tr ⟨E.wk,E.fn,some l,E.N⟩ assign (upd σ par (.agg (enc p))) [] h fun e σ' ds' h1=>e=.normal∧h1 l=some (true,.loop lo)∧∀h2,h2 l=some (true,.loop { lo with state:=.busy })→(∀b,b≠l→h2 b=h1 b)→
    Tr ⟨E.wk,E.fn,some l,E.N⟩ body σ' ds' h2 (S7 hB J Stop (pre++[p]) Y h l lo))
  (fin:∀(d l:Nat) (h':GH),hB.Le h'→hB d=none→hB l=none→hc d=none→h' d=some (true,.deferred (some []))→
   (∀Y,J all Y h'→(∀b,Y b→b≠d)→Q .normal σ ({ target:=.collected d,args:=#[] } ::ds) h')∧
   (∀c,Stop c h'→match c with
    | .exit id=>Q (.exit id) σ ({ target:=.collected d,args:=#[] } ::ds) h'
    | .ret=>Q .ret σ ({ target:=.collected d,args:=#[] } ::ds) h'
    | _=>False)):Tr E (.rangeFunc f #[par] assign body) σ ds hc Q:=by
 refine ND hrd fun t d l hs hd hl hne=>?_;have hl':hB l=none:=hB0.nothing hl;have hd':hB d=none:=hB0.nothing hd;let lo:Loop:={ state:=.ready,pending:=none,fn:=E.fn,tmps:=t,params:=#[par],assign,body,defers:=d };have nYl:¬Y0 l:=hJ.off j0 hl;have nYd:¬Y0 d:=hJ.off j0 hd;have hL1:((hc.set d true (.deferred (some []))).set l true (.loop lo)) l=some (true,.loop lo):=GH.set_same _ _ _ _;have hL2:((hc.set d true (.deferred (some []))).set l true (.loop lo)) d=some (true,.deferred (some [])):=by rw [GH.set_ne _ _ _ (Ne.symm hne)];exact GH.set_same _ _ _ _
 have hL3:∀b,b≠l→b≠d→((hc.set d true (.deferred (some []))).set l true (.loop lo)) b=hc b:=fun b h1 h2=>by rw [GH.set_ne _ _ _ h1,GH.set_ne _ _ _ h2]
 have hLB:hB.Le ((hc.set d true (.deferred (some []))).set l true (.loop lo)):=(hB0.trans (GH.Le.new hd _ _)).trans (GH.Le.new (by rw [GH.set_ne _ _ _ hne];exact hl) _ _);have hI0:RJ J l d lo [] (fun b=>Y0 b∨b=l∨b=d) ((hc.set d true (.deferred (some []))).set l true (.loop lo)):=by
  refine ⟨Y0,hJ.stable _ _ hc _ j0 (fun b hb=>hL3 b (fun e=>nYl (e▸hb)) (fun e=>nYd (e▸hb))) hLB,fun b=>Iff.rfl,nYl,nYd,hL1,hL2⟩
 have prom:Gn hB (RJ J l d lo):=by
  refine ⟨?_,?_⟩
  ·rintro pre X h b ⟨Y,j,hX,_,_,h1,h2⟩ hb;rcases (hX b).1 hb with h3 | rfl | rfl
   ·exact hJ.dom _ _ _ _ j h3
   ·exact ⟨_,_,h1,rfl⟩
   ·exact ⟨_,_,h2,rfl⟩
  ·rintro pre X h h' ⟨Y,j,hX,n1,n2,h1,h2⟩ same lB;refine ⟨Y,hJ.stable _ _ h h' j (fun b hb=>same b ((hX b).2 (.inl hb))) lB,hX,n1,n2,?_,?_⟩
   ·rw [same l ((hX l).2 (.inr (.inl rfl)))];exact h1
   ·rw [same d ((hX d).2 (.inr (.inr rfl)))];exact h2
 have yk:IO E.wk hB (.func (.yield l) #[] #[]) enc (RJ J l d lo) (S8 Stop l d lo) all:=by
  refine ⟨prom,rfl,?_⟩;rintro pre p post X h hall ⟨Y,j,hX,n1,n2,h1,h2⟩ lB;refine Pu h1 rfl ?_;have ef:(lo.params.zip #[Value.agg (enc p)]).foldl (fun tmps x=>tmps.setIfInBounds x.1 x.2) lo.tmps=t.setIfInBounds par (.agg (enc p)):=by simp [lo]
  rw [ef];show Bs E.wk l E.fn (t.setIfInBounds par (.agg (enc p))) assign body h _;have hs':=hs.put hpar (.agg (enc p));refine OP (N:=E.N) hs'.1 ?_;have e0:(fun i=>(t.setIfInBounds par (.agg (enc p))).getD i undef)=upd σ par (.agg (enc p)):=funext hs'.2;rw [e0];refine KK ?_ (round l d lo pre p post Y h hall j lB hl' n1 h1);rintro e σ' ds' ha ⟨rfl,ha1,hb⟩;refine ⟨rfl,lo,ha1,rfl,?_⟩;refine KK ?_ (hb _ (GH.set_same _ _ _ _) fun b hb=>GH.set_ne _ _ _ hb);rintro e σ2 ds2 h3 ⟨g1,Y',g2,g3,g4,g5⟩;have hd3:h3 d=some (true,.deferred (some [])):=g3.box h2 (fun q=>q.elim n2 (fun e=>hne e.symm)) rfl;have nl:¬Y' l:=fun q=>(g2 l q).elim n1 fun e=>by rw [h1] at e;cases e
  have nd:¬Y' d:=fun q=>(g2 d q).elim n2 fun e=>by rw [h2] at e;cases e
  have key:∀(lo2:Loop) (ok:Bool),(if ok then J (pre++[p]) Y' (h3.set l true (.loop lo2))∧lo2=lo else S8 Stop l d lo (h3.set l true (.loop lo2)))→Fu hB (RJ J l d lo) (S8 Stop l d lo) pre X h [p] (.bool ok) (h3.set l true (.loop lo2)):=by
   intro lo2 ok hok;refine ⟨ok,fun b=>Y' b∨b=l∨b=d,rfl,?_,?_,?_,?_,?_⟩
   ·rintro b (hb | rfl | rfl)
    ·exact (g2 b hb).imp (fun q=>(hX b).2 (.inl q)) id
    ·exact .inl ((hX _).2 (.inr (.inl rfl)))
    ·exact .inl ((hX _).2 (.inr (.inr rfl)))
   ·intro b q o hb hn;have nb:b≠l:=fun e=>hn ((hX b).2 (.inr (.inl e)));rw [GH.set_ne _ _ _ nb];exact g3 b q o hb fun q=>q.elim (fun z=>hn ((hX b).2 (.inl z))) nb
   ·exact g4.upd hl' fun b hb=>GH.set_ne _ _ _ hb
   ·rintro rfl;simp only [if_true] at hok;obtain ⟨hj,rfl⟩:=hok;exact ⟨Y',hj,fun b=>Iff.rfl,nl,nd,GH.set_same _ _ _ _,by rw [GH.set_ne _ _ _ (Ne.symm hne)];exact hd3⟩
   ·rintro rfl;simpa using hok
  have js:∀(lo2:Loop),J (pre++[p]) Y' h3→J (pre++[p]) Y' (h3.set l true (.loop lo2)):=fun lo2 hj=>hJ.store hj nl (fun b hb=>GH.set_ne _ _ _ hb) (g4.upd hl' fun b hb=>GH.set_ne _ _ _ hb);have ss:∀c (lo2:Loop),Stop c h3→Stop c (h3.set l true (.loop lo2)):=fun c lo2 hc=>hS c h3 _ l _ hc g1 fun b hb=>GH.set_ne _ _ _ hb;refine ⟨_,g1,?_⟩;cases e with
  | normal=>exact key _ true (by simp only [if_true];exact ⟨js _ g5,rfl⟩)
  | exit id=>exact key _ false (by simp only [Bool.false_eq_true,if_false];exact ⟨_,ss _ _ g5,GH.set_same _ _ _ _,by rw [GH.set_ne _ _ _ (Ne.symm hne)];exact hd3⟩)
  | ret=>exact key _ false (by simp only [Bool.false_eq_true,if_false];exact ⟨_,ss _ _ g5,GH.set_same _ _ _ _,by rw [GH.set_ne _ _ _ (Ne.symm hne)];exact hd3⟩)
  | goto _=>exact g5.elim
  | panic _=>exact g5.elim
  | outgrown=>exact g5.elim
 refine (src _ _ _ _ _ yk hLB hI0).mono ?_;rintro v h' ⟨X',hs',hk,hl2,hor⟩;rcases hor with ⟨Y,j,hX,n1,n2,h1,h2⟩ | ⟨c,hst,h1,h2⟩
 ·refine ⟨lo,h1,rfl,?_⟩;show Q .normal σ _ _;have hB':=hl2.upd hl' (fun b hb=>GH.set_ne h' true (.loop { lo with state:=.exhausted }) hb);refine (fin d l _ hB' hd' hl' hd (by rw [GH.set_ne _ _ _ (Ne.symm hne)];exact h2)).1 Y (hJ.store j n1 (fun b hb=>GH.set_ne _ _ _ hb) hB') fun b hb e=>n2 (e▸hb)
 ·refine ⟨_,h1,rfl,?_⟩;have hB':=hl2.upd hl' (fun b hb=>GH.set_ne h' true (.loop { { lo with state:=.done,pending:=some c } with state:=.exhausted }) hb)
  have:=(fin d l _ hB' hd' hl' hd (by rw [GH.set_ne _ _ _ (Ne.symm hne)];exact h2)).2 c (hS c h' _ l _ hst h1 fun b hb=>GH.set_ne _ _ _ hb)
  cases c with
  | exit id=>exact this
  | ret=>exact this
  | _=>exact this.elim
structure Lu (hB:GH) (X:Nat→Prop) (h hc:GH):Prop where
 keep:BZ X h hc
 base:hB.Le hc
 dom:∀b,X b→∃o,hc b=some o
section
variable {hB h hc h':GH} {X:Nat→Prop}
theorem GH.Le.someOf {h h':GH} (l:h.Le h') {b:Nat} (x:∃o,h b=some o):∃o,h' b=some o:=by
 obtain ⟨o,hb⟩:=x;obtain ⟨o',h1,_⟩:=l b o.1 o.2 hb;exact ⟨_,h1⟩
theorem Lu.start (lB:hB.Le h) (d:∀b,X b→∃o,h b=some o):Lu hB X h h:=⟨BZ.refl _ _,lB,d⟩
theorem Lu.le (r:Lu hB X h hc) (l:hc.Le h'):Lu hB X h h':=⟨r.keep.trans (fun _ q=>.inl q) (l.keepX X),r.base.trans l,fun b hb=>l.someOf (r.dom b hb)⟩
theorem Lu.nothing (r:Lu hB X h hc) {q:Nat} (hq:hc q=none):h q=none:=by
 cases hx:h q with
 | none=>rfl
 | some x=>
  by_cases hX:X q
  ·obtain ⟨o,ho⟩:=r.dom q hX;rw [hq] at ho;cases ho
  ·obtain ⟨o',h1,_⟩:=r.keep q x.1 x.2 hx hX;rw [hq] at h1;cases h1
theorem Lu.store (r:Lu hB X h hc) {q:Nat} (hq:X q∨h q=none) (rB:hB q=none) (ho:∀b,b≠q→h' b=hc b) (hn:∃o,h' q=some o):Lu hB X h h':=
 ⟨fun b p o hb hX=>by
   have nb:b≠q:=fun e=>by
    subst e;rcases hq with hq | hq
    ·exact hX hq
    ·rw [hq] at hb;cases hb
   rw [ho b nb];exact r.keep b p o hb hX,
  r.base.upd rB ho,fun b hb=>by
   by_cases e:b=q
   ·subst e;exact hn
   ·rw [ho b e];exact r.dom b hb⟩
theorem BZ.app {v v':Value} (k:BZ X h hc) (g:Dx hc h' v v') (hv:∀b,back v=some b→X b):BZ X h h':=fun b p o hb hX=>by
 obtain ⟨o',h1,h2⟩:=k b p o hb hX;exact ⟨o',g.1 b _ h1 fun e=>hX (hv b e),h2⟩
theorem BZ.store' {q:Nat} (k:BZ X h hc) (hq:X q∨h q=none) (ho:∀b,b≠q→h' b=hc b):BZ X h h':=fun b p o hb hX=>by
 have nb:b≠q:=fun e=>by
  subst e;rcases hq with hq | hq
  ·exact hX hq
  ·rw [hq] at hb;cases hb
 rw [ho b nb];exact k b p o hb hX
end
def GH.del (h:GH) (r:Nat):GH:=fun b=>if b=r then none else h b
theorem GH.del_le (h:GH) (r:Nat):(h.del r).Le h:=fun b p o hb=>by
 unfold GH.del at hb;split at hb
 ·cases hb
 ·exact ⟨o,hb,.inl rfl⟩
theorem GH.del_none (h:GH) (r:Nat):h.del r r=none:=if_pos rfl
theorem GH.del_ne {h:GH} {r b:Nat} (e:b≠r):h.del r b=h b:=if_neg e
theorem GH.Le.del {h0 h:GH} (l:h0.Le h) {r:Nat} (hr:h0 r=none):h0.Le (h.del r):=fun b p o hb=>by
 rw [GH.del_ne (GH.ne_of hb hr)];exact l b p o hb
theorem Aa.del {h:GH} {r b off n:Nat} {vs:Array Value} (x:Aa h b off n vs) (e:b≠r):Aa (h.del r) b off n vs:=x.same (GH.del_ne e)
theorem NU {W:Wk P} {x v:Value} {args:Array Value} {h:GH} {R:Value→GH→Prop} (e:x=v) (k:CJ W v args h R):CJ W x args h R:=e▸k
def UM {α:Type} (hB:GH) (r:Nat) (T t:TypeId) (n:Nat) (enc:α→Array Value) (pre:List α) (Y:Nat→Prop) (h:GH):Prop:=
 ∃w,h r=some (true,.cells #[w] T (0,0))∧AU hB h w t n enc pre∧BA w r∧hB r=none∧∀b,Y b↔b=r∨back w=some b
theorem AU.cellsAt {α:Type} {h0 h:GH} {v:Value} {t:TypeId} {n:Nat} {enc:α→Array Value} {xs:List α} (x:AU h0 h v t n enc xs):∀b,back v=some b→∃c,h b=some (true,.cells c t (0,0)):=by
 intro b hb;rcases x with ⟨rfl,_⟩ | ⟨b',cap,c,rfl,h1,h2,_⟩
 ·cases hb
 ·simp [back] at hb;subst hb;exact ⟨_,h2⟩
theorem Md {α:Type} (hB:GH) (r:Nat) (T t:TypeId) (n:Nat) (enc:α→Array Value):Gn hB (UM hB r T t n enc):=by
 refine ⟨?_,?_⟩
 ·rintro pre Y h b ⟨w,h1,h2,h3,h0,h4⟩ hb;rcases (h4 b).1 hb with rfl | h5
  ·exact ⟨_,_,h1,rfl⟩
  ·obtain ⟨c,hc⟩:=h2.cellsAt b h5;exact ⟨_,_,hc,rfl⟩
 ·rintro pre Y h h' ⟨w,h1,h2,h3,h0,h4⟩ same lB;refine ⟨w,by rw [same r ((h4 r).2 (.inl rfl))];exact h1,h2.keep fun b o hb ho=>by rw [same b ((h4 b).2 (.inr hb))];exact ho,h3,h0,h4⟩
theorem P4 {α:Type} {hB h:GH} {r:Nat} {T t:TypeId} {n:Nat} {enc:α→Array Value} (x:h r=some (true,.cells #[.slice none 0 0] T (0,0))) (h0:hB r=none):UM hB r T t n enc [] (fun b=>b=r) h:=
 ⟨_,x,AU.nil _ _ _ _ _,BA.nil,h0,fun _=>⟨.inl,fun q=>q.elim id fun e=>by cases e⟩⟩
theorem S9 {α:Type} {hB h h' ha hb:GH} {r:Nat} {T t:TypeId} {n:Nat} {enc:α→Array Value} {pre:List α} {w w':Value} {Y:Nat→Prop} (hY:∀b,Y b↔b=r∨back w=some b) (g:Dx ha hb w w') (hn:∀q,ha q=none→h q=none)
  (x:h' r=some (true,.cells #[w'] T (0,0))) (o:AU hB h' w' t n enc pre) (f:BA w' r) (h0:hB r=none) :
  ∃Y',(∀b,Y' b→Y b∨h b=none)∧UM hB r T t n enc pre Y' h':=by
 refine ⟨fun b=>b=r∨back w'=some b,?_,w',x,o,f,h0,fun _=>Iff.rfl⟩;rintro b (rfl | hb)
 ·exact .inl ((hY _).2 (.inl rfl))
 ·rcases g.2 with e | ⟨⟨q,e1,e2⟩,_⟩
  ·exact .inl ((hY _).2 (.inr (by rw [←e];exact hb)))
  ·rw [e1] at hb;cases hb;exact .inr (hn _ e2)
theorem Jb {fn:Func} {σ:Nat→Value} {R:Value→GH→Prop} {d:Nat} {ds:List Deferred} {h:GH} (hd:h d=some (true,.deferred (some []))) (x:∀h',(∀b,b≠d→h' b=h b)→FD P fn σ R ds h') :
  FD P fn σ R ({ target:=.collected d,args:=#[] } ::ds) h:=⟨d,rfl,_,hd,rfl,x _ fun b hb=>GH.set_ne _ _ _ hb⟩
end
end Go.Ns
namespace Go.Ns
open Go.Conc
section
variable {P:Program} {E:FN P}
abbrev Fv:=(Nat→Value)→Value→GH→Prop
def El (Φ:List Fv) (k:Nat):Fv:=Φ.getD k fun _ _ _=>True
def K6 (ops:List Oper) (Φ:List Fv) (σ:Nat→Value) (h:GH) (j:Nat):Prop:=match ops[j]? with
 | some o=>CS ops o σ→El Φ j σ (GM o σ) h
 | none=>True
def FJ (ops:List Oper) (Φ:List Fv) (σ:Nat→Value) (h:GH):List Nat→Prop
 | []=>True
 | j ::l=>K6 ops Φ σ h j∧FJ ops Φ σ h l
theorem FJ.get {ops:List Oper} {Φ:List Fv} {σ:Nat→Value} {h:GH}:∀{l:List Nat},(∀j ∈ l,K6 ops Φ σ h j)→FJ ops Φ σ h l
 | [],_=>trivial
 | j ::l,x=>⟨x j (by simp),FJ.get fun i hi=>x i (by simp [hi])⟩
def NV (l:List Oper) (n:Nat) (cls:List (List Nat)) (Φ:List Fv):Prop:=
 ∀k i oi d,k<n→i<n→i≠k→i ∉ cls.getD k []→l[i]? =some oi→oi.dst=some d→∀σ u v h,El Φ k σ v h→El Φ k (upd σ d u) v h
def St (R:GH→GH→Prop) (Pre:Nat→GH→Prop) (Φ:List Fv) (cl:List Nat) (k:Nat) (h h':GH):Prop:=R h h'∧(∀j,j≠k→∀σ v,El Φ j σ v h→El Φ j σ v h')∧∀j,j≠k→j ∉ cl→Pre j h→Pre j h'
def RK (R:GH→GH→Prop) (Pre:Nat→GH→Prop) (E:FN P) (ops:List Oper) (n:Nat) (Φ:List Fv) (σ:Nat→Value) (ds:List Deferred) (h:GH) (k:Nat) (o:Oper) (cl:List Nat):Prop:=
 ∀σ' h',R h h'→(∀t,(Cw ops n).contains t=false→σ' t=σ t)→FJ ops Φ σ' h' cl→CS ops o σ'→Pre k h'→
  Bd E o σ' ds h' fun σ'' ds'' h''=>ds''=ds∧St R Pre Φ cl k h' h''∧∃v,σ''=putS σ' o.dst v∧El Φ k σ'' v h''∧(o.dst=none→v=undef)
def GI (R:GH→GH→Prop) (Pre:Nat→GH→Prop) (E:FN P) (ops:List Oper) (n:Nat) (Φ:List Fv) (σ:Nat→Value) (ds:List Deferred) (h:GH) (Q:Post):Nat→Nat→List Oper→List (List Nat)→Prop
 | 0,k,rest,_=>∀σ' h',R h h'→(∀t,(Cw ops n).contains t=false→σ' t=σ t)→FJ ops Φ σ' h' (List.range k)→DS E ops.toArray rest σ' ds h' Q
 | m+1,k,o ::rest,cl ::cls=>RK R Pre E ops n Φ σ ds h k o cl∧GI R Pre E ops n Φ σ ds h Q m (k+1) rest cls
 | _,_,_,_=>False
theorem GI.at {R:GH→GH→Prop} {Pre:Nat→GH→Prop} {ops:List Oper} {n:Nat} {Φ:List Fv} {σ:Nat→Value} {ds:List Deferred} {h:GH} {Q:Post}:∀(m k:Nat) (rest:List Oper) (cls:List (List Nat)),
  GI R Pre E ops n Φ σ ds h Q m k rest cls→(∀i o,i<m→rest[i]? =some o→RK R Pre E ops n Φ σ ds h (k+i) o (cls.getD i []))∧
   (∀σ' h',R h h'→(∀t,(Cw ops n).contains t=false→σ' t=σ t)→FJ ops Φ σ' h' (List.range (k+m))→DS E ops.toArray (rest.drop m) σ' ds h' Q)
 | 0,k,rest,cls,x=>⟨fun i o hi=>by omega,x⟩
 | m+1,k,[],cls,x=>by cases cls <;> exact x.elim
 | m+1,k,o ::rest,[],x=>x.elim
 | m+1,k,o ::rest,cl ::cls,x=>by
  obtain ⟨h1,h2⟩:=x;obtain ⟨a,b⟩:=GI.at m (k+1) rest cls h2;refine ⟨fun i o' hi ho=>?_,fun σ' h' hl hb hk=>?_⟩
  ·cases i with
   | zero=>simp at ho;subst ho;exact h1
   | succ i=>have:=a i o' (by omega) (by simpa using ho);rw [show k+(i+1)=k+1+i by omega];simpa using this
  ·rw [List.drop_succ_cons];exact b σ' h' hl hb (by rw [show k+1+m=k+(m+1) by omega];exact hk)
structure Og (R:GH→GH→Prop) (Pre:Nat→GH→Prop) (l:List Oper) (n:Nat) (cls:List (List Nat)) (Φ:List Fv) (σ:Nat→Value) (h:GH) (D:Nat→Bool) (σ':Nat→Value) (h':GH):Prop where
 le:R h h'
 base:∀t,(Cw l n).contains t=false→σ' t=σ t
 lt:∀j,D j=true→j<n
 done:∀j,D j=true→K6 l Φ σ' h' j
 clos:∀j,D j=true→∀i ∈ cls.getD j [],D i=true
 grd:∀j o,D j=true→l[j]? =some o→∀g w,o.guard=some (g,w)→D g=true
 pend:∀j,j<n→D j=false→Pre j h'
theorem TA (R:GH→GH→Prop) {id:Nat} {l:List Oper} {σ:Nat→Value} {ds:List Deferred} {h:GH} {Q:Post} (n:Nat) (cls:List (List Nat)) (Φ:List Fv) (Pre:Nat→GH→Prop)
  (hm:P.follows .mixedOrders=true) (ok:D4 E.N l n cls=true) (rr:∀h,R h h) (rt:∀a b c,R a b→R b c→R a c) (p0:∀k,k<n→Pre k h) (ind:NV l n cls Φ)
  (x:GI R Pre E l n Φ σ ds h Q n 0 l cls):Tr E (.region id l.toArray true) σ ds h Q:=by
 obtain ⟨steps,fin⟩:=GI.at n 0 l cls x;simp only [Nat.zero_add] at steps fin;have ok':=ok;unfold D4 at ok';simp only [Bool.and_eq_true] at ok';have nd:(Cw l n).Nodup:=of_decide_eq_true ok'.1.2;refine Ki n cls (Og R Pre l n cls Φ σ h) hm ok ⟨rr h,fun _ _=>rfl,fun _ q=>(by cases q),fun _ q=>(by cases q),fun _ q=>(by cases q),fun _ _ q=>(by cases q),fun j hj _=>p0 j hj⟩ (fun D σ' h' i o I hin hiu ho hcl hgl=>?_) fun D σ' h' I hall=>fin σ' h' I.le I.base (FJ.get fun j hj=>I.done j (hall j (List.mem_range.1 hj)));have hset:∀j,Ft D i j=if i=j then true else D j:=fun _=>rfl
 have next:∀(σ2:Nat→Value) (h2:GH) (v:Value),σ2=putS σ' o.dst v→St R Pre Φ (cls.getD i []) i h' h2→(CS l o σ2→El Φ i σ2 v h2)→(o.dst=none→v=undef)→Og R Pre l n cls Φ σ h (Ft D i) σ2 h2:=by
  rintro σ2 h2 v rfl hle hlaw hun;have hkeep:∀j oj e,j<n→j≠i→l[j]? =some oj→oj.dst=some e→putS σ' o.dst v e=σ' e:=fun j oj e hj hji hoj he=>by
   cases hd:o.dst with
   | none=>rfl
   | some d=>exact upd_ne σ' v (II (ED nd hin hj (fun x=>hji x.symm) ho hoj hd he))
  refine ⟨rt _ _ _ I.le hle.1,fun u hu=>?_,fun j hjl=>?_,fun j hjl=>?_,fun j hjl q hq'=>?_,fun j oj hjl hoj g w hg=>?_,fun j hj hjl=>?_⟩
  ·rw [←I.base u hu];cases hd:o.dst with
   | none=>rfl
   | some d=>exact upd_ne σ' v (II fun e=>by rw [e,Kh hin ho hd] at hu;cases hu)
  ·rw [hset] at hjl;by_cases hij:i=j
   ·exact hij▸hin
   ·rw [if_neg hij] at hjl;exact I.lt j hjl
  ·rw [hset] at hjl;by_cases hij:i=j
   ·subst hij;unfold K6;rw [ho];intro hg
    have:GM o (putS σ' o.dst v)=v:=by
     cases hd:o.dst with
     | none=>rw [hun hd];simp [GM,hd]
     | some d=>simp [GM,hd,putS,upd]
    rw [this];exact hlaw hg
   ·rw [if_neg hij] at hjl;have K:=I.done j hjl;unfold K6 at K ⊢;cases hoj:l[j]? with
    | none=>trivial
    | some oj=>
     rw [hoj] at K;simp only at K ⊢;intro hg;have hg':CS l oj σ':=hg.congr fun g w og dg hgw hog hdg=>by
      have hgl':=I.grd j oj hjl hoj g w hgw;exact hkeep g og dg (I.lt g hgl') (fun e=>by rw [e,hiu] at hgl';cases hgl') hog hdg
     have hji:i ∉ cls.getD j []:=fun q=>by rw [I.clos j hjl i q] at hiu;cases hiu
     have:=hle.2.1 j (fun e=>hij e.symm) _ _ (K hg')
     have hsv:GM oj (putS σ' o.dst v)=GM oj σ':=by
      unfold GM;cases hdj:oj.dst with
      | none=>rfl
      | some e=>exact hkeep j oj e (I.lt j hjl) (fun x=>hij x.symm) hoj hdj
     rw [hsv];cases hd:o.dst with
     | none=>exact this
     | some d=>exact ind j i o d (I.lt j hjl) hin hij hji ho hd σ' v _ h2 this
  ·rw [hset] at hjl ⊢;split
   ·rfl
   ·rename_i hn
    by_cases hij:i=j
    ·subst hij;exact hcl q hq'
    ·rw [if_neg hij] at hjl;exact I.clos j hjl q hq'
  ·rw [hset] at hjl ⊢;split
   ·rfl
   ·by_cases hij:i=j
    ·subst hij;rw [ho] at hoj;cases hoj;exact hgl g w hg
    ·rw [if_neg hij] at hjl;exact I.grd j oj hjl hoj g w hg
  ·rw [hset] at hjl;by_cases hij:i=j
   ·rw [if_pos hij] at hjl;cases hjl
   ·rw [if_neg hij] at hjl;exact hle.2.2 j (fun e=>hij e.symm) (fun q=>by rw [hcl j q] at hjl;cases hjl) (I.pend j hj hjl)
 refine ⟨fun hG=>?_,fun hnG=>?_⟩
 ·exact Bd.mono (steps i o hin ho σ' h' I.le I.base (FJ.get fun j hj=>I.done j (hcl j hj)) hG (I.pend i hin hiu)) fun σ2 ds2 h2 y=>⟨y.1,by
   obtain ⟨_,hle,v,hσ,hlaw,hun⟩:=y;exact next σ2 h2 v hσ hle (fun _=>hlaw) hun⟩
 ·refine next _ _ undef rfl ⟨rr _,fun _ _ _ _ z=>z,fun _ _ _ z=>z⟩ (fun hg=>?_) fun _=>rfl;refine absurd (hg.congr fun g w og dg hgw hog hdg=>?_) hnG;cases hd:o.dst with
  | none=>rfl
  | some d=>
   have hgi:g≠i:=fun e=>by have:=hgl g w hgw;rw [e,hiu] at this;cases this
   exact upd_ne σ' undef (II (ED nd hin (I.lt g (hgl g w hgw)) (fun x=>hgi x.symm) ho hog hd hdg))
def DH (S:Nat→Prop) (h h':GH):Prop:=BZ S h h'∧∀b,(∃o,h b=some o)→∃o,h' b=some o
theorem DH.refl (S:Nat→Prop) (h:GH):DH S h h:=⟨BZ.refl _ _,fun _ x=>x⟩
theorem DH.trans {S:Nat→Prop} {a b c:GH} (x:DH S a b) (y:DH S b c):DH S a c:=⟨x.1.trans (fun _ q=>.inl q) y.1,fun r q=>y.2 r (x.2 r q)⟩
theorem GH.Le.keepD {h h':GH} (l:h.Le h') (S:Nat→Prop):DH S h h':=⟨l.keepX S,fun _ ⟨o,ho⟩=>let ⟨o',h1,_⟩:=l _ o.1 o.2 ho;⟨_,h1⟩⟩
theorem DH.nothing {S:Nat→Prop} {h h':GH} (k:DH S h h') {r:Nat} (hr:h' r=none):h r=none:=by
 cases hx:h r with
 | none=>rfl
 | some x=>obtain ⟨o,ho⟩:=k.2 r ⟨x,hx⟩;rw [ho] at hr;cases hr
theorem DH.grown {α:Type} {S:Nat→Prop} {h0 h h':GH} {v v':Value} {t:TypeId} {n:Nat} {enc:α→Array Value} {xs:List α} (g:Dx h h' v v') (hv:∀b,back v=some b→S b) (o:AU h0 h' v' t n enc xs):DH S h h':=
 ⟨fun b p o hb hX=>⟨o,g.1 b _ hb fun e=>hX (hv b e),.inl rfl⟩,fun b ⟨x,hx⟩=>by
  rcases g.2 with q | ⟨_,q⟩
  ·by_cases e:back v=some b
   ·exact o.inDom b (q.trans e)
   ·exact ⟨_,g.1 b x hx e⟩
  ·exact ⟨_,q b x hx⟩⟩
theorem AU.baseD {α:Type} {S:Nat→Prop} {h0 h00 h:GH} {v:Value} {t:TypeId} {n:Nat} {enc:α→Array Value} {xs:List α} (x:AU h0 h v t n enc xs) (k:DH S h00 h0):AU h00 h v t n enc xs:=by
 rcases x with x | ⟨b,cap,c,h1,h2,h3,h4⟩
 ·exact .inl x
 ·exact .inr ⟨b,cap,c,h1,k.nothing h2,h3,h4⟩
def Cs (R:GH→GH→Prop):List Fv→Prop
 | []=>True
 | φ ::l=>(∀σ v h h',R h h'→φ σ v h→φ σ v h')∧Cs R l
theorem Cs.mono {R:GH→GH→Prop}:∀{Φ:List Fv},Cs R Φ→∀k σ v h h',R h h'→El Φ k σ v h→El Φ k σ v h'
 | [],_,k,σ,v,h,h',_,x=>by cases k <;> exact x
 | φ ::l,ok,0,σ,v,h,h',r,x=>ok.1 σ v h h' r x
 | φ ::l,ok,k+1,σ,v,h,h',r,x=>Cs.mono ok.2 k σ v h h' r x
theorem Me {S:Nat→Prop} {id:Nat} {l:List Oper} {σ:Nat→Value} {ds:List Deferred} {h:GH} {Q:Post} (n:Nat) (cls:List (List Nat)) (Φ:List Fv) (Pre:Nat→GH→Prop)
  (hm:P.follows .mixedOrders=true) (ok:D4 E.N l n cls=true) (p0:∀k,k<n→Pre k h) (ind:NV l n cls Φ) (x:GI (DH S) Pre E l n Φ σ ds h Q n 0 l cls):Tr E (.region id l.toArray true) σ ds h Q:=
 TA (DH S) n cls Φ Pre hm ok (fun h=>DH.refl S h) (fun _ _ _ x y=>x.trans y) p0 ind x
section
variable {Pre:Nat→GH→Prop} {Φ:List Fv} {S:Nat→Prop} {k:Nat} {cl:List Nat} {h h':GH}
theorem St.same:St (DH S) Pre Φ cl k h h:=⟨DH.refl _ _,fun _ _ _ _ z=>z,fun _ _ _ z=>z⟩
theorem St.ofLe (l:h.Le h') (m:Cs GH.Le Φ) (pm:∀k h h',GH.Le h h'→Pre k h→Pre k h'):St (DH S) Pre Φ cl k h h':=⟨l.keepD S,fun j _ σ v z=>m.mono j σ v h h' l z,fun j _ _ z=>pm j h h' l z⟩
end
def Mf (h0:GH) (w v:Value):Prop:=back v=back w∨∃r,back v=some r∧h0 r=none
theorem BA.fromB {h0:GH} {w v:Value} (f:Mf h0 w v) {r:Nat} {o:Bool×Obj} (hr:h0 r=some o) (x:BA w r):BA v r:=fun e=>by
 rcases f with q | ⟨b,q1,q2⟩
 ·exact x (q▸e)
 ·rw [q1] at e;cases e;rw [q2] at hr;cases hr
theorem Mf.grown {h0 hk h':GH} {S:Nat→Prop} {w v:Value} (g:Dx hk h' w v) (k:DH S h0 hk):Mf h0 w v:=by
 rcases g.2 with q | ⟨⟨r,q1,q2⟩,_⟩
 ·exact .inl q
 ·exact .inr ⟨r,q1,k.nothing q2⟩
theorem AU.apartTy {α β:Type} {h0 h1 h:GH} {v w:Value} {t t':TypeId} {n n':Nat} {enc:α→Array Value} {enc':β→Array Value} {xs:List α} {ys:List β} (x:AU h0 h v t n enc xs) (y:AU h1 h w t' n' enc' ys) (ne:t≠t'):Apart v w:=fun b e e'=>by
 rcases x with ⟨rfl,_⟩ | ⟨b1,_,c1,rfl,_,h2,_⟩
 ·cases e
 ·rcases y with ⟨rfl,_⟩ | ⟨b2,_,c2,rfl,_,h3,_⟩
  ·cases e'
  ·simp only [back,Option.some.injEq] at e e';subst e;subst e';rw [h2] at h3;simp only [Option.some.injEq,Prod.mk.injEq,Obj.cells.injEq] at h3;exact ne h3.2.2.1
theorem AU.apartNew {α β:Type} {h1 h h2:GH} {v w:Value} {t t':TypeId} {n n':Nat} {enc:α→Array Value} {enc':β→Array Value} {xs:List α} {ys:List β} (x:AU h1 h2 w t n enc xs) (y:AU h2 h v t' n' enc' ys):Apart w v:=fun b e e'=>by
 obtain ⟨o,ho⟩:=x.inDom b e;rw [y.fresh b e'] at ho;cases ho
theorem BZ.leBase {S:Nat→Prop} {hb h h':GH} (k:BZ S h h') (l:hb.Le h) (hS:∀b,S b→hb b=none):hb.Le h':=fun b p o hx=>by
 obtain ⟨o1,h1,h2⟩:=l b p o hx;obtain ⟨o2,h3,h4⟩:=k b p o1 h1 fun q=>by rw [hS b q] at hx;cases hx
 refine ⟨o2,h3,?_⟩;rcases h2 with rfl | h2
 ·exact h4
 ·rcases h4 with rfl | h4
  ·exact .inr h2
  ·exact .inr ⟨h2.1,h4.2⟩
theorem AU.keepD {α:Type} {S:Nat→Prop} {h0 h h':GH} {v:Value} {t:TypeId} {n:Nat} {enc:α→Array Value} {xs:List α} (x:AU h0 h v t n enc xs) (k:DH S h h') (hS:∀b,back v=some b→¬S b):AU h0 h' v t n enc xs:=by
 rcases x with x | ⟨b,cap,c,rfl,h2,h3,h4⟩
 ·exact .inl x
 ·exact .inr ⟨b,cap,c,rfl,h2,k.1.box h3 (hS b rfl) rfl,h4⟩
end
end Go.Ns
namespace Go.Ns
open Go.Conc
section
variable {P:Program} {E:FN P} {σ:Nat→Value} {ds:List Deferred} {h:GH} {T:(Nat→Value)→List Deferred→GH→Prop}
variable {dst:Option Nat} {ty:TypeId} {pos:String} {af:Array Edge} {gd:Option (Nat×Bool)}
def Jc:Value→Bool
 | .slice none _ _=>true
 | _=>false
theorem Rn {xt yt:TypeId} {x y:Operand} {a:Option Addr} {l c:Nat} (ht:IG P xt=true) (hx:AV σ x=.slice a l c) (hy:AV σ y=.slice none 0 0) (k:T (putS σ dst (.bool (Jc (.slice a l c)))) ds h) :
  Bd E ⟨dst,.binOp .eql xt x y yt,ty,pos,af,gd⟩ σ ds h T:=by
 unfold Bd execOp;simp only [hx,hy];refine Eg (AG _ _ ?_);show Sem.gh P (do pure (Value.bool (←Op.equal xt (.slice a l c) (.slice none 0 0))):Sem Value) h _;refine AG _ _ ?_;unfold Op.equal Op.maxDepth;show (Op.equalIn (9999+1) xt (.slice a l c) (.slice none 0 0)).gh P h _;unfold Op.equalIn;unfold IG at ht;cases hu:P.underlying xt with
 | none=>rw [hu] at ht;cases ht
 | some d=>
  rw [hu] at ht;refine AG _ _ (Ak hu ?_);cases d <;> first | (cases ht;done) | skip
  cases a with
  | none=>exact k
  | some a=>exact k
theorem IQ {α:Type} {xt yt:TypeId} {x y:Operand} {v:Value} {n:Nat} {enc:α→Array Value} {xs:List α} (ht:IG P xt=true) (s:AN h v n enc xs) (hx:AV σ x=v) (hy:AV σ y=.slice none 0 0) (k:T (putS σ dst (.bool (Jc v))) ds h) :
  Bd E ⟨dst,.binOp .eql xt x y yt,ty,pos,af,gd⟩ σ ds h T:=by
 obtain ⟨a,cap,rfl,_⟩:=s;exact Rn ht hx hy k
theorem IR {α:Type} {v:Value} {n:Nat} {enc:α→Array Value} {xs:List α} (s:AN h v n enc xs) (e:Jc v=true):xs=[]:=by
 obtain ⟨a,cap,rfl,_,_,q⟩:=s;cases a with
 | some a=>cases e
 | none=>
  cases xs with
  | nil=>rfl
  | cons x xs=>obtain ⟨b,off,h1,_⟩:=q 0 (by simp);cases h1
theorem TB {a:Int} {k:Nat} (h:k≤63):a.fdiv (2 ^ (min ((k:Int)).toNat IntKind.i64.bits))=a.fdiv (2 ^ k):=by
 have:min ((k:Int)).toNat IntKind.i64.bits=k:=by
  show min ((k:Int)).toNat 64=k;omega
 rw [this]
theorem TC {k:Nat} (h:k≤60):IntKind.i64.wrap (1*2 ^ (min ((k:Int)).toNat IntKind.i64.bits))=2 ^ k:=by
 have:min ((k:Int)).toNat IntKind.i64.bits=k:=by
  show min ((k:Int)).toNat 64=k;omega
 rw [this,Int.one_mul];have h1:(2:Int) ^ k≤2 ^ 60:=by
  have:=Nat.pow_le_pow_right (show 0<2 by decide) h
  exact_mod_cast this
 have h2:(0:Int)≤2 ^ k:=by
  have:=Nat.zero_le (2 ^ k)
  exact_mod_cast this
 exact IntWalk.i64_in _ (by omega)
end
theorem K7 {a:Int} (h:0≤a∧a≤65535) (k:Nat):0≤a.fdiv (2 ^ k)∧a.fdiv (2 ^ k)≤65535:=by
 have hp:(0:Int)<2 ^ k:=by
  have:=Nat.pow_pos (n:=k) (show 0<2 by decide)
  exact_mod_cast this
 rw [Int.fdiv_eq_ediv_of_nonneg _ (Int.le_of_lt hp)];refine ⟨Int.ediv_nonneg h.1 (Int.le_of_lt hp),Int.le_trans (Int.ediv_le_self _ h.1) h.2⟩
def Fe (mask:Int) (k:Nat):Bool:=decide (mask.fdiv (2 ^ k)%2=1)
def B7 (cs:List AK) (mask:Int) (k:Nat):List AK:=((List.range k).filter (Fe mask)).map fun (i:Nat)=>cs.getD i AK.z
def BE (mask:Int) (k:Nat):List Int:=((List.range k).filter (Fe mask)).map fun (i:Nat)=>(i:Int)
theorem HG {p:Nat→Bool} {k:Nat} (h:p k=true):(List.range (k+1)).filter p=(List.range k).filter p++[k]:=by
 rw [List.range_succ,List.filter_append];simp [h]
theorem HH {p:Nat→Bool} {k:Nat} (h:p k=false):(List.range (k+1)).filter p=(List.range k).filter p:=by
 rw [List.range_succ,List.filter_append];simp [h]
theorem UN {cs:List AK} {mask:Int} {k:Nat} (h:mask.fdiv (2 ^ k)%2=1):B7 cs mask (k+1)=B7 cs mask k++[cs.getD k AK.z]:=by
 unfold B7;rw [HG (by unfold Fe;rw [decide_eq_true h]),List.map_append];rfl
theorem UO {cs:List AK} {mask:Int} {k:Nat} (h:¬mask.fdiv (2 ^ k)%2=1):B7 cs mask (k+1)=B7 cs mask k:=by
 unfold B7;rw [HH (by unfold Fe;rw [decide_eq_false h])]
theorem RL {mask:Int} {k:Nat} (h:mask.fdiv (2 ^ k)%2=1):BE mask (k+1)=BE mask k++[(k:Int)]:=by
 unfold BE;rw [HG (by unfold Fe;rw [decide_eq_true h]),List.map_append];rfl
theorem RM {mask:Int} {k:Nat} (h:¬mask.fdiv (2 ^ k)%2=1):BE mask (k+1)=BE mask k:=by
 unfold BE;rw [HH (by unfold Fe;rw [decide_eq_false h])]
theorem Mg (cs:List AK) (mask:Int) (k:Nat):(B7 cs mask k).length≤k:=by
 unfold B7;rw [List.length_map]
 have:=List.length_filter_le (Fe mask) (List.range k)
 rwa [List.length_range] at this
theorem Mh (mask:Int) (k:Nat):(BE mask k).length≤k:=by
 unfold BE;rw [List.length_map]
 have:=List.length_filter_le (Fe mask) (List.range k)
 rwa [List.length_range] at this
def IS (a b:Int):Int:=if a<b then-1 else if b<a then 1 else 0
def Hk (a b:List Int):Nat→Nat→Int
 | 0,_=>if (a.length:Int)<b.length then-1 else 0
 | f+1,k=>if (b.length:Int)≤k then 1 else if¬IS (a.getD k 0) (b.getD k 0)=0 then IS (a.getD k 0) (b.getD k 0) else Hk a b f (k+1)
def Iy (a b:List Int):Int:=Hk a b a.length 0
theorem J0 {a b:List Int} {k:Nat} (hk:¬(k:Int)<a.length):Hk a b (a.length-k) k=if (a.length:Int)<b.length then-1 else 0:=by
 rw [show a.length-k=0 by omega];rfl
theorem IT {a b:List Int} {k:Nat} (hk:k<a.length):Hk a b (a.length-k) k=if (b.length:Int)≤k then 1 else if¬IS (a.getD k 0) (b.getD k 0)=0 then IS (a.getD k 0) (b.getD k 0) else Hk a b (a.length-(k+1)) (k+1):=by
 rw [show a.length-k=(a.length-(k+1))+1 by omega];rfl
def NW (a b:List Int):Bool:=decide ((a.length:Int)<b.length) || (decide ((a.length:Int)=b.length) && decide (Iy a b<0))
abbrev Sl:=Value×List Int
def Sl.z:Sl:=(.slice none 0 0,[])
def K9 (x:Sl):Array Value:=#[x.1]
def Bp (h:GH) (l:List Sl):Prop:=∀k,AN h (l.getD k Sl.z).1 1 eI (l.getD k Sl.z).2
theorem Bp.le {h h':GH} {l:List Sl} (x:Bp h l) (e:h.Le h'):Bp h' l:=fun k=>(x k).le e
theorem Bp.nil (h:GH):Bp h []:=fun k=>by
 rw [Dj (by simp)];exact AN.nil _ _ _
theorem Bp.snoc {h:GH} {l:List Sl} {x:Sl} (a:Bp h l) (b:AN h x.1 1 eI x.2):Bp h (l++[x]):=fun k=>by
 rcases Nat.lt_trichotomy k l.length with q | q | q
 ·have e:(l++[x]).getD k Sl.z=l.getD k Sl.z:=by simp [List.getD_eq_getElem?_getD,List.getElem?_append_left q]
  rw [e];exact a k
 ·have e:(l++[x]).getD k Sl.z=x:=by subst q;simp [List.getD_eq_getElem?_getD]
  rw [e];exact b
 ·rw [Dj (by simp;omega)];exact AN.nil _ _ _
def Iz (x c:List Int):List Int:=if NW x c then x else c
def G7 (c:List Int) (l:List (List Int)):List Int:=l.foldl (fun c x=>Iz x c) c
def Bu (l:List Sl):List (List Int):=l.map (·.2)
theorem EH {l:List Sl} {k:Nat} (hk:k<l.length):(Bu l).getD k []=(l.getD k Sl.z).2:=by
 unfold Bu;rw [Cr [] (by simpa using hk),Cr Sl.z hk];simp
theorem LA {c:List Int} {l:List Sl} {k:Nat} (hk:k<l.length):G7 c ((Bu l).take (k+1))=Iz (l.getD k Sl.z).2 (G7 c ((Bu l).take k)):=by
 rw [EK [] (by simpa [Bu] using hk),EH hk];unfold G7;rw [List.foldl_append];rfl
def B5 (d:Int) (gs:List Good) (ms:List AB) (cs:List AK) (mo:Int):Bool:= !(AP d gs ms cs mo).isEmpty
theorem RN {d:Int} {gs:List Good} {ms:List AB} {cs:List AK} {mo:Int} (h:AP d gs ms cs mo≠[]):B5 d gs ms cs mo=true:=by
 unfold B5;cases hx:AP d gs ms cs mo with
 | nil=>exact absurd hx h
 | cons _ _=>rfl
theorem NX {d:Int} {gs:List Good} {ms:List AB} {cs:List AK} {mo:Int} (h:AP d gs ms cs mo=[]):B5 d gs ms cs mo=false:=by
 unfold B5;rw [h];rfl
def TE {α:Type} (hB:GH) (r:Nat) (T:TypeId) (pre:List α) (Y:Nat→Prop) (h:GH):Prop:=pre=[]∧h r=some (true,.cells #[.bool false] T (0,0))∧hB r=none∧∀b,Y b↔b=r
def TF {α:Type} (r:Nat) (T:TypeId) (all:List α) (c:Code) (h:GH):Prop:=c=.ret∧h r=some (true,.cells #[.bool true] T (0,0))∧all≠[]
theorem LB {α:Type} (hB:GH) (r:Nat) (T:TypeId):Gn hB (TE (α:=α) hB r T):=by
 refine ⟨?_,?_⟩
 ·rintro pre Y h b ⟨_,h1,_,h2⟩ hb;rw [h2] at hb;subst hb;exact ⟨_,_,h1,rfl⟩
 ·rintro pre Y h h' ⟨h0,h1,h3,h2⟩ same _;exact ⟨h0,(same r ((h2 r).2 rfl)).trans h1,h3,h2⟩
theorem Oh {α:Type} {hB h:GH} {r:Nat} {T:TypeId} (nr:hB r=none) (x:h r=some (true,.cells #[.bool false] T (0,0))):TE (α:=α) hB r T [] (fun b=>b=r) h:=⟨rfl,x,nr,fun _=>Iff.rfl⟩
theorem NY {α:Type} {r:Nat} {T:TypeId} {all:List α}:∀c (h h':GH) l lo,TF r T all c h→h l=some (true,.loop lo)→(∀b,b≠l→h' b=h b)→TF r T all c h':=by
 rintro c h h' l lo ⟨q1,q2,q3⟩ hl ho;exact ⟨q1,(ho _ fun e=>by subst e;rw [q2] at hl;cases hl).trans q2,q3⟩
end Go.Ns
namespace Go.Ns
open Go.Conc
abbrev UP:=Int×Int×Int
def Ht (a:UP):Value:=.agg #[.int .i64 a.1,.int .i64 a.2.1,.int .i64 a.2.2]
def Da (n:Int):Value:=.int .i64 n
def Ag (ms:List AB) (pasts:List AS) (r:Nat) (h:GH):Prop:=
 ∃M:UP→Option Int,Dt h r Ht Da M∧∀a v,M a=some v→v=(AH ms (pasts.getD a.1.toNat AS.zero) a.2.1 a.2.2).1
theorem Ag.same {ms:List AB} {pasts:List AS} {r:Nat} {h h':GH} (x:Ag ms pasts r h) (e:h' r=h r):Ag ms pasts r h':=by
 obtain ⟨M,h1,h2⟩:=x;exact ⟨M,h1.le_other e,h2⟩
theorem Ag.known {ms:List AB} {pasts:List AS} {r:Nat} {h:GH} (x:Ag ms pasts r h):∃o,h r=some (true,o):=by
 obtain ⟨M,⟨es,clk,h1,_⟩,_⟩:=x;exact ⟨_,h1⟩
structure B0 (hB:GH) (ms:List AB) (pasts:List AS) (r:Nat) (h hc:GH):Prop where
 ok:Ag ms pasts r hc
 keep:BZ (fun b=>b=r) h hc
 base:hB.Le hc
def HB (hB:GH) (ms:List AB) (pasts:List AS) (r:Nat) (h h':GH):Prop:=Ag ms pasts r h'∧BZ (fun b=>b=r) h h'∧hB.Le h'
section
variable {hB h hc h':GH} {ms:List AB} {pasts:List AS} {r:Nat}
theorem B0.start (x:Ag ms pasts r h) (l:hB.Le h):B0 hB ms pasts r h h:=⟨x,BZ.refl _ _,l⟩
theorem B0.le (y:B0 hB ms pasts r h hc) (l:hc.Le h'):B0 hB ms pasts r h h':=by
 obtain ⟨o,ho⟩:=y.ok.known;exact ⟨y.ok.same ((l.keep ho rfl).trans ho.symm),y.keep.trans (fun _ q=>.inl q) (l.keepX _),y.base.trans l⟩
theorem B0.store (y:B0 hB ms pasts r h hc) {q:Nat} (hq:h q=none) (qB:hB q=none) (hn:q≠r) (ho:∀b,b≠q→h' b=hc b):B0 hB ms pasts r h h':=
 ⟨y.ok.same (ho r (Ne.symm hn)),y.keep.store hq ho,y.base.upd qB ho⟩
theorem B0.app {v v':Value} (y:B0 hB ms pasts r h hc) (g:Dx hc h' v v') (f:BA v r) (hv:∀b,back v=some b→h b=none) (hvB:∀b,back v=some b→hB b=none):B0 hB ms pasts r h h':=by
 obtain ⟨o,ho⟩:=y.ok.known;refine ⟨y.ok.same ((g.1 r _ ho f).trans ho.symm),fun b p o hb hX=>?_,GH.Le.grown g y.base hvB⟩;obtain ⟨o',h1,h2⟩:=y.keep b p o hb hX;exact ⟨o',g.1 b _ h1 (fun e=>by rw [hv b e] at hb;cases hb),h2⟩
theorem B0.call (y:B0 hB ms pasts r h hc) (m:HB hB ms pasts r hc h'):B0 hB ms pasts r h h':=⟨m.1,y.keep.trans (fun _ q=>.inl q) m.2.1,m.2.2⟩
theorem B0.ne (y:B0 hB ms pasts r h hc) {q:Nat} (hq:hc q=none):q≠r:=fun e=>by
 obtain ⟨o,ho⟩:=y.ok.known;rw [e,ho] at hq;cases hq
theorem B0.res (y:B0 hB ms pasts r h hc):HB hB ms pasts r h hc:=⟨y.ok,y.keep,y.base⟩
end
theorem UP.eq_iff (a b:UP):(a.1==b.1 && (a.2.1==b.2.1 && (a.2.2==b.2.2 && true)))=decide (a=b):=by
 obtain ⟨a1,a2,a3⟩:=a;obtain ⟨b1,b2,b3⟩:=b;simp only [Bool.and_true,Prod.mk.injEq];by_cases h1:a1=b1 <;> by_cases h2:a2=b2 <;> by_cases h3:a3=b3 <;> simp [h1,h2,h3]
section
variable {P:Program} {E:FN P} {σ:Nat→Value} {ds:List Deferred} {h:GH} {T:(Nat→Value)→List Deferred→GH→Prop}
variable {dst:Option Nat} {ty:TypeId} {pos:String} {af:Array Edge} {gd:Option (Nat×Bool)}
theorem NZ {t kt vt:TypeId} {x ix:Operand} {r d:Nat} {ms:List AB} {pasts:List AS} {i g dy:Int} (ht:Hy P t=some (kt,vt)) (hx:AV σ x=.map (some r)) (hk:AV σ ix=.agg #[.int .i64 i,.int .i64 g,.int .i64 dy]) (hm:Ag ms pasts r h) (hd:Nat.ble (d+1) 10000=true)
  (hc:∀a,S2 P (d+1) kt (Ht a)=true) (he:∀a b,Lt P (d+1) kt (Ht a) (Ht b)=some (a.1==b.1 && (a.2.1==b.2.1 && (a.2.2==b.2.2 && true)))) (hz:(P.info? vt).bind (·.zero)=some (.int .i64 0))
  (k:∀(n:Int) (is:Bool),(is=true→n=(AH ms (pasts.getD i.toNat AS.zero) g dy).1)→T (putS σ dst (.tuple #[.int .i64 n,.bool is])) ds h):Bd E ⟨dst,.lookup t x ix true,ty,pos,af,gd⟩ σ ds h T:=by
 obtain ⟨M,h1,h2⟩:=hm;refine MX (a:=(i,g,dy)) (z:=.int .i64 0) ht hx hk h1 hd (hc _) (fun b=>by rw [he,UP.eq_iff]) hz ?_;cases hM:M (i,g,dy) with
 | none=>exact k 0 false (by intro e;cases e)
 | some v=>exact k v true fun _=>h2 _ _ hM
theorem Oi {t kt vt:TypeId} {om ok ox:Operand} {r d:Nat} {ms:List AB} {pasts:List AS} {i g dy n:Int} (ht:Hy P t=some (kt,vt)) (hm':AV σ om=.map (some r)) (hk:AV σ ok=.agg #[.int .i64 i,.int .i64 g,.int .i64 dy]) (hv:AV σ ox=.int .i64 n) (hm:Ag ms pasts r h) (hd:Nat.ble (d+1) 10000=true)
  (hc:∀a,S2 P (d+1) kt (Ht a)=true) (he:∀a b,Lt P (d+1) kt (Ht a) (Ht b)=some (a.1==b.1 && (a.2.1==b.2.1 && (a.2.2==b.2.2 && true)))) (hs:∀a,Instr.sameBits 10000 (Ht a) (Ht a)=true) (hn:n=(AH ms (pasts.getD i.toNat AS.zero) g dy).1)
  (k:∀h',Ag ms pasts r h'→(∀b,b≠r→h' b=h b)→T (putS σ dst undef) ds h'):Bd E ⟨dst,.mapUpdate t om ok ox,ty,pos,af,gd⟩ σ ds h T:=by
 obtain ⟨M,h1,h2⟩:=hm;refine Iq (a:=(i,g,dy)) (v:=n) (ek:=Ht) (ev:=Da) ht hm' hk hv h1 hd (hc _) (fun b=>by rw [he,UP.eq_iff]) (hs _) fun h' g1 g2=>k h' ⟨_,g1,fun a v hav=>?_⟩ g2;by_cases e:a=(i,g,dy)
 ·subst e;rw [if_pos rfl] at hav;cases hav;exact hn
 ·rw [if_neg e] at hav;exact h2 a v hav
end
section
variable {hB h hc h':GH} {ms:List AB} {pasts:List AS} {r:Nat}
theorem B0.nothing (y:B0 hB ms pasts r h hc) {q:Nat} (hq:hc q=none):h q=none:=by
 cases hx:h q with
 | none=>rfl
 | some x=>
  obtain ⟨o',h1,_⟩:=y.keep q x.1 x.2 hx (y.ne hq);rw [h1] at hq;cases hq
theorem Ag.le (x:Ag ms pasts r h) (l:h.Le h'):Ag ms pasts r h':=by
 obtain ⟨o,ho⟩:=x.known;exact x.same ((l.keep ho rfl).trans ho.symm)
theorem Ag.empty (x:h r=some (true,.map #[] 0)):Ag ms pasts r h:=⟨fun _=>none,Dt.empty x,fun a v e=>by cases e⟩
theorem Ag.neCells {b:Nat} {p:Bool} {c:Array Value} {t:TypeId} {z:Nat×Nat} (x:Ag ms pasts r h) (hb:h b=some (p,.cells c t z)):b≠r:=fun e=>by
 obtain ⟨M,⟨es,clk,h1,_⟩,_⟩:=x;rw [e,h1] at hb;cases hb
theorem AU.keepX {α:Type} {X:Nat→Prop} {h0:GH} {v:Value} {t:TypeId} {n:Nat} {enc:α→Array Value} {xs:List α} (x:AU h0 h v t n enc xs) (k:BZ X h h') (hS:∀b,back v=some b→¬X b):AU h0 h' v t n enc xs:=by
 rcases x with x | ⟨b,cap,c,rfl,h2,h3,h4⟩
 ·exact .inl x
 ·exact .inr ⟨b,cap,c,rfl,h2,k.box h3 (hS b rfl) rfl,h4⟩
theorem AN.slDel {α:Type} {v:Value} {n:Nat} {enc:α→Array Value} {xs:List α} (x:AN h v n enc xs) {p:Bool} {es:Array MapEntry} {clk:Nat} (hr:h r=some (p,.map es clk)):AN (h.del r) v n enc xs:=by
 obtain ⟨a,cap,hv,hc,hm,he⟩:=x;refine ⟨a,cap,hv,hc,hm,fun i hi=>?_⟩;obtain ⟨b,off,h1,h2⟩:=he i hi;refine ⟨b,off,h1,h2.del fun e=>?_⟩;obtain ⟨p',c,t,f,hb,_⟩:=h2;rw [e,hr] at hb;cases hb
theorem Ag.slDel {α:Type} (k:Ag ms pasts r h) {v:Value} {n:Nat} {enc:α→Array Value} {xs:List α} (x:AN h v n enc xs):AN (h.del r) v n enc xs:=by
 obtain ⟨M,⟨es,clk,h1,_⟩,_⟩:=k;exact x.slDel h1
end
section
variable {P:Program} {E:FN P} {σ:Nat→Value} {ds:List Deferred} {h:GH}
end
theorem Na (a:UP):Instr.sameBits 10000 (Ht a) (Ht a)=true:=by
 have hi:∀(n:Nat) (x:Int),Instr.sameBits n (.int .i64 x) (.int .i64 x)=true:=fun n x=>by
  cases n <;> (unfold Instr.sameBits;simp)
 unfold Ht;show Instr.sameBits (9999+1) _ _=true;unfold Instr.sameBits;simp only [List.zip_cons_cons,List.zip_nil_left,List.all_cons,List.all_nil,hi];simp
def AW (d m:Int) (gs:List Good) (ms:List AB) (cs:List AK) (o:List Int):Int:=
 if¬AM d m gs ms cs=0 then AM d m gs ms cs else if¬DF (fun k=>o.getD k 0) 0 o.length=0 then DF (fun k=>o.getD k 0) 0 o.length else if (AP d gs ms cs m).length=0 then 9 else 0
section
variable {d m:Int} {gs:List Good} {ms:List AB} {cs:List AK} {o:List Int}
theorem LC (h:¬AM d m gs ms cs=0):AW d m gs ms cs o=AM d m gs ms cs:=by unfold AW;rw [if_pos h]
theorem LD (h:¬¬AM d m gs ms cs=0) {k:Nat} (hs:∀j,j<k→o.getD j 0=0) (hk:k<o.length) (h2:¬o.getD k 0=0):AW d m gs ms cs o=o.getD k 0:=by
 unfold AW;rw [if_neg h,BP (f:=fun k=>o.getD k 0) hs hk rfl h2,if_pos h2]
theorem LE (h:¬¬AM d m gs ms cs=0) {k:Nat} (hs:∀j,j<k→o.getD j 0=0) (hk:o.length≤k) (h2:(AP d gs ms cs m).length=0):AW d m gs ms cs o=9:=by
 unfold AW;rw [if_neg h,CB (f:=fun k=>o.getD k 0) hs hk,if_neg (by simp),if_pos h2]
theorem P5 (h:¬¬AM d m gs ms cs=0) {k:Nat} (hs:∀j,j<k→o.getD j 0=0) (hk:o.length≤k) (h2:¬(AP d gs ms cs m).length=0):AW d m gs ms cs o=0:=by
 unfold AW;rw [if_neg h,CB (f:=fun k=>o.getD k 0) hs hk,if_neg (by simp),if_neg h2]
theorem DM (h:AW d m gs ms cs o=0):BG d m gs ms cs∧(∀k,k<o.length→o.getD k 0=0)∧0<(AP d gs ms cs m).length:=by
 unfold AW at h;split at h <;> first | (rename_i q;exact absurd h q) | skip
 split at h <;> first | (rename_i q;exact absurd h q) | skip
 split at h <;> first | (cases h;done) | skip
 rename_i a b c
 exact ⟨Fb (Decidable.not_not.1 a),fun k hk=>EM (Decidable.not_not.1 b) k (Nat.zero_le _) (by omega),by omega⟩
end
end Go.Ns
namespace Go.Ns
open Go.Conc Go.Sort
def BN (rest:List Value) (d:Array Int):Array Value:=(d.toList.map (fun x=>Value.int .i64 x)++rest).toArray
theorem BB (rest:List Value) (d:Array Int):(BN rest d).size=d.size+rest.length:=by simp [BN]
theorem Al {rest:List Value} {d:Array Int} {i:Nat} (h:i<d.size):(BN rest d)[0+i*1]? =some (.int .i64 d[i]!):=by
 have h1:i<(d.toList.map (fun x=>Value.int .i64 x)).length:=by simpa using h
 rw [Nat.zero_add,Nat.mul_one];unfold BN;rw [List.getElem?_toArray,List.getElem?_append_left h1,List.getElem?_map];simp [h,getElem!_pos]
theorem BY {rest:List Value} {d:Array Int} {i:Nat} {v:Int} (h:i<d.size):Bj (BN rest d) (0+i*1) [.int .i64 v]=BN rest (d.setIfInBounds i v):=by
 rw [Nat.zero_add,Nat.mul_one];show (BN rest d).setIfInBounds i (.int .i64 v)=_;unfold BN;apply Array.toList_inj.1;have h1:i<(d.toList.map (fun x=>Value.int .i64 x)).length:=by simpa using h
 rw [Array.toList_setIfInBounds];simp only [];rw [List.set_append_left _ _ h1,Array.toList_setIfInBounds,List.map_set]
structure Ah (b:Nat) (h hc:GH):Prop where
 keep:BZ (fun x=>x=b) h hc
 dom:∃o,hc b=some o
section
variable {b:Nat} {h hc h':GH}
theorem Ah.start (x:∃o,h b=some o):Ah b h h:=⟨BZ.refl _ _,x⟩
theorem Ah.le (y:Ah b h hc) (l:hc.Le h'):Ah b h h':=⟨y.keep.trans (fun _ q=>.inl q) (l.keepX _),l.someOf y.dom⟩
theorem Ah.put (y:Ah b h hc) (ho:∀x,x≠b→h' x=hc x) (x:∃o,h' b=some o):Ah b h h':=⟨y.keep.store' (.inl rfl) ho,x⟩
theorem Ah.ne (y:Ah b h hc) {q:Nat} (hq:hc q=none):q≠b:=fun e=>by
 obtain ⟨o,ho⟩:=y.dom;rw [e,ho] at hq;cases hq
theorem Ah.nothing (y:Ah b h hc) {q:Nat} (hq:hc q=none):h q=none:=by
 cases hx:h q with
 | none=>rfl
 | some x=>
  obtain ⟨o',h1,_⟩:=y.keep q x.1 x.2 hx (y.ne hq);rw [h1] at hq;cases hq
theorem Ah.store (y:Ah b h hc) {q:Nat} (hq:h q=none) (hn:q≠b) (ho:∀x,x≠q→h' x=hc x):Ah b h h':=⟨y.keep.store hq ho,by rw [ho b (Ne.symm hn)];exact y.dom⟩
theorem Ah.call (y:Ah b h hc) (k:BZ (fun x=>x=b) hc h') (x:∃o,h' b=some o):Ah b h h':=⟨y.keep.trans (fun _ q=>.inl q) k,x⟩
end
def E0 (d:Array Int) (off:Nat):Array Int:=(d.toList.take off++List.replicate (d.size-off) 0).toArray
theorem L7 (d:Array Int) (off:Nat):(E0 d off).size=d.size:=by simp [E0];omega
theorem Ro {a j:Nat} {dd:Array Int} (h:(a:Int)<(j:Int)∧dd[j]! <dd[((j:Int)-1).toNat]!) :
  insInner ltInt a j dd=insInner ltInt a (j-1) ((dd.setIfInBounds j dd[((j:Int)-1).toNat]!).setIfInBounds ((j:Int)-1).toNat dd[j]!):=by
 obtain ⟨h1,h2⟩:=h;cases j with
 | zero=>omega
 | succ j=>
  have e:(((j+1:Nat):Int)-1).toNat=j:=by omega
  rw [e] at h2 ⊢
  conv=>lhs;unfold insInner
  rw [if_pos (by unfold ltInt;simp;exact ⟨by omega,h2⟩)];rfl
theorem TG {a j:Nat} {dd:Array Int} (h:¬((a:Int)<(j:Int)∧dd[j]! <dd[((j:Int)-1).toNat]!)):insInner ltInt a j dd=dd:=by
 cases j with
 | zero=>rfl
 | succ j=>
  have e:(((j+1:Nat):Int)-1).toNat=j:=by omega
  rw [e] at h;unfold insInner;rw [if_neg (by unfold ltInt;simp;intro q;exact Int.not_lt.1 fun r=>h ⟨by omega,r⟩)]
theorem L9 {a b i:Nat} {dd:Array Int} (h:i<b):insOuter ltInt a b i dd=insOuter ltInt a b (i+1) (insInner ltInt a i dd):=by
 conv=>lhs;unfold insOuter
 rw [if_pos h]
theorem Nc {a b i:Nat} {dd:Array Int} (h:¬(i:Int)<b):insOuter ltInt a b i dd=dd:=by
 unfold insOuter;rw [if_neg (by omega)]
def HI (l:List Int):List Int:=(Go.Sort.sort ltInt l.toArray).toList
theorem F4 {a r:Int} {k:Nat} (h:k≤63) (e:a / 2 ^ k=r):a.fdiv (2 ^ (min ((k:Int)).toNat IntKind.u64.bits))=r:=by
 have:min ((k:Int)).toNat IntKind.u64.bits=k:=by
  show min ((k:Int)).toNat 64=k;omega
 have hp:(0:Int)≤2 ^ k:=by
  have:=Nat.zero_le (2 ^ k)
  exact_mod_cast this
 rw [this,Int.fdiv_eq_ediv_of_nonneg _ hp,e]
section
variable {P:Program} {E:FN P} {σ:Nat→Value} {ds:List Deferred} {h:GH} {T:(Nat→Value)→List Deferred→GH→Prop}
variable {dst:Option Nat} {ty:TypeId} {pos:String} {af:Array Edge} {gd:Option (Nat×Bool)}
end
theorem RO (l:List Int):Cc eI l=l.map (fun x=>Value.int .i64 x):=by
 induction l with
 | nil=>rfl
 | cons x l ih=>show (eI x).toList++Cc eI l=_;rw [ih];rfl
theorem AU.row {h0 h:GH} {v:Value} {xs:List Int} (x:AU h0 h v 3 1 eI xs) (hne:xs≠[]) :
  ∃b cap rest,v=.slice (some ⟨b,0,none⟩) xs.toArray.size cap∧h b=some (true,.cells (BN rest xs.toArray) 3 (0,0)):=by
 rcases x with ⟨_,e⟩ | ⟨b,cap,c,rfl,h1,h2,h3,h4,h5,h6,h7⟩
 ·exact absurd e hne
 ·refine ⟨b,cap,c.toList.drop xs.length,by simp,?_⟩;have e:c=BN (c.toList.drop xs.length) xs.toArray:=by
   apply Array.toList_inj.1;unfold BN;simp only [];rw [←RO,←h6,Nat.mul_one,List.take_append_drop]
  rw [←e];exact h2
theorem AU.ofRow {h0 h h':GH} {b cap:Nat} {rest:List Value} {xs:List Int} {D:Array Int} (x:AU h0 h (.slice (some ⟨b,0,none⟩) xs.toArray.size cap) 3 1 eI xs) (hne:xs≠[]) (hD:D.size=xs.length) (hb:h b=some (true,.cells (BN rest xs.toArray) 3 (0,0))) (hb':h' b=some (true,.cells (BN rest D) 3 (0,0))) :
  AU h0 h' (.slice (some ⟨b,0,none⟩) xs.toArray.size cap) 3 1 eI D.toList:=by
 rcases x with ⟨e,_⟩ | ⟨b1,cap1,c,e,h1,h2,h3,h4,h5,h6,h7⟩
 ·cases e
 ·simp only [Value.slice.injEq,Option.some.injEq,Addr.mk.injEq] at e;obtain ⟨⟨rfl,_⟩,_,rfl⟩:=e;rw [hb] at h2;simp only [Option.some.injEq,Prod.mk.injEq,Obj.cells.injEq,true_and,and_true] at h2;subst h2;have hDl:D.toList.length=xs.length:=by rw [Array.length_toList];exact hD
  refine .inr ⟨b,cap,_,by rw [hDl];simp,h1,hb',?_,by omega,by omega,?_,fun y _=>rfl⟩
  ·rw [BB] at h3 ⊢;rw [hD];simpa using h3
  ·unfold BN;simp only [Nat.mul_one];rw [RO,←List.length_map (f:=fun x=>Value.int .i64 x),List.take_append_of_le_length (Nat.le_refl _),List.take_length]
theorem BZ.grownSame {h h':GH} {b cap n:Nat} (k:BZ (fun x=>x=b) h h'):Dx h h' (.slice (some ⟨b,0,none⟩) n cap) (.slice (some ⟨b,0,none⟩) n cap):=
 ⟨fun r o hr hn=>(by
  obtain ⟨o',h1,rfl | ⟨h2,_⟩⟩:=k r o.1 o.2 hr (fun e=>hn (by rw [e];rfl))
  ·exact h1
  ·cases h2),.inl rfl⟩
section
variable {P:Program} {E:FN P} {σ:Nat→Value} {ds:List Deferred} {h:GH} {T:(Nat→Value)→List Deferred→GH→Prop}
variable {dst:Option Nat} {ty:TypeId} {pos:String} {af:Array Edge} {gd:Option (Nat×Bool)}
theorem P6 {t:TypeId} {x o:Operand} {b len cap hi:Nat} (ht:Dc P t=some 1) (hc:len≤cap) (hx:AV σ x=.slice (some ⟨b,0,none⟩) len cap) (ho:∃kd,AV σ o=.int kd hi) (h2:hi≤len) (k:T (putS σ dst (.slice (some ⟨b,0,none⟩) hi cap)) ds h) :
  Bd E ⟨dst,.slice t x none (some o) none,ty,pos,af,gd⟩ σ ds h T:=by
 refine JY (olo:=none) (ohi:=some o) 0 hi ht hc hx rfl ho (Nat.zero_le _) h2 ?_;have e:(if cap=0 then (some ⟨b,0,none⟩:Option Addr) else (some ⟨b,0,none⟩:Option Addr).map (·.add (0*1)))=some ⟨b,0,none⟩:=by
  split
  ·rfl
  ·simp [Gh]
 rw [e];exact k
theorem I0 {t:TypeId} {x o:Operand} {b len cap lo:Nat} (ht:Dc P t=some 1) (hc:len≤cap) (hx:AV σ x=.slice (some ⟨b,0,none⟩) len cap) (ho:∃kd,AV σ o=.int kd lo) (h2:lo<len) (k:T (putS σ dst (.slice (some ⟨b,lo,none⟩) (len-lo) (cap-lo))) ds h) :
  Bd E ⟨dst,.slice t x (some o) none none,ty,pos,af,gd⟩ σ ds h T:=by
 refine JY (olo:=some o) (ohi:=none) lo len ht hc hx ho rfl (Nat.le_of_lt h2) (Nat.le_refl _) ?_;have e:(if cap=lo then (some ⟨b,0,none⟩:Option Addr) else (some ⟨b,0,none⟩:Option Addr).map (·.add (lo*1)))=some ⟨b,lo,none⟩:=by
  rw [if_neg (by omega)];simp [Gh]
 rw [e];exact k
theorem Oj {t e:TypeId} {x:Operand} {b off len cap:Nat} {rest:List Value} {d:Array Int} {z:Nat} (ht:Dd P t=some (1,#[.int .i64 0],e)) (hx:AV σ x=.slice (some ⟨b,off,none⟩) len cap) (hb:h b=some (true,.cells (BN rest d) z (0,0))) (hn:off+len=d.size) (hl:0<len)
  (k:∀h',h' b=some (true,.cells (BN rest (E0 d off)) z (0,0))→(∀x,x≠b→h' x=h x)→T (putS σ dst (.tuple #[])) ds h') :
  Bd E ⟨dst,.call ⟨.builtin .clear,#[x],#[t]⟩,ty,pos,af,gd⟩ σ ds h T:=by
 refine EC (vs:=#[.slice (some ⟨b,off,none⟩) len cap]) (s:=Builtin.clear_ #[t] ty #[.slice (some ⟨b,off,none⟩) len cap]) (by simp [hx]) (fun _=>rfl) ?_;unfold Dd at ht;cases hu:P.underlying t with
 | none=>rw [hu] at ht;cases ht
 | some dd=>
 rw [hu] at ht;cases dd <;> first | (cases ht;done) | skip
 rename_i el
 simp only at ht;cases hty:B8 P el with
 | none=>rw [hty] at ht;cases ht
 | some g=>
 cases hz:Bt P el with
 | none=>rw [hty,hz] at ht;cases ht
 | some z'=>
 rw [hty,hz] at ht;simp only [Option.some.injEq,Prod.mk.injEq] at ht;obtain ⟨_,rfl,rfl⟩:=ht;unfold Builtin.clear_;simp only [List.getElem?_toArray,List.getElem?_cons_zero];refine AG _ _ (Ak hu ?_);obtain ⟨len,rfl⟩:∃m,len=m+1:=⟨len-1,by omega⟩;have hzero:∀{Q:Value→GH→Prop} {h:GH},(∀v,v.cells=#[.int .i64 0]→Q v h)→(zeroValue el).gh P h Q:=fun {Q h} q=>by
  unfold Bt at hz;unfold zeroValue;cases hi:P.info? el with
  | none=>rw [hi] at hz;cases hz
  | some i=>
   rw [hi] at hz;simp only [Option.map_eq_some_iff] at hz;obtain ⟨v,hv,e⟩:=hz;refine AG _ _ (CQ hi ?_);rw [hv];exact q v e
 refine AG _ _ (hzero fun vz hvz=>?_);rw [hvz];have hcells:(Builtin.zeroCells #[.int .i64 0] (len+1)).toList=List.replicate (len+1) (.int .i64 0):=by
  unfold Builtin.zeroCells;apply List.ext_getElem
  ·simp
  ·intro i h1 h2;simp [Nat.mod_one]
 rw [hcells];have hsz:d.size=d.toList.length:=by simp
 refine AG _ _ (Er (a:=⟨b,off,none⟩) rfl _ 0 (BN rest d) h ?_ hb ?_ ?_)
 ·intro y hy;rw [List.eq_of_mem_replicate hy];rfl
 ·rw [BB,List.length_replicate];show off+0+(len+1)≤_;omega
 ·refine Au (k _ ?_ fun x hx=>GH.set_ne _ _ _ hx);have e:Bj (BN rest d) (off+0) (List.replicate (len+1) (.int .i64 0))=BN rest (E0 d off):=by
   apply Array.toList_inj.1;rw [DT _ _ _ (by rw [BB,List.length_replicate];omega)];unfold BN E0;simp only [List.length_replicate,Nat.add_zero,List.map_append,List.map_take,List.map_replicate];have h1:off≤(d.toList.map (fun x=>Value.int .i64 x)).length:=by simp;omega
   rw [List.take_append_of_le_length h1,show d.size-off=len+1 by omega];congr 1;rw [show off+(len+1)=(d.toList.map (fun x=>Value.int .i64 x)).length by simp;omega,List.drop_left]
  rw [←e];exact GH.set_same _ _ _ _
end
def E9 (acc:List Int) (x:Int):List Int:=if acc.getLast? =some x then acc else acc++[x]
def Cn (l:List Int):List Int:=l.foldl E9 []
theorem LF (acc:List Int) (x:Int):(E9 acc x).getLast? =some x:=by
 unfold E9;split
 ·assumption
 ·simp
theorem Ff {d:Array Int} {j:Nat} (hj:j<d.size):Cn (d.toList.take (j+1))=E9 (Cn (d.toList.take j)) d[j]! :=by
 have e:d.toList.take (j+1)=d.toList.take j++[d[j]!]:=by
  rw [List.take_succ_eq_append_getElem (by simpa using hj)];simp [getElem!_pos,hj]
 rw [e];unfold Cn;rw [List.foldl_append];rfl
theorem P7 {d:Array Int} {j:Nat} (hj:j<d.size):(Cn (d.toList.take (j+1))).getLast? =some d[j]! :=by
 rw [Ff hj];exact LF _ _
theorem Jd {rest:List Value} {d:Array Int} {o i:Nat} (h:o+i<d.size):(BN rest d)[o+i*1]? =some (.int .i64 d[o+i]!):=by
 have:=Al (rest:=rest) h
 rw [Nat.zero_add,Nat.mul_one] at this;rw [Nat.mul_one];exact this
theorem H2 {d:Array Int} {j:Nat} (hj:j<d.size):d.toList.take (j+1)=d.toList.take j++[d[j]!]:=by
 rw [List.take_succ_eq_append_getElem (by simpa using hj)];simp [getElem!_pos,hj]
theorem Gu {d:Array Int} {j:Nat} (h1:1≤j) (hj:j≤d.size):(Cn (d.toList.take j)).getLast? =some d[j-1]! :=by
 obtain ⟨i,rfl⟩:∃i,j=i+1:=⟨j-1,by omega⟩;exact P7 (by omega)
theorem Nd {d:Array Int} {k:Nat} (h1:1≤k) (hk:k<d.size) (h:¬d[k]! =d[((k:Int)-1).toNat]!) (hs:Cn (d.toList.take k)=d.toList.take k):Cn (d.toList.take (k+1))=d.toList.take (k+1):=by
 rw [Ff hk,H2 hk];unfold E9;rw [Gu h1 (by omega),if_neg (by rw [show ((k:Int)-1).toNat=k-1 by omega] at h;simpa using fun e=>h e.symm),hs]
theorem Nf {d:Array Int} {k:Nat} (h1:1≤k) (hk:k<d.size) (h:d[k]! =d[((k:Int)-1).toNat]!) (hs:Cn (d.toList.take k)=d.toList.take k):d.toList.take k=Cn (d.toList.take (k+1)):=by
 rw [Ff hk];unfold E9;rw [Gu h1 (by omega),if_pos (by rw [show ((k:Int)-1).toNat=k-1 by omega] at h;rw [h]),hs]
theorem P8 {d dd:Array Int} {k q kk:Nat} (hq:1≤q∧k+q<d.size) (hkk:k≤kk∧kk+1≤k+q) (hsz:dd.size=d.size) (hd:∀j,kk≤j→dd[j]! =d[j]!) (hdd:dd.toList.take kk=Cn (d.toList.take (k+q))) (h:¬dd[k+q]! =dd[k+((q:Int)-1).toNat]!) :
  (dd.setIfInBounds kk dd[k+q]!).toList.take (kk+1)=Cn (d.toList.take (k+(q+1))):=by
 have e1:((q:Int)-1).toNat=q-1:=by omega
 rw [e1,hd _ (by omega),hd _ (by omega)] at h;rw [show k+(q+1)=(k+q)+1 by omega,Ff hq.2];unfold E9;rw [Gu (by omega) (by omega),if_neg (by rw [show k+q-1=k+(q-1) by omega];simpa using fun e=>h e.symm),←hdd,hd _ (by omega),Array.toList_setIfInBounds];rw [List.take_succ_eq_append_getElem (by simp;omega),List.take_set_of_le (by omega)];simp
theorem P9 {d dd:Array Int} {k q kk:Nat} (hq:1≤q∧k+q<d.size) (hkk:k≤kk∧kk+1≤k+q) (hd:∀j,kk≤j→dd[j]! =d[j]!) (hdd:dd.toList.take kk=Cn (d.toList.take (k+q))) (h:dd[k+q]! =dd[k+((q:Int)-1).toNat]!) :
  dd.toList.take kk=Cn (d.toList.take (k+(q+1))):=by
 have e1:((q:Int)-1).toNat=q-1:=by omega
 rw [e1,hd _ (by omega),hd _ (by omega)] at h;rw [show k+(q+1)=(k+q)+1 by omega,Ff hq.2];unfold E9;rw [Gu (by omega) (by omega),if_pos (by rw [show k+q-1=k+(q-1) by omega,h]),hdd]
theorem Rp {d dd:Array Int} {kk:Nat} {x:Int} (hd:∀j,kk≤j→dd[j]! =d[j]!):∀j,kk+1≤j→(dd.setIfInBounds kk x)[j]! =d[j]! :=fun j hj=>by
 rw [←hd j (by omega)];simp only [getElem!_def,Array.getElem?_setIfInBounds_ne (show kk≠j by omega)]
theorem MA {d:Array Int} {k:Nat} (h:k≤d.size):(E0 d k).toList.take k=d.toList.take k:=by
 unfold E0;simp only [];rw [List.take_append_of_le_length (by simp;omega),List.take_take];simp
theorem Ok {d:Array Int} (h:2≤d.size):Cn (d.toList.take 1)=d.toList.take 1:=by
 have e:=H2 (d:=d) (j:=0) (by omega);rw [Nat.zero_add] at e;rw [e];rfl
theorem Ol {d:Array Int} {k:Nat} (hs:Cn (d.toList.take k)=d.toList.take k) (h1:k≤d.size) (h2:d.size≤k):d.toList.take d.size=Cn d.toList:=by
 rw [show k=d.toList.length by simp;omega,List.take_length] at hs;rw [hs,←Array.length_toList,List.take_length]
theorem Om {d:Array Int} (h:d.size<2):d.toList.take d.size=Cn d.toList:=by
 rw [←Array.length_toList,List.take_length]
 have:d.toList.length<2:=by simpa using h
 match hd:d.toList,this with
 | [],_=>rfl
 | [x],_=>rfl
 | _ ::_ ::_,h=>simp at h;omega
theorem HJ (l:List Int):HI l=l.mergeSort (fun x y=>decide (x≤y)):=sortInt l
theorem Gv (l:List Int):(HI l).length=l.length:=by rw [HJ,List.length_mergeSort]
theorem On {l:List Int} (h:l≠[]):HI l≠[]:=fun e=>by
 have:=congrArg List.length e
 rw [Gv] at this;exact h (List.length_eq_zero_iff.1 this)
end Go.Ns
namespace Go.Ns
open Go.Conc Go.Sort
theorem Je:SWO ltInt:=⟨fun x=>by unfold ltInt;simp,fun x y z=>by unfold ltInt;simp;omega,fun x y z=>by unfold ltInt;simp;omega⟩
theorem Oo {d dd:Array Int} {a b i j:Nat} (h:PermIn a b d dd) (hi:a≤i∧i<b) (hj:a≤j∧j<b) (hb:b≤d.size):PermIn a b d ((dd.setIfInBounds i dd[j]!).setIfInBounds j dd[i]!):=
 permIn_trans _ _ _ a b h (swp_permIn dd a b i j hi.1 hi.2 hj.1 hj.2 (by rw [h.1];exact hb))
theorem TH {hi first root:Nat} {dd:Array Int} (h:hi≤2*root+1):siftDown ltInt hi first root dd=dd:=by
 unfold siftDown;rw [dif_pos h]
theorem U1 {hi first root:Nat} {dd:Array Int} (h:¬hi≤2*root+1) (h1:2*root+1+1<hi) (h1':dd[first+(2*root+1)]! <dd[first+(2*root+1)+1]!) (h2:dd[first+root]! <dd[first+(2*root+1+1)]!) :
  siftDown ltInt hi first root dd=siftDown ltInt hi first (2*root+1+1) (swp dd (first+root) (first+(2*root+1+1))):=by
 have h2':dd[first+root]! <dd[first+(2*root+2)]! :=h2
 conv=>lhs;unfold siftDown
 rw [dif_neg h,if_pos (by unfold ltInt;simpa using ⟨h1,h1'⟩),if_neg (by unfold ltInt;simpa using h2'),dif_pos (by omega)]
theorem UQ {hi first root:Nat} {dd:Array Int} (h:¬hi≤2*root+1) (h1:2*root+1+1<hi) (h1':dd[first+(2*root+1)]! <dd[first+(2*root+1)+1]!) (h2:¬dd[first+root]! <dd[first+(2*root+1+1)]!) :
  siftDown ltInt hi first root dd=dd:=by
 have h2':¬dd[first+root]! <dd[first+(2*root+2)]! :=h2;unfold siftDown;rw [dif_neg h,if_pos (by unfold ltInt;simpa using ⟨h1,h1'⟩),if_pos (by unfold ltInt;simpa using h2')]
theorem U2 {hi first root:Nat} {dd:Array Int} (h:¬hi≤2*root+1) (h1:¬(2*root+1+1<hi∧dd[first+(2*root+1)]! <dd[first+(2*root+1)+1]!)) (h2:dd[first+root]! <dd[first+(2*root+1)]!) :
  siftDown ltInt hi first root dd=siftDown ltInt hi first (2*root+1) (swp dd (first+root) (first+(2*root+1))):=by
 conv=>lhs;unfold siftDown
 rw [dif_neg h,if_neg (by unfold ltInt;simpa using h1),if_neg (by unfold ltInt;simpa using h2)]
theorem UR {hi first root:Nat} {dd:Array Int} (h:¬hi≤2*root+1) (h1:¬(2*root+1+1<hi∧dd[first+(2*root+1)]! <dd[first+(2*root+1)+1]!)) (h2:¬dd[first+root]! <dd[first+(2*root+1)]!) :
  siftDown ltInt hi first root dd=dd:=by
 unfold siftDown;rw [dif_neg h,if_neg (by unfold ltInt;simpa using h1),if_pos (by unfold ltInt;simpa using h2)]
theorem Jf (hi first root:Nat) (d:Array Int):(siftDown ltInt hi first root d).size=d.size:=by
 fun_induction siftDown ltInt hi first root d <;> simp_all [swp]
theorem QA {z a k:Nat} {dd:Array Int} (hk:(0:Int)≤(k:Int)-1):heapBuild ltInt (z-a) a k dd=heapBuild ltInt (z-a) a (k-1) (siftDown ltInt ((z:Int)-(a:Int)).toNat a ((k:Int)-1).toNat dd):=by
 obtain ⟨q,rfl⟩:∃q,k=q+1:=⟨k-1,by omega⟩;rw [show ((z:Int)-(a:Int)).toNat=z-a by omega,show (((q+1:Nat):Int)-1).toNat=q by omega];rfl
theorem Rq {z a k:Nat} {dd:Array Int} (hk:¬(0:Int)≤(k:Int)-1):heapBuild ltInt (z-a) a k dd=dd:=by
 obtain rfl:k=0:=by omega
 rfl
theorem QB {a k:Nat} {dd:Array Int} (hk:(0:Int)≤(k:Int)-1):heapPop ltInt a k dd=heapPop ltInt a (k-1) (siftDown ltInt ((k:Int)-1).toNat a (0:Int).toNat ((dd.setIfInBounds a dd[((a:Int)+((k:Int)-1)).toNat]!).setIfInBounds ((a:Int)+((k:Int)-1)).toNat dd[a]!)):=by
 obtain ⟨q,rfl⟩:∃q,k=q+1:=⟨k-1,by omega⟩;rw [show ((a:Int)+(((q+1:Nat):Int)-1)).toNat=a+q by omega,show (((q+1:Nat):Int)-1).toNat=q by omega];rfl
theorem Rr {a k:Nat} {dd:Array Int} (hk:¬(0:Int)≤(k:Int)-1):heapPop ltInt a k dd=dd:=by
 obtain rfl:k=0:=by omega
 rfl
theorem DV {P:Program} {W:Wk P} {f:FuncId} {b cap m n:Nat} {as:List Value} {h:GH} {R:Value→GH→Prop} (e:m=n) (x:Ab W f (Value.slice (some ⟨b,0,none⟩) m cap ::as).toArray h R):Ab W f (Value.slice (some ⟨b,0,none⟩) n cap ::as).toArray h R:=e▸x
def QC (dd:Array Int) (a j i:Nat):Nat:=scanUp (fun x=>ltInt x dd[a]!) dd j i
def Rs (dd:Array Int) (a i j:Nat):Nat:=scanDown (fun x=> !ltInt x dd[a]!) dd i j
def Sd (dd:Array Int) (a j i:Nat):Nat:=scanUp (fun x=> !ltInt dd[a]! x) dd j i
def TJ (dd:Array Int) (a i j:Nat):Nat:=scanDown (fun x=>ltInt dd[a]! x) dd i j
theorem Mi {p:Int→Bool} {dd:Array Int} {j i:Nat} (h1:i≤j) (h2:p dd[i]! =true):scanUp p dd j i=scanUp p dd j (i+1):=by
 conv=>lhs;unfold scanUp
 rw [if_pos (by simp [h1,h2])]
theorem LG {p:Int→Bool} {dd:Array Int} {j i:Nat} (h:¬(i≤j∧p dd[i]! =true)):scanUp p dd j i=i:=by
 unfold scanUp;rw [if_neg (by simpa using h)]
theorem J1 {p:Int→Bool} {dd:Array Int} {i j:Nat} (hi:1≤i) (h1:i≤j) (h2:p dd[j]! =true):scanDown p dd i j=scanDown p dd i (j-1):=by
 obtain ⟨q,rfl⟩:∃q,j=q+1:=⟨j-1,by omega⟩
 conv=>lhs;unfold scanDown
 rw [if_pos (by simp [h1,h2])];rfl
theorem I2 {p:Int→Bool} {dd:Array Int} {i j:Nat} (h:¬(i≤j∧p dd[j]! =true)):scanDown p dd i j=j:=by
 cases j with
 | zero=>rfl
 | succ q=>unfold scanDown;rw [if_neg (by simpa using h)]
section
variable {d dd:Array Int} {a z p i j i0 j0:Nat}
theorem Oq {J:Int} (h:(i:Int)≤J∧dd[i]! <dd[a]!) (hJ:J=(j:Int)):QC dd a j i=QC dd a j (i+1):=Mi (by omega) (decide_eq_true h.2)
theorem RP {J:Int} (h:¬((i:Int)≤J∧dd[i]! <dd[a]!)) (hJ:J=(j:Int)):QC dd a j i=i:=LG fun q=>h ⟨by omega,of_decide_eq_true q.2⟩
theorem Or (hi:1≤i) (h:(i:Int)≤(j:Int)∧¬dd[j]! <dd[a]!):Rs dd a i j=Rs dd a i (j-1):=J1 hi (by omega) (by unfold ltInt;simpa using h.2)
theorem KM (h:¬((i:Int)≤(j:Int)∧¬dd[j]! <dd[a]!)):Rs dd a i j=j:=I2 fun q=>h ⟨by omega,by have:=q.2;unfold ltInt at this;simpa using this⟩
theorem TK {J:Int} (h:(i:Int)≤J∧¬dd[a]! <dd[i]!) (hJ:J=(j:Int)):Sd dd a j i=Sd dd a j (i+1):=Mi (by omega) (by unfold ltInt;simpa using h.2)
theorem US {J:Int} (h:¬((i:Int)≤J∧¬dd[a]! <dd[i]!)) (hJ:J=(j:Int)):Sd dd a j i=i:=LG fun q=>h ⟨by omega,by have:=q.2;unfold ltInt at this;simpa using this⟩
theorem TL (hi:1≤i) (h:(i:Int)≤(j:Int)∧dd[a]! <dd[j]!):TJ dd a i j=TJ dd a i (j-1):=J1 hi (by omega) (decide_eq_true h.2)
theorem RQ (h:¬((i:Int)≤(j:Int)∧dd[a]! <dd[j]!)):TJ dd a i j=j:=I2 fun q=>h ⟨by omega,of_decide_eq_true q.2⟩
theorem Mj (hu:QC dd a j0 i=QC dd a j0 i0) (hue:QC dd a j0 i=i) (hv:Rs dd a i j=Rs dd a i j0) (hve:Rs dd a i j=j) (h:j<i):partLoop ltInt a i0 j0 dd=(j,dd):=by
 have e1:scanUp (fun x=>ltInt x dd[a]!) dd j0 i0=i:=by rw [←hue,hu];rfl
 have e2:scanDown (fun x=> !ltInt x dd[a]!) dd i j0=j:=by rw [←hve,hv];rfl
 rw [partLoop_eq,e1,e2,if_pos h]
theorem Ot (hu:QC dd a j0 i=QC dd a j0 i0) (hue:QC dd a j0 i=i) (hv:Rs dd a i j=Rs dd a i j0) (hve:Rs dd a i j=j) (h:¬j<i):partLoop ltInt a i0 j0 dd=partLoop ltInt a (i+1) (j-1) (swp dd i j):=by
 have e1:scanUp (fun x=>ltInt x dd[a]!) dd j0 i0=i:=by rw [←hue,hu];rfl
 have e2:scanDown (fun x=> !ltInt x dd[a]!) dd i j0=j:=by rw [←hve,hv];rfl
 rw [partLoop_eq,e1,e2,if_neg h]
theorem Ru (hu:Sd dd a j0 i=Sd dd a j0 i0) (hue:Sd dd a j0 i=i) (hv:TJ dd a i j=TJ dd a i j0) (hve:TJ dd a i j=j) (h:j<i):partEqLoop ltInt a i0 j0 dd=(i,dd):=by
 have e1:scanUp (fun x=> !ltInt dd[a]! x) dd j0 i0=i:=by rw [←hue,hu];rfl
 have e2:scanDown (fun x=>ltInt dd[a]! x) dd i j0=j:=by rw [←hve,hv];rfl
 rw [partEqLoop_eq,e1,e2,if_pos h]
theorem TM (hu:Sd dd a j0 i=Sd dd a j0 i0) (hue:Sd dd a j0 i=i) (hv:TJ dd a i j=TJ dd a i j0) (hve:TJ dd a i j=j) (h:¬j<i):partEqLoop ltInt a i0 j0 dd=partEqLoop ltInt a (i+1) (j-1) (swp dd i j):=by
 have e1:scanUp (fun x=> !ltInt dd[a]! x) dd j0 i0=i:=by rw [←hue,hu];rfl
 have e2:scanDown (fun x=>ltInt dd[a]! x) dd i j0=j:=by rw [←hve,hv];rfl
 rw [partEqLoop_eq,e1,e2,if_neg h]
theorem Ou (h:partLoop ltInt a (a+1) (z-1) (swp d a p)=(j,dd)):∃q,partition ltInt d a z p=(j,q,swp dd j a):=by
 have h1:=partition_fst ltInt d a z p;have h2:=partition_arr ltInt d a z p;rw [h] at h1 h2;exact ⟨(partition ltInt d a z p).2.1,Prod.ext h1 (Prod.ext rfl h2)⟩
theorem Rv (h:partEqLoop ltInt a (a+1) (z-1) (swp d a p)=(i,dd)):partitionEqual ltInt d a z p=(i,dd):=h
theorem Vk {J:Int} {c:Int} (h1:¬((i:Int)≤J∧dd[i]! <c)) (hJ:(j:Int)≤J) (h2:¬((i:Int)≤(j:Int)∧¬dd[j]! <c)) (h:¬(j:Int)<(i:Int)):i<j:=by
 by_cases e:i=j
 ·subst e;exact absurd (Decidable.not_not.1 fun q=>h2 ⟨by omega,q⟩) fun q=>h1 ⟨hJ,q⟩
 ·omega
theorem V5 {J:Int} {c:Int} (h1:¬((i:Int)≤J∧¬c<dd[i]!)) (hJ:(j:Int)≤J) (h2:¬((i:Int)≤(j:Int)∧c<dd[j]!)) (h:¬(j:Int)<(i:Int)):i<j:=by
 by_cases e:i=j
 ·subst e;exact absurd (show¬c<dd[i]! from fun q=>h2 ⟨by omega,q⟩) fun q=>h1 ⟨hJ,q⟩
 ·omega
variable {de df:Array Int} {s i2:Nat} {J:Int}
theorem QD (h:(i:Int)<(z:Int)∧¬dd[i]! <dd[((i:Int)-1).toNat]!):scanSorted ltInt dd z i=scanSorted ltInt dd z (i+1):=by
 rw [show ((i:Int)-1).toNat=i-1 by omega] at h
 conv=>lhs;unfold scanSorted
 rw [if_pos (by unfold ltInt;simp only [Bool.and_eq_true,decide_eq_true_eq,Bool.not_eq_true',decide_eq_false_iff_not];exact ⟨by omega,h.2⟩)]
theorem GR (h:¬((i:Int)<(z:Int)∧¬dd[i]! <dd[((i:Int)-1).toNat]!)):scanSorted ltInt dd z i=i:=by
 rw [show ((i:Int)-1).toNat=i-1 by omega] at h;unfold scanSorted;rw [if_neg (by unfold ltInt;simp only [Bool.and_eq_true,decide_eq_true_eq,Bool.not_eq_true',decide_eq_false_iff_not];exact fun q=>h ⟨by omega,q.2⟩)]
theorem Ng (hj:1≤j) (h:dd[j]! <dd[((j:Int)-1).toNat]!):shiftDown ltInt j dd=shiftDown ltInt (j-1) ((dd.setIfInBounds j dd[((j:Int)-1).toNat]!).setIfInBounds ((j:Int)-1).toNat dd[j]!):=by
 obtain ⟨q,rfl⟩:∃q,j=q+1:=⟨j-1,by omega⟩;rw [show (((q+1:Nat):Int)-1).toNat=q by omega] at h ⊢
 conv=>lhs;unfold shiftDown
 rw [if_neg (by unfold ltInt;simpa using h)];rfl
theorem J2 (h:¬(1:Int)≤(j:Int)∨¬dd[j]! <dd[((j:Int)-1).toNat]!):shiftDown ltInt j dd=dd:=by
 cases j with
 | zero=>rfl
 | succ q=>
  rw [show (((q+1:Nat):Int)-1).toNat=q by omega] at h;unfold shiftDown;rw [if_pos (by unfold ltInt;simp only [Bool.not_eq_true',decide_eq_false_iff_not];rcases h with h | h;omega;exact h)]
theorem Nh (hj:(j:Int)<(z:Int)) (h1:1≤j) (h:dd[j]! <dd[((j:Int)-1).toNat]!):shiftUp ltInt z j dd=shiftUp ltInt z (j+1) ((dd.setIfInBounds j dd[((j:Int)-1).toNat]!).setIfInBounds ((j:Int)-1).toNat dd[j]!):=by
 rw [show ((j:Int)-1).toNat=j-1 by omega] at h ⊢
 conv=>lhs;unfold shiftUp
 rw [if_pos (by omega),if_neg (by unfold ltInt;simpa using h)];rfl
theorem J3 (h:¬(j:Int)<(z:Int)∨¬dd[j]! <dd[((j:Int)-1).toNat]!):shiftUp ltInt z j dd=dd:=by
 by_cases hj:j<z
 ·rw [show ((j:Int)-1).toNat=j-1 by omega] at h;unfold shiftUp;rw [if_pos hj,if_pos (by unfold ltInt;simp only [Bool.not_eq_true',decide_eq_false_iff_not];rcases h with h | h;omega;exact h)]
 ·unfold shiftUp;rw [if_neg hj]
theorem Rw (he:scanSorted ltInt dd z i=i2) (h:i2=z):partialIns ltInt a z (s+1) i dd=(dd,true):=by
 rw [partialIns_succ,he,if_pos h]
theorem QE (he:scanSorted ltInt dd z i=i2) (h:¬i2=z) (h2:z-a<50):partialIns ltInt a z (s+1) i dd=(dd,false):=by
 rw [partialIns_succ,he,if_neg h,if_pos h2]
theorem Jg (he:scanSorted ltInt dd z i=i2) (h:¬i2=z) (h2:¬z-a<50) (hd:de=if i2-a≥2 then shiftDown ltInt (i2-1) (swp dd i2 (i2-1)) else swp dd i2 (i2-1)) (hf:df=if z-i2≥2 then shiftUp ltInt z (i2+1) de else de) :
  partialIns ltInt a z (s+1) i dd=partialIns ltInt a z s i2 df:=by
 rw [partialIns_succ,he,if_neg h,if_neg h2,hf,hd];rfl
end
section
variable {P:Program} {E:FN P} {σ:Nat→Value} {ds:List Deferred} {h:GH} {T:(Nat→Value)→List Deferred→GH→Prop} {dst:Option Nat} {ty:TypeId} {pos:String} {af:Array Edge} {gd:Option (Nat×Bool)} {xt yt:TypeId} {x y:Operand} {a b:Int}
def Br (a b:Int):Int:=IntKind.u64.wrap ((BitVec.ofInt 64 a ^^^ BitVec.ofInt 64 b).toNat)
def I3 (a b:Int):Int:=IntKind.u64.wrap ((BitVec.ofInt 64 a &&& BitVec.ofInt 64 b).toNat)
def Bo (a b:Int):Int:=IntKind.u64.wrap (a*2 ^ (min b.toNat IntKind.u64.bits))
theorem Ni (hx:AV σ x=.int .u64 a) (hy:AV σ y=.int .u64 b) (k:T (putS σ dst (.int .u64 (Br a b))) ds h):Bd E ⟨dst,.binOp .xor xt x y yt,ty,pos,af,gd⟩ σ ds h T:=Du hx hy rfl k
theorem UT (hx:AV σ x=.int .u64 a) (hy:AV σ y=.int .u64 b) (k:T (putS σ dst (.int .u64 (I3 a b))) ds h):Bd E ⟨dst,.binOp .and xt x y yt,ty,pos,af,gd⟩ σ ds h T:=Du hx hy rfl k
theorem Nj {ke:IntKind} (hx:AV σ x=.int .u64 a) (hy:AV σ y=.int ke b) (h0:0≤b) (k:T (putS σ dst (.int .u64 (Bo a b))) ds h):Bd E ⟨dst,.binOp .shl xt x y yt,ty,pos,af,gd⟩ σ ds h T:=Pt hx hy h0 rfl k
theorem UU (hx:AV σ x=.int .u64 a) (hy:AV σ y=.int .u64 b) (hr:0≤a-b∧a-b≤18446744073709551615) (k:T (putS σ dst (.int .u64 (a-b))) ds h):Bd E ⟨dst,.binOp .sub xt x y yt,ty,pos,af,gd⟩ σ ds h T:=Du hx hy (by
 show (pure (Value.int .u64 (IntKind.u64.wrap (a-b))):Sem Value)=_;rw [IntWalk.u64_in _ (by omega)]) k
theorem QF (hb:0≤b∧b≤9223372036854775807):0≤I3 a b∧I3 a b≤b:=by
 unfold I3;obtain ⟨n,rfl⟩:=Int.eq_ofNat_of_zero_le hb.1;have e1:(BitVec.ofInt 64 (n:Int)).toNat=n:=by rw [BitVec.toNat_ofInt];omega
 have e2:(BitVec.ofInt 64 a &&& BitVec.ofInt 64 (n:Int)).toNat≤n:=by rw [BitVec.toNat_and,e1];exact Nat.and_le_right
 rw [IntWalk.u64_in _ (by omega)];omega
theorem TN {k:Nat} (h:k≤60):Bo 1 (k:Int)=2 ^ k:=by
 unfold Bo
 have:min ((k:Int)).toNat IntKind.u64.bits=k:=by show min ((k:Int)).toNat 64=k;omega
 rw [this,Int.one_mul];have h1:(2:Int) ^ k≤2 ^ 60:=by
  have:=Nat.pow_le_pow_right (show 0<2 by decide) h
  exact_mod_cast this
 have h2:(0:Int)≤2 ^ k:=by
  have:=Nat.zero_le (2 ^ k)
  exact_mod_cast this
 rw [IntWalk.u64_in _ (by have:(2:Int) ^ 60=1152921504606846976:=rfl;omega)]
def Uq (s:ByteArray):Bool:=s.size==256 && (List.range 256).all fun i=>(s.get! i).toNat==bitsLen i
theorem EN {t:TypeId} {x ix:Operand} {s:ByteArray} {kd:IntKind} {i:Int} (ht:Ke P t=true) (hx:AV σ x=.string s) (hi:AV σ ix=.int kd i) (h0:0≤i) (h1:i<((256:Nat):Int)) (hs:Uq s=true)
  (k:T (putS σ dst (.int .u8 (bitsLen i.toNat:Int))) ds h):Bd E ⟨dst,.index t x ix,ty,pos,af,gd⟩ σ ds h T:=by
 unfold Uq at hs;rw [Bool.and_eq_true,List.all_eq_true] at hs;have hz:s.size=256:=by simpa using hs.1
 have e:=hs.2 i.toNat (List.mem_range.2 (by omega));refine MV ht hx hi h0 (by omega) ?_;have e2:(s[i.toNat]'(by omega)).toNat=bitsLen i.toNat:=by
  rw [←(show (s.get! i.toNat).toNat=bitsLen i.toNat by simpa using e)];have hlt:i.toNat<s.size:=by omega
  congr 1;show s.data[i.toNat]=s.data[i.toNat]!;rw [getElem!_pos s.data i.toNat hlt]
 rw [e2];exact k
theorem J4 {n k:Nat} (h:2 ^ k≤n):bitsLen n=k+bitsLen (n / 2 ^ k):=by
 have hp:0<2 ^ k:=Nat.two_pow_pos k;have h1:∀j,bitsLen n≤j↔k+bitsLen (n / 2 ^ k)≤j:=fun j=>by
  rw [bitsLen_le_iff];constructor
  ·intro q;have hkj:k<j:=(Nat.pow_lt_pow_iff_right (by decide:1<2)).1 (Nat.lt_of_le_of_lt h q)
   have:=(bitsLen_le_iff (n / 2 ^ k) (j-k)).2 ((Nat.div_lt_iff_lt_mul hp).2 (by rw [←Nat.pow_add,show j-k+k=j by omega];exact q))
   omega
  ·intro q;have h2:=(bitsLen_le_iff (n / 2 ^ k) (j-k)).1 (by omega);have h3:=(Nat.div_lt_iff_lt_mul hp).1 h2;rw [←Nat.pow_add,show j-k+k=j by omega] at h3;exact h3
 have a1:=(h1 (bitsLen n)).1 (Nat.le_refl _);have a2:=(h1 (k+bitsLen (n / 2 ^ k))).2 (Nat.le_refl _);omega
theorem Ov {n:Int} (h:65536≤n):(bitsLen n.toNat:Int)=16+bitsLen (n / 65536).toNat:=by
 rw [J4 (n:=n.toNat) (k:=16) (by omega),show (n / 65536).toNat=n.toNat / 2 ^ 16 by omega];omega
theorem Pj {n:Int} (h:256≤n):(bitsLen n.toNat:Int)=8+bitsLen (n / 256).toNat:=by
 rw [J4 (n:=n.toNat) (k:=8) (by omega),show (n / 256).toNat=n.toNat / 2 ^ 8 by omega];omega
theorem C6 {n:Nat} (h:n<4294967296):bitsLen n≤32:=(bitsLen_le_iff n 32).2 h
end
section
variable {d dd D D' R:Array Int} {a z a0 z0 p mid:Nat} {ap:Bool}
def EX (a0 z0:Nat) (d:Array Int) (a z:Nat) (dd:Array Int):Prop:=a≤z∧z≤dd.size∧dd.size=d.size∧Below ltInt a z dd∧∀R,PermIn a z dd R→SortedIn ltInt a z R→PermIn a0 z0 d R∧SortedIn ltInt a0 z0 R
theorem EX.start (h:a≤z) (hz:z≤d.size) (hB:Below ltInt a z d):EX a z d a z d:=⟨h,hz,rfl,hB,fun _ x y=>⟨x,y⟩⟩
theorem EX.perm (r:EX a0 z0 d a z dd) (x:PermIn a z dd D):EX a0 z0 d a z D:=
 ⟨r.1,by rw [x.1];exact r.2.1,x.1.trans r.2.2.1,r.2.2.2.1.perm r.2.1 x,fun R y s=>r.2.2.2.2 R (permIn_trans _ _ _ a z x y) s⟩
theorem EX.done (r:EX a0 z0 d a z dd) (x:PermIn a z dd D) (s:SortedIn ltInt a z D):PermIn a0 z0 d D∧SortedIn ltInt a0 z0 D:=r.2.2.2.2 D x s
theorem EX.ins (r:EX a0 z0 d a z dd):PermIn a0 z0 d (insertionSort ltInt dd a z)∧SortedIn ltInt a0 z0 (insertionSort ltInt dd a z):=
 let x:=insertionSort_holds (lt:=ltInt) Je dd a z r.1 r.2.1
 r.done x.1 x.2
theorem EX.heap (r:EX a0 z0 d a z dd):PermIn a0 z0 d (heapSort ltInt dd a z)∧SortedIn ltInt a0 z0 (heapSort ltInt dd a z):=
 let x:=heapSort_holds (lt:=ltInt) Je dd a z r.1 r.2.1
 r.done x.1 x.2
theorem EX.pins (r:EX a0 z0 d a z dd) (h:a<z) {fl:Bool} (e:partialInsertionSort ltInt dd a z=(D,fl)):EX a0 z0 d a z D∧(fl=true→PermIn a0 z0 d D∧SortedIn ltInt a0 z0 D):=by
 have x:=partialInsertionSort_holds (lt:=ltInt) Je dd a z h r.2.1 r.2.2.2.1;rw [e] at x;exact ⟨r.perm x.1,fun q=>r.done x.1 (x.2 q)⟩
theorem EX.eq (r:EX a0 z0 d a z dd) (h0:0<a) (hp:a≤p∧p<z) (hl:¬dd[a-1]! <dd[p]!) (e:partitionEqual ltInt dd a z p=(mid,D)):a<mid∧mid≤z∧EX a0 z0 d mid z D:=by
 obtain ⟨h1,h2,h3,h4,h5⟩:=round_eq Je (partitionEqual_holds ltInt) h0 hp.1 hp.2 r.2.1 r.2.2.2.1 (decide_eq_false hl) e;exact ⟨h1,h2,h2,by rw [h3];exact r.2.1,h3.trans r.2.2.1,h4,fun R x s=>let y:=h5 R x s;r.2.2.2.2 R y.1 y.2⟩
theorem EX.eq' (r:EX a0 z0 d a z dd) (h0:0<a) (hp:a≤p∧p<z) (hl:¬dd[((a:Int)-1).toNat]! <dd[p]!) (e:partitionEqual ltInt dd a z p=(mid,D)):a<mid∧mid≤z∧EX a0 z0 d mid z D:=
 r.eq h0 hp (by rw [show ((a:Int)-1).toNat=a-1 by omega] at hl;exact hl) e
theorem EX.part (r:EX a0 z0 d a z dd) (hp:a≤p∧p<z) (e:∃q,partition ltInt dd a z p=(mid,q,D)):a≤mid∧mid<z∧D.size=d.size∧z≤D.size∧Below ltInt a mid D∧Below ltInt (mid+1) z D∧
  (∀L,PermIn a mid D L→SortedIn ltInt a mid L→EX a0 z0 d (mid+1) z L)∧(∀L,PermIn (mid+1) z D L→SortedIn ltInt (mid+1) z L→EX a0 z0 d a mid L):=by
 obtain ⟨q,e⟩:=e;obtain ⟨h1,h2,h3,h4,h5,h6,h7⟩:=round_part Je (partition_holds ltInt) hp.1 hp.2 r.2.1 r.2.2.2.1 e;have hz:=r.2.1;refine ⟨h1,h2,h3.trans r.2.2.1,by omega,h4,h5,fun L x s=>?_,fun L x s=>?_⟩
 ·obtain ⟨y1,y2⟩:=h6 L x s
  have:=x.1
  exact ⟨by omega,by omega,by rw [x.1,h3];exact r.2.2.1,y1,fun R x2 s2=>let y:=y2 R x2 s2;r.2.2.2.2 R y.1 y.2⟩
 ·obtain ⟨y1,y2⟩:=h7 L x s
  have:=x.1
  exact ⟨h1,by omega,by rw [x.1,h3];exact r.2.2.1,y1,fun R x2 s2=>let y:=y2 R x2 s2;r.2.2.2.2 R y.1 y.2⟩
theorem QG {D:Array Int} {xs:List Int} (x:PermIn 0 xs.length xs.toArray D) (s:SortedIn ltInt 0 xs.length D):D=(HI xs).toArray:=by
 have y:=sorted_unique_holds (lt:=ltInt) Je (fun x y h1 h2=>by simp only [ltInt,decide_eq_false_iff_not] at h1 h2;omega) xs.toArray D (by simpa using x) (by simpa using s);rw [HJ];apply Array.toList_inj.1;rw [y];congr 1;funext a b;unfold ltInt;simp only [Bool.not_eq_eq_eq_not];by_cases h:a≤b
 ·simp [h]
 ·simp [h];omega
theorem Ow {D d:Array Int} (x:PermIn 0 d.size d D∧SortedIn ltInt 0 d.size D):D=(HI d.toList).toArray:=
 QG (xs:=d.toList) (by simpa using x.1) (by simpa using x.2)
end
end Go.Ns
namespace Go.Ns
open Go.Conc
theorem Gx {ag:AS→Bool} {ms:List AB} {mo:Int} (hf:∀k,0≤(ms.getD k AB.z).low∧(ms.getD k AB.z).high≤99):∀f i p,Be p→∀q ∈ Aq ag ms mo f i p,Be q
 | 0,_,p,hp,q,hq=>by
  unfold Aq at hq;split at hq
  ·rw [List.mem_singleton] at hq;subst hq;exact hp
  ·cases hq
 | f+1,i,p,hp,q,hq=>by
  rw [CO,List.mem_flatMap] at hq;obtain ⟨n,hn,hq⟩:=hq;rw [FQ] at hn
  have:=hf i
  unfold Bb at hq;rw [List.mem_append] at hq;rcases hq with hq | hq
  ·exact Gx hf f (i+1) _ (hp.setMove (by omega)) q hq
  ·split at hq
   ·exact Gx hf f (i+1) _ (hp.setMove (by omega)) q hq
   ·cases hq
theorem I4 {ag:AS→Bool} {gs:List Good} {ms:List AB} {mo:Int} (hg:∀k,0≤(gs.getD k Good.z).low∧(gs.getD k Good.z).high≤99) (hf:∀k,0≤(ms.getD k AB.z).low∧(ms.getD k AB.z).high≤99) :
  ∀f i p,Be p→∀q ∈ BJ ag gs ms mo f i p,Be q
 | 0,_,p,hp,q,hq=>Gx hf _ _ p hp q hq
 | f+1,i,p,hp,q,hq=>by
  rw [Cm,List.mem_flatMap] at hq;obtain ⟨n,hn,hq⟩:=hq;rw [FQ] at hn
  have:=hg i
  exact I4 hg hf f (i+1) _ (hp.setFirst (by omega)) q hq
theorem EY {d m:Int} {gs:List Good} {ms:List AB} {cs:List AK} (b:BG d m gs ms cs) (mo:Int):∀k,Be ((AP d gs ms cs mo).getD k AS.zero):=fun k=>by
 by_cases h:k<(AP d gs ms cs mo).length
 ·exact I4 (fun j=>⟨(b.gfew j).1,(b.gfew j).2.2.1⟩) (fun j=>⟨(b.few j).1,(b.few j).2.2.1⟩) _ _ _ Be.zero _ (Ck h)
 ·rw [Dj (by omega)];exact Be.zero
def B2 (n:Nat) (f:Nat→Int):List Int:=Cn (HI ((List.range n).map f))
theorem Gy {n:Nat} {f:Nat→Int} (h:0<n):(List.range n).map f≠[]:=by
 intro e
 have:=congrArg List.length e
 simp at this;omega
section
variable (d m:Int) (gs:List Good) (ms:List AB) (cs:List AK)
def CV (g dy:Int):Int:=AW d m gs ms cs [if (decide (0≤g∧g≤(gs.length:Int)-1)) then (0:Int) else 6,if (decide (0≤dy∧dy≤d)) then (0:Int) else 1]
def A6 (g dy:Int):List Int:=if CV d m gs ms cs g dy=0 then B2 (AP d gs ms cs m).length (fun (i:Nat)=>(AH ms ((AP d gs ms cs m).getD ((i:Int)).toNat AS.zero) g dy).1) else []
def EO (mv:Int):Int:=AW d m gs ms cs [if (decide (0≤mv∧mv≤(ms.length:Int)-1)) then (0:Int) else 6]
def GS (mv:Int):List Int:=if EO d m gs ms cs mv=0 then B2 (AP d gs ms cs m).length (fun (i:Nat)=>BV ((AP d gs ms cs m).getD ((i:Int)).toNat AS.zero) (mv).toNat) else []
def Cz (mv:Int):Int:=AW d m gs ms cs [if (decide ((0≤mv∧mv≤(ms.length:Int)-1)∧(ms.getD (mv).toNat AB.z).kind=0)) then (0:Int) else 6]
def Gz (ps:List AS) (i:Nat):Nat:=(ps.filter fun p=>p.lies i).length
def LH (n l:Nat):Int:=if n=0 then 2 else if n=l then 1 else 0
def Em (mv:Int):Int:=if Cz d m gs ms cs mv=0 then LH (Gz (AP d gs ms cs m) (mv).toNat) (AP d gs ms cs m).length else 0
end
theorem LI {p:Prop} [Decidable p] {c:Int} (hc:c≠0) {o:List Int} (h:∀k,k<(((if decide p then (0:Int) else c) ::o)).length→(((if decide p then (0:Int) else c) ::o)).getD k 0=0):p:=by
 have:=h 0 (by simp)
 by_cases hp:p
 ·exact hp
 ·simp [hp] at this;exact absurd this hc
theorem LJ {x:Int} {o:List Int} (h:∀k,k<(x ::o).length→(x ::o).getD k 0=0):∀k,k<o.length→o.getD k 0=0:=fun k hk=>by
 have:=h (k+1) (by simp;omega)
 simpa using this
theorem TO {p q:Prop} [Decidable p] [Decidable q] {c e:Int} (hc:c≠0) (he:e≠0) {o:List Int} (h:∀k,k<(((if decide p then (0:Int) else c) ::(if decide q then (0:Int) else e) ::o)).length→(((if decide p then (0:Int) else c) ::(if decide q then (0:Int) else e) ::o)).getD k 0=0):p∧q:=
 ⟨LI hc h,LI he (LJ h)⟩
theorem VM {p q r:Prop} [Decidable p] [Decidable q] [Decidable r] {c e f:Int} (hc:c≠0) (he:e≠0) (hf:f≠0) {o:List Int} (h:∀k,k<(((if decide p then (0:Int) else c) ::(if decide q then (0:Int) else e) ::(if decide r then (0:Int) else f) ::o)).length→(((if decide p then (0:Int) else c) ::(if decide q then (0:Int) else e) ::(if decide r then (0:Int) else f) ::o)).getD k 0=0):p∧q∧r:=
 ⟨LI hc h,TO he hf (LJ h)⟩
theorem Fg {α:Type} {l:List α} {k:Nat} (z:α) (h:k<l.length):l.take (k+1)=l.take k++[l.getD k z]:=by
 rw [List.take_add_one,List.getElem?_eq_getElem h,List.getD_eq_getElem?_getD,List.getElem?_eq_getElem h];rfl
theorem U3 {ps:List AS} {k q i:Nat} (hk:k<ps.length) (h:q=Gz (ps.take k) i) (e:(ps.getD k AS.zero).lies i=true):q+1=Gz (ps.take (k+1)) i:=by
 unfold Gz at *;rw [Fg AS.zero hk,List.filter_append,List.length_append,←h,List.filter_cons,if_pos e];rfl
theorem U4 {ps:List AS} {k q i:Nat} (hk:k<ps.length) (h:q=Gz (ps.take k) i) (e:(ps.getD k AS.zero).lies i=false):q=Gz (ps.take (k+1)) i:=by
 unfold Gz at *;rw [Fg AS.zero hk,List.filter_append,List.length_append,←h,List.filter_cons,if_neg (by rw [e];decide)];rfl
theorem MB {d m:Int} {gs:List Good} {ms:List AB} {cs:List AK} {mv:Int} (h:¬Cz d m gs ms cs mv=0):Em d m gs ms cs mv=0:=by unfold Em;rw [if_neg h]
theorem G0 {d m:Int} {gs:List Good} {ms:List AB} {cs:List AK} {mv:Int} {k q:Nat} (h:Cz d m gs ms cs mv=0) (hq:q=Gz ((AP d gs ms cs m).take k) (mv).toNat) (hk:(AP d gs ms cs m).length≤k):Em d m gs ms cs mv=LH q (AP d gs ms cs m).length:=by
 unfold Em;rw [if_pos h,hq,List.take_of_length_le hk]
theorem HK {ms:List AB} {p:AS} {g dy:Int} (hp:Be p):∀(f k:Nat) (n low B:Int),-B≤n∧n≤B→-(B+99*(f:Int))≤(CN ms p g dy f k n low).1∧(CN ms p g dy f k n low).1≤B+99*(f:Int)
 | 0,k,n,low,B,h=>by unfold CN;simpa using h
 | f+1,k,n,low,B,h=>by
  unfold CN;split
  ·show-(B+99*((f+1:Nat):Int))≤n∧n≤B+99*((f+1:Nat):Int);omega
  ·have:=HK (ms:=ms) (g:=g) (dy:=dy) hp f (k+1) (Ey ms p g k n) (EV ms k low (Ey ms p g k n)) (B+99) (by
    unfold Ey
    have:=Iv (k:=(ms.getD k AB.z).kind.toNat) (FI hp k)
    split <;> omega)
   omega
theorem Eu {ms:List AB} {p:AS} {g dy:Int} (hp:Be p) (hm:ms.length≤6): -693≤(AH ms p g dy).1∧(AH ms p g dy).1≤693:=by
 have h0:=hp.1 g.toNat
 have:=HK (ms:=ms) (g:=g) (dy:=dy) hp ms.length 0 (p.first g.toNat) (p.first g.toNat) 99 (by omega)
 unfold AH;omega
theorem G8 {x:Int}:∀(l acc:List Int),x ∈ l.foldl E9 acc→x ∈ acc∨x ∈ l
 | [],acc,h=>.inl h
 | y ::l,acc,h=>by
  rcases G8 l _ h with h | h
  ·unfold E9 at h;split at h
   ·exact .inl h
   ·rcases List.mem_append.1 h with h | h
    ·exact .inl h
    ·rw [List.mem_singleton] at h;exact .inr (by rw [h];exact List.mem_cons_self ..)
  ·exact .inr (List.mem_cons_of_mem _ h)
theorem HL:∀(l acc:List Int),acc≠[]∨l≠[]→l.foldl E9 acc≠[]
 | [],acc,h=>by
  rcases h with h | h
  ·exact h
  ·exact absurd rfl h
 | y ::l,acc,h=>HL l _ (.inl fun e=>by
   have:=LF acc y
   rw [e] at this;cases this)
theorem Hl {n:Nat} (f:Nat→Int) (h:0<n):0<(B2 n f).length:=by
 have:B2 n f≠[]:=HL _ _ (.inr (On (Gy h)))
 exact List.length_pos_iff.2 this
theorem Mk {n:Nat} {f:Nat→Int} {x:Int} (h:x ∈ B2 n f):∃i,i<n∧f i=x:=by
 rcases G8 _ _ h with h | h
 ·cases h
 ·rw [HJ] at h
  have:=List.mem_mergeSort.1 h
  obtain ⟨i,hi,e⟩:=List.mem_map.1 this;exact ⟨i,List.mem_range.1 hi,e⟩
def BW (l:List Int):Int:=l.getD 0 0
def CW (l:List Int):Int:=l.getD ((l.length:Int)-1).toNat 0
theorem QH {n:Nat} {f:Nat→Int} {A B:Int} (h:∀i,A≤f i∧f i≤B) (hn:0<n):(A≤BW (B2 n f)∧BW (B2 n f)≤B)∧A≤CW (B2 n f)∧CW (B2 n f)≤B:=by
 have hp:=Hl f hn;have q:∀k,k<(B2 n f).length→A≤(B2 n f).getD k 0∧(B2 n f).getD k 0≤B:=fun k hk=>by
  obtain ⟨i,_,e⟩:=Mk (Ck (d:=0) hk);rw [←e];exact h i
 exact ⟨q 0 hp,q _ (by omega)⟩
def CF (ms:List AB) (p:AS) (g a b:Int):Nat→Int
 | 0=>0
 | k+1=>CF ms p g a b k+(if ((ms.getD k AB.z).kind=2∧(ms.getD k AB.z).good=g)∧a≤(ms.getD k AB.z).day∧(ms.getD k AB.z).day≤b then BV p k else 0)
theorem I5 {ms:List AB} {p:AS} {g a b:Int} (hp:Be p):∀k:Nat,0≤CF ms p g a b k∧CF ms p g a b k≤99*(k:Int)
 | 0=>by unfold CF;omega
 | k+1=>by
  have:=I5 (ms:=ms) (g:=g) (a:=a) (b:=b) hp k
  have:=FI hp k
  unfold CF;split <;> omega
def CC (gs:List Good) (ms:List AB) (p:AS) (dy:Int):Nat→Int
 | 0=>0
 | k+1=>CC gs ms p dy k+(gs.getD k Good.z).cost*(AH ms p (k:Int) dy).1
theorem FR {a b A B:Int} (ha:0≤a∧a≤A) (hb: -B≤b∧b≤B): -(A*B)≤a*b∧a*b≤A*B:=by
 have hB:0≤B:=by omega
 have e1:a*B≤A*B:=Int.mul_le_mul_of_nonneg_right ha.2 hB;have e2:a*b≤a*B:=Int.mul_le_mul_of_nonneg_left hb.2 ha.1;have e3:a*(-B)≤a*b:=Int.mul_le_mul_of_nonneg_left hb.1 ha.1;rw [Int.mul_neg] at e3;omega
theorem H3 {gs:List Good} {ms:List AB} {p:AS} {dy:Int} (hp:Be p) (hm:ms.length≤6) (hc:∀k,0≤(gs.getD k Good.z).cost∧(gs.getD k Good.z).cost≤999):∀k:Nat,-(692307*(k:Int))≤CC gs ms p dy k∧CC gs ms p dy k≤692307*(k:Int)
 | 0=>by unfold CC;omega
 | k+1=>by
  have:=H3 (dy:=dy) hp hm hc k
  have:=FR (hc k) (Eu (g:=(k:Int)) (dy:=dy) hp hm)
  unfold CC;omega
theorem BG.costs {d m:Int} {gs:List Good} {ms:List AB} {cs:List AK} (b:BG d m gs ms cs):∀k,0≤(gs.getD k Good.z).cost∧(gs.getD k Good.z).cost≤999:=fun k=>by
 by_cases h:k<gs.length
 ·exact (b.good' h).1
 ·rw [Dj (by omega)];decide
section
variable (d m:Int) (gs:List Good) (ms:List AB) (cs:List AK)
def GT (g a b:Int):Int:=AW d m gs ms cs [if (decide (0≤g∧g≤(gs.length:Int)-1)) then (0:Int) else 6,if (decide (1≤a∧a≤d)) then (0:Int) else 1,if (decide (a≤b∧b≤d)) then (0:Int) else 1]
def RR (g a b:Int):List Int:=B2 (AP d gs ms cs m).length (fun (i:Nat)=>CF ms ((AP d gs ms cs m).getD ((i:Int)).toNat AS.zero) g a b ms.length)
def Nk (g a b:Int):Int:=if GT d m gs ms cs g a b=0 then BW (RR d m gs ms cs g a b) else 0
def Nm (g a b:Int):Int:=if GT d m gs ms cs g a b=0 then CW (RR d m gs ms cs g a b) else 0
def FS (dy:Int):Int:=AW d m gs ms cs [if (decide (0≤dy∧dy≤d)) then (0:Int) else 1]
def Ox (dy:Int):List Int:=B2 (AP d gs ms cs m).length (fun (i:Nat)=>CC gs ms ((AP d gs ms cs m).getD ((i:Int)).toNat AS.zero) dy gs.length)
def KN (dy:Int):Int:=if FS d m gs ms cs dy=0 then BW (Ox d m gs ms cs dy) else 0
def KO (dy:Int):Int:=if FS d m gs ms cs dy=0 then CW (Ox d m gs ms cs dy) else 0
end
def FA (d:Int) (ms:List AB) (ps:List AS) (g:Int):List Int:=B2 ps.length (fun (i:Nat)=>(AH ms (ps.getD ((i:Int)).toNat AS.zero) g d).1)
theorem Oy {d:Int} {ms:List AB} {ps:List AS} {g:Int} (hp:∀k,Be (ps.getD k AS.zero)) (hm:ms.length≤6) (hn:0<ps.length):(-693≤BW (FA d ms ps g)∧BW (FA d ms ps g)≤693)∧-693≤CW (FA d ms ps g)∧CW (FA d ms ps g)≤693:=
 QH (fun _=>Eu (hp _) hm) hn
section
variable (d m:Int) (gs:List Good) (ms:List AB) (cs:List AK)
def FT (g r:Int):Int:=AW d m gs ms cs [if (decide (0≤g∧g≤(gs.length:Int)-1)) then (0:Int) else 6,if (decide (1≤r∧r≤99)) then (0:Int) else 1]
def KP (g r:Int):Int:=if FT d m gs ms cs g r=0 then (BW (FA d ms (AP d gs ms cs m) g)).tdiv r else 0
def KQ (g r:Int):Int:=if FT d m gs ms cs g r=0 then (CW (FA d ms (AP d gs ms cs m) g)).tdiv r else 0
end
theorem AU.offKnown {α:Type} {h0 h:GH} {v:Value} {t:TypeId} {n:Nat} {enc:α→Array Value} {xs:List α} {ms:List AB} {ps:List AS} {r:Nat} (x:AU h0 h v t n enc xs) (m:Ag ms ps r h):BA v r:=fun e=>by
 obtain ⟨c',h1⟩:=x.cellsAt r e;exact m.neCells h1 rfl
section
variable (d m:Int) (gs:List Good) (ms:List AB) (cs:List AK)
def F5 (ls:List Int) (r:Int):Int:=AW d m gs ms cs [Aw ls (gs.length:Int),if (decide (0≤r∧r≤99)) then (0:Int) else 1]
def En (ls:List Int) (r:Int) (k:Nat):Int:=(max 0 ((ls.getD k 0)*r-(BW (FA d ms (AP d gs ms cs m) (k:Int))))+(gs.getD k Good.z).pack-1) / ((gs.getD k Good.z).pack)
def Dl (ls:List Int) (r:Int):Nat→Int
 | 0=>0
 | k+1=>Dl ls r k+(En d m gs ms cs ls r k)*((gs.getD k Good.z).pack)*((gs.getD k Good.z).cost)
def Rx (ls:List Int) (r:Int):List Int:=if F5 d m gs ms cs ls r=0 then (List.range gs.length).map (En d m gs ms cs ls r) else []
def KR (ls:List Int) (r:Int):Int:=if F5 d m gs ms cs ls r=0 then Dl d m gs ms cs ls r gs.length else 0
end
theorem Nn {d m:Int} {gs:List Good} {ms:List AB} {cs:List AK} {ls:List Int} {r:Int} {k:Nat} (hl:0≤ls.getD k 0∧ls.getD k 0≤99) (hr:0≤r∧r≤99) (hp:1≤(gs.getD k Good.z).pack∧(gs.getD k Good.z).pack≤20)
  (hs: -693≤BW (FA d ms (AP d gs ms cs m) (k:Int))∧BW (FA d ms (AP d gs ms cs m) (k:Int))≤693):(0≤En d m gs ms cs ls r k∧En d m gs ms cs ls r k≤10600):=by
 have h1:=FR (a:=ls.getD k 0) (b:=r) (A:=99) (B:=99) hl (by omega);unfold En;have h0:0≤max 0 ((ls.getD k 0)*r-(BW (FA d ms (AP d gs ms cs m) (k:Int))))+(gs.getD k Good.z).pack-1:=by omega
 refine ⟨Int.ediv_nonneg h0 (by omega),Int.le_trans (Int.ediv_le_self _ h0) (by omega)⟩
theorem HM {p a c:Int} (hp:0≤p∧p≤10600) (ha:1≤a∧a≤20) (hc:0≤c∧c≤999):(0≤p*a∧p*a≤212000)∧0≤p*a*c∧p*a*c≤211788000:=by
 have h1:=FR (a:=p) (b:=a) (A:=10600) (B:=20) hp (by omega);have h2:0≤p*a:=Int.mul_nonneg hp.1 (by omega);have h3:=FR (a:=p*a) (b:=c) (A:=212000) (B:=999) (by omega) (by omega);have h4:0≤p*a*c:=Int.mul_nonneg h2 hc.1;omega
theorem Oz {d m:Int} {gs:List Good} {ms:List AB} {cs:List AK} {ls:List Int} {r:Int} {k:Nat} (hp:0≤En d m gs ms cs ls r k∧En d m gs ms cs ls r k≤10600) (ha:1≤(gs.getD k Good.z).pack∧(gs.getD k Good.z).pack≤20) (hc:0≤(gs.getD k Good.z).cost∧(gs.getD k Good.z).cost≤999)
  (h:0≤Dl d m gs ms cs ls r k∧Dl d m gs ms cs ls r k≤211788000*(k:Int)):0≤Dl d m gs ms cs ls r (k+1)∧Dl d m gs ms cs ls r (k+1)≤211788000*((k+1:Nat):Int):=by
 have:=HM hp ha hc
 unfold Dl;omega
theorem TP {l:List Int} {n:Int} (h:¬(l.length:Int)=n):(Value.int .i64 2)=.int .i64 (Aw l n):=by unfold Aw;rw [if_pos h]
theorem TQ {l:List Int} {n:Int} (h:(l.length:Int)=n):(Value.int .i64 (if (!(l.any (fun x=>decide (¬(0≤x∧x≤99))))) then (0:Int) else 1))=.int .i64 (Aw l n):=by
 have e:Aw l n=if l.any (fun x=>decide (¬(0≤x∧x≤99))) then 1 else 0:=by unfold Aw;rw [if_neg (fun q=>q h)]
 rw [e];cases l.any (fun x=>decide (¬(0≤x∧x≤99))) <;> rfl
section
variable {P:Program} {E:FN P} {σ:Nat→Value} {ds:List Deferred} {h:GH} {T:(Nat→Value)→List Deferred→GH→Prop}
variable {dst:Option Nat} {ty:TypeId} {pos:String} {af:Array Edge} {gd:Option (Nat×Bool)}
def TR (P:Program) (s:TypeId) (f:Nat) (cs:Array Value):Option Value:=match P.underlying s with
 | some (.struct fields)=>match fields[f]? with
  | some fl=>GN P fl.type cs fl.offset
  | none=>none
 | _=>none
theorem Ry {t:TypeId} {x:Operand} {f:Nat} {cs:Array Value} {v:Value} (hx:AV σ x=.agg cs) (hp:TR P t f cs=some v) (k:T (putS σ dst v) ds h):Bd E ⟨dst,.field t x f,ty,pos,af,gd⟩ σ ds h T:=by
 refine Sw (v:=v) ?_ k;rw [hx];unfold TR at hp;unfold Instr.field;cases hu:P.underlying t with
 | none=>rw [hu] at hp;cases hp
 | some d=>
  rw [hu] at hp;cases d <;> first | (cases hp;done) | skip
  rename_i fields
  refine AG _ _ (Ak hu ?_);simp only at hp ⊢;cases hf:fields[f]? with
  | none=>rw [hf] at hp;cases hp
  | some fl=>
   rw [hf] at hp;simp only at hp ⊢;exact GO hp ⟨rfl,rfl⟩
theorem RS {xt yt:TypeId} {x y:Operand} {a b:Int} (hx:AV σ x=.int .i64 a) (hy:AV σ y=.int .i64 b) (ha: -9223372036854775807≤a) (ha':a≤9223372036854775807) (hb:0<b) (k:T (putS σ dst (.int .i64 (a.tdiv b))) ds h) :
  Bd E ⟨dst,.binOp .quo xt x y yt,ty,pos,af,gd⟩ σ ds h T:=Du hx hy (by
 show (if b=0 then _ else (pure (Value.int .i64 (IntKind.i64.wrap (a.tdiv b))):Sem Value))=_;rw [if_neg (by omega)];have h1:(a.tdiv b).natAbs≤a.natAbs:=by rw [Int.natAbs_tdiv];exact Nat.div_le_self _ _
 rw [IntWalk.i64_in _ (by omega)]) k
end
def Dz (hB:GH) (ms:List AB) (pasts:List AS) (r:Nat) (h h':GH):Prop:=BZ (fun b=>b=r) h h'∧(Ag ms pasts r h→Ag ms pasts r h')∧(hB.Le h→hB.Le h')
section
variable {hB h hc h':GH} {ms:List AB} {pasts:List AS} {r:Nat}
theorem Dz.refl (h:GH):Dz hB ms pasts r h h:=⟨BZ.refl _ _,id,id⟩
theorem Dz.trans (a b c:GH) (x:Dz hB ms pasts r a b) (y:Dz hB ms pasts r b c):Dz hB ms pasts r a c:=⟨x.1.trans (fun _ q=>.inl q) y.1,fun z=>y.2.1 (x.2.1 z),fun z=>y.2.2 (x.2.2 z)⟩
theorem Dz.ofRes (m:HB hB ms pasts r h h'):Dz hB ms pasts r h h':=⟨m.2.1,fun _=>m.1,fun _=>m.2.2⟩
theorem B0.rel (y:B0 hB ms pasts r h hc) (m:Dz hB ms pasts r hc h'):B0 hB ms pasts r h h':=⟨m.2.1 y.ok,y.keep.trans (fun _ q=>.inl q) m.1,m.2.2 y.base⟩
theorem B0.callDel (y:B0 hB ms pasts r h hc) (l:hB.Le (hc.del r)) (m:HB (hc.del r) ms pasts r hc h'):B0 hB ms pasts r h h':=⟨m.1,y.keep.trans (fun _ q=>.inl q) m.2.1,l.trans m.2.2⟩
end
section
variable {P:Program} {E:FN P} {σ:Nat→Value} {ds:List Deferred} {h hB:GH} {ms:List AB} {pasts:List AS} {r:Nat}
theorem Ml {id:Nat} {l:List Oper} {Q:Post} (n:Nat) (cls:List (List Nat)) (Φ:List Lx) (hm:P.follows .mixedOrders=true) (ok:Kg E.N l n cls=true) (mono:EE (Dz hB ms pasts r) Φ) (x:Ip (Dz hB ms pasts r) E l n Φ σ ds h Q n 0 l cls) :
  Tr E (.region id l.toArray true) σ ds h Q:=OQ Dz.refl Dz.trans n cls Φ hm ok mono x
end
theorem DH.leOf {h0 h:GH} (k:DH (fun b=>h0 b=none) h0 h):h0.Le h:=fun b p o hb=>k.1 b p o hb fun (e:h0 b=none)=>by rw [hb] at e;cases e
theorem AU.offTy {α:Type} {h0 h:GH} {v:Value} {t T:TypeId} {n:Nat} {enc:α→Array Value} {xs:List α} (x:AU h0 h v t n enc xs) {r:Nat} {p:Bool} {c:Array Value} {f:Nat×Nat} (hr:h r=some (p,.cells c T f)) (ne:t≠T):BA v r:=fun e=>by
 obtain ⟨c',h1⟩:=x.cellsAt r e;rw [h1] at hr;simp only [Option.some.injEq,Prod.mk.injEq,Obj.cells.injEq] at hr;exact ne hr.2.2.1
section
variable {P:Program} {E:FN P} {σ:Nat→Value} {ds:List Deferred} {h:GH} {T:(Nat→Value)→List Deferred→GH→Prop}
variable {dst:Option Nat} {ty:TypeId} {pos:String} {af:Array Edge} {gd:Option (Nat×Bool)}
end
section
variable {h h':GH} {q r:Nat} {M:Int→Option Int}
theorem Dt.keepNum (x:Dt h q Da Da M) (k:BZ (fun b=>b=r) h h') (hq:q≠r):Dt h' q Da Da M:=by
 obtain ⟨es,clk,h1,y⟩:=x;obtain ⟨o,h2,h3⟩:=k q _ _ h1 hq;rcases h3 with rfl | ⟨h3,_⟩
 ·exact ⟨es,clk,h2,y⟩
 ·cases h3
end
section
variable {P:Program} {E:FN P} {σ:Nat→Value} {ds:List Deferred} {h:GH} {T:(Nat→Value)→List Deferred→GH→Prop}
variable {dst:Option Nat} {ty:TypeId} {pos:String} {af:Array Edge} {gd:Option (Nat×Bool)}
theorem LK {t kt vt:TypeId} {x ix:Operand} {r d:Nat} {M:Int→Option Int} {a:Int} (ht:Hy P t=some (kt,vt)) (hx:AV σ x=.map (some r)) (hk:AV σ ix=.int .i64 a) (hm:Dt h r Da Da M) (hd:Nat.ble (d+1) 10000=true)
  (hc:∀a,S2 P (d+1) kt (Da a)=true) (he:∀a b,Lt P (d+1) kt (Da a) (Da b)=some (a==b)) (hz:(P.info? vt).bind (·.zero)=some (.int .i64 0))
  (k:T (putS σ dst (.int .i64 ((M a).getD 0))) ds h):Bd E ⟨dst,.lookup t x ix false,ty,pos,af,gd⟩ σ ds h T:=by
 refine MX (ek:=Da) (ev:=Da) (a:=a) (z:=.int .i64 0) ht hx hk hm hd (hc _) (fun b=>he a b) hz ?_;cases hM:M a <;> (rw [hM] at k;exact k)
theorem Rz {t kt vt:TypeId} {om ok ox:Operand} {r d:Nat} {M:Int→Option Int} {a n:Int} (ht:Hy P t=some (kt,vt)) (hm':AV σ om=.map (some r)) (hk:AV σ ok=.int .i64 a) (hv:AV σ ox=.int .i64 n) (hm:Dt h r Da Da M) (hd:Nat.ble (d+1) 10000=true)
  (hc:∀a,S2 P (d+1) kt (Da a)=true) (he:∀a b,Lt P (d+1) kt (Da a) (Da b)=some (a==b)) (hs:∀a,Instr.sameBits 10000 (Da a) (Da a)=true)
  (k:∀h',Dt h' r Da Da (fun b=>if b=a then some n else M b)→(∀b,b≠r→h' b=h b)→T (putS σ dst undef) ds h'):Bd E ⟨dst,.mapUpdate t om ok ox,ty,pos,af,gd⟩ σ ds h T:=
 Iq (a:=a) (v:=n) (ek:=Da) (ev:=Da) ht hm' hk hv hm hd (hc _) (fun b=>he a b) (hs _) k
end
theorem Np (a:Int):Instr.sameBits 10000 (Da a) (Da a)=true:=by
 show Instr.sameBits (9999+1) (Value.int .i64 a) (Value.int .i64 a)=true;unfold Instr.sameBits;simp
def EP (f:Nat→Int):Nat→Int→Option Int
 | 0=>fun _=>none
 | k+1=>fun b=>if b=f k then some ((EP f k (f k)).getD 0+1) else EP f k b
theorem HN (f:Nat→Int):∀(k:Nat) (b:Int),0≤(EP f k b).getD 0∧(EP f k b).getD 0≤(k:Int)
 | 0,b=>by simp [EP]
 | k+1,b=>by
  have h1:=HN f k b;have h2:=HN f k (f k);unfold EP;split
  ·show 0≤(EP f k (f k)).getD 0+1∧(EP f k (f k)).getD 0+1≤((k+1:Nat):Int);omega
  ·omega
def GU (f:Nat→Int):Nat→Int
 | 0=>0
 | k+1=>max (GU f k) ((EP f (k+1) (f k)).getD 0)
def DI (w:Nat→Int) (n:Int):Nat→Int×Int
 | 0=>(-1,n)
 | k+1=>if w k<(DI w n k).2 then ((k:Int),w k) else DI w n k
section
variable (d m:Int) (gs:List Good) (ms:List AB) (cs:List AK)
def Hm:Int:=AW d m gs ms cs []
def E6 (g:Nat):Int:=GU (fun i=>(AH ms ((AP d gs ms cs m).getD ((i:Int)).toNat AS.zero) (g:Int) d).1) (AP d gs ms cs m).length
def KT:Int:=if Hm d m gs ms cs=0 then (DI (E6 d m gs ms cs) ((AP d gs ms cs m).length:Int) gs.length).1 else 0
def I6:Int:=if Hm d m gs ms cs=0 then (DI (E6 d m gs ms cs) ((AP d gs ms cs m).length:Int) gs.length).2 else 0
end
end Go.Ns
namespace Go.Ns
open Go.Conc
open Classical in
noncomputable def GH.delS (h:GH) (X:Nat→Prop):GH:=fun b=>if X b then none else h b
section
variable {h h0 h':GH} {X:Nat→Prop}
theorem GH.delS_in {b:Nat} (x:X b):h.delS X b=none:=if_pos x
theorem GH.delS_ne {b:Nat} (x:¬X b):h.delS X b=h b:=if_neg x
theorem GH.delS_le (h:GH) (X:Nat→Prop):(h.delS X).Le h:=fun b p o hb=>by
 by_cases e:X b
 ·rw [GH.delS_in e] at hb;cases hb
 ·rw [GH.delS_ne e] at hb;exact ⟨o,hb,.inl rfl⟩
theorem GH.Le.delS (l:h0.Le h) (hX:∀b,X b→h0 b=none):h0.Le (h.delS X):=fun b p o hb=>by
 have e:¬X b:=fun x=>by rw [hX b x] at hb;cases hb
 rw [GH.delS_ne e];exact l b p o hb
theorem Aa.delS {b off n:Nat} {vs:Array Value} (x:Aa h b off n vs) (e:¬X b):Aa (h.delS X) b off n vs:=x.same (GH.delS_ne e)
theorem AU.slDelS {α:Type} {v:Value} {t:TypeId} {n:Nat} {enc:α→Array Value} {xs:List α} (x:AU h0 h v t n enc xs) (f:∀b,back v=some b→¬X b):AN (h.delS X) v n enc xs:=
 AU.sl (h0:=h0) (x.keep fun b o hb ho=>by rw [GH.delS_ne (f b hb)];exact ho)
theorem AU.rebase {α:Type} {h1:GH} {v:Value} {t:TypeId} {n:Nat} {enc:α→Array Value} {xs:List α} (x:AU h0 h v t n enc xs) (f:∀b,back v=some b→h1 b=none):AU h1 h v t n enc xs:=by
 rcases x with x | ⟨b,cap,c,rfl,h2,h3⟩
 ·exact .inl x
 ·exact .inr ⟨b,cap,c,rfl,f b rfl,h3⟩
end
def WC (d:Nat):Deferred:={ target:=.collected d,args:=#[] }
def Fh (h0 h:GH) (ds:List Deferred):Prop:=∃l:List Nat,ds=l.map WC∧l.Nodup∧∀d ∈ l,h0 d=none∧h d=some (true,.deferred (some []))
theorem Fh.nil (h0 h:GH):Fh h0 h []:=⟨[],rfl,List.nodup_nil,fun _ hd=>by cases hd⟩
theorem Fh.le {h0 h h':GH} {ds:List Deferred} (m:Fh h0 h ds) (l:h.Le h'):Fh h0 h' ds:=by
 obtain ⟨L,e,n,x⟩:=m;exact ⟨L,e,n,fun d hd=>⟨(x d hd).1,l.keep (x d hd).2 rfl⟩⟩
theorem Fh.cons {h0 h h':GH} {ds:List Deferred} {d:Nat} (m:Fh h0 h ds) (l:h.Le h') (hn:h d=none) (h0n:h0 d=none) (hd:h' d=some (true,.deferred (some []))):Fh h0 h' ({ target:=.collected d,args:=#[] } ::ds):=by
 obtain ⟨L,rfl,n,x⟩:=m;refine ⟨d ::L,rfl,List.nodup_cons.2 ⟨fun hm=>?_,n⟩,fun b hb=>?_⟩
 ·rw [(x d hm).2] at hn;cases hn
 ·rcases List.mem_cons.1 hb with rfl | hb
  ·exact ⟨h0n,hd⟩
  ·exact ⟨(x b hb).1,l.keep (x b hb).2 rfl⟩
def Ur (h h':GH):Prop:=∀b,h b≠some (true,.deferred (some []))→h' b=h b
theorem AN.sameM {α:Type} {h h':GH} {v:Value} {n:Nat} {enc:α→Array Value} {xs:List α} (x:AN h v n enc xs) (s:Ur h h'):AN h' v n enc xs:=by
 obtain ⟨a,cap,hv,hc,hm,he⟩:=x;refine ⟨a,cap,hv,hc,hm,fun i hi=>?_⟩;obtain ⟨b,off,h1,h2⟩:=he i hi;refine ⟨b,off,h1,h2.same (s b fun e=>?_)⟩;obtain ⟨p,c,t,z,q,_⟩:=h2;rw [e] at q;cases q
theorem LL {P:Program} {fn:Func} {σ:Nat→Value} {R:Value→GH→Prop} {h0:GH}:∀{ds:List Deferred} {h:GH},Fh h0 h ds→h0.Le h→(∀h',Ur h h'→h0.Le h'→FD P fn σ R [] h')→FD P fn σ R ds h:=by
 intro ds h ⟨l,e,n,x⟩ lB k;subst e
 induction l generalizing h with
 | nil=>exact k h (fun _ _=>rfl) lB
 | cons d l ih=>
  have hd:=x d (List.mem_cons_self ..);refine ⟨d,rfl,_,hd.2,rfl,?_⟩;have nd:=List.nodup_cons.1 n;have ho:∀b,b≠d→(h.set d true (.deferred none)) b=h b:=fun b hb=>GH.set_ne _ _ _ hb;refine ih nd.2 (fun b hb=>?_) (lB.upd hd.1 ho) fun h' s l'=>k h' (fun b hb=>?_) l'
  ·have:=x b (List.mem_cons_of_mem _ hb)
   exact ⟨this.1,(ho b fun e=>nd.1 (e▸hb)).trans this.2⟩
  ·have e:b≠d:=fun e=>hb (e▸hd.2);rw [s b (by rw [ho b e];exact hb),ho b e]
theorem LM {α:Type} {enc:α→Array Value} {n:Nat}:∀{xs:List α},(∀x ∈ xs,(enc x).size=n)→∀(i:Nat) (z:α),i<xs.length→Cc enc xs=Cc enc (xs.take i)++(enc (xs.getD i z)).toList++Cc enc (xs.drop (i+1))
 | [],_,i,z,h=>by simp at h
 | y ::xs,hn,0,z,h=>by simp [Cc]
 | y ::xs,hn,i+1,z,h=>by
  have:=LM (fun x hx=>hn x (List.mem_cons_of_mem _ hx)) i z (by simpa using h)
  show (enc y).toList++Cc enc xs=((enc y).toList++Cc enc (xs.take i))++(enc (xs.getD i z)).toList++Cc enc (xs.drop (i+1));rw [this];simp only [List.append_assoc]
theorem O0 {α:Type} {enc:α→Array Value}:∀{xs:List α} (i:Nat) (x:α),i<xs.length→Cc enc (xs.set i x)=Cc enc (xs.take i)++(enc x).toList++Cc enc (xs.drop (i+1))
 | [],i,x,h=>by simp at h
 | y ::xs,0,x,h=>by simp [Cc]
 | y ::xs,i+1,x,h=>by
  have:=O0 (enc:=enc) (xs:=xs) i x (by simpa using h)
  show (enc y).toList++Cc enc (xs.set i x)=((enc y).toList++Cc enc (xs.take i))++(enc x).toList++Cc enc (xs.drop (i+1));rw [this];simp only [List.append_assoc]
theorem AU.put {α:Type} {h0 h h':GH} {t:TypeId} {n cap b i dl:Nat} {enc:α→Array Value} {xs:List α} {c:Array Value} {vs:List Value} {x':α} (z:α) (x:AU h0 h (.slice (some ⟨b,0,none⟩) xs.length cap) t n enc xs) (hb:h b=some (true,.cells c t (0,0)))
  (hi:i<xs.length) (hz:dl+vs.length≤n) (heq:Bj (enc (xs.getD i z)) dl vs=enc x') (hb':h' b=some (true,.cells (Bj c (i*n+dl) vs) t (0,0))):AU h0 h' (.slice (some ⟨b,0,none⟩) xs.length cap) t n enc (xs.set i x'):=by
 rcases x with ⟨e,_⟩ | ⟨b1,cap1,c1,e,f0,f1,f2,f3,f4,f5,f6⟩
 ·cases e
 simp only [Value.slice.injEq,Option.some.injEq,Addr.mk.injEq] at e;obtain ⟨⟨rfl,_⟩,_,rfl⟩:=e;rw [hb] at f1;simp only [Option.some.injEq,Prod.mk.injEq,Obj.cells.injEq,true_and] at f1;obtain ⟨rfl,_⟩:=f1;have hx:(enc (xs.getD i z)).size=n:=f6 _ (Ck hi);have hx':(enc x').size=n:=by rw [←heq,Ep];exact hx
 refine .inr ⟨_,_,_,by rw [List.length_set],f0,hb',by rw [Ep];exact f2,by rw [List.length_set];exact f3,by rw [List.length_set];exact f4,?_,fun y hy=>?_⟩
 ·rw [List.length_set];have hA:(Cc enc (xs.take i)).length=i*n:=by
   rw [DL (n:=n) (fun y hy=>f6 y (List.mem_of_mem_take hy)),List.length_take];congr 1;omega
  have hlen:(Cc enc xs).length=xs.length*n:=DL f6;have hmul:i*n+n≤xs.length*n:=by rw [←Nat.succ_mul];exact Nat.mul_le_mul_right n hi
  have hcap:xs.length*n≤c.size:=by rw [f2];exact Nat.mul_le_mul_right n f3
  have hc:c.toList=Cc enc xs++c.toList.drop (xs.length*n):=by rw [←f5,List.take_append_drop]
  have hB:(enc x').toList=(enc (xs.getD i z)).toList.take dl++vs++(enc (xs.getD i z)).toList.drop (dl+vs.length):=by rw [←heq,DT _ _ _ (by omega)]
  have hBl:(enc (xs.getD i z)).toList.length=n:=by rw [Array.length_toList];exact hx
  have hC:(Cc enc (xs.take i)).length+n+(Cc enc (xs.drop (i+1))).length=xs.length*n:=by
   rw [←hlen];conv=>rhs;rw [LM f6 i z hi]
   rw [List.length_append,List.length_append,hBl]
  rw [DT _ _ _ (by omega),O0 i x' hi,hB,hc,LM f6 i z hi];generalize enc (xs.getD i z)=B at *;generalize Cc enc (xs.take i)=A at *;generalize Cc enc (xs.drop (i+1))=C at *;generalize c.toList.drop (xs.length*n)=R at *;have e1:(A++B.toList++C++R).take (i*n+dl)=A++B.toList.take dl:=by
   rw [List.append_assoc,List.append_assoc,←hA,List.take_length_add_append,List.take_append_of_le_length (by omega)]
  have e2:(A++B.toList++C++R).drop (i*n+dl+vs.length)=B.toList.drop (dl+vs.length)++C++R:=by
   rw [List.append_assoc,List.append_assoc,show i*n+dl+vs.length=A.length+(dl+vs.length) by omega,List.drop_length_add_append,List.drop_append_of_le_length (by omega),List.append_assoc]
  rw [e1,e2];have e3:A++B.toList.take dl++vs++(B.toList.drop (dl+vs.length)++C++R)=(A++(B.toList.take dl++vs++B.toList.drop (dl+vs.length))++C)++R:=by simp only [List.append_assoc]
  rw [e3,List.take_left' ?_];simp only [List.length_append,List.length_take,List.length_drop,hBl];omega
 ·rcases List.mem_or_eq_of_mem_set hy with h | rfl
  ·exact f6 y h
  ·exact hx'
theorem AU.opened {α:Type} {h0 h:GH} {v:Value} {t:TypeId} {n k:Nat} {enc:α→Array Value} {xs:List α} (x:AU h0 h v t n enc xs) (hk:k<xs.length):∃b cap c,v=.slice (some ⟨b,0,none⟩) xs.length cap∧h b=some (true,.cells c t (0,0)):=by
 rcases x with ⟨_,rfl⟩ | ⟨b,cap,c,h1,_,h2,_⟩
 ·simp at hk
 ·exact ⟨b,cap,c,h1,h2⟩
theorem AU.room {α:Type} {h0 h:GH} {t:TypeId} {n cap b k:Nat} {enc:α→Array Value} {xs:List α} {c:Array Value} (x:AU h0 h (.slice (some ⟨b,0,none⟩) xs.length cap) t n enc xs) (hb:h b=some (true,.cells c t (0,0))) (hk:k<xs.length):k*n+n≤c.size:=by
 rcases x with ⟨e,_⟩ | ⟨b1,cap1,c1,e,f0,f1,f2,f3,_⟩
 ·cases e
 simp only [Value.slice.injEq,Option.some.injEq,Addr.mk.injEq] at e;obtain ⟨⟨rfl,_⟩,_,rfl⟩:=e;rw [hb] at f1;simp only [Option.some.injEq,Prod.mk.injEq,Obj.cells.injEq,true_and] at f1;obtain ⟨rfl,_⟩:=f1;rw [f2,←Nat.succ_mul];exact Nat.mul_le_mul_right n (by omega)
def clearAt (ms:List AB) (i:Nat):List AB:=ms.set i { ms.getD i AB.z with low:=0,high:=0 }
def C7 (ms:List AB) (l:List Int):List AB:=l.foldl (fun ms i=>clearAt ms i.toNat) ms
theorem O1 {ms:List AB} {l:List Int} {k:Nat} (hk:k<l.length):C7 ms (l.take (k+1))=clearAt (C7 ms (l.take k)) (l.getD k 0).toNat:=by
 unfold C7;rw [Fg 0 hk,List.foldl_append];rfl
theorem Fi (ms:List AB) (i:Nat):(clearAt ms i).length=ms.length:=by unfold clearAt;rw [List.length_set]
theorem MC (ms:List AB):∀(l:List Int),(C7 ms l).length=ms.length:=by
 intro l;unfold C7
 induction l generalizing ms with
 | nil=>rfl
 | cons i l ih=>show (l.foldl _ (clearAt ms i.toNat)).length=_;rw [ih,Fi]
theorem FK (ms:List AB) (i k:Nat):(clearAt ms i).getD k AB.z=ms.getD k AB.z∨(clearAt ms i).getD k AB.z={ ms.getD k AB.z with low:=0,high:=0 }:=by
 unfold clearAt;rw [List.getD_eq_getElem?_getD,List.getElem?_set];split
 ·rename_i e
  subst e;split
  ·exact .inr rfl
  ·rename_i h
   refine .inl ?_;rw [List.getD_eq_getElem?_getD,List.getElem?_eq_none (by omega)]
 ·refine .inl ?_;rw [←List.getD_eq_getElem?_getD]
theorem Jh {d:Int} {gs:List Good} {ms:List AB} {k:Nat} (h1:0≤(ms.getD k AB.z).kind∧(ms.getD k AB.z).kind≤4) (h2:0≤(ms.getD k AB.z).good∧(ms.getD k AB.z).good≤(gs.length:Int)-1)
  (h3:1≤(ms.getD k AB.z).day∧(ms.getD k AB.z).day≤d) (h4:CT ms k≤(ms.getD k AB.z).day) (h5:CM (ms.getD k AB.z).low (ms.getD k AB.z).high):Cl d gs ms k=0:=by
 unfold Cl;rw [if_neg (not_not_intro h1),if_neg (not_not_intro h2),if_neg (not_not_intro h3),if_neg (by omega),if_neg (not_not_intro h5)]
theorem BG.clearAt {d m:Int} {gs:List Good} {ms:List AB} {cs:List AK} (b:BG d m gs ms cs) (i:Nat):BG d m gs (clearAt ms i) cs:=by
 refine ⟨b.days,b.most,b.glen,b.good,by rw [Fi];exact b.mlen,fun k hk=>?_,b.clen,b.count⟩;rw [Fi] at hk;have hd:∀k,((Go.Ns.clearAt ms i).getD k AB.z).day=(ms.getD k AB.z).day:=fun k=>by rcases FK ms i k with e | e <;> rw [e]
 have hl:CT (Go.Ns.clearAt ms i) k=CT ms k:=by unfold CT;rw [hd]
 obtain ⟨g1,g2,g3,g4,g5⟩:=b.move' hk;refine Jh ?_ ?_ ?_ ?_ ?_
 ·rcases FK ms i k with e | e <;> rw [e] <;> exact g1
 ·rcases FK ms i k with e | e <;> rw [e] <;> exact g2
 ·rw [hd];exact g3
 ·rw [hl,hd];exact g4
 ·rcases FK ms i k with e | e <;> rw [e]
  ·exact g5
  ·show CM 0 0;decide
theorem BG.clear {d m:Int} {gs:List Good} {cs:List AK}:∀{l:List Int} {ms:List AB},BG d m gs ms cs→BG d m gs (C7 ms l) cs
 | [],_,b=>b
 | i ::l,_,b=>BG.clear (l:=l) (b.clearAt i.toNat)
def EZ (ms:List AB) (mask:Int) (k:Nat):Bool:=(List.range k).all fun i=> !Fe mask i || CZ ms i
def D0 (d:Int) (gs:List Good) (ms:List AB) (cs:List AK) (mask:Nat):Option (List Int):=
 if EZ ms (mask:Int) ms.length=true then
  if AP d gs (C7 ms (BE (mask:Int) ms.length)) cs 0=[] then none else some (BE (mask:Int) ms.length)
 else none
def C2 (d:Int) (gs:List Good) (ms:List AB) (cs:List AK) (k:Nat):List (List Int):=(List.range k).filterMap (D0 d gs ms cs)
theorem I7 {d:Int} {gs:List Good} {ms:List AB} {cs:List AK} {k:Nat} (h:D0 d gs ms cs k=none):C2 d gs ms cs (k+1)=C2 d gs ms cs k:=by
 unfold C2;rw [List.range_succ,List.filterMap_append];simp [h]
theorem Nq {d:Int} {gs:List Good} {ms:List AB} {cs:List AK} {k:Nat} {l:List Int} (h:D0 d gs ms cs k=some l):C2 d gs ms cs (k+1)=C2 d gs ms cs k++[l]:=by
 unfold C2;rw [List.range_succ,List.filterMap_append];simp [h]
theorem TS {n:Nat} (h:n≤6):1≤(2:Int) ^ n∧(2:Int) ^ n≤64:=by
 have:n=0∨n=1∨n=2∨n=3∨n=4∨n=5∨n=6:=by omega
 rcases this with rfl | rfl | rfl | rfl | rfl | rfl | rfl <;> decide
theorem R0 (mask:Int) (n q:Nat):q<(BE mask n).length→0≤(BE mask n).getD q 0∧(BE mask n).getD q 0<(n:Int):=fun hq=>by
 have:=Ck (d:=(0:Int)) hq
 unfold BE at this ⊢;obtain ⟨i,hi,e⟩:=List.mem_map.1 this
 have:=List.mem_range.1 (List.mem_filter.1 hi).1
 rw [←e];omega
theorem MD (ms:List AB) (mask:Int):EZ ms mask 0=true:=rfl
theorem H4 {ms:List AB} {mask:Int} {j:Nat} (h:EZ ms mask j=true) (e:mask.fdiv (2 ^ j)%2=0∨CZ ms (j:Int)=true):EZ ms mask (j+1)=true:=by
 unfold EZ at *;rw [List.range_succ,List.all_append,h];rcases e with e | e
 ·have:Fe mask j=false:=by unfold Fe;rw [decide_eq_false (by omega)]
  simp [this]
 ·simp [e]
theorem QI {d:Int} {gs:List Good} {ms:List AB} {cs:List AK} {k j:Nat} (hj:j<ms.length) (hb:¬(k:Int).fdiv (2 ^ j)%2=0) (hn:¬((0≤(j:Int)∧(j:Int)≤(ms.length:Int)-1)∧(ms.getD ((j:Int)).toNat AB.z).kind=0)):D0 d gs ms cs k=none:=by
 unfold D0;rw [if_neg];unfold EZ;rw [List.all_eq_true];intro h
 have:=h j (List.mem_range.2 hj)
 have e1:Fe (k:Int) j=true:=by unfold Fe;rw [decide_eq_true];omega
 have e2:CZ ms (j:Int)=false:=by unfold CZ;exact decide_eq_false hn
 rw [e1,e2] at this;cases this
theorem TT {d:Int} {gs:List Good} {ms:List AB} {cs:List AK} {k j q:Nat} (hj:j≤ms.length) (hj':¬(j:Int)<(ms.length:Int)) (ha:EZ ms (k:Int) j=true) (hq:¬(q:Int)<((BE (k:Int) j).length:Int)) (h:AP d gs (C7 ms ((BE (k:Int) j).take q)) cs 0=[]):D0 d gs ms cs k=none:=by
 obtain rfl:j=ms.length:=by omega
 rw [List.take_of_length_le (by omega)] at h;unfold D0;rw [if_pos ha,if_pos h]
theorem R1 {d:Int} {gs:List Good} {ms:List AB} {cs:List AK} {k j q:Nat} (hj:j≤ms.length) (hj':¬(j:Int)<(ms.length:Int)) (ha:EZ ms (k:Int) j=true) (hq:¬(q:Int)<((BE (k:Int) j).length:Int)) (h:AP d gs (C7 ms ((BE (k:Int) j).take q)) cs 0≠[]):D0 d gs ms cs k=some (BE (k:Int) j):=by
 obtain rfl:j=ms.length:=by omega
 rw [List.take_of_length_le (by omega)] at h;unfold D0;rw [if_pos ha,if_neg h]
theorem LN {fl:List Sl} {v:Value} {xs:List Int} {l:List (List Int)} (h:Bu fl=l):Bu (fl++[(v,xs)])=l++[xs]:=by unfold Bu at *;rw [List.map_append,h];rfl
theorem Bp.drop {h:GH} {l:List Sl} (a:Bp h l) (n:Nat):Bp h (l.drop n):=fun k=>by
 have:=a (n+k)
 rw [List.getD_eq_getElem?_getD] at this ⊢;rw [List.getElem?_drop];exact this
section
variable (d m:Int) (gs:List Good) (ms:List AB) (cs:List AK)
def DY:Int:=if AM d m gs ms cs=0 then (if (C2 d gs ms cs (2 ^ ms.length)).length=0 then 9 else 0) else AM d m gs ms cs
def Fj:List Int:=if DY d m gs ms cs=0 then G7 ((C2 d gs ms cs (2 ^ ms.length)).getD 0 []) ((C2 d gs ms cs (2 ^ ms.length)).drop 1) else []
end
section
variable {d m:Int} {gs:List Good} {ms:List AB} {cs:List AK} {fl:List Sl} {k:Nat}
theorem H5 (h:¬AM d m gs ms cs=0):DY d m gs ms cs=AM d m gs ms cs:=by unfold DY;rw [if_neg h]
theorem I8 (h:AM d m gs ms cs=0):DY d m gs ms cs=if (C2 d gs ms cs (2 ^ ms.length)).length=0 then 9 else 0:=by unfold DY;rw [if_pos h]
theorem Nr (n:Nat):((2 ^ n:Nat):Int)=(2:Int) ^ n:=by induction n with
 | zero=>rfl
 | succ n ih=>rw [Nat.pow_succ,Int.pow_succ,←ih];rfl
theorem Ji (hk:(k:Int)≤(2:Int) ^ ((ms.length:Int)).toNat) (hk':¬(k:Int)<(2:Int) ^ ((ms.length:Int)).toNat):k=2 ^ ms.length:=by
 have:=Nr ms.length
 rw [Int.toNat_natCast] at hk hk';omega
theorem Ca (l:List Sl):(Bu l).length=l.length:=by unfold Bu;simp
theorem QJ (h:¬AM d m gs ms cs=0):(.tuple #[.slice none 0 0,.int .i64 (AM d m gs ms cs)]:Value)=.tuple #[.slice none 0 0,.int .i64 (DY d m gs ms cs)]:=by rw [H5 h]
theorem HO (hfl:Bu fl=C2 d gs ms cs k) (hk:(k:Int)≤(2:Int) ^ ((ms.length:Int)).toNat) (hk':¬(k:Int)<(2:Int) ^ ((ms.length:Int)).toNat) (hb:¬¬AM d m gs ms cs=0) (h0:(fl.length:Int)=0):DY d m gs ms cs=9:=by
 obtain rfl:=Ji hk hk';rw [I8 (Decidable.not_not.1 hb),←hfl,Ca,if_pos (by omega)]
theorem HP (hfl:Bu fl=C2 d gs ms cs k) (hk:(k:Int)≤(2:Int) ^ ((ms.length:Int)).toNat) (hk':¬(k:Int)<(2:Int) ^ ((ms.length:Int)).toNat) (hb:¬¬AM d m gs ms cs=0) (h0:¬(fl.length:Int)=0):DY d m gs ms cs=0:=by
 obtain rfl:=Ji hk hk';rw [I8 (Decidable.not_not.1 hb),←hfl,Ca,if_neg (by omega)]
theorem QK (h:¬AM d m gs ms cs=0):Fj d m gs ms cs=[]:=by unfold Fj;rw [H5 h,if_neg h]
theorem O2 (hfl:Bu fl=C2 d gs ms cs k) (hk:(k:Int)≤(2:Int) ^ ((ms.length:Int)).toNat) (hk':¬(k:Int)<(2:Int) ^ ((ms.length:Int)).toNat) (hb:¬¬AM d m gs ms cs=0) (h0:(fl.length:Int)=0):Fj d m gs ms cs=[]:=by
 unfold Fj;rw [HO hfl hk hk' hb h0,if_neg (by decide)]
theorem R2 (hfl:Bu fl=C2 d gs ms cs k) (hk:(k:Int)≤(2:Int) ^ ((ms.length:Int)).toNat) (hk':¬(k:Int)<(2:Int) ^ ((ms.length:Int)).toNat) (hb:¬¬AM d m gs ms cs=0) (h0:¬(fl.length:Int)=0):Fj d m gs ms cs=G7 (fl.getD 0 Sl.z).2 (Bu (fl.drop 1)):=by
 have e:=Ji hk hk';unfold Fj;rw [HP hfl hk hk' hb h0,if_pos rfl];subst e;rw [←hfl,EH (by omega)];congr 1;unfold Bu;rw [List.map_drop]
end
theorem U5 {d:Int} {gs:List Good} {ms:List AB} {cs:List AK} {fl:List Sl} {k:Nat} (h:Bu fl=C2 d gs ms cs k):fl.length≤k:=by
 rw [←Ca,h];unfold C2
 have:=List.length_filterMap_le (D0 d gs ms cs) (List.range k)
 rw [List.length_range] at this;exact this
theorem O3 {v:Value} (h:v.cells=#[v]):Instr.fill (fun i=>some (i*1,1)) ((Array.range (1*1)).map (#[Value.slice none 0 0][·% #[Value.slice none 0 0].size]!)) [(0,v)]=some #[v]:=by
 have e:((Array.range (1*1)).map (#[Value.slice none 0 0][·% #[Value.slice none 0 0].size]!))=#[Value.slice none 0 0]:=by kernel_rfl
 rw [e];simp [Instr.fill,h]
def U6 {α:Type} (hB:GH) (r:Nat) (T t:TypeId) (wf:Value) (fl:List Sl) (pre:List α) (Y:Nat→Prop) (h:GH):Prop:=
 pre=[]∧h r=some (true,.cells #[wf] T (0,0))∧AU hB h wf t 1 K9 fl∧BA wf r∧hB r=none∧∀b,Y b↔b=r∨back wf=some b
def U7 {α:Type} (hB:GH) (r:Nat) (T t:TypeId) (fl:List Sl) (cd:Code) (all:List α) (c:Code) (h:GH):Prop:=
 c=cd∧(∃w,h r=some (true,.cells #[w] T (0,0))∧AU hB h w t 1 K9 fl∧BA w r)∧all≠[]
theorem Mm {α:Type} (hB:GH) (r:Nat) (T t:TypeId) (wf:Value) (fl:List Sl):Gn hB (U6 (α:=α) hB r T t wf fl):=by
 refine ⟨?_,?_⟩
 ·rintro pre Y h b ⟨_,h1,h2,h3,h0,h4⟩ hb;rcases (h4 b).1 hb with rfl | h5
  ·exact ⟨_,_,h1,rfl⟩
  ·obtain ⟨c,hc⟩:=h2.cellsAt b h5;exact ⟨_,_,hc,rfl⟩
 ·rintro pre Y h h' ⟨e,h1,h2,h3,h0,h4⟩ same lB;exact ⟨e,by rw [same r ((h4 r).2 (.inl rfl))];exact h1,h2.keep fun b o hb ho=>by rw [same b ((h4 b).2 (.inr hb))];exact ho,h3,h0,h4⟩
theorem QL {α:Type} {hK h:GH} {r:Nat} {T t:TypeId} {wf:Value} {fl:List Sl} (x:h r=some (true,.cells #[wf] T (0,0))) (o:AU hK h wf t 1 K9 fl) (f:BA wf r) :
  U6 (α:=α) (h.delS fun b=>b=r∨back wf=some b) r T t wf fl [] (fun b=>b=r∨back wf=some b) h:=
 ⟨rfl,x,o.rebase fun _ q=>GH.delS_in (.inr q),f,GH.delS_in (.inl rfl),fun _=>Iff.rfl⟩
theorem O4 {α:Type} {hB:GH} {r:Nat} {T t:TypeId} {fl:List Sl} {cd:Code} {all:List α}:∀c (h h':GH) l lo,U7 hB r T t fl cd all c h→h l=some (true,.loop lo)→(∀b,b≠l→h' b=h b)→U7 hB r T t fl cd all c h':=by
 rintro c h h' l lo ⟨q1,⟨w,q2,q3,q4⟩,q5⟩ hl ho;refine ⟨q1,⟨w,(ho _ fun e=>by subst e;rw [q2] at hl;cases hl).trans q2,q3.keep fun b o hb hbo=>?_,q4⟩,q5⟩;obtain ⟨c,hc⟩:=q3.cellsAt b hb;exact (ho b fun e=>by subst e;rw [hc] at hl;cases hl).trans hbo
end Go.Ns
namespace Go.Ns
open Go.Conc
section
variable {P:Program} {M:Type}
structure ME (P:Program) (M:Type) where
 W:Wk P
 Rep:Nat→M→Value→GH→Prop
 main:Bool
 fn:FuncId
 rd:Option Nat
 N:Nat
def ME.wk (F:ME P M):Option (ES M)→Wk P
 | none=>F.W
 | some s=>⟨F.main,Ds P F.main (Gc P F.Rep F.W.K s F.main),Ik _ _⟩
abbrev ME.env (F:ME P M) (i:Option (ES M)):FN P:=⟨F.wk i,F.fn,F.rd,F.N⟩
abbrev O5 (M:Type):=Option (ES M)→Exit→(Nat→Value)→List Deferred→GH→Prop
def Ig (F:ME P M) (c:Code) (i:Option (ES M)) (σ:Nat→Value) (ds:List Deferred) (h:GH) (Q:O5 M):Prop:=
 ∀(b:Frame) (k:List Item) (cs:List Frame) (L:Option (ES M)→Lv) (t:Array Value),b.fn=F.fn→b.roundOf=F.rd→(∀i,Ih (F.wk i) b cs (L i))→Bc t F.N σ→
  (∀i e σ' ds' h',Q i e σ' ds' h'→∀t',Bc t' F.N σ'→CU (F.wk i) (L i) b k cs e t' ds' h')→(F.wk i).K (G (CH b t ds (.code c ::k)) cs) h
def I9 (F:ME P M) (ops:Array Oper) (l:List Oper) (i:Option (ES M)) (σ:Nat→Value) (ds:List Deferred) (h:GH) (Q:O5 M):Prop:=
 ∀(n:Nat) (b:Frame) (k:List Item) (cs:List Frame) (L:Option (ES M)→Lv) (t:Array Value),(∀j,l[j]? =ops[n+j]?)→b.fn=F.fn→b.roundOf=F.rd→(∀i,Ih (F.wk i) b cs (L i))→Bc t F.N σ→
  (∀i e σ' ds' h',Q i e σ' ds' h'→∀t',Bc t' F.N σ'→CU (F.wk i) (L i) b k cs e t' ds' h')→(F.wk i).K (G (CH b t ds (.inRegion ops (List.range' n l.length) ::k)) cs) h
variable {F:ME P M} {i:Option (ES M)} {σ:Nat→Value} {ds:List Deferred} {h:GH} {Q:O5 M}
theorem GV {c:Code} (x:Tr (F.env i) c σ ds h (Q i)):Ig F c i σ ds h Q:=fun b k cs L t hb hr hl hs hc=>x b k cs (L i) t hb hr (hl i) hs (hc i)
theorem JA {x y:Code} (a:Ig F x i σ ds h (fun i e σ' ds' h'=>match e with | .normal=>Ig F y i σ' ds' h' Q | e=>Q i e σ' ds' h')):Ig F (.seq x y) i σ ds h Q:=by
 intro b k cs L t hb hr hl hs hc;refine Wk.go (CH b t ds (.code x ::.code y ::k)) (fun w=>by rw [A0];simp [stepG.exec,CH,G]) ?_;refine a b (.code y ::k) cs L t hb hr hl hs fun i e σ' ds' h' q t' ht'=>?_;cases e with
 | normal=>exact q b k cs L t' hb hr hl ht' hc
 | exit id=>exact CU.push rfl (by simp) (hc _ _ _ _ _ q t' ht')
 | ret=>exact CU.push rfl (by simp) (hc _ _ _ _ _ q t' ht')
 | goto l=>exact CU.push rfl (by simp) (hc _ _ _ _ _ q t' ht')
 | panic l=>exact CU.push rfl (by simp) (hc _ _ _ _ _ q t' ht')
 | outgrown=>exact CU.push rfl (by simp) (hc _ _ _ _ _ q t' ht')
theorem CD {x y:Code} (a:Tr (F.env i) x σ ds h (fun e σ' ds' h'=>match e with | .normal=>Ig F y i σ' ds' h' Q | e=>Q i e σ' ds' h')):Ig F (.seq x y) i σ ds h Q:=
 JA (GV (Q:=fun i e σ' ds' h'=>match e with | .normal=>Ig F y i σ' ds' h' Q | e=>Q i e σ' ds' h') a)
theorem O6 {c:Operand} {x y:Code} {t:Bool} (hc:AV σ c=.bool t) (a:Ig F (if t then x else y) i σ ds h Q):Ig F (.cond c x y) i σ ds h Q:=by
 intro b k cs L tm hb hr hl hs hq;refine Wk.go (CH b tm ds (.code (if t then x else y) ::k)) (fun w=>?_) (a b k cs L tm hb hr hl hs hq);have he:(CH b tm ds (.code (.cond c x y) ::k)).eval c=.bool t:=by rw [HC hs];exact hc
 simp only [CH] at he;rw [A0];simp [stepG.exec,CH,G,he]
theorem TU {c:Operand} {x y:Code} (hc:AV σ c=.bool true) (a:Ig F x i σ ds h Q):Ig F (.cond c x y) i σ ds h Q:=O6 hc a
theorem R3 {c:Operand} {x y:Code} (hc:AV σ c=.bool false) (a:Ig F y i σ ds h Q):Ig F (.cond c x y) i σ ds h Q:=O6 hc a
theorem UV {c:Operand} {x y:Code} {t:Bool} (hc:AV σ c=.bool t) (a:t=true→Ig F x i σ ds h Q) (a':t=false→Ig F y i σ ds h Q):Ig F (.cond c x y) i σ ds h Q:=by
 cases t with
 | true=>exact TU hc (a rfl)
 | false=>exact R3 hc (a' rfl)
theorem Hn {id:Nat} {c:Code} (a:Ig F c i σ ds h (fun i e σ' ds' h'=>match e with | .normal=>Q i .normal σ' ds' h' | .exit id'=>if id'=id then Q i .normal σ' ds' h' else Q i (.exit id') σ' ds' h' | e=>Q i e σ' ds' h')) :
  Ig F (.block id c) i σ ds h Q:=by
 intro b k cs L t hb hr hl hs hc;refine Wk.go (CH b t ds (.code c ::.inBlock id ::k)) (fun w=>by rw [A0];simp [stepG.exec,CH,G]) ?_;refine a b (.inBlock id ::k) cs L t hb hr hl hs fun i e σ' ds' h' q t' ht'=>?_;cases e with
 | normal=>exact Wk.go (CH b t' ds' k) (fun w=>by rw [A0];simp [stepG.exec,CH,G]) (hc _ _ _ _ _ q t' ht')
 | exit id'=>
  by_cases hid:id'=id
  ·simp only [hid,if_true] at q
   have:=hc _ _ _ _ _ q t' ht'
   simp only [CU,exitTo,hid,beq_self_eq_true,if_true];exact this
  ·simp only [hid,if_false] at q
   have:=hc _ _ _ _ _ q t' ht'
   have hne:(id==id')=false:=by simp;exact fun h=>hid h.symm
   simp only [CU,exitTo,hne] at this ⊢;exact this
 | ret=>exact hc _ _ _ _ _ q t' ht'
 | goto l=>exact hc _ _ _ _ _ q t' ht'
 | panic l=>exact hc _ _ _ _ _ q t' ht'
 | outgrown=>exact hc _ _ _ _ _ q t' ht'
theorem O7 {c:Code} (I:Nat→Option (ES M)→(Nat→Value)→List Deferred→GH→Prop) {n:Nat} (i0:I n i σ ds h)
  (round:∀n i σ ds h,I n i σ ds h→Ig F c i σ ds h (fun i e σ' ds' h'=>match e with | .normal=>∃m,m<n∧I m i σ' ds' h' | e=>Q i e σ' ds' h')):Ig F (.loop c) i σ ds h Q:=by
 intro b k cs L t hb hr hl hs hc;refine Wk.go (CH b t ds (.code c ::.inLoop c ::k)) (fun w=>by rw [A0];simp [stepG.exec,CH,G]) ?_;have key:∀n i σ ds h t,I n i σ ds h→Bc t F.N σ→(F.wk i).K (G (CH b t ds (.code c ::.inLoop c ::k)) cs) h:=by
  intro n
  induction n using Nat.strongRecOn with
  | ind n ih=>
   intro i σ ds h t hi hs;refine round n i σ ds h hi b (.inLoop c ::k) cs L t hb hr hl hs fun i e σ' ds' h' q t' ht'=>?_;cases e with
   | normal=>
    obtain ⟨m,hm,hi'⟩:=q;exact Wk.go (CH b t' ds' (.code c ::.inLoop c ::k)) (fun w=>by rw [A0];simp [stepG.exec,CH,G]) (ih m hm _ _ _ _ _ hi' ht')
   | exit id=>exact CU.push rfl (by simp) (hc _ _ _ _ _ q t' ht')
   | ret=>exact CU.push rfl (by simp) (hc _ _ _ _ _ q t' ht')
   | goto l=>exact CU.push rfl (by simp) (hc _ _ _ _ _ q t' ht')
   | panic l=>exact CU.push rfl (by simp) (hc _ _ _ _ _ q t' ht')
   | outgrown=>exact CU.push rfl (by simp) (hc _ _ _ _ _ q t' ht')
 exact key n i σ ds h t i0 hs
theorem IU {id:Nat} {l:List Oper} (a:I9 F l.toArray l i σ ds h Q):Ig F (.region id l.toArray false) i σ ds h Q:=by
 intro b k cs L t hb hr hl hs hc;refine Wk.go (CH b t ds (.inRegion l.toArray (List.range' 0 l.length) ::k)) (fun w=>?_) (a 0 b k cs L t (by simp) hb hr hl hs hc);rw [A0];simp [stepG.exec,CH,G,List.range_eq_range']
theorem JB {ops:Array Oper} (q:Q i .normal σ ds h):I9 F ops [] i σ ds h Q:=by
 intro n b k cs L t hi hb hr hl hs hc;exact Wk.go (CH b t ds k) (fun w=>by rw [A0];simp [stepG.exec,CH,G]) (hc _ _ _ _ _ q t hs)
theorem Fk {ops:Array Oper} {o:Oper} {l:List Oper} (hg:o.guard=none) (hdf:F.rd=none∨DN o.op=false) (hd:Df o.dst F.N=true)
  (x:Bd (F.env i) o σ ds h fun σ' ds' h'=>I9 F ops l i σ' ds' h' Q):I9 F ops (o ::l) i σ ds h Q:=by
 intro n b k cs L t hi hb hr hl hs hc;have ho:ops[n]? =some o:=by simpa using (hi 0).symm
 refine KL (E:=F.env i) (rest:=List.range' (n+1) l.length) ho (by simp [Region.wanted,hg]) (hr▸hdf) hd hs x fun σ' ds' h' y t' ht'=>?_;exact y (n+1) b k cs L t' (fun j=>by have:=hi (j+1);simpa [Nat.add_assoc,Nat.add_comm 1 j] using this) hb hr hl ht' hc
theorem O8 {main:Bool} {b:Frame} {t:Array Value} {ops:Array Oper} {n:Nat} {rest:List Nat} {k:List Item} {cs:List Frame} {o:Oper} {N:Nat} (hs:Bc t N σ) (ho:ops[n]? =some o) (hw:Region.wanted o (yielded ops t)=true)
  (hdf:b.roundOf=none∨DN o.op=false) (w:World):stepG P main (G (CH b t ds (.inRegion ops (n ::rest) ::k)) cs) w=stepG.apply P true (CH b t ds (.inRegion ops (n ::rest) ::k)) cs none (execOp (AV σ) o) w:=by
 have hev:=HC (b:=b) (ds:=ds) (k:=.inRegion ops (n ::rest) ::k) hs;rw [←hev];have hw':((ops[n]?).map (Region.wanted · (yielded ops t))).getD false=true:=by simp [ho,hw]
 rw [A0];unfold stepG.exec;simp only [CH,hw',↓reduceIte];unfold stepG.oper;simp only [Frame.oper?,ho];rcases hdf with e | e
 ·simp only [e]
 ·cases hq:o.op <;> first | rfl | (rw [hq] at e;cases e;done) | (cases b.roundOf <;> rfl)
theorem RT {main:Bool} {b:Frame} {t:Array Value} {ops:Array Oper} {n:Nat} {rest:List Nat} {k:List Item} {cs:List Frame} {o:Oper} {N:Nat} {w:World} {cc:Array CommCase} {bl:Bool} {sh:CommShape} (hs:Bc t N σ) (ho:ops[n]? =some o) (hw:Region.wanted o (yielded ops t)=true)
  (hdf:b.roundOf=none∨DN o.op=false) (hr:(execOp (AV σ) o).runT P w #[]=(.ok (.comm cc bl sh) w,#[])) :
  stepG P main (G (CH b t ds (.inRegion ops (n ::rest) ::k)) cs) w=.comm (G (CH b t ds (.inRegion ops (n ::rest) ::k)) cs) cc bl sh w #[]:=by
 rw [O8 hs ho hw hdf];simp only [stepG.apply,hr,if_true,ite_self,seen_none];rfl
theorem TV {main:Bool} {b:Frame} {t:Array Value} {ops:Array Oper} {n:Nat} {rest:List Nat} {k:List Item} {cs:List Frame} {o:Oper} {N:Nat} {w:World} {f:Fn} {cap args:Array Value} (hs:Bc t N σ) (ho:ops[n]? =some o) (hw:Region.wanted o (yielded ops t)=true)
  (hdf:b.roundOf=none∨DN o.op=false) (hr:(execOp (AV σ) o).runT P w #[]=(.ok (.spawn { target:=.fn f cap,args:=args }) w,#[])) :
  stepG P main (G (CH b t ds (.inRegion ops (n ::rest) ::k)) cs) w=.spawn (G ((CH b t ds (.inRegion ops (n ::rest) ::k)).finish undef) cs) (born P { target:=.fn f cap,args:=args }) w #[]:=by
 rw [O8 hs ho hw hdf];simp only [stepG.apply,hr,if_true,ite_self,seen_none];simp [GStep.after,G,born]
variable {ops:Array Oper} {o:Oper} {l:List Oper}
theorem IV (hl:l≠[]):I9 F ops l (some .never) σ ds h Q:=fun n b k cs L t hi hb hr _ hs hc=>Ds.stop rfl
theorem R4 {c:Nat} {m:M} {nx:ES M} {v z:Value} {hm h1:GH} (hg:o.guard=none) (hdf:DN o.op=false) (hd:Df o.dst F.N=true)
  (hr:∀w,(execOp (AV σ) o).runT P w #[]=(.ok (.comm #[scase c v z] true .send) w,#[])) (hsp:GH.Split h h1 hm) (hrep:F.Rep c m v hm) (hnx:¬nx.isDone)
  (x:I9 F ops l (some nx) (putS σ o.dst undef) ds h1 Q):I9 F ops (o ::l) (some (.send c m nx)) σ ds h Q:=by
 intro n b k cs L t hi hb hrd hl hs hc;have ho:ops[n]? =some o:=by simpa using (hi 0).symm
 refine Ds.stop ⟨_,cs,v,z,hm,h1,rfl,⟨fun w f=>?_,hsp,hrep,?_⟩⟩
 ·rw [List.length_cons,List.range'_succ];exact RT hs ho (by simp [Region.wanted,hg]) (.inr hdf) (hr w)
 ·rw [FW hnx,List.length_cons,List.range'_succ,Cf ho];exact x (n+1) b k cs L _ (fun j=>by have:=hi (j+1);simpa [Nat.add_assoc,Nat.add_comm 1 j] using this) hb hrd hl (hs.putS hd undef) hc
theorem Mn {c:Nat} {f:Option M→ES M} {z:Value} {ok:Bool} (hg:o.guard=none) (hdf:DN o.op=false) (hd:Df o.dst F.N=true)
  (hr:∀w,(execOp (AV σ) o).runT P w #[]=(.ok (.comm #[rcase c z] true (.recv ok)) w,#[])) (hnx:∀o,¬(f o).isDone)
  (x:∀m v hm,F.Rep c m v hm→h.Compat hm→I9 F ops l (some (f (some m))) (putS σ o.dst (recvd ok v true)) ds (h.join hm) Q)
  (y:I9 F ops l (some (f none)) (putS σ o.dst (recvd ok z false)) ds h Q):I9 F ops (o ::l) (some (.recv c f)) σ ds h Q:=by
 intro n b k cs L t hi hb hrd hl hs hc;have ho:ops[n]? =some o:=by simpa using (hi 0).symm
 refine Ds.stop ⟨_,cs,z,ok,rfl,⟨fun w fw=>?_,fun m v hm hrep hcp=>?_,?_⟩⟩
 ·rw [List.length_cons,List.range'_succ];exact RT hs ho (by simp [Region.wanted,hg]) (.inr hdf) (hr w)
 ·show Ee P F.Rep F.W.K (f (some m)) F.main _ _;rw [FW (hnx _),List.length_cons,List.range'_succ,Cf ho];exact x m v hm hrep hcp (n+1) b k cs L _ (fun j=>by have:=hi (j+1);simpa [Nat.add_assoc,Nat.add_comm 1 j] using this) hb hrd hl (hs.putS hd _) hc
 ·show Ee P F.Rep F.W.K (f none) F.main _ _;rw [FW (hnx _),List.length_cons,List.range'_succ,Cf ho];exact y (n+1) b k cs L _ (fun j=>by have:=hi (j+1);simpa [Nat.add_assoc,Nat.add_comm 1 j] using this) hb hrd hl (hs.putS hd _) hc
theorem UW {ch nx:ES M} {f:Fn} {cap args:Array Value} {hc h1:GH} (hg:o.guard=none) (hdf:DN o.op=false) (hd:Df o.dst F.N=true)
  (hr:∀w,(execOp (AV σ) o).runT P w #[]=(.ok (.spawn { target:=.fn f cap,args:=args }) w,#[])) (hsp:GH.Split h h1 hc) (hnx:¬nx.isDone)
  (child:Ee P F.Rep F.W.K ch false (born P { target:=.fn f cap,args:=args }) hc) (x:I9 F ops l (some nx) (putS σ o.dst undef) ds h1 Q):I9 F ops (o ::l) (some (.spawn ch nx)) σ ds h Q:=by
 intro n b k cs L t hi hb hrd hl hs hq;have ho:ops[n]? =some o:=by simpa using (hi 0).symm
 refine Ds.stop ⟨_,cs,(CH b t ds (.inRegion ops (List.range' n (o ::l).length) ::k)).finish undef,_,hc,h1,rfl,⟨fun w fw=>?_,hsp,?_,child⟩⟩
 ·rw [List.length_cons,List.range'_succ];exact TV hs ho (by simp [Region.wanted,hg]) (.inr hdf) (hr w)
 ·rw [FW hnx,List.length_cons,List.range'_succ,Cf ho];exact x (n+1) b k cs L _ (fun j=>by have:=hi (j+1);simpa [Nat.add_assoc,Nat.add_comm 1 j] using this) hb hrd hl (hs.putS hd undef) hq
def IW (tys:Array TypeId) (ty:TypeId) (cs:Array Bool) (c:Nat):Deferred:={ target:=.builtin .close tys ty cs,args:=#[.chan (some c)] }
theorem Nt {f:FuncId} {fn:Func} {args:Array Value} (hf:P.funcs[f]? =some fn) (hc:AT fn=true) (w:World):(callFunc f args).runT P w #[]=(.ok (.enter f args) w,#[]):=by
 unfold AT at hc;simp only [Bool.and_eq_true,Bool.not_eq_true'] at hc;unfold callFunc;show (match P.funcs[f]? with | none=>_ | some fn=>_:Sem Next).runT P w #[]=_;rw [hf];simp only [];rw [if_neg (by rw [hc.1];simp),if_neg (by cases hb:fn.body with | none=>rw [hb] at hc;simp at hc | some c=>simp)];rfl
theorem QM {tys:Array TypeId} {ty:TypeId} {cs:Array Bool} {ch s r:Nat} {w:World} (hw:w.heap[ch]? =some (.chan 0 #[] false s r false)) :
  (invoke (.builtin .close tys ty cs) #[.chan (some ch)]).runT P w #[]=(.ok (.value (.tuple #[])) { w with heap:=w.heap.setIfInBounds ch (.chan 0 #[] true s r false) },#[⟨.obj ch,false,true⟩,⟨.obj ch,true,true⟩]):=by
 show ((do pure (.value (←Builtin.close_ tys ty #[.chan (some ch)])):Sem Next)).runT P w #[]=_;show Sem.runT P (.getObj ch fun o=>_) w #[]=_;unfold Sem.runT;rw [hw];show Sem.runT P (.setObj ch (.chan 0 #[] true s r false) _) w _=_;unfold Sem.runT;rw [hw];rfl
theorem QN {fn:FuncId} {ch:Nat}:seen P fn #[⟨.obj ch,false,true⟩,⟨.obj ch,true,true⟩]=#[⟨.obj ch,false,true⟩,⟨.obj ch,true,true⟩]:=by
 rw [seen_def];simp [seenStep]
theorem R5 {fn:Func} {c:Code} {s:ES M} {ars cap args:Array Value} (hm:F.main=false) (hrd:F.rd=none) (ha:ars++cap=args) (hf:P.funcs[F.fn]? =some fn) (hc:AT fn=true) (hb:fn.body=some c) (hN:F.N=fn.ntmps) (hres:fn.results=#[]) (hsz:args.size≤fn.ntmps) (hs:¬s.isDone)
  (x:Ig F c (some s) (fun i=>args.getD i undef) [] h fun i e σ ds h=>(e=.normal∨e=.ret)∧∃ch tys ty cs,i=some (.close ch .done)∧ds=[IW tys ty cs ch]):Ee P F.Rep F.W.K s false (born P { target:=.fn (.func F.fn) cap,args:=ars }) h:=by
 let bot:Frame:={ (default:Frame) with fn:=P.funcs.size,defers:=[],mode:=.panicking [goexitEntry] };have hwk:∀s,(F.wk (some s)).K=Ds P false (Gc P F.Rep F.W.K s false):=fun s=>by show Ds P F.main (Gc P F.Rep F.W.K s F.main)=_;rw [hm]
 rw [FW hs];refine Ik _ _ _ _ rfl fun w f=>⟨G (Frame.enter P F.fn args .deferred) [bot],w,#[],h,?_,BX.refl f,?_⟩
 ·subst ha;have hi:(invoke (.fn (.func F.fn) cap) ars).runT P w #[]=(.ok (.enter F.fn (ars++cap)) w,#[]):=Nt hf hc w;show callDeferred P bot [] none { target:=.fn (.func F.fn) cap,args:=ars } w=_;unfold callDeferred;rw [if_neg (by simp)];simp only [hi,seen_none];rfl
 have e0:Frame.enter P F.fn args .deferred=CH (Frame.enter P F.fn args .deferred) (args++Array.replicate (fn.ntmps-args.size) undef) [] [.code c]:=by simp [Frame.enter,CH,hf,hb]
 rw [e0,←hwk s];let L:Option (ES M)→Lv:=fun i j t ds h'=>(j=none∨j=some .ret)∧∃ch tys ty cs,i=some (.close ch .done)∧ds=[IW tys ty cs ch];have fin:∀ch tys ty cs h' t k,(F.wk (some (.close ch .done))).K (G (C0 (Frame.enter P F.fn args .deferred) t [IW tys ty cs ch] k) [bot]) h':=by
  intro ch tys ty cs h' t k;rw [hwk];refine Ds.stop ⟨_,_,C0 (Frame.enter P F.fn args .deferred) t [] k,[bot],rfl,⟨fun w s r _ hw=>?_,rfl,?_⟩⟩
  ·have hi:=QM (P:=P) (tys:=tys) (ty:=ty) (cs:=cs) hw;show callDeferred P (C0 (Frame.enter P F.fn args .deferred) t [] k) [bot] none (IW tys ty cs ch) w=_;unfold callDeferred IW;rw [if_neg (by simp)];simp only [hi,QN];rfl
  ·refine ⟨2,.inr ⟨rfl,G bot [],fun w=>?_,.inr ⟨rfl,{ G bot [] with status:=.finished },fun w=>?_,rfl⟩⟩⟩
   ·show unwind P false (C0 (Frame.enter P F.fn args .deferred) t [] k) [bot] none w=_;have hfn:(C0 (Frame.enter P F.fn args .deferred) t [] k).fn=F.fn:=rfl;have hk:(C0 (Frame.enter P F.fn args .deferred) t [] k).kind=.deferred:=rfl;have hmd:(C0 (Frame.enter P F.fn args .deferred) t [] k).mode=.returning:=rfl;have hd:(C0 (Frame.enter P F.fn args .deferred) t [] k).defers=[]:=rfl;have r1:∀t,(results fn t).runT P w #[]=(.ok (.tuple #[]) w,#[]):=fun t=>by
     unfold results;rw [hres];simp only [Array.mapM_empty];rfl
    unfold unwind;simp only [hd,hmd,hfn,hf,r1,GStep.after,doReturn,hk,seen_none];rfl
   ·show unwind P false bot [] none w=_;have hcat:bot.catches P=false:=by
     unfold Frame.catches
     have:P.funcs[bot.fn]? =none:=Array.getElem?_eq_none (Nat.le_refl _)
     rw [this];rfl
    have hd:bot.defers=[]:=rfl;have hmd:bot.mode=.panicking [goexitEntry]:=rfl;unfold unwind;simp only [hd,hmd,hcat];rfl
 refine x (Frame.enter P F.fn args .deferred) [] [bot] L _ rfl hrd.symm (fun i=>⟨?_,?_,?_⟩) ⟨by rw [hN];simp;omega,fun i=>?_⟩ ?_
 ·rintro t ds h' ⟨_,ch,tys,ty,cs,rfl,rfl⟩;exact Wk.go (C0 (Frame.enter P F.fn args .deferred) t _ []) (fun w=>by rw [A0];simp [stepG.exec,CH,C0,G,Frame.enter]) (fin ch tys ty cs h' t [])
 ·rintro t ds h' k ⟨_,ch,tys,ty,cs,rfl,rfl⟩;exact Wk.go (C0 (Frame.enter P F.fn args .deferred) t _ (.code .ret ::k)) (fun w=>by rw [A0];simp [stepG.exec,CH,C0,G,Frame.enter]) (fin ch tys ty cs h' t _)
 ·rintro id t ds h' k _ ⟨h1 | h1,_⟩ <;> cases h1
 ·by_cases hi:i<args.size
  ·simp [Array.getD_eq_getD_getElem?,Array.getElem?_append_left hi]
  ·simp only [Array.getD_eq_getD_getElem?];rw [Array.getElem?_append_right (by omega),Array.getElem?_eq_none (show args.size≤i by omega),Array.getElem?_replicate];split <;> rfl
 ·rintro i e σ ds h' ⟨he,ch,tys,ty,cs,rfl,rfl⟩ t' ht';rcases he with rfl | rfl
  ·exact Wk.go (C0 (Frame.enter P F.fn args .deferred) t' _ []) (fun w=>by rw [A0];simp [stepG.exec,CH,C0,G,Frame.enter]) (fin ch tys ty cs h' t' [])
  ·exact ⟨.inr rfl,ch,tys,ty,cs,rfl,rfl⟩
end
section
variable {P:Program} {M:Type} {Post:Value→World→Prop}
def GH.Same (h h':GH):Prop:=∀b p o,h b=some (p,o)→∃p',h' b=some (p',o)
theorem GA.flags {g:Goroutine} {h h':GH} {gs:Array Goroutine} {w:World} {q:Nat→Nat} {t:Trace} (B:GA P g h gs w q t) (s:h'.Same h):GA P g h' gs w q t:=
 { B with
  fits:=fun b p o hb=>by obtain ⟨p',x⟩:=s b p o hb;exact B.fits b p' o x
  chn:=fun b p o k a hb=>by obtain ⟨p',x⟩:=s b p o hb;exact B.chn b p' o k a x }
theorem DB.flags {g:Goroutine} {h h':GH} (s:h'.Same h) (x:DB P Post g h'):DB P Post g h:=fun gs w sl q t B=>x gs w sl q t (B.flags s)
def QO (c:Nat) (s0:ES M) (N:Ge M):Prop:=0<N.n∧N.s 0=s0∧(∀j,0<j→j<N.n→N.s j=.done∧N.kn 0 j)∧N.cl c=false
theorem MF {Rep:Nat→M→Value→GH→Prop} {g:Goroutine} {h:GH} {c:Nat} {s0:ES M} (hc:h c=some (true,.chan 0 #[] false 0 0 false)) (good:∀N:Ge M,QO c s0 N→G4 (fun x=>x=c) N)
  (d:Ee P Rep (DB P Post) s0 true g (h.delS fun x=>x=c)):DB P Post g h:=by
 intro gs w sl q t B;have hsub:(h.delS fun x=>x=c).Same h:=fun b p o hb=>by
  by_cases e:b=c
  ·rw [GH.delS_in (X:=fun x=>x=c) e] at hb;cases hb
  ·rw [GH.delS_ne (X:=fun x=>x=c) e] at hb;exact ⟨p,hb⟩
 have B':=B.flags hsub;let N:Ge M:={ n:=gs.size,s:=fun j=>if j=0 then s0 else .done,kn:=fun i j=>i=0∧0<j,cl:=fun _=>false,ck:=fun _ _=>False };have hpos:0<gs.size:=B.lt;obtain ⟨r0,hsit⟩:=FX (cl:=N.cl) d;have hsits:∀i g',gs[i]? =some g'→MO P Rep (DB P Post) (N.s i) N.cl (i==0) g' (only (h.delS fun x=>x=c) i) (if i=0 then r0 else .leave (q i)):=by
  intro i g' hi;rcases Nat.eq_zero_or_pos i with rfl | hp
  ·have:=B.here;rw [hi] at this;cases this
   simpa [N,only] using hsit
  ·have h0:¬i=0:=by omega
   have hq:=B.old i g' hp hi;simp only [N,h0,if_false];exact .leave (q i) rfl hq
 have hparked:∀i (gi:Goroutine) cs sh,gs[i]? =some (parked gi cs sh)→i=0:=fun i gi cs sh hi=>by
  rcases Nat.eq_zero_or_pos i with e | hp
  ·exact e
  ·rcases (B.old i _ hp hi).status with e | e <;> cases e
 refine So (used:=fun x=>x=c) (N:=N) (good N ⟨hpos,rfl,fun j hj hjn=>⟨if_neg (by omega),rfl,hj⟩,rfl⟩) (fun i=>if i=0 then r0 else .leave (q i)) gs w sl t (only (h.delS fun x=>x=c))
  ⟨rfl,B'.HS,B'.TI,hsits,?_,?_,?_,?_,?_,?_⟩
 ·rintro c' rfl;exact ⟨0,B.fits _ _ _ hc⟩
 ·rintro c' i rfl hi;unfold only;split
  ·exact GH.delS_in rfl
  ·rfl
 ·rintro c' k a rfl hk hl;exact B.chn _ _ _ k a hc rfl hk hl
 ·intro i j gi gj c' v z sh z' sh' h1 h2;obtain rfl:=hparked i _ _ _ h1;obtain rfl:=hparked j _ _ _ h2;rw [h1] at h2;exact FO (Option.some.inj h2).symm
 ·rintro i j hi hj ⟨rfl,hjp⟩;refine ⟨if_neg (by omega),fun k a hk _=>B.known k a hk⟩
 ·rintro c' rfl h1;cases h1
def LO (W:Wk P):Prop:=∃Post:Value→World→Prop,W.K=DB P Post
variable {F:ME P M} {i:Option (ES M)} {σ:Nat→Value} {ds:List Deferred} {h:GH} {Q:O5 M}
theorem UX {c:Code} {s0:ES M} {ch:Nat} (hm:F.main=true) (hW:LO F.W) (hc:h ch=some (true,.chan 0 #[] false 0 0 false)) (hs:¬s0.isDone) (good:∀N:Ge M,QO ch s0 N→G4 (fun x=>x=ch) N)
  (x:Ig F c (some s0) σ ds (h.delS fun x=>x=ch) Q):Ig F c none σ ds h Q:=by
 intro b k cs L t hb hr hl ht hq
 have:=x b k cs L t hb hr hl ht hq
 obtain ⟨Post,hP⟩:=hW;show F.W.K _ _;rw [hP];refine MF (Rep:=F.Rep) hc good ?_;rw [FW hs];unfold ME.wk at this;simp only [hm,hP] at this;exact this
theorem UY {c:Code} {h0:GH} (hW:LO F.W) (hs:h0.Same h) (x:Ig F c none σ ds (h0.join h) Q):Ig F c (some .stop) σ ds h Q:=by
 intro b k cs L t hb hr hl ht hq
 have:=x b k cs L t hb hr hl ht hq
 obtain ⟨Post,hP⟩:=hW;refine Ds.stop ?_;show F.W.K _ _;have h2:F.W.K _ _:=this;rw [hP] at h2 ⊢;refine h2.flags fun b p o hb=>?_;rcases hj:h0 b with _ | ⟨p0,o0⟩
 ·unfold GH.join at hb;rw [hj] at hb;exact ⟨p,hb⟩
 ·unfold GH.join at hb;rw [hj] at hb;cases hb;exact hs b p o hj
def GH.ro (h:GH):GH:=fun b=>(h b).map fun x=>(false,x.2)
theorem GH.ro_some {h:GH} {b:Nat} {p:Bool} {o:Obj} (hb:h b=some (p,o)):h.ro b=some (false,o):=by unfold GH.ro;rw [hb];rfl
theorem GH.ro_inv {h:GH} {b:Nat} {p:Bool} {o:Obj} (hb:h.ro b=some (p,o)):p=false∧∃p',h b=some (p',o):=by
 unfold GH.ro at hb;cases e:h b with
 | none=>rw [e] at hb;cases hb
 | some x=>rw [e] at hb;obtain ⟨p',o'⟩:=x;cases hb;exact ⟨rfl,p',rfl⟩
theorem GH.split_ro (h:GH):GH.Split h h.ro h.ro where
 left:=fun b p o hb=>by obtain ⟨rfl,p',x⟩:=GH.ro_inv hb;exact ⟨p',x,fun e=>by cases e⟩
 right:=fun b p o hb=>by obtain ⟨rfl,p',x⟩:=GH.ro_inv hb;exact ⟨p',x,fun e=>by cases e⟩
 one:=fun r o x hb=>by cases (GH.ro_inv hb).1
 two:=fun r o x hb=>by cases (GH.ro_inv hb).1
theorem GH.same_ro (h:GH):h.Same h.ro:=fun _ _ _ hb=>⟨false,GH.ro_some hb⟩
theorem GH.Same.trans {a b c:GH} (x:a.Same b) (y:b.Same c):a.Same c:=fun r p o hr=>by obtain ⟨p',z⟩:=x r p o hr;exact y r p' o z
theorem GH.Le.same {a b:GH} (x:a.Le b):a.Same b:=fun r p o hr=>⟨p,x.keep hr rfl⟩
theorem GH.le_join (a b:GH):a.Le (a.join b):=fun r p o hr=>⟨o,by unfold GH.join;rw [hr],.inl rfl⟩
theorem GH.Same.join {a b:GH} (s:a.Same b):b.Same (a.join b):=fun r p o hr=>by
 unfold GH.join;cases e:a r with
 | none=>exact ⟨p,hr⟩
 | some x=>obtain ⟨p0,o0⟩:=x;obtain ⟨p',y⟩:=s r p0 o0 e;rw [hr] at y;cases y;exact ⟨p0,rfl⟩
theorem Aa.flags {h h':GH} (s:h.Same h') {b off n:Nat} {vs:Array Value} (x:Aa h b off n vs):Aa h' b off n vs:=by
 obtain ⟨p,c,t,f,y,z⟩:=x;obtain ⟨p',y'⟩:=s _ _ _ y;exact ⟨p',c,t,f,y',z⟩
theorem AN.flags {α:Type} {h h':GH} (s:h.Same h') {v:Value} {n:Nat} {enc:α→Array Value} {xs:List α} (x:AN h v n enc xs):AN h' v n enc xs:=by
 obtain ⟨a,cap,hv,hc,hm,he⟩:=x;refine ⟨a,cap,hv,hc,hm,fun i hi=>?_⟩;obtain ⟨b,off,h1,h2⟩:=he i hi;exact ⟨b,off,h1,h2.flags s⟩
end
section
variable {M:Type} [DecidableEq M]
def GW (c:Nat):List M→ES M
 | []=>.close c .done
 | m ::ms=>.send c m (GW c ms)
def JC:Option M→ES M
 | none=>.stop
 | some _=>.never
def E1 (m:M) (nx:ES M):Option M→ES M
 | some m'=>if m'=m then nx else .never
 | none=>.never
def HQ (c:Nat):List M→ES M
 | []=>.recv c JC
 | m ::ms=>.recv c (E1 m (HQ c ms))
structure Vn (c k:Nat) (ms:List M) (N:Ge M):Prop where
 n:N.n=k+1
 pos:0<k
 main:N.s 0=HQ c ms
 child:N.s k=GW c ms
 rest:∀j,0<j→j<k→N.s j=.done∧N.kn 0 j
 cl:N.cl c=false
theorem R6 {c k:Nat}:∀{ms:List M} {N:Ge M},Vn c k ms N→G4 (fun x=>x=c) N:=by
 intro ms
 induction ms with
 | nil=>
  intro N T;have hk:=T.pos;refine .step N (by rw [T.n];omega) ⟨_,.shut (i:=k) (c:=c) (nx:=.done) (by rw [T.n];omega) T.child⟩ (fun i hi=>?_) (fun N' st=>?_)
  ·rcases Nat.eq_zero_or_pos i with rfl | hp
   ·rw [T.main];rfl
   ·rcases Nat.lt_or_ge i k with hl | hl
    ·rw [(T.rest i hp hl).1];show i≠0;omega
    ·obtain rfl:i=k:=by have:=T.n;omega
     rw [T.child];exact ⟨rfl,T.cl⟩
  ·have key:∀i,i<N.n→i=0∨i=k∨N.s i=.done:=fun i hi=>by
    rcases Nat.eq_zero_or_pos i with e | hp
    ·exact .inl e
    ·rcases Nat.lt_or_ge i k with hl | hl
     ·exact .inr (.inr (T.rest i hp hl).1)
     ·exact .inr (.inl (by have:=T.n;omega))
   have hm:N.s 0=.recv c JC:=T.main;have hch:N.s k=.close c .done:=T.child;cases st with
   | hire hi hs=>rcases key _ hi with rfl | rfl | e <;> simp_all
   | meet hi hj hij hs hs'=>rcases key _ hi with rfl | rfl | e <;> simp_all
   | hear hj hs hcl=>
    rcases key _ hj with rfl | rfl | e
    ·rw [hm] at hs;cases hs;rw [T.cl] at hcl;cases hcl
    ·rw [hch] at hs;cases hs
    ·rw [e] at hs;cases hs
   | @shut i c' nx hi hs=>
    rcases key _ hi with rfl | rfl | e
    ·rw [hm] at hs;cases hs
    ·rw [hch] at hs;cases hs;refine .step _ (by show 0<N.n;rw [T.n];omega) ⟨_,.hear (j:=0) (c:=c) (f:=_) (by show 0<N.n;rw [T.n];omega) (by show (if 0=i then _ else N.s 0)=_;rw [if_neg (by omega)];exact hm) (by show (if c=c then true else _)=true;rw [if_pos rfl])⟩ (fun j hj=>?_) (fun N'' st=>?_)
     ·have hj:j<N.n:=hj;show KW _ _ j (if j=i then _ else N.s j);by_cases e:j=i
      ·rw [if_pos e];show j≠0;omega
      ·rw [if_neg e];rcases key j hj with rfl | rfl | e'
       ·rw [hm];rfl
       ·exact absurd rfl e
       ·rw [e'];show j≠0;rintro rfl;rw [hm] at e';cases e'
     ·have hs':∀j,j<N.n→j≠0→(N.shut i c .done).s j=.done:=fun j hj hj0=>by
       show (if j=i then _ else N.s j)=_;by_cases e:j=i
       ·rw [if_pos e]
       ·rw [if_neg e];rcases key j hj with rfl | rfl | e'
        ·exact absurd rfl hj0
        ·exact absurd rfl e
        ·exact e'
      have hs0:(N.shut i c .done).s 0=.recv c JC:=by show (if 0=i then _ else N.s 0)=_;rw [if_neg (by omega)];exact hm
      have key2:∀j,j<N.n→j=0∨(N.shut i c .done).s j=.done:=fun j hj=>(Nat.eq_zero_or_pos j).imp id fun hp=>hs' j hj (by omega);cases st with
      | hire hi hs=>rcases key2 _ hi with rfl | e <;> simp_all
      | meet hi hj hij hs hs'=>rcases key2 _ hi with rfl | e <;> simp_all
      | shut hi hs=>rcases key2 _ hi with rfl | e <;> simp_all
      | @hear j c' f hj hs hcl=>
       rcases key2 _ hj with rfl | e
       ·rw [hs0] at hs;cases hs;refine .stop _ (by show 0<N.n;rw [T.n];omega) (show (if 0=0 then JC none else (N.shut i c .done).s 0)=ES.stop from rfl) fun j hj hjn=>⟨?_,?_⟩
        ·show (if j=0 then _ else (N.shut i c .done).s j)=_;rw [if_neg (by omega)];exact hs' j hjn (by omega)
        ·simp only [Ge.hear,Ge.shut,if_true];show N.kn 0 j∨N.kn i j∨(j=i∧True);rcases Nat.lt_or_ge j i with hl | hl
         ·exact .inl (T.rest j hj hl).2
         ·have hjn:j<N.n:=hjn;exact .inr (.inr ⟨by have:=T.n;omega,trivial⟩)
       ·rw [e] at hs;cases hs
    ·rw [e] at hs;cases hs
 | cons m ms ih=>
  intro N T;have hk:=T.pos;have hch:N.s k=.send c m (GW c ms):=T.child;have hm:N.s 0=.recv c (E1 m (HQ c ms)):=T.main;have key:∀i,i<N.n→i=0∨i=k∨N.s i=.done:=fun i hi=>by
   rcases Nat.eq_zero_or_pos i with e | hp
   ·exact .inl e
   ·rcases Nat.lt_or_ge i k with hl | hl
    ·exact .inr (.inr (T.rest i hp hl).1)
    ·exact .inr (.inl (by have:=T.n;omega))
  refine .step N (by rw [T.n];omega) ⟨_,.meet (i:=k) (j:=0) (by rw [T.n];omega) (by rw [T.n];omega) (by omega) hch hm⟩ (fun i hi=>?_) (fun N' st=>?_)
  ·rcases key i hi with rfl | rfl | e
   ·rw [hm];rfl
   ·rw [hch];exact ⟨rfl,T.cl⟩
   ·rw [e];show i≠0;rintro rfl;rw [hm] at e;cases e
  ·cases st with
   | hire hi hs=>rcases key _ hi with rfl | rfl | e <;> simp_all
   | shut hi hs=>rcases key _ hi with rfl | rfl | e <;> simp_all
   | hear hj hs hcl=>
    rcases key _ hj with rfl | rfl | e
    ·rw [hm] at hs;cases hs;rw [T.cl] at hcl;cases hcl
    ·rw [hch] at hs;cases hs
    ·rw [e] at hs;cases hs
   | @meet i j c' m' nx f hi hj hij hs hs'=>
    have hi':i=k:=by
     rcases key _ hi with rfl | rfl | e
     ·rw [hm] at hs;cases hs
     ·rfl
     ·rw [e] at hs;cases hs
    have hj':j=0:=by
     rcases key _ hj with rfl | rfl | e
     ·rfl
     ·rw [hch] at hs';cases hs'
     ·rw [e] at hs';cases hs'
    subst hi' hj';rw [hch] at hs;cases hs;rw [hm] at hs';cases hs';refine ih ⟨T.n,hk,?_,?_,fun j hj hjk=>⟨?_,?_⟩,T.cl⟩
    ·show (if 0=i then _ else if 0=0 then _ else N.s 0)=_;rw [if_neg (by omega),if_pos rfl];show (if m=m then _ else _)=_;rw [if_pos rfl]
    ·show (if i=i then _ else _)=_;rw [if_pos rfl]
    ·show (if j=i then _ else if j=0 then _ else N.s j)=_;rw [if_neg (by omega),if_neg (by omega)];exact (T.rest j hj hjk).1
    ·simp only [Ge.meet,or_true,if_true];exact .inr (.inl (T.rest j hj hjk).2)
theorem QP {c:Nat} {ms:List M} {N:Ge M} (S:QO c (.spawn (GW c ms) (HQ c ms)) N):G4 (fun x=>x=c) N:=by
 obtain ⟨hn,h0,hr,hcl⟩:=S;have key:∀i,i<N.n→i=0∨N.s i=.done:=fun i hi=>(Nat.eq_zero_or_pos i).imp id fun hp=>(hr i hp hi).1;refine .step N hn ⟨_,.hire hn h0⟩ (fun i hi=>?_) (fun N' st=>?_)
 ·rcases key i hi with rfl | e
  ·rw [h0];trivial
  ·rw [e];show i≠0;rintro rfl;rw [h0] at e;cases e
 ·cases st with
  | meet hi hj hij hs hs'=>rcases key _ hi with rfl | e <;> simp_all
  | shut hi hs=>rcases key _ hi with rfl | e <;> simp_all
  | hear hj hs hcl=>rcases key _ hj with rfl | e <;> simp_all
  | @hire i ch nx hi hs=>
   rcases key _ hi with rfl | e
   ·rw [h0] at hs;cases hs;refine R6 (k:=N.n) (ms:=ms) ⟨rfl,hn,?_,?_,fun j hj hjk=>⟨?_,?_⟩,hcl⟩
    ·show (if 0=N.n then _ else if 0=0 then _ else _)=_;rw [if_neg (by omega),if_pos rfl]
    ·show (if N.n=N.n then _ else _)=_;rw [if_pos rfl]
    ·show (if j=N.n then _ else if j=0 then _ else N.s j)=_;rw [if_neg (by omega),if_neg (by omega)];exact (hr j hj hjk).1
    ·show (if j=N.n then False else if 0=N.n then _ else N.kn 0 j);rw [if_neg (by omega),if_neg (by omega)];exact (hr j hj hjk).2
   ·rw [e] at hs;cases hs
omit [DecidableEq M] in
theorem Mo (c:Nat) (ms:List M):¬(GW c ms).isDone:=by cases ms <;> exact id
theorem Mp (c:Nat) (ms:List M):¬(HQ c ms).isDone:=by cases ms <;> exact id
end
end Go.Ns
namespace Go.Ns
open Go.Conc
section
variable (d m:Int) (gs:List Good) (ms:List AB) (cs:List AK)
def JD (mask:Nat):Option (List Int):=if B5 d gs ms (B7 cs (mask:Int) cs.length) m=true then none else some (BE (mask:Int) cs.length)
def CX (k f:Nat):List (List Int):=(List.range' k f).filterMap (JD d m gs ms cs)
def DJ:List (List Int):=CX d m gs ms cs 0 (2 ^ cs.length)
def DZ:Int:=if AM d m gs ms cs=0 then (if B5 d gs ms cs m=true then 0 else if B5 d gs ms (B7 cs 0 cs.length) m=true then 0 else 8) else AM d m gs ms cs
def Ea:List Int:=if AM d m gs ms cs=0∧B5 d gs ms cs m=false∧B5 d gs ms (B7 cs 0 cs.length) m=true then G7 ((DJ d m gs ms cs).getD 0 []) ((DJ d m gs ms cs).drop 1) else []
end
section
variable {d m:Int} {gs:List Good} {ms:List AB} {cs:List AK}
theorem LP {k f:Nat} (h:B5 d gs ms (B7 cs (k:Int) cs.length) m=true):CX d m gs ms cs k (f+1)=CX d m gs ms cs (k+1) f:=by
 unfold CX JD;rw [List.range'_succ,List.filterMap_cons];simp [h]
theorem LQ {k f:Nat} (h:B5 d gs ms (B7 cs (k:Int) cs.length) m=false):CX d m gs ms cs k (f+1)=BE (k:Int) cs.length ::CX d m gs ms cs (k+1) f:=by
 unfold CX JD;rw [List.range'_succ,List.filterMap_cons];simp [h]
theorem QQ {n i:Nat} (hn:n≤4) (hi:i<n):Fe ((2 ^ n-1:Nat):Int) i=true:=by
 have h:∀n,n≤4→∀i,i<n→Fe ((2 ^ n-1:Nat):Int) i=true:=by decide
 exact h n hn i hi
theorem QR {α:Type} (l:List α) (z:α):(List.range l.length).map (fun i=>l.getD i z)=l:=by
 apply List.ext_getElem
 ·simp
 ·intro i h1 h2;simp [List.getD_eq_getElem?_getD,List.getElem?_eq_getElem h2]
theorem QS (h:cs.length≤4):B7 cs ((2 ^ cs.length-1:Nat):Int) cs.length=cs:=by
 unfold B7;rw [List.filter_eq_self.2 fun i hi=>QQ h (List.mem_range.1 hi)];exact QR cs AK.z
theorem O9 (hcl:cs.length≤4) (h:B5 d gs ms cs m=false):DJ d m gs ms cs≠[]:=by
 intro e;unfold DJ CX at e;rw [List.filterMap_eq_nil_iff] at e;have hp:0<2 ^ cs.length:=Nat.pow_pos (by decide)
 have:=e (2 ^ cs.length-1) (List.mem_range'.2 ⟨2 ^ cs.length-1,by omega,by omega⟩)
 unfold JD at this;rw [QS hcl,if_neg (by rw [h];simp)] at this;cases this
theorem Nu (hcl:cs.length≤4):(DJ d m gs ms cs).length≤16:=by
 unfold DJ CX;refine Nat.le_trans (List.length_filterMap_le _ _) ?_;rw [List.length_range'];exact Nat.pow_le_pow_right (n:=2) (by decide) hcl
theorem MG (h:¬AM d m gs ms cs=0):DZ d m gs ms cs=AM d m gs ms cs:=by unfold DZ;rw [if_neg h]
theorem QT (h:¬AM d m gs ms cs=0):Ea d m gs ms cs=[]:=by unfold Ea;rw [if_neg (fun e=>h e.1)]
theorem LR (h:AM d m gs ms cs=0) (h1:B5 d gs ms cs m=true):DZ d m gs ms cs=0:=by unfold DZ;rw [if_pos h,if_pos h1]
theorem PA (h1:B5 d gs ms cs m=true):Ea d m gs ms cs=[]:=by unfold Ea;rw [if_neg (fun e=>by rw [h1] at e;cases e.2.1)]
theorem KG (h:AM d m gs ms cs=0) (h1:B5 d gs ms cs m=false) (h2:B5 d gs ms (B7 cs 0 cs.length) m=false):DZ d m gs ms cs=8:=by
 unfold DZ;rw [if_pos h,if_neg (by rw [h1];simp),if_neg (by rw [h2];simp)]
theorem Nv (h2:B5 d gs ms (B7 cs 0 cs.length) m=false):Ea d m gs ms cs=[]:=by unfold Ea;rw [if_neg (fun e=>by rw [h2] at e;cases e.2.2)]
theorem Nw (h:AM d m gs ms cs=0) (h1:B5 d gs ms cs m=false) (h2:B5 d gs ms (B7 cs 0 cs.length) m=true):DZ d m gs ms cs=0:=by
 unfold DZ;rw [if_pos h,if_neg (by rw [h1];simp),if_pos h2]
theorem R7 {fl:List Sl} (h:AM d m gs ms cs=0) (h1:B5 d gs ms cs m=false) (h2:B5 d gs ms (B7 cs 0 cs.length) m=true) (hcl:cs.length≤4) (hfl:Bu fl=DJ d m gs ms cs) :
  0<fl.length∧Ea d m gs ms cs=G7 (fl.getD 0 Sl.z).2 (Bu (fl.drop 1)):=by
 have hne:=O9 (d:=d) (gs:=gs) (ms:=ms) hcl h1;have hpos:0<fl.length:=by
  rw [←Ca,hfl];exact List.length_pos_iff.2 hne
 refine ⟨hpos,?_⟩;unfold Ea;rw [if_pos ⟨h,h1,h2⟩,←hfl,EH hpos];congr 1;unfold Bu;rw [List.map_drop]
end
theorem BG.pick {d m:Int} {gs:List Good} {ms:List AB} {cs:List AK} (b:BG d m gs ms cs) (mask:Int):BG d m gs ms (B7 cs mask cs.length):=
 { b with
  clen:=Nat.le_trans (Mg cs mask _) b.clen
  count:=fun k hk=>by
   have hm:=Ck (d:=AK.z) hk;generalize hx:(B7 cs mask cs.length).getD k AK.z=x at hm;unfold B7 at hm;obtain ⟨i,hi,e⟩:=List.mem_map.1 hm;have hi2:=List.mem_range.1 (List.mem_filter.1 hi).1
   have:=b.count i hi2
   unfold D5 at this ⊢;rw [hx,←e];exact this }
theorem Bp.flags {h h':GH} {l:List Sl} (s:h.Same h') (a:Bp h l):Bp h' l:=fun k=>(a k).flags s
def U8:Nat→List Int→Value→GH→Prop:=fun _ l v hm=>AN hm v 1 eI l
def GH.part (h:GH) (v:Value):GH:=fun b=>if back v=some b then h b else none
def GH.rest (h:GH) (v:Value):GH:=fun b=>if back v=some b then none else h b
theorem GH.split_part (h:GH) (v:Value):GH.Split h (h.rest v) (h.part v) where
 left:=fun b p o hb=>by
  unfold GH.rest at hb;split at hb
  ·cases hb
  ·exact ⟨p,hb,id⟩
 right:=fun b p o hb=>by
  unfold GH.part at hb;split at hb
  ·exact ⟨p,hb,id⟩
  ·cases hb
 one:=fun r o x h1 h2=>by
  unfold GH.rest at h1;unfold GH.part at h2;split at h1
  ·cases h1
  ·rename_i e;rw [if_neg e] at h2;cases h2
 two:=fun r o x h1 h2=>by
  unfold GH.rest at h2;unfold GH.part at h1;split at h2
  ·cases h2
  ·rename_i e;rw [if_neg e] at h1;cases h1
theorem AU.part {α:Type} {h0 h:GH} {v:Value} {t:TypeId} {n:Nat} {enc:α→Array Value} {xs:List α} (x:AU h0 h v t n enc xs):AN (h.part v) v n enc xs:=
 AU.sl (h0:=h0) (x.keep fun b o hb ho=>by unfold GH.part;rw [if_pos hb];exact ho)
theorem AU.le_rest {α:Type} {h0 h hb:GH} {v:Value} {t:TypeId} {n:Nat} {enc:α→Array Value} {xs:List α} (x:AU h0 h v t n enc xs) (l:hb.Le h) (l0:hb.Le h0):hb.Le (h.rest v):=fun b p o hbb=>by
 unfold GH.rest;rw [if_neg]
 ·exact l b p o hbb
 ·intro e;rcases x with ⟨rfl,_⟩ | ⟨b1,cap,c,rfl,f0,_⟩
  ·cases e
  ·have:b1=b:=by simpa [back] using e
   subst this
   have:=l0.keep hbb rfl
   rw [f0] at this;cases this
theorem AN.join {α:Type} {h hm:GH} {v:Value} {n:Nat} {enc:α→Array Value} {xs:List α} (x:AN hm v n enc xs) (c:h.Compat hm):AN (h.join hm) v n enc xs:=x.flags fun b p o hb=>by
 unfold GH.join;cases e:h b with
 | none=>exact ⟨p,hb⟩
 | some y=>obtain ⟨q,o'⟩:=y;obtain ⟨rfl,rfl,rfl⟩:=c b q o' p o e hb;exact ⟨false,rfl⟩
theorem GH.Compat.le {a h hm:GH} (l:a.Le h) (c:h.Compat hm):a.Compat hm:=fun b p o q o' x y=>c b p o q o' (l.keep x rfl) y
theorem GH.Le.joins {a h hm:GH} (l:a.Le h) (c:h.Compat hm):(a.join hm).Le (h.join hm):=fun b p o hb=>by
 unfold GH.join at hb ⊢;cases e:a b with
 | some x=>rw [e] at hb;cases hb;rw [l.keep e rfl];exact ⟨o,rfl,.inl rfl⟩
 | none=>
  rw [e] at hb;cases e2:h b with
  | none=>exact ⟨o,hb,.inl rfl⟩
  | some y=>obtain ⟨q,o'⟩:=y;obtain ⟨rfl,rfl,rfl⟩:=c b q o' p o e2 hb;exact ⟨_,rfl,.inl rfl⟩
theorem AU.joins {α:Type} {h0 h hm:GH} {v:Value} {t:TypeId} {n:Nat} {enc:α→Array Value} {xs:List α} (x:AU h0 h v t n enc xs) (c:h.Compat hm):AU (h0.join hm) (h.join hm) v t n enc xs:=by
 rcases x with x | ⟨b,cap,cc,rfl,f0,f1,f2⟩
 ·exact .inl x
 ·refine .inr ⟨b,cap,cc,rfl,?_,?_,f2⟩
  ·unfold GH.join;rw [f0];cases e:hm b with
   | none=>rfl
   | some y=>obtain ⟨q,o'⟩:=y;have:=(c b _ _ q o' f1 e).1;cases this
  ·unfold GH.join;rw [f1]
section
variable {P:Program} {M:Type} {F:ME P M} {i i':Option (ES M)} {σ:Nat→Value} {ds:List Deferred} {h:GH} {Q:O5 M}
theorem U9 {c:Code} (e:i=i') (x:Ig F c i' σ ds h Q):Ig F c i σ ds h Q:=e▸x
theorem RU {ops:Array Oper} {l:List Oper} (e:i=i') (x:I9 F ops l i' σ ds h Q):I9 F ops l i σ ds h Q:=e▸x
theorem R8 {c:Code} {Q:Post} (x:Ig F c none σ ds h fun i e σ ds h=>i=none∧Q e σ ds h):Tr ⟨F.W,F.fn,F.rd,F.N⟩ c σ ds h Q:=by
 intro b k cs L t hb hr hl hs hc;refine x b k cs (fun i=>match i with | none=>L | some _=>fun _ _ _ _=>False) t hb hr (fun i=>?_) hs fun i e σ' ds' h' q t' ht'=>?_
 ·cases i with
  | none=>exact hl
  | some s=>exact ⟨fun _ _ _ x=>x.elim,fun _ _ _ _ x=>x.elim,fun _ _ _ _ _ _ x=>x.elim⟩
 ·obtain ⟨rfl,q⟩:=q;exact hc e σ' ds' h' q t' ht'
theorem UZ {c:Code} {Q:Post} (x:Tr (F.env none) c σ ds h Q):Ig F c none σ ds h fun i e σ ds h=>i=none∧Q e σ ds h:=
 GV (KK (fun _ _ _ _ q=>⟨rfl,q⟩) x)
variable {dst:Option Nat} {ty:TypeId} {pos:String} {af:Array Edge} {gd:Option (Nat×Bool)}
theorem TW {a x:Operand} {c:Nat} {v:Value} (ha:AV σ a=.chan (some c)) (hx:AV σ x=v) (w:World):(execOp (AV σ) ⟨dst,.send a x,ty,pos,af,gd⟩).runT P w #[]=(.ok (.comm #[scase c v (.tuple #[])] true .send) w,#[]):=by
 subst hx;show (Result.ok (Next.comm #[{ chan:=AV σ a,send:=some (AV σ x),zero:=.tuple #[] }] true .send) w,#[])=_;rw [ha];rfl
theorem TX {a:Operand} {c:Nat} {t e:TypeId} {d:ChanDir} {ok:Bool} {z:Value} {inf:TypeInfo} (ht:P.underlying t=some (.chan d e)) (hi:P.info? e=some inf) (hz:inf.zero=some z) (ha:AV σ a=.chan (some c)) (w:World) :
  (execOp (AV σ) ⟨dst,.recv t a ok,ty,pos,af,gd⟩).runT P w #[]=(.ok (.comm #[rcase c z] true (.recv ok)) w,#[]):=by
 have h1:(zeroValue e).run P w=.ok z w:=by
  unfold zeroValue typeInfo;simp only [Sem.run_bind,program,hi];simp [Sem.run,hi,hz]
 have h2:(underlying t).run P w=.ok (.chan d e) w:=run_underlying ht w;rw [Sem.runT_eq];unfold execOp;simp [h1,h2,ha,rcase]
theorem Mq {a:Operand} {c:Nat} {t e:TypeId} {d:ChanDir} {ok:Bool} {z:Value} (ht:P.underlying t=some (.chan d e)) (hz:(P.info? e).map (·.zero)=some (some z)) (ha:AV σ a=.chan (some c)) (w:World) :
  (execOp (AV σ) ⟨dst,.recv t a ok,ty,pos,af,gd⟩).runT P w #[]=(.ok (.comm #[rcase c z] true (.recv ok)) w,#[]):=by
 obtain ⟨inf,hi,h2⟩:=Option.map_eq_some_iff.1 hz;exact TX ht hi h2 ha w
theorem VA {x:Operand} {f:Fn} {cap:Array Value} {tys:Array TypeId} (hx:AV σ x=.func f #[] cap) (w:World):(execOp (AV σ) ⟨dst,.go ⟨.value x,#[],tys⟩,ty,pos,af,gd⟩).runT P w #[]=(.ok (.spawn { target:=.fn f cap,args:=#[] }) w,#[]):=by
 have e:resolve (AV σ) ⟨.value x,#[],tys⟩ ty=(pure { target:=.fn f cap,args:=#[] }:Sem Deferred):=by
  unfold resolve;simp only [hx,Deferred.ofValue];simp
 unfold execOp;simp only [e];rfl
variable {E:FN P} {T:(Nat→Value)→List Deferred→GH→Prop}
theorem PB {t e:TypeId} {d:ChanDir} {n:Operand} (ht:P.underlying t=some (.chan d e)) (hi0:(P.info? e).isSome=true) (hn:AV σ n=.int .i64 0)
  (k:∀r h',h r=none→h.Le h'→h' r=some (true,.chan 0 #[] false 0 0 false)→(∀b,b≠r→h' b=h b)→T (putS σ dst (.chan (some r))) ds h'):Bd E ⟨dst,.makeChan t n,ty,pos,af,gd⟩ σ ds h T:=by
 unfold Bd execOp;refine Eg ?_;unfold Instr.makeChan;rw [hn];refine AG _ _ (Au ?_);refine AG _ _ (Ak ht ?_);simp only [];obtain ⟨inf,hi⟩:=Option.isSome_iff_exists.1 hi0;refine AG _ _ (CQ hi ?_);rw [if_neg (by simp [IntKind.max];decide)];refine AG _ _ ?_;exact fun r hr=>k r _ hr (GH.Le.new hr _ _) (GH.set_same _ _ _ _) fun b hb=>GH.set_ne _ _ _ hb
theorem Ua {ops:Array Oper} {l:List Oper} {o:Oper} {Q:Post} (hg:o.guard=none) (hrd:E.rd=none) (hd:Df o.dst E.N=true) (x:Bd E o σ ds h fun σ' ds' h'=>DS E ops l σ' ds' h' Q):DS E ops (o ::l) σ ds h Q:=
 Si hg (.inl hrd) hd x
theorem MH {x:Operand} {c:Nat} {tys:Array TypeId} {bs:Array Bool} (hx:AV σ x=.chan (some c)) (hb:(#[x].map fun | .const _=>true | _=>false)=bs) (k:T (putS σ dst undef) (IW tys ty bs c ::ds) h) :
  Bd E ⟨dst,.defer ⟨.builtin .close,#[x],tys⟩,ty,pos,af,gd⟩ σ ds h T:=by
 unfold Bd execOp;simp only [];refine AG _ _ ?_;unfold resolve;simp only [];refine Au (Au ?_);have e:(#[x].map (AV σ):Array Value)=#[.chan (some c)]:=by simp [hx]
 rw [e];subst hb;exact k
end
section
variable {d m:Int} {gs:List Good} {ms:List AB} {cs:List AK} {k c:Nat}
theorem QU (hk:k<2 ^ cs.length) (h:B5 d gs ms (B7 cs (k:Int) cs.length) m=true) :
  some (GW c (CX d m gs ms cs k (2 ^ cs.length-k)))=some (GW c (CX d m gs ms cs (k+1) (2 ^ cs.length-(k+1)))):=by
 rw [show 2 ^ cs.length-k=(2 ^ cs.length-(k+1))+1 by omega,LP h]
theorem QV (hk:k<2 ^ cs.length) (h:B5 d gs ms (B7 cs (k:Int) cs.length) m=false) :
  some (GW c (CX d m gs ms cs k (2 ^ cs.length-k)))=some (.send c (BE (k:Int) cs.length) (GW c (CX d m gs ms cs (k+1) (2 ^ cs.length-(k+1))))):=by
 rw [show 2 ^ cs.length-k=(2 ^ cs.length-(k+1))+1 by omega,LQ h];rfl
theorem R9 (hk:2 ^ cs.length≤k):some (GW c (CX d m gs ms cs k (2 ^ cs.length-k)))=some (.close c .done):=by
 rw [show 2 ^ cs.length-k=0 by omega];rfl
theorem PC (h:(k:Int)<(2:Int) ^ ((cs.length:Int)).toNat):k<2 ^ cs.length:=by
 have:=Nr cs.length
 rw [Int.toNat_natCast] at h;omega
theorem TY (h:¬(k:Int)<(2:Int) ^ ((cs.length:Int)).toNat):2 ^ cs.length≤k:=by
 have:=Nr cs.length
 rw [Int.toNat_natCast] at h;omega
end
end Go.Ns
