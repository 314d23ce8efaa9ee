/- Rules and walks, part 2 of 6. No conditions. -/
import Derived.Sort.AssemblyPlain
import Derived.Sort.LotD3
import Derived.Test.YthccgklboafliaaGreatDoorPzA
set_option linter.unusedVariables false
set_option linter.unusedSimpArgs false
set_option linter.unnecessarySimpa false
set_option linter.unusedSectionVars false
namespace Go.Ns
open Go.Conc
section
variable {P:Program} {E:GY P} {σ:Nat→Value} {ds:List Deferred} {h:GH} {T:(Nat→Value)→List Deferred→GH→Prop}
variable {dst:Option Nat} {ty:TypeId} {pos:String} {af:Array Edge} {gd:Option (Nat×Bool)}
variable {α:Type}
def FM (R:GH→GH→Prop):List PK→Prop
 | []=>True
 | φ ::l=>(∀v h h',R h h'→φ v h→φ v h')∧FM R l
theorem FM.mono {R:GH→GH→Prop}:∀{Φ:List PK},FM R Φ→∀k v h h',R h h'→LF Φ k v h→LF Φ k v h'
 | [],_,k,v,h,h',_,x=>by cases k <;> exact x
 | φ ::l,ok,0,v,h,h',r,x=>ok.1 v h h' r x
 | φ ::l,ok,k+1,v,h,h',r,x=>FM.mono ok.2 k v h h' r x
theorem Sz {R:GH→GH→Prop} (rr:∀h,R h h) (rt:∀a b c,R a b→R b c→R a c) {id:Nat} {l:List Oper} {Q:Post} (n:Nat) (cls:List (List Nat)) (Φ:List PK)
  (hm:P.follows .mixedOrders=true) (ok:Nc E.N l n cls=true) (mono:FM R Φ) (x:LG R E l n Φ σ ds h Q n 0 l cls):Tr E (.region id l.toArray true) σ ds h Q:=
 tr_draw R n cls Φ hm ok rr rt mono.mono x
theorem Nm {id:Nat} {l:List Oper} {Q:Post} (n:Nat) (cls:List (List Nat)) (Φ:List PK)
  (hm:P.follows .mixedOrders=true) (ok:Nc E.N l n cls=true) (mono:FM GH.Le Φ) (x:LG GH.Le E l n Φ σ ds h Q n 0 l cls):Tr E (.region id l.toArray true) σ ds h Q:=
 Sz GH.Le.refl (fun _ _ _=>GH.Le.trans) n cls Φ hm ok mono x
theorem trL_opg {ops:Array Oper} {o:Oper} {l:List Oper} {Q:Post} {j d:Nat} {want:Bool} {oj:Oper} (hg:o.guard=some (j,want)) (hj:ops[j]? =some oj) (hjd:oj.dst=some d) (hv:σ d=.bool want) (hdj:Nat.blt d E.N=true)
  (hdf:E.rd=none∨EL o.op=false) (hd:Ee o.dst E.N=true) (x:Be E o σ ds h fun σ' ds' h'=>EK E ops l σ' ds' h' Q):EK E ops (o ::l) σ ds h Q:=RS hg hj hjd hv hdj hdf hd x
theorem B4 {ops:Array Oper} {o:Oper} {l:List Oper} {Q:Post} {j d:Nat} {want:Bool} {oj:Oper} (hg:o.guard=some (j,want)) (hj:ops[j]? =some oj) (hjd:oj.dst=some d) (hv:σ d=undef) (hdj:Nat.blt d E.N=true)
  (hd:Ee o.dst E.N=true) (x:EK E ops l (putS σ o.dst undef) ds h Q):EK E ops (o ::l) σ ds h Q:=by
 intro i b k cs L t hi hb hr hl hs hc;have ho:ops[i]? =some o:=by simpa using (hi 0).symm
 have hy:yielded ops t j=none:=by
  have hlt:d<t.size:=by rw [hs.1];exact Nat.blt_eq▸hdj
  have h2:=hs.2 d;rw [hv] at h2;have h3:t[d]? =some undef:=by
   simp only [Array.getD_eq_getD_getElem?,Array.getElem?_eq_getElem hlt,Option.getD_some] at h2;rw [Array.getElem?_eq_getElem hlt,h2]
  simp [yielded,hj,hjd,h3,undef]
 refine Wk.go (Ce b (XX t o.dst undef) ds (.inRegion ops (List.range' (i+1) l.length) ::k)) (fun w=>?_) ?_
 ·have hw':((ops[i]?).map (Region.wanted · (yielded ops t))).getD false=false:=by
   simp only [ho,Option.map_some,Option.getD_some,Region.wanted,hg,hy];cases want <;> rfl
  rw [←DI ho (rest:=List.range' (i+1) l.length),List.length_cons,List.range'_succ,A6];unfold stepG.exec;simp only [Ce,hw',Bool.false_eq_true,↓reduceIte];rfl
 ·exact x (i+1) b k cs L _ (fun j=>by have:=hi (j+1);simpa [Nat.add_assoc,Nat.add_comm 1 j] using this) hb hr hl (hs.putS hd undef) hc
theorem BN {ops:Array Oper} {l:List Oper} {Q:Post} {p:Prop} [Decidable p] (a:p→EK E ops l σ ds h Q) (a':¬p→EK E ops l σ ds h Q):EK E ops l σ ds h Q:=if h:p then a h else a' h
theorem H4 {ops:Array Oper} {l:List Oper} {Q:Post} {b:Bool} (a:b=true→EK E ops l σ ds h Q) (a':b=false→EK E ops l σ ds h Q):EK E ops l σ ds h Q:=by
 cases b with
 | true=>exact a rfl
 | false=>exact a' rfl
theorem RY {f:Fn} {x1:Operand} {v1:Value} (h1:AU σ x1=v1) (k:T (putS σ dst (.func f #[] #[v1])) ds h):Be E ⟨dst,.makeFunc f #[] #[x1],ty,pos,af,gd⟩ σ ds h T:=GJ (by simp [h1]) k
theorem Ge {f:Fn} {x1 x2:Operand} {v1 v2:Value} (h1:AU σ x1=v1) (h2:AU σ x2=v2) (k:T (putS σ dst (.func f #[] #[v1,v2])) ds h):Be E ⟨dst,.makeFunc f #[] #[x1,x2],ty,pos,af,gd⟩ σ ds h T:=GJ (by simp [h1,h2]) k
theorem Gf {f:Fn} {x1 x2 x3:Operand} {v1 v2 v3:Value} (h1:AU σ x1=v1) (h2:AU σ x2=v2) (h3:AU σ x3=v3) (k:T (putS σ dst (.func f #[] #[v1,v2,v3])) ds h):Be E ⟨dst,.makeFunc f #[] #[x1,x2,x3],ty,pos,af,gd⟩ σ ds h T:=GJ (by simp [h1,h2,h3]) k
theorem RZ {f:Fn} {x1 x2 x3 x4:Operand} {v1 v2 v3 v4:Value} (h1:AU σ x1=v1) (h2:AU σ x2=v2) (h3:AU σ x3=v3) (h4:AU σ x4=v4) (k:T (putS σ dst (.func f #[] #[v1,v2,v3,v4])) ds h):Be E ⟨dst,.makeFunc f #[] #[x1,x2,x3,x4],ty,pos,af,gd⟩ σ ds h T:=GJ (by simp [h1,h2,h3,h4]) k
theorem Ra {f:Fn} {x1 x2 x3 x4 x5:Operand} {v1 v2 v3 v4 v5:Value} (h1:AU σ x1=v1) (h2:AU σ x2=v2) (h3:AU σ x3=v3) (h4:AU σ x4=v4) (h5:AU σ x5=v5) (k:T (putS σ dst (.func f #[] #[v1,v2,v3,v4,v5])) ds h):Be E ⟨dst,.makeFunc f #[] #[x1,x2,x3,x4,x5],ty,pos,af,gd⟩ σ ds h T:=GJ (by simp [h1,h2,h3,h4,h5]) k
theorem DD {v:Value} {p:Prop} [Decidable p] (e:v=.bool (decide p)) (g:v=.bool false):¬p:=by
 rw [e] at g;simpa using g
theorem AT.fresh {h0 h:GH} {v:Value} {t:TypeId} {n:Nat} {enc:α→Array Value} {xs:List α} (x:AT h0 h v t n enc xs):∀b,Bw v=some b→h0 b=none:=by
 intro b hb;rcases x with ⟨rfl,_⟩ | ⟨b',cap,c,rfl,h1,_⟩
 ·cases hb
 ·simp [Bw] at hb;subst hb;exact h1
theorem AT.inDom {h0 h:GH} {v:Value} {t:TypeId} {n:Nat} {enc:α→Array Value} {xs:List α} (x:AT h0 h v t n enc xs):∀b,Bw v=some b→∃o,h b=some o:=by
 intro b hb;rcases x with ⟨rfl,_⟩ | ⟨b',cap,c,rfl,h1,h2,_⟩
 ·cases hb
 ·simp [Bw] at hb;subst hb;exact ⟨_,h2⟩
def CA (v:Value) (b:Nat):Prop:=Bw v≠some b
def Apart (v w:Value):Prop:=∀b,Bw v=some b→Bw w≠some b
theorem Apart.symm {v w:Value} (a:Apart v w):Apart w v:=fun b h h'=>a b h' h
theorem CA.nil {b:Nat}:CA (.slice none 0 0) b:=by intro h;cases h
theorem Apart.nil {w:Value}:Apart (.slice none 0 0) w:=by intro b h;cases h
theorem CA.old {h0 h:GH} {v:Value} {t:TypeId} {n:Nat} {enc:α→Array Value} {xs:List α} (x:AT h0 h v t n enc xs) {b:Nat} {o:Bool×Obj} (hb:h0 b=some o):CA v b:=fun e=>by
 rw [x.fresh b e] at hb;cases hb
theorem CA.new {h0 h:GH} {v:Value} {t:TypeId} {n:Nat} {enc:α→Array Value} {xs:List α} (x:AT h0 h v t n enc xs) {b:Nat} (hb:h b=none):CA v b:=fun e=>by
 obtain ⟨o,ho⟩:=x.inDom b e;rw [hb] at ho;cases ho
def Fs (h h':GH) (v v':Value):Prop:=(∀b o,h b=some o→Bw v≠some b→h' b=some o)∧(Bw v'=Bw v∨((∃r,Bw v'=some r∧h r=none)∧∀b o,h b=some o→h' b=some o))
theorem CA.grown {h h':GH} {v v':Value} (g:Fs h h' v v') {b:Nat} {o:Bool×Obj} (hb:h b=some o) (x:CA v b):CA v' b:=fun e=>by
 rcases g.2 with q | ⟨⟨r,q1,q2⟩,_⟩
 ·exact x (q▸e)
 ·rw [q1] at e;cases e;rw [q2] at hb;cases hb
theorem Apart.grown {h h' h0:GH} {v v' w:Value} (g:Fs h h' v v') {t:TypeId} {n:Nat} {enc:α→Array Value} {xs:List α} (y:AT h0 h w t n enc xs) (x:Apart v w):Apart v' w:=fun b e e'=>by
 obtain ⟨o,ho⟩:=y.inDom b e';rcases g.2 with q | ⟨⟨r,q1,q2⟩,_⟩
 ·exact x b (q▸e) e'
 ·rw [q1] at e;cases e;rw [q2] at ho;cases ho
theorem AT.grown {h h' h0:GH} {v v' w:Value} (g:Fs h h' v v') {t:TypeId} {n:Nat} {enc:α→Array Value} {xs:List α} (y:AT h0 h w t n enc xs) (x:Apart v w):AT h0 h' w t n enc xs:=
 y.keep fun b o hb ho=>g.1 b o ho fun e=>x b e hb
theorem GH.Le.grown {h1 h h':GH} {v v':Value} (g:Fs h h' v v') (l:h1.Le h) (f:∀b,Bw v=some b→h1 b=none):h1.Le h':=fun b p o hb=>by
 obtain ⟨o',h2,h3⟩:=l b p o hb;exact ⟨o',g.1 b _ h2 fun e=>(by rw [f b e] at hb;cases hb),h3⟩
theorem Dm {h h':GH} {v v':Value} (g:Fs h h' v v') {b:Nat} {o:Bool×Obj} (hb:h b=some o) (x:CA v b):h' b=some o:=g.1 b o hb x
theorem AT.stored {h0 h h':GH} {v:Value} {t:TypeId} {n:Nat} {enc:α→Array Value} {xs:List α} (y:AT h0 h v t n enc xs) {r:Nat} (x:CA v r) (ho:∀b,b≠r→h' b=h b):AT h0 h' v t n enc xs:=
 y.keep fun b o hb hb'=>by rw [ho b fun e=>by subst e;exact x hb];exact hb'
theorem Bd {s x:TypeId} {o1 o2:Operand} {h0:GH} {v w:Value} {e n bytes:Nat} {enc:α→Array Value} {xs ys:List α} (ht:H1 P s x=some (e,n,bytes)) (h1:AU σ o1=v) (h2:AU σ o2=w)
  (hv:AT h0 h v e n enc xs) (hw:AJ h w n enc ys) (l0:∀r,h r=none→h0 r=none) (hb:(2*(xs.length+ys.length)+512)*bytes≤2 ^ 48) (hfine:∀y ∈ ys,(enc y).toList.all (·.oneCell')=true)
  (k:∀v' h',AT h0 h' v' e n enc (xs++ys)→Fs h h' v v'→T (putS σ dst v') ds h') :
  Be E ⟨dst,.call ⟨.builtin .append,#[o1,o2],#[s,x]⟩,ty,pos,af,gd⟩ σ ds h T:=
 Xb ht h1 h2 hv hw l0 hb hfine fun v' h' a b c=>k v' h' a ⟨b,c⟩
theorem At {h0:GH} {t:TypeId} {x ix:Operand} {n:Nat} {enc:α→Array Value} {xs:List α} {v:Value} {kd:IntKind} {i:Int} (ht:EI P t=some n) (hs:AJ h0 v n enc xs) (hx:AU σ x=v) (hi:AU σ ix=.int kd i) (h0':0≤i) (h1:i<xs.length)
  (k:∀b off,Ab h0 b off n (enc (xs[i.toNat]'(by omega)))→T (putS σ dst (.pointer (some ⟨b,off,none⟩))) ds h):Be E ⟨dst,.indexAddr t x ix,ty,pos,af,gd⟩ σ ds h T:=by
 obtain ⟨a,cap,rfl,_,_,he⟩:=hs;obtain ⟨b,off,rfl,hb⟩:=he i.toNat (by omega);exact AH ht hx hi h0' h1 (k b _ hb)
theorem AT.built {h h':GH} {r:Nat} {t:TypeId} {n:Nat} {enc:α→Array Value} {xs:List α} {c:Array Value} {m:Nat} (hr:h r=none) (hb:h' r=some (true,.cells c t (0,0))) (hm:xs.length=m) (hml:Nat.ble m 16777216=true) (hn:∀x ∈ xs,(enc x).size=n) (hc:c.toList=DA enc xs) :
  AT h h' (.slice (some ⟨r,0,none⟩) m m) t n enc xs:=by
 subst hm
 have:=Nat.le_of_ble_eq_true hml
 refine .inr ⟨r,_,c,rfl,hr,hb,?_,Nat.le_refl _,by omega,?_,hn⟩
 ·rw [←EJ hn,←hc,Array.length_toList]
 ·rw [hc,←EJ hn,List.take_length]
theorem Aa {t:TypeId} {len n:Nat} {z cells:Array Value} {e:TypeId} {parts:Array (Nat×Operand)} (hs:Dr P t=some (n,z,e)) (hl:len*n≤2 ^ 24) (hn:(len*n=0)=False)
  (hf:Instr.fill (fun i=>some (i*n,n)) ((Array.range (len*n)).map (z[·%z.size]!)) (parts.map fun (i,x)=>(i,AU σ x)).toList=some cells)
  (k:∀r h',h r=none→h.Le h'→h' r=some (true,.cells cells e (0,0))→(∀b,b≠r→h' b=h b)→T (putS σ dst (.slice (some ⟨r,0,none⟩) len len)) ds h'):Be E ⟨dst,.buildSlice t len parts,ty,pos,af,gd⟩ σ ds h T:=
 PJ hs hl hn hf fun r hr=>k r _ hr (GH.Le.new hr _ _) (GH.set_same _ _ _ _) fun b hb=>GH.set_ne _ _ _ hb
theorem S0 {s x:TypeId} {o1 o2:Operand} {b off dl cap n:Nat} {e:TypeId} {enc:α→Array Value} {ys:List α} {w:Value} {c c':Array Value} (ht:EI P s=some n) (h1:AU σ o1=.slice (some ⟨b,off,none⟩) dl cap) (h2:AU σ o2=w)
  (hb:h b=some (true,.cells c e (0,0))) (hn:off+dl*n≤c.size) (hw:AJ h w n enc ys) (hl:ys.length≤dl) (hfine:∀y ∈ ys,(enc y).toList.all (·.oneCell')=true) (hsz:∀y ∈ ys,(enc y).size=n) (hc:B2 c off (DA enc ys)=c')
  (k:∀h',h' b=some (true,.cells c' e (0,0))→(∀x,x≠b→h' x=h x)→T (putS σ dst (.int .i64 ys.length)) ds h') :
  Be E ⟨dst,.call ⟨.builtin .copy,#[o1,o2],#[s,x]⟩,ty,pos,af,gd⟩ σ ds h T:=
 ok_copy ht h1 h2 hb hn hw hl hfine hsz (k _ (by rw [hc];exact GH.set_same _ _ _ _) fun x hx=>GH.set_ne _ _ _ hx)
theorem G6 {t:TypeId} {n:Nat} {z:Array Value} {e:TypeId} (hs:Dr P t=some (n,z,e)) (k:∀r h',h r=none→h.Le h'→h' r=some (true,.cells #[] e (0,0))→(∀b,b≠r→h' b=h b)→T (putS σ dst (.slice (some ⟨r,0,none⟩) 0 0)) ds h') :
  Be E ⟨dst,.buildSlice t 0 #[],ty,pos,af,gd⟩ σ ds h T:=by
 unfold Be execOp;refine Fv ?_;unfold Dr at hs;unfold Instr.buildSlice;cases hu:P.underlying t with
 | none=>rw [hu] at hs;cases hs
 | some d=>
  rw [hu] at hs;cases d <;> first | (cases hs;done) | skip
  rename_i e'
  simp only at hs;cases ht:CV P e' with
  | none=>rw [ht] at hs;cases hs
  | some x=>
   cases hz:CD P e' with
   | none=>rw [ht,hz] at hs;cases hs
   | some z'=>
    rw [ht,hz] at hs;simp only [Option.some.injEq,Prod.mk.injEq] at hs;obtain ⟨rfl,rfl,rfl⟩:=hs;refine AG _ _ (Ao hu ?_);refine AG _ _ (Fw (by rw [ht];rfl) ?_);rw [Nat.zero_mul,if_neg (by decide)];dsimp only;rw [if_pos rfl];refine AG _ _ (A0 ?_);have e0:Instr.fill (fun i=>some (i*x.snd,x.snd)) (Array.map (fun y=>(#[]:Array Value)[y%(#[]:Array Value).size]!) (Array.range 0)) (Array.map (fun y:Nat×Operand=>(y.fst,AU σ y.snd)) #[]).toList=some #[]:=by
     simp [Instr.fill]
    rw [e0];dsimp only;refine AG _ _ ?_;unfold newRow;refine AG _ _ (fun r hr=>?_);exact k r _ hr (GH.Le.new hr _ _) (GH.set_same _ _ _ _) fun b hb=>GH.set_ne _ _ _ hb
end
end Go.Ns
namespace Go.Ns
open Go.Conc
section
variable {P:Program} {E:GY P}
def Gh:Op→Option (List Operand)
 | .move x | .assign x | .box _ x | .unOp _ _ x | .convert _ _ x | .load _ x | .fieldAddr _ x _ | .field _ x _ | .nilCheck x | .extract x _ | .makeInterface _ x | .makeChan _ x | .typeAssert x _ _ _=>some [x]
 | .pick c a b=>some [c,a,b]
 | .alloc _=>some []
 | .build _ ps | .buildSlice _ _ ps=>some (ps.toList.map (·.2))
 | .store _ a x | .binOp _ _ a x _ | .indexAddr _ a x | .index _ a x | .lookup _ a x _ | .makeSlice _ a x=>some [a,x]
 | .makeFunc _ f c=>some (f.toList++c.toList)
 | .makeMap _ r=>some r.toList
 | .slice _ x lo hi mx=>some (x ::(lo.toList++(hi.toList++mx.toList)))
 | .mapUpdate _ m k x=>some [m,k,x]
 | .call c=>some (c.args.toList++match c.callee with | .value f=>[f] | .invoke r _=>[r] | .builtin _=>[])
 | _=>none
theorem Nn {ρ ρ':Operand→Value} {a:Array Operand} (e:∀x ∈ a.toList,ρ x=ρ' x):a.map ρ=a.map ρ':=by
 apply Array.toList_inj.1;rw [Array.toList_map,Array.toList_map];exact List.map_congr_left e
theorem S1 {ρ ρ':Operand→Value} {a:Array (Nat×Operand)} (e:∀x ∈ a.toList.map (·.2),ρ x=ρ' x):(a.map fun (i,x)=>(i,ρ x))=a.map fun (i,x)=>(i,ρ' x):=by
 apply Array.toList_inj.1;rw [Array.toList_map,Array.toList_map];exact List.map_congr_left fun x hx=>by
  have:=e x.2 (List.mem_map.2 ⟨x,hx,rfl⟩)
  obtain ⟨i,y⟩:=x;exact congrArg (Prod.mk i) this
theorem W8 {ρ ρ':Operand→Value} {a:Option Operand} (e:∀x ∈ a.toList,ρ x=ρ' x):a.map ρ=a.map ρ':=by
 cases a with
 | none=>rfl
 | some x=>simp [e x (by simp)]
theorem LI {ρ ρ':Operand→Value} {o:Oper} {xs:List Operand} (hx:Gh o.op=some xs) (e:∀x ∈ xs,ρ x=ρ' x):execOp ρ o=execOp ρ' o:=by
 obtain ⟨dst,op,ty,pos,af,gd⟩:=o;cases op <;> simp only [Gh,Option.some.injEq,reduceCtorEq] at hx
 case call c=>
  subst hx;have e1:=Nn (a:=c.args) fun x hx=>e x (List.mem_append_left _ hx);simp only [execOp,resolve,e1];cases hc:c.callee with
  | builtin b=>rfl
  | value f=>simp only [];rw [e f (List.mem_append_right _ (by rw [hc];simp))]
  | invoke r m=>simp only [];rw [e r (List.mem_append_right _ (by rw [hc];simp))]
 case makeFunc f a b=>
  subst hx;simp only [execOp];rw [Nn (a:=a) fun x hx=>e x (List.mem_append_left _ hx),Nn (a:=b) fun x hx=>e x (List.mem_append_right _ hx)]
 case slice t x lo hi mx=>
  subst hx;simp only [execOp];rw [e x (by simp),W8 (a:=lo) fun y hy=>e y (by simp_all),W8 (a:=hi) fun y hy=>e y (by simp_all),W8 (a:=mx) fun y hy=>e y (by simp_all)]
 case build t ps=>subst hx;simp only [execOp];rw [S1 e]
 case buildSlice t n ps=>subst hx;simp only [execOp];rw [S1 e]
 case makeMap t r=>subst hx;simp only [execOp];rw [W8 e]
 all_goals
  subst hx;simp only [List.mem_cons,or_false,forall_eq_or_imp,forall_eq,List.not_mem_nil,false_implies,implies_true] at e;simp [execOp,e]
def GA (xs:List Operand):List Nat:=xs.filterMap fun x=>match x with | .tmp t=>some t | _=>none
theorem Mg {σ σ':Nat→Value} {xs:List Operand} (e:∀t ∈ GA xs,σ t=σ' t):∀x ∈ xs,AU σ x=AU σ' x:=fun x hx=>by
 cases x with
 | tmp t=>exact e t (List.mem_filterMap.2 ⟨_,hx,rfl⟩)
 | const v=>rfl
 | global g=>rfl
 | func f=>rfl
def J7:Op→Bool
 | .call c=>match c.callee with
  | .builtin b=>b==.len || b==.cap || b==.min || b==.max
  | _=>false
 | .move _ | .assign _ | .nilCheck _ | .pick .. | .build .. | .load .. | .binOp .. | .unOp .. | .convert .. | .makeFunc .. | .fieldAddr .. | .field .. | .indexAddr .. | .index .. | .extract .. | .lookup .. | .slice .. | .makeInterface .. | .typeAssert .. =>true
 | _=>false
theorem Jg {β:Type} {s:Sem β} {f:β→Value} {h:GH} {Q:Next→GH→Prop}:(s.bind fun x=>(Sem.pure (Next.value (f x)):Sem Next)).gh P h Q→(s.bind fun x=>(Sem.pure (Next.value (f x)):Sem Next)).gh P h fun a h'=>Q a h'∧∃v,a=.value v:=by
 induction s generalizing h with
 | pure a=>intro x;exact ⟨x,_,rfl⟩
 | load m a k ih=>rintro ⟨x1,x2,p,c,t,f,v,y1,y2,z⟩;exact ⟨x1,x2,p,c,t,f,v,y1,y2,ih v z⟩
 | store m a v k ih=>rintro ⟨x1,x2,x3,c,t,f,y1,y2,y3,z⟩;exact ⟨x1,x2,x3,c,t,f,y1,y2,y3,ih z⟩
 | new o k ih=>intro x r hr;exact ih r (x r hr)
 | shape r k ih=>rintro ⟨p,c,t,f,y,z⟩;exact ⟨p,c,t,f,y,ih _ z⟩
 | freeze a n k ih=>
  rintro (⟨y,z⟩ | ⟨y,c,t,f,y2,z⟩)
  ·exact .inl ⟨y,ih z⟩
  ·exact .inr ⟨y,c,t,f,y2,ih z⟩
 | frozen a k ih=>rintro ⟨p,c,t,f,y,z⟩;exact ⟨p,c,t,f,y,ih _ z⟩
 | getObj r k ih=>rintro ⟨p,o,y1,y2,y3,z⟩;exact ⟨p,o,y1,y2,y3,ih _ z⟩
 | setObj r o k ih=>rintro ⟨o',y1,y2,y2',y3,z⟩;exact ⟨o',y1,y2,y2',y3,ih z⟩
 | choose q k ih=>rintro ⟨y,z⟩;exact ⟨fun x=>ih _ (y x),fun x t=>ih _ (z x t)⟩
 | sys c k ih=>intro x;exact x.elim
 | program k ih=>intro x;exact ih _ x
 | mark m k ih=>rintro ⟨y,z⟩;exact ⟨y,ih z⟩
 | halt x=>intro y;exact y.elim
def G7 (P:Program) (e:Sem Next):Prop:=∀(h:GH) (Q:Next→GH→Prop),e.gh P h Q→e.gh P h fun a h'=>Q a h'∧∃v,a=.value v
theorem G7.bind {β:Type} {s:Sem β} {f:β→Sem Next} (hf:∀a,G7 P (f a)):G7 P (s.bind f):=by
 induction s with
 | pure a=>exact hf a
 | load m a k ih=>rintro h Q ⟨x1,x2,p,c,t,f,v,y1,y2,z⟩;exact ⟨x1,x2,p,c,t,f,v,y1,y2,ih v _ _ z⟩
 | store m a v k ih=>rintro h Q ⟨x1,x2,x3,c,t,f,y1,y2,y3,z⟩;exact ⟨x1,x2,x3,c,t,f,y1,y2,y3,ih _ _ z⟩
 | new o k ih=>intro h Q x r hr;exact ih r _ _ (x r hr)
 | shape r k ih=>rintro h Q ⟨p,c,t,f,y,z⟩;exact ⟨p,c,t,f,y,ih _ _ _ z⟩
 | freeze a n k ih=>
  rintro h Q (⟨y,z⟩ | ⟨y,c,t,f,y2,z⟩)
  ·exact .inl ⟨y,ih _ _ z⟩
  ·exact .inr ⟨y,c,t,f,y2,ih _ _ z⟩
 | frozen a k ih=>rintro h Q ⟨p,c,t,f,y,z⟩;exact ⟨p,c,t,f,y,ih _ _ _ z⟩
 | getObj r k ih=>rintro h Q ⟨p,o,y1,y2,y3,z⟩;exact ⟨p,o,y1,y2,y3,ih _ _ _ z⟩
 | setObj r o k ih=>rintro h Q ⟨o',y1,y2,y2',y3,z⟩;exact ⟨o',y1,y2,y2',y3,ih _ _ z⟩
 | choose q k ih=>rintro h Q ⟨y,z⟩;exact ⟨fun x=>ih _ _ _ (y x),fun x t=>ih _ _ _ (z x t)⟩
 | sys c k ih=>intro h Q x;exact x.elim
 | program k ih=>intro h Q x;exact ih _ _ _ x
 | mark m k ih=>rintro h Q ⟨y,z⟩;exact ⟨y,ih _ _ z⟩
 | halt x=>intro h Q y;exact y.elim
theorem G7.value (v:Value):G7 P (pure (.value v)):=fun _ _ x=>⟨x,v,rfl⟩
theorem Zu {ρ:Operand→Value} {o:Oper} (hv:J7 o.op=true) {h:GH} {Q:Next→GH→Prop} (x:(execOp ρ o).gh P h Q):(execOp ρ o).gh P h fun a h'=>Q a h'∧∃v,a=.value v:=by
 obtain ⟨dst,op,ty,pos,af,gd⟩:=o;cases op
 case nilCheck a=>
  have hp:G7 P (runtimePanic .nilDeref:Sem Next):=fun _ _ y=>by first | exact y.elim | exact G7.bind (fun _=>fun _ _ z=>z.elim) _ _ y
  have key:G7 P (execOp ρ ⟨dst,.nilCheck a,ty,pos,af,gd⟩):=by
   unfold execOp;dsimp only;split
   ·exact hp
   ·exact hp
   ·exact hp
   ·split
    ·exact hp
    ·refine G7.bind fun p=>G7.bind fun r=>?_;split
     ·exact G7.bind fun _=>G7.value _
     ·exact G7.value _
    ·exact G7.value _
   ·exact G7.value _
  exact key _ _ x
 case call c=>
  simp only [J7] at hv;have e:∀s:Sem Value,execOp ρ ⟨dst,.call c,ty,pos,af,gd⟩=s.bind (fun x=>Sem.pure (Next.value x))→(execOp ρ ⟨dst,.call c,ty,pos,af,gd⟩).gh P h fun a h'=>Q a h'∧∃v,a=.value v:=fun s q=>by
   rw [q] at x ⊢;exact Jg (f:=fun x=>x) x
  cases hc:c.callee with
  | value f=>rw [hc] at hv;cases hv
  | invoke r m=>rw [hc] at hv;cases hv
  | builtin b=>
   rw [hc] at hv;have q:execOp ρ ⟨dst,.call c,ty,pos,af,gd⟩=builtin b c.argTypes ty (c.args.map fun | .const _=>true | _=>false) (c.args.map ρ):=by
    show (resolve ρ c ty).bind _=_;unfold resolve;rw [hc];rfl
   cases b <;> first | (simp at hv;done) | exact e _ q
 all_goals first | (simp [J7] at hv;done) | skip
 all_goals first | exact Jg (s:=Sem.pure _) (f:=fun _=>_) x | exact Jg (f:=fun x=>x) x | exact Jg (β:=Bool) x
theorem GH.Le.get {h h':GH} (l:h.Le h') {b:Nat} {x:Bool×Obj} (hb:h b=some x):h' b=some x:=l.keep (p:=x.1) (o:=x.2) hb rfl
theorem GH.Le.of {h h':GH} (x:∀b y,h b=some y→h' b=some y):h.Le h':=fun b p o hb=>⟨o,x b _ hb,.inl rfl⟩
def Xc (h' h2:GH):GH:=fun b=>match h' b with
 | some x=>some x
 | none=>h2 b
theorem Py {h h2:GH} (l:h.Le h2):Xc h h2=h2:=funext fun b=>by
 unfold Xc;split
 ·rename_i x hb;exact (l.get hb).symm
 ·rfl
theorem GH.Le.set2 {h h2:GH} (l:h.Le h2) (r:Nat) (p:Bool) (o:Obj):(h.set r p o).Le (h2.set r p o):=.of fun b y hb=>by
 by_cases e:b=r
 ·subst e;rw [GH.set_same] at hb ⊢;exact hb
 ·rw [GH.set_ne h p o e] at hb;rw [GH.set_ne h2 p o e];exact l.get hb
def S2 (h h':GH):Prop:=∀b,(∃x,h b=some x)→∃x,h' b=some x
theorem LJ {h h' h2:GH} {r:Nat} {p:Bool} {o:Obj} (d:S2 (h.set r p o) h'):Xc h' (h2.set r p o)=Xc h' h2:=funext fun b=>by
 unfold Xc;by_cases e:b=r
 ·subst e;obtain ⟨x,hx⟩:=d b ⟨_,GH.set_same h b p o⟩;rw [hx]
 ·rw [GH.set_ne h2 p o e]
theorem S2.set {h h':GH} {r:Nat} {p:Bool} {o:Obj} (d:S2 (h.set r p o) h'):S2 h h':=fun b ⟨x,hx⟩=>by
 by_cases e:b=r
 ·subst e;exact d b ⟨_,GH.set_same h b p o⟩
 ·exact d b ⟨x,by rw [GH.set_ne h p o e];exact hx⟩
theorem gh_over {α:Type} (e:Sem α) {Q:α→GH→Prop}:∀{h h2:GH},h.Le h2→e.gh P h Q→e.gh P h2 fun a h3=>∃h',S2 h h'∧Q a h'∧h3=Xc h' h2:=by
 induction e with
 | pure a=>intro h h2 l x;exact ⟨h,fun _ y=>y,x,(Py l).symm⟩
 | load m a k ih=>rintro h h2 l ⟨x1,x2,p,c,t,f,v,y1,y2,z⟩;exact ⟨x1,x2,p,c,t,f,v,l.get y1,y2,ih v l z⟩
 | store m a v k ih=>
  rintro h h2 l ⟨x1,x2,x3,c,t,f,y1,y2,y3,z⟩;exact ⟨x1,x2,x3,c,t,f,l.get y1,y2,y3,Em _ (fun _ _ ⟨h',d,q,r⟩=>⟨h',d.set,q,r.trans (LJ d)⟩) _ (ih (l.set2 _ _ _) z)⟩
 | new o k ih=>
  intro h h2 l x r hr;have hr0:h r=none:=by
   cases hb:h r with
   | none=>rfl
   | some y=>rw [l.get hb] at hr;cases hr
  exact Em _ (fun _ _ ⟨h',d,q,r⟩=>⟨h',d.set,q,r.trans (LJ d)⟩) _ (ih r (l.set2 _ _ _) (x r hr0))
 | shape r k ih=>rintro h h2 l ⟨p,c,t,f,y,z⟩;exact ⟨p,c,t,f,l.get y,ih _ l z⟩
 | freeze a n k ih=>
  rintro h h2 l (⟨y,z⟩ | ⟨y,c,t,f,y2,z⟩)
  ·exact .inl ⟨y,ih l z⟩
  ·exact .inr ⟨y,c,t,f,l.get y2,Em _ (fun _ _ ⟨h',d,q,r⟩=>⟨h',d.set,q,r.trans (LJ d)⟩) _ (ih (l.set2 _ _ _) z)⟩
 | frozen a k ih=>rintro h h2 l ⟨p,c,t,f,y,z⟩;exact ⟨p,c,t,f,l.get y,ih _ l z⟩
 | getObj r k ih=>rintro h h2 l ⟨p,o,y1,y2,y3,z⟩;exact ⟨p,o,l.get y1,y2,y3,ih _ l z⟩
 | setObj r o k ih=>
  rintro h h2 l ⟨o',y1,y2,y2',y3,z⟩;exact ⟨o',l.get y1,y2,y2',y3,Em _ (fun _ _ ⟨h',d,q,r⟩=>⟨h',d.set,q,r.trans (LJ d)⟩) _ (ih (l.set2 _ _ _) z)⟩
 | choose q k ih=>rintro h h2 l ⟨y,z⟩;exact ⟨fun x=>ih _ l (y x),fun x t=>ih _ l (z x t)⟩
 | sys c k ih=>intro h h2 l x;exact x.elim
 | program k ih=>intro h h2 l x;exact ih _ l x
 | mark m k ih=>rintro h h2 l ⟨y,z⟩;exact ⟨y,ih l z⟩
 | halt x=>intro h h2 l y;exact y.elim
def W9 (E:GY P) (o:Oper) (σ:Nat→Value) (ds:List Deferred) (h:GH) (v:Value):Prop:=Be E o σ ds h fun σ' ds' h'=>σ'=putS σ o.dst v∧ds'=ds∧h'=h
theorem W9.move {o:Oper} {xs:List Operand} {σ σ2:Nat→Value} {ds:List Deferred} {h h2:GH} {v:Value} (hv:J7 o.op=true) (hx:Gh o.op=some xs) (e:∀t ∈ GA xs,σ t=σ2 t) (l:h.Le h2)
  (y:W9 E o σ ds h v):W9 E o σ2 ds h2 v:=by
 unfold W9 Be at y ⊢;rw [←LI hx (Mg e)];refine Em _ ?_ _ (gh_over _ l (Zu hv y));rintro a h3 ⟨h',_,⟨q,v',rfl⟩,rfl⟩;obtain ⟨q1,_,rfl⟩:=q;refine ⟨?_,rfl,Py l⟩;cases hd:o.dst with
 | none=>rfl
 | some d=>
  have:=congrFun q1 d
  simp only [hd,putS,upd_same] at this;rw [this]
theorem Be.move {o:Oper} {xs:List Operand} {σ σ2:Nat→Value} {ds:List Deferred} {h:GH} {T T2:(Nat→Value)→List Deferred→GH→Prop} (hx:Gh o.op=some xs) (e:∀t ∈ GA xs,σ t=σ2 t)
  (ht:∀x ds' h',T (putS σ o.dst x) ds' h'→T2 (putS σ2 o.dst x) ds' h') (y:Be E o σ ds h T):Be E o σ2 ds h T2:=by
 unfold Be at y ⊢;rw [←LI hx (Mg e)];refine Em _ (fun nx h' q=>?_) _ y;cases nx <;> first | exact ht _ _ _ q | exact Ac.mono q fun v h'' r=>ht _ _ _ r | exact CC.mono q fun v h'' r=>ht _ _ _ r | exact q
inductive Kd where
 | p | r | e | w | a | l | b
 deriving DecidableEq
def Kd.fix:Kd→Bool
 | .a | .l | .b=>false
 | _=>true
def Gd (l:List Oper) (o:Oper) (σ:Nat→Value) (b:Bool):Prop:=match o.guard with
 | none=>b=true
 | some (g,w)=>∃og d is,l[g]? =some og∧og.dst=some d∧σ d=.bool is∧b=(is==w)
theorem Gd.iff {l:List Oper} {o:Oper} {σ:Nat→Value} {b:Bool} (x:Gd l o σ b):Ci l o σ↔b=true:=by
 unfold Gd at x;unfold Ci;cases hg:o.guard with
 | none=>rw [hg] at x;simp only at x;simp [x]
 | some y=>
  obtain ⟨g,w⟩:=y;rw [hg] at x;obtain ⟨og,d,is,h1,h2,h3,rfl⟩:=x;simp only [h1,h2,h3];simp
def Gw (fl:Bool) (h hx:GH):Prop:=h.Le hx∧(fl=false→hx=h)
theorem Gw.refl (fl:Bool) (h:GH):Gw fl h h:=⟨GH.Le.refl h,fun _=>rfl⟩
def zOf (P:Program) (t:TypeId):Array Value:=(CD P t).getD #[]
def TD (E:GY P) (l:List Oper) (n:Nat) (fl:Bool) (hs:GH) (ds:List Deferred) (Lw:Nat→Value→GH→Prop) (F:(Nat→Value)→GH→Prop):List (Kd×Nat)→(Nat→Value)→GH→Prop
 | [],σ,h=>∀hx,Gw fl h hx→F σ hx
 | (kd,k) ::π,σ,h=>∃o b,l[k]? =some o∧Gd l o σ b∧(b=false→TD E l n fl hs ds Lw F π (putS σ o.dst undef) h)∧(b=true→match kd with
  | .p=>∃v,(∀hx,W9 E o σ ds hx v)∧TD E l n fl hs ds Lw F π (putS σ o.dst v) h
  | .r=>∃v,W9 E o σ ds h v∧TD E l n fl hs ds Lw F π (putS σ o.dst v) h
  | .e=>∀hx,Gw fl h hx→Be E o σ ds hx fun σ' ds' h'=>ds'=ds∧∃v,σ'=putS σ o.dst v∧hx.Le h'∧TD E l n fl hs ds Lw F π (putS σ o.dst v) h'
  | .w=>∀hx,Gw fl h hx→Be E o σ ds hx fun σ' ds' h'=>ds'=ds∧∃v,σ'=putS σ o.dst v∧TD E l n fl hs ds Lw F π (putS σ o.dst v) h'
  | .a=>∀t r hx,o.op=.alloc t→h.Le hx→hs r=none→hx r=some (true,.cells (zOf P t) t (0,0))→TD E l n fl hs ds Lw F π (putS σ o.dst (.pointer (some ⟨r,0,none⟩))) hx
  | .l=>(∀hx,h.Le hx→Be E o σ ds hx fun σ' ds' h'=>ds'=ds∧∃v,σ'=putS σ o.dst v∧hx.Le h'∧Lw k v h')∧TD E l n fl hs ds Lw F π σ h
  | .b=>∀v hx,h.Le hx→Lw k v hx→TD E l n fl hs ds Lw F π (putS σ o.dst v) hx)
def G8 (l:List Oper) (n:Nat) (cl seen:List Nat) (t:Nat):Bool:= !(DK l n).contains t || seen.any fun j=>cl.contains j && match l[j]? with
 | some oj=>oj.dst==some t
 | none=>false
def Rb (P:Program):Op→Bool
 | .alloc t=>(CD P t).isSome
 | _=>false
def Fr (P:Program) (l:List Oper) (n:Nat) (cls:List (List Nat)) (fl:Bool):List (Kd×Nat)→List Nat→List Nat→List Nat→Bool→Bool
 | [],seen,_,_,_=>(List.range n).all seen.contains
 | (kd,k) ::π,seen,effs,rds,wr=>match l[k]? with
  | none=>false
  | some o=>(match Gh o.op with
    | none=>false
    | some xs=>Nat.blt k n && !seen.contains k && (GA xs).all (G8 l n (cls.getD k []) seen)) &&
   (match o.guard with
    | none=>true
    | some (g,_)=>seen.contains g && (cls.getD k []).contains g) &&
   (match kd with
    | .p=>J7 o.op && effs.all (cls.getD k []).contains && Fr P l n cls fl π (k ::seen) effs rds wr
    | .r=>J7 o.op && effs.all (cls.getD k []).contains && Fr P l n cls fl π (k ::seen) effs (k ::rds) wr
    | .e=>effs.all (cls.getD k []).contains && Fr P l n cls fl π (k ::seen) (k ::effs) rds wr
    | .w=>effs.all (cls.getD k []).contains && rds.all (cls.getD k []).contains && Fr P l n cls fl π (k ::seen) (k ::effs) rds true
    | .a=>fl && !wr && Rb P o.op && o.dst.isSome && o.guard.isNone && Fr P l n cls fl π (k ::seen) (k ::effs) rds wr
    | .l=>fl && o.dst.isSome && o.guard.isNone && effs.all (cls.getD k []).contains && Fr P l n cls fl π seen effs rds wr
    | .b=>fl && !wr && o.dst.isSome && o.guard.isNone && Fr P l n cls fl π (k ::seen) (k ::effs) rds wr)
structure PF (E:GY P) (l:List Oper) (n:Nat) (cls:List (List Nat)) (ds:List Deferred) (seen rds:List Nat) (σr:Nat→Value) (h':GH) (k:Nat) (o:Oper) (xs:List Operand) (b:Bool) (v:Value):Prop where
 at':l[k]? =some o
 op:Gh o.op=some xs
 val:J7 o.op=true
 fix:∀t ∈ GA xs,G8 l n (cls.getD k []) seen t=true
 gfix:∀g w,o.guard=some (g,w)→g ∈ seen∧g ∈ cls.getD k []
 gd:Gd l o σr b
 vop:b=true→W9 E o σr ds h' v∧(k ∈ rds∨∀hx,W9 E o σr ds hx v)
 is:∀d,o.dst=some d→σr d=if b=true then v else undef
def Xd (E:GY P) (l:List Oper) (n:Nat) (cls:List (List Nat)) (ds:List Deferred) (Lw:Nat→Value→GH→Prop) (seen:List Nat) (σr:Nat→Value) (h':GH) (k:Nat):Prop:=
 ∃o xs,l[k]? =some o∧Gh o.op=some xs∧(∀t ∈ GA xs,G8 l n (cls.getD k []) seen t=true)∧
  ∀σ2 hx,(∀t ∈ GA xs,σr t=σ2 t)→h'.Le hx→Be E o σ2 ds hx fun σ'' ds' h2=>ds'=ds∧∃v,σ''=putS σ2 o.dst v∧hx.Le h2∧Lw k v h2
structure Ia (E:GY P) (l:List Oper) (n:Nat) (cls:List (List Nat)) (fl:Bool) (hs:GH) (ds:List Deferred) (Lw:Nat→Value→GH→Prop) (F:(Nat→Value)→GH→Prop) (seen effs rds:List Nat) (wr:Bool) (π:List (Kd×Nat)) (σr:Nat→Value) (hr:GH)
  (D:Nat→Bool) (σ':Nat→Value) (h':GH):Prop where
 td:TD E l n fl hs ds Lw F π σr hr
 ok:Fr P l n cls fl π seen effs rds wr=true
 gw:Gw fl hr h'
 base:∀t,(DK l n).contains t=false→σ' t=σr t
 lt:∀k ∈ seen,k<n
 eff:∀k ∈ effs,D k=true
 rest:∀kd k,(kd,k) ∈ π→kd.fix=true→D k=false
 done:∀k ∈ seen,D k=true→∀o d,l[k]? =some o→o.dst=some d→σ' d=σr d
 pend:∀k ∈ seen,D k=false→∃o xs b v,PF E l n cls ds seen rds σr h' k o xs b v
 flo:∀k,(Kd.a,k) ∈ π→D k=true→∀o t d,l[k]? =some o→o.op=.alloc t→o.dst=some d→∃r,σ' d=.pointer (some ⟨r,0,none⟩)∧hs r=none∧h' r=some (true,.cells (zOf P t) t (0,0))
 flb:∀k,(Kd.b,k) ∈ π→D k=false→(Kd.l,k) ∈ π∨Xd E l n cls ds Lw seen σr h' k
 fld:∀k,(Kd.b,k) ∈ π→D k=true→∀o d,l[k]? =some o→o.dst=some d→Lw k (σ' d) h'
 mono:∀k v h1 h2,GH.Le h1 h2→Lw k v h1→Lw k v h2
 pre:wr=false→hs.Le h'
 clos:∀k,k<n→D k=true→∀q ∈ cls.getD k [],D q=true
theorem JG {l:List Oper} {n:Nat} {cl seen:List Nat} {k t:Nat} (x:G8 l n cl seen t=true):G8 l n cl (k ::seen) t=true:=by
 unfold G8 at x ⊢;rw [Bool.or_eq_true] at x ⊢;rcases x with x | x
 ·exact .inl x
 ·exact .inr (by rw [List.any_cons,x];simp)
theorem L6 {l:List Oper} {n:Nat} {cl seen:List Nat} {k t d:Nat} {o:Oper} (nd:(DK l n).Nodup) (hlt:∀k ∈ seen,k<n) (hk:k<n) (hs:k ∉ seen) (ho:l[k]? =some o) (hd:o.dst=some d) (x:G8 l n cl seen t=true):t≠d:=by
 intro e;subst e;unfold G8 at x;rw [Bool.or_eq_true] at x;rcases x with x | x
 ·have:t ∈ DK l n:=by
   simp only [DK,List.mem_filterMap];refine ⟨o,?_,hd⟩
   have:(l.take n)[k]? =some o:=by rw [List.getElem?_take];simp [hk,ho]
   exact List.mem_of_getElem? this
  simp [this] at x
 ·rw [List.any_eq_true] at x;obtain ⟨j,hj,y⟩:=x;rw [Bool.and_eq_true] at y;cases hoj:l[j]? with
  | none=>rw [hoj] at y;simp at y
  | some oj=>
   rw [hoj] at y;have y2:oj.dst=some t:=by simpa using y.2
   exact Df nd hk (hlt j hj) (fun e=>hs (e▸hj)) ho hoj hd y2 rfl
theorem Ck {σ:Nat→Value} {o:Oper} {v:Value} {t:Nat} (h:∀d,o.dst=some d→t≠d):putS σ o.dst v t=σ t:=by
 cases hd:o.dst with
 | none=>rfl
 | some d=>exact upd_ne σ v (KT (h d hd))
theorem He {l:List Oper} {n k t:Nat} {o:Oper} (hk:k<n) (ho:l[k]? =some o) (ht:(DK l n).contains t=false):∀d,o.dst=some d→t≠d:=fun d hd e=>by
 subst e;rw [Nd hk ho hd] at ht;cases ht
section
variable {l:List Oper} {n:Nat} {cls:List (List Nat)} {fl:Bool} {hs:GH} {ds:List Deferred} {Lw:Nat→Value→GH→Prop} {F:(Nat→Value)→GH→Prop} {seen effs rds:List Nat} {wr:Bool} {π:List (Kd×Nat)} {σr σ':Nat→Value} {hr h':GH} {D:Nat→Bool}
theorem Gd.put {o ok:Oper} {k:Nat} {b:Bool} {v:Value} (nd:(DK l n).Nodup) (hlt:∀k ∈ seen,k<n) (hk:k<n) (hks:k ∉ seen) (hok:l[k]? =some ok) (hg:∀g w,o.guard=some (g,w)→g ∈ seen) (x:Gd l o σr b):Gd l o (putS σr ok.dst v) b:=by
 unfold Gd at x ⊢;cases hgd:o.guard with
 | none=>rw [hgd] at x;exact x
 | some y=>
  obtain ⟨g,w⟩:=y;rw [hgd] at x;obtain ⟨og,d,is,h1,h2,h3,h4⟩:=x;have hgs:=hg g w hgd;exact ⟨og,d,is,h1,h2,by rw [Ck fun d' hd'=>Df nd hk (hlt g hgs) (fun e=>hks (e▸hgs)) hok h1 hd' h2];exact h3,h4⟩
theorem PF.put {k j:Nat} {o ok:Oper} {xs:List Operand} {b:Bool} {v w:Value} (nd:(DK l n).Nodup) (hlt:∀k ∈ seen,k<n) (hk:k<n) (hks:k ∉ seen) (hok:l[k]? =some ok) (hj:j ∈ seen) (l2:hr.Le h')
  (x:PF E l n cls ds seen rds σr hr j o xs b v):PF E l n cls ds (k ::seen) rds (putS σr ok.dst w) h' j o xs b v where
 at':=x.at'
 op:=x.op
 val:=x.val
 fix:=fun t ht=>JG (x.fix t ht)
 gfix:=fun g w' hg=>⟨List.mem_cons_of_mem _ (x.gfix g w' hg).1,(x.gfix g w' hg).2⟩
 gd:=x.gd.put nd hlt hk hks hok fun g w' hg=>(x.gfix g w' hg).1
 vop:=fun hb=>by
  have e:∀t ∈ GA xs,σr t=putS σr ok.dst w t:=fun t ht=>(Ck fun d hd=>L6 nd hlt hk hks hok hd (x.fix t ht)).symm;obtain ⟨y1,y2⟩:=x.vop hb;exact ⟨y1.move x.val x.op e l2,y2.imp id fun y hx=>(y hx).move x.val x.op e (GH.Le.refl _)⟩
 is:=fun d hd=>by rw [Ck fun d' hd'=>Df nd hk (hlt j hj) (fun e=>hks (e▸hj)) hok x.at' hd' hd];exact x.is d hd
theorem PF.more {j:Nat} {o:Oper} {xs:List Operand} {b:Bool} {v:Value} {k:Nat} (x:PF E l n cls ds seen rds σr h' j o xs b v):PF E l n cls ds seen (k ::rds) σr h' j o xs b v:=
 { x with vop:=fun hb=>⟨(x.vop hb).1,(x.vop hb).2.imp (List.mem_cons_of_mem _) id⟩ }
theorem Xd.put {k j:Nat} {ok:Oper} {w:Value} (nd:(DK l n).Nodup) (hlt:∀k ∈ seen,k<n) (hk:k<n) (hks:k ∉ seen) (hok:l[k]? =some ok) (x:Xd E l n cls ds Lw seen σr h' j):Xd E l n cls ds Lw (k ::seen) (putS σr ok.dst w) h' j:=by
 obtain ⟨o,xs,h1,h2,h3,h4⟩:=x;exact ⟨o,xs,h1,h2,fun t ht=>JG (h3 t ht),fun σ2 hx e l2=>h4 σ2 hx (fun t ht=>(Ck fun d hd=>L6 nd hlt hk hks hok hd (h3 t ht)).symm.trans (e t ht)) l2⟩
theorem Xd.le {j:Nat} {h2:GH} (l2:h'.Le h2) (x:Xd E l n cls ds Lw seen σr h' j):Xd E l n cls ds Lw seen σr h2 j:=by
 obtain ⟨o,xs,h1,h3,h4,h5⟩:=x;exact ⟨o,xs,h1,h3,h4,fun σ2 hx e l3=>h5 σ2 hx e (l2.trans l3)⟩
theorem Ff {kd kd2:Kd} {k j:Nat} (h:(kd2,j) ∈ (kd,k) ::π) (ne:kd2≠kd):(kd2,j) ∈ π:=by
 rcases List.mem_cons.1 h with e | h
 ·cases e;exact absurd rfl ne
 ·exact h
def Zv (P:Program) (l:List Oper) (n:Nat) (cls:List (List Nat)) (fl:Bool) (π:List (Kd×Nat)) (seen effs rds:List Nat) (wr:Bool) (k:Nat) (o:Oper):Kd→Prop
 | .p=>J7 o.op=true∧(∀q ∈ effs,q ∈ cls.getD k [])∧Fr P l n cls fl π (k ::seen) effs rds wr=true
 | .r=>J7 o.op=true∧(∀q ∈ effs,q ∈ cls.getD k [])∧Fr P l n cls fl π (k ::seen) effs (k ::rds) wr=true
 | .e=>(∀q ∈ effs,q ∈ cls.getD k [])∧Fr P l n cls fl π (k ::seen) (k ::effs) rds wr=true
 | .w=>(∀q ∈ effs,q ∈ cls.getD k [])∧(∀q ∈ rds,q ∈ cls.getD k [])∧Fr P l n cls fl π (k ::seen) (k ::effs) rds true=true
 | .a=>fl=true∧wr=false∧Rb P o.op=true∧o.dst.isSome=true∧o.guard=none∧Fr P l n cls fl π (k ::seen) (k ::effs) rds wr=true
 | .l=>fl=true∧o.dst.isSome=true∧o.guard=none∧(∀q ∈ effs,q ∈ cls.getD k [])∧Fr P l n cls fl π seen effs rds wr=true
 | .b=>fl=true∧wr=false∧o.dst.isSome=true∧o.guard=none∧Fr P l n cls fl π (k ::seen) (k ::effs) rds wr=true
theorem Er {kd:Kd} {k:Nat} (x:Fr P l n cls fl ((kd,k) ::π) seen effs rds wr=true) :
  ∃o xs,l[k]? =some o∧Gh o.op=some xs∧k<n∧k ∉ seen∧(∀t ∈ GA xs,G8 l n (cls.getD k []) seen t=true)∧(∀g w,o.guard=some (g,w)→g ∈ seen∧g ∈ cls.getD k [])∧
  Zv P l n cls fl π seen effs rds wr k o kd:=by
 unfold Fr at x;cases ho:l[k]? with
 | none=>rw [ho] at x;cases x
 | some o=>
  rw [ho] at x;simp only [Bool.and_eq_true] at x;obtain ⟨⟨x1,x2⟩,x3⟩:=x;cases hx:Gh o.op with
  | none=>rw [hx] at x1;cases x1
  | some xs=>
   rw [hx] at x1;simp only [Bool.and_eq_true,Bool.not_eq_true',List.all_eq_true] at x1;obtain ⟨⟨y1,y2⟩,y3⟩:=x1;refine ⟨o,xs,rfl,hx,Nat.blt_eq▸y1,(fun hm=>by rw [List.contains_iff_mem.2 hm] at y2;cases y2),y3,fun g w hg=>?_,?_⟩
   ·rw [hg] at x2;simp only [Bool.and_eq_true] at x2;exact ⟨List.contains_iff_mem.1 x2.1,List.contains_iff_mem.1 x2.2⟩
   ·cases kd <;> unfold Zv <;> simp only [Bool.and_eq_true,List.all_eq_true,List.contains_iff_mem,Bool.not_eq_true',Option.isNone_iff_eq_none] at x3 ⊢
    ·exact ⟨x3.1.1,x3.1.2,x3.2⟩
    ·exact ⟨x3.1.1,x3.1.2,x3.2⟩
    ·exact x3
    ·exact ⟨x3.1.1,x3.1.2,x3.2⟩
    ·exact ⟨x3.1.1.1.1.1,x3.1.1.1.1.2,x3.1.1.1.2,x3.1.1.2,x3.1.2,x3.2⟩
    ·exact ⟨x3.1.1.1.1,x3.1.1.1.2,x3.1.1.2,x3.1.2,x3.2⟩
    ·exact ⟨x3.1.1.1.1,x3.1.1.1.2,x3.1.1.2,x3.1.2,x3.2⟩
theorem Gx {kd:Kd} {k:Nat} (x:Fr P l n cls fl ((kd,k) ::π) seen effs rds wr=true):∃seen' effs' rds' wr',Fr P l n cls fl π seen' effs' rds' wr'=true∧(∀q ∈ seen,q ∈ seen')∧(kd≠.l→seen'=k ::seen)∧(kd=.l→seen'=seen)∧(∀q ∈ effs,q ∈ effs')∧(kd=.e∨kd=.w∨kd=.a∨kd=.b→k ∈ effs'):=by
 obtain ⟨o,xs,_,_,_,_,_,_,y⟩:=Er x;cases kd with
 | p=>exact ⟨_,_,_,_,y.2.2,fun _ q=>List.mem_cons_of_mem _ q,fun _=>rfl,(fun e=>by cases e),fun _ q=>q,fun e=>by rcases e with e | e | e | e <;> cases e⟩
 | r=>exact ⟨_,_,_,_,y.2.2,fun _ q=>List.mem_cons_of_mem _ q,fun _=>rfl,(fun e=>by cases e),fun _ q=>q,fun e=>by rcases e with e | e | e | e <;> cases e⟩
 | e=>exact ⟨_,_,_,_,y.2,fun _ q=>List.mem_cons_of_mem _ q,fun _=>rfl,(fun e=>by cases e),fun _ q=>List.mem_cons_of_mem _ q,fun _=>List.mem_cons_self⟩
 | w=>exact ⟨_,_,_,_,y.2.2,fun _ q=>List.mem_cons_of_mem _ q,fun _=>rfl,(fun e=>by cases e),fun _ q=>List.mem_cons_of_mem _ q,fun _=>List.mem_cons_self⟩
 | a=>exact ⟨_,_,_,_,y.2.2.2.2.2,fun _ q=>List.mem_cons_of_mem _ q,fun _=>rfl,(fun e=>by cases e),fun _ q=>List.mem_cons_of_mem _ q,fun _=>List.mem_cons_self⟩
 | l=>exact ⟨_,_,_,_,y.2.2.2.2,fun _ q=>q,(fun e=>absurd rfl e),fun _=>rfl,fun _ q=>q,fun e=>by rcases e with e | e | e | e <;> cases e⟩
 | b=>exact ⟨_,_,_,_,y.2.2.2.2,fun _ q=>List.mem_cons_of_mem _ q,fun _=>rfl,(fun e=>by cases e),fun _ q=>List.mem_cons_of_mem _ q,fun _=>List.mem_cons_self⟩
theorem C4:∀{π:List (Kd×Nat)} {seen effs rds:List Nat} {wr:Bool},Fr P l n cls fl π seen effs rds wr=true→∀kd k,(kd,k) ∈ π→k ∉ seen∧k<n
 | [],_,_,_,_,_,kd,k,h=>by cases h
 | (kd',k') ::π,seen,effs,rds,wr,x,kd,k,h=>by
  obtain ⟨o,xs,_,_,h1,h2,_⟩:=Er x;rcases List.mem_cons.1 h with e | h
  ·cases e;exact ⟨h2,h1⟩
  ·obtain ⟨seen',effs',rds',wr',y,z,_⟩:=Gx x
   have:=C4 y kd k h
   exact ⟨fun q=>this.1 (z _ q),this.2⟩
theorem Np:∀{π:List (Kd×Nat)} {seen effs rds:List Nat} {wr:Bool},Fr P l n cls fl π seen effs rds wr=true→∀i,i<n→i ∈ seen∨∃kd,(kd,i) ∈ π∧kd≠.l
 | [],seen,_,_,_,x,i,hi=>by
  unfold Fr at x;exact .inl (List.contains_iff_mem.1 (List.all_eq_true.1 x i (List.mem_range.2 hi)))
 | (kd',k') ::π,seen,effs,rds,wr,x,i,hi=>by
  obtain ⟨seen',effs',rds',wr',y,_,z1,z2,_⟩:=Gx x;rcases Np y i hi with h | ⟨kd,h,hne⟩
  ·by_cases e:kd'=.l
   ·rw [z2 e] at h;exact .inl h
   ·rw [z1 e] at h;rcases List.mem_cons.1 h with rfl | h
    ·exact .inr ⟨kd',List.mem_cons_self,e⟩
    ·exact .inl h
  ·exact .inr ⟨kd,List.mem_cons_of_mem _ h,hne⟩
theorem Nq:∀{π:List (Kd×Nat)} {seen effs rds:List Nat} {wr:Bool},Fr P l n cls fl π seen effs rds wr=true→∀kd k,(kd,k) ∈ π→kd≠.a→kd≠.b→∀q ∈ effs,q ∈ cls.getD k []
 | [],_,_,_,_,_,kd,k,h=>by cases h
 | (kd',k') ::π,seen,effs,rds,wr,x,kd,k,h=>by
  intro hne hnb q hq;rcases List.mem_cons.1 h with e | h
  ·cases e;obtain ⟨o,xs,_,_,_,_,_,_,y⟩:=Er x;cases kd' with
   | p=>exact y.2.1 q hq
   | r=>exact y.2.1 q hq
   | e=>exact y.1 q hq
   | w=>exact y.1 q hq
   | a=>exact absurd rfl hne
   | l=>exact y.2.2.2.1 q hq
   | b=>exact absurd rfl hnb
  ·obtain ⟨seen',effs',rds',wr',y,_,_,_,z,_⟩:=Gx x;exact Nq y kd k h hne hnb q (z q hq)
theorem DJ:∀{π:List (Kd×Nat)} {seen effs rds:List Nat} {wr:Bool},Fr P l n cls fl π seen effs rds wr=true→∀kd k,(kd,k) ∈ π→kd=.a∨kd=.b→fl=true∧wr=false∧k<n∧∃o,l[k]? =some o∧(kd=.a→Rb P o.op=true)∧o.dst.isSome=true∧o.guard=none
 | [],_,_,_,_,_,kd,k,h=>by cases h
 | (kd',k') ::π,seen,effs,rds,wr,x,kd,k,h=>by
  intro hkd;obtain ⟨o,xs,ho,hx,h1,h2,h3,h4,hh⟩:=Er x;rcases List.mem_cons.1 h with e | h6
  ·cases e;rcases hkd with rfl | rfl
   ·exact ⟨hh.1,hh.2.1,h1,o,ho,fun _=>hh.2.2.1,hh.2.2.2.1,hh.2.2.2.2.1⟩
   ·exact ⟨hh.1,hh.2.1,h1,o,ho,(fun e=>by cases e),hh.2.2.1,hh.2.2.2.1⟩
  ·cases kd' with
   | p=>exact DJ hh.2.2 kd k h6 hkd
   | r=>exact DJ hh.2.2 kd k h6 hkd
   | e=>exact DJ hh.2 kd k h6 hkd
   | w=>have:=(DJ hh.2.2 kd k h6 hkd).2.1;cases this
   | a=>exact DJ hh.2.2.2.2.2 kd k h6 hkd
   | l=>exact DJ hh.2.2.2.2 kd k h6 hkd
   | b=>exact DJ hh.2.2.2.2 kd k h6 hkd
theorem Jh {k:Nat}:Ha D k k=true:=by simp [Ha]
theorem CP {k j:Nat} (h:j≠k):Ha D k j=D j:=by unfold Ha;rw [if_neg (fun e=>h e.symm)]
theorem FE {k j:Nat} (h:D j=true):Ha D k j=true:=by unfold Ha;split <;> simp [h]
theorem Ia.agree (x:Ia E l n cls fl hs ds Lw F seen effs rds wr π σr hr D σ' h') {cl:List Nat} (hcl:∀q ∈ cl,D q=true) {t:Nat} (y:G8 l n cl seen t=true):σr t=σ' t:=by
 unfold G8 at y;rw [Bool.or_eq_true] at y;rcases y with y | y
 ·exact (x.base t (by simpa using y)).symm
 ·rw [List.any_eq_true] at y;obtain ⟨j,hj,z⟩:=y;rw [Bool.and_eq_true] at z;cases hoj:l[j]? with
  | none=>rw [hoj] at z;simp at z
  | some oj=>
   rw [hoj] at z;exact (x.done j hj (hcl j (List.contains_iff_mem.1 z.1)) oj t hoj (by simpa using z.2)).symm
theorem Ia.guard (x:Ia E l n cls fl hs ds Lw F seen effs rds wr π σr hr D σ' h') {cl:List Nat} (hcl:∀q ∈ cl,D q=true) {o:Oper} {b:Bool} (hg:∀g w,o.guard=some (g,w)→g ∈ seen∧g ∈ cl) (y:Gd l o σr b):Gd l o σ' b:=by
 unfold Gd at y ⊢;cases hgd:o.guard with
 | none=>rw [hgd] at y;exact y
 | some z=>
  obtain ⟨g,w⟩:=z;rw [hgd] at y;obtain ⟨og,d,is,h1,h2,h3,h4⟩:=y;exact ⟨og,d,is,h1,h2,by rw [x.done g (hg g w hgd).1 (hcl g (hg g w hgd).2) og d h1 h2];exact h3,h4⟩
theorem Ia.unfoldV {kd:Kd} {k:Nat} (nd:(DK l n).Nodup) (hkd:kd=.p∨kd=.r) (x:Ia E l n cls fl hs ds Lw F seen effs rds wr ((kd,k) ::π) σr hr D σ' h') :
  ∃rds' σr',Ia E l n cls fl hs ds Lw F (k ::seen) effs rds' wr π σr' hr D σ' h':=by
 obtain ⟨o,xs,ho,hx,hkn,hks,hfix,hg,hh⟩:=Er x.ok;obtain ⟨o2,b,ho2,hgd,hF,hT⟩:=x.td;obtain rfl:o2=o:=Option.some.inj (ho2.symm.trans ho);have hkD:D k=false:=x.rest kd k List.mem_cons_self (by rcases hkd with e | e <;> rw [e] <;> rfl);have hval:J7 o2.op=true:=by rcases hkd with rfl | rfl <;> exact hh.1
 have key:∀(v:Value) (rds':List Nat),(rds'=rds∨rds'=k ::rds)→Fr P l n cls fl π (k ::seen) effs rds' wr=true→TD E l n fl hs ds Lw F π (putS σr o2.dst (if b=true then v else undef)) hr→
   (b=true→W9 E o2 σr ds hr v∧(k ∈ rds'∨∀hx,W9 E o2 σr ds hx v))→Ia E l n cls fl hs ds Lw F (k ::seen) effs rds' wr π (putS σr o2.dst (if b=true then v else undef)) hr D σ' h':=by
  intro v rds' hrds ok' td' hv;refine ⟨td',ok',x.gw,fun t ht=>?_,fun j hj=>?_,x.eff,fun kd' j hj hne=>x.rest kd' j (List.mem_cons_of_mem _ hj) hne,fun j hj hDj o' d ho' hd=>?_,fun j hj hDj=>?_,fun j hj=>x.flo j (List.mem_cons_of_mem _ hj),fun j hj hDj=>(x.flb j (List.mem_cons_of_mem _ hj) hDj).imp (fun q=>Ff q (by rcases hkd with e | e <;> rw [e] <;> decide)) (Xd.put nd x.lt hkn hks ho),fun j hj=>x.fld j (List.mem_cons_of_mem _ hj),x.mono,x.pre,x.clos⟩
  ·rw [Ck (He hkn ho ht)];exact x.base t ht
  ·rcases List.mem_cons.1 hj with rfl | hj
   ·exact hkn
   ·exact x.lt j hj
  ·rcases List.mem_cons.1 hj with rfl | hj
   ·rw [hkD] at hDj;cases hDj
   ·rw [Ck fun d' hd'=>Df nd hkn (x.lt j hj) (fun e=>hks (e▸hj)) ho ho' hd' hd];exact x.done j hj hDj o' d ho' hd
  ·rcases List.mem_cons.1 hj with rfl | hj
   ·refine ⟨o2,xs,b,v,ho,hx,hval,fun t ht=>JG (hfix t ht),fun g w hgg=>⟨List.mem_cons_of_mem _ (hg g w hgg).1,(hg g w hgg).2⟩,hgd.put nd x.lt hkn hks ho fun g w hgg=>(hg g w hgg).1,fun hb=>?_,fun d hd=>?_⟩
    ·have e:∀t ∈ GA xs,σr t=putS σr o2.dst (if b=true then v else undef) t:=fun t ht=>(Ck fun d hd=>L6 nd x.lt hkn hks ho hd (hfix t ht)).symm;obtain ⟨y1,y2⟩:=hv hb;exact ⟨y1.move hval hx e x.gw.1,y2.imp id fun y hx'=>(y hx').move hval hx e (GH.Le.refl _)⟩
    ·rw [hd];exact upd_same _ _ _
   ·obtain ⟨o',xs',b',v',pf⟩:=x.pend j hj hDj
    have:=pf.put (w:=if b=true then v else undef) nd x.lt hkn hks ho hj (GH.Le.refl _)
    rcases hrds with rfl | rfl
    ·exact ⟨o',xs',b',v',this⟩
    ·exact ⟨o',xs',b',v',this.more⟩
 cases b with
 | false=>
  rcases hkd with rfl | rfl
  ·exact ⟨_,_,key undef _ (.inl rfl) hh.2.2 (hF rfl) (fun e=>by cases e)⟩
  ·exact ⟨_,_,key undef _ (.inr rfl) hh.2.2 (hF rfl) (fun e=>by cases e)⟩
 | true=>
  rcases hkd with rfl | rfl
  ·obtain ⟨v,h1,h2⟩:=hT rfl;exact ⟨_,_,key v _ (.inl rfl) hh.2.2 h2 (fun _=>⟨h1 _,.inr h1⟩)⟩
  ·obtain ⟨v,h1,h2⟩:=hT rfl;exact ⟨_,_,key v _ (.inr rfl) hh.2.2 h2 (fun _=>⟨h1,.inl List.mem_cons_self⟩)⟩
theorem Ia.unfoldA {k:Nat} (nd:(DK l n).Nodup) (hD:D k=true) (x:Ia E l n cls fl hs ds Lw F seen effs rds wr ((Kd.a,k) ::π) σr hr D σ' h') :
  ∃σr',Ia E l n cls fl hs ds Lw F (k ::seen) (k ::effs) rds wr π σr' h' D σ' h':=by
 obtain ⟨o,xs,ho,hx,hkn,hks,hfix,hg,hh⟩:=Er x.ok;obtain ⟨o2,b,ho2,hgd,hF,hT⟩:=x.td;obtain rfl:o2=o:=Option.some.inj (ho2.symm.trans ho);obtain ⟨hfl,hwr,hal,hds,hgn,ok'⟩:=hh;obtain rfl:b=true:=by unfold Gd at hgd;rw [hgn] at hgd;exact hgd
 obtain ⟨t,hop⟩:∃t,o2.op=.alloc t:=by
  cases hq:o2.op <;> rw [hq] at hal <;> first | exact ⟨_,rfl⟩ | cases hal
 obtain ⟨d,hd⟩:=Option.isSome_iff_exists.1 hds;obtain ⟨r,h1,h2,h3⟩:=x.flo k List.mem_cons_self hD o2 t d ho hop hd;refine ⟨putS σr o2.dst (.pointer (some ⟨r,0,none⟩)),hT rfl t r h' hop x.gw.1 h2 h3,ok',Gw.refl _ _,fun t ht=>?_,fun j hj=>?_,fun j hj=>?_,fun kd' j hj hne=>x.rest kd' j (List.mem_cons_of_mem _ hj) hne,fun j hj hDj o' d' ho' hd'=>?_,fun j hj hDj=>?_,
  fun j hj=>x.flo j (List.mem_cons_of_mem _ hj),fun j hj hDj=>(x.flb j (List.mem_cons_of_mem _ hj) hDj).imp (fun q=>Ff q (by decide)) (Xd.put nd x.lt hkn hks ho),fun j hj=>x.fld j (List.mem_cons_of_mem _ hj),x.mono,x.pre,x.clos⟩
 ·rw [Ck (He hkn ho ht)];exact x.base t ht
 ·rcases List.mem_cons.1 hj with rfl | hj
  ·exact hkn
  ·exact x.lt j hj
 ·rcases List.mem_cons.1 hj with rfl | hj
  ·exact hD
  ·exact x.eff j hj
 ·rcases List.mem_cons.1 hj with rfl | hj
  ·obtain rfl:o'=o2:=Option.some.inj (ho'.symm.trans ho);obtain rfl:d'=d:=Option.some.inj (hd'.symm.trans hd);rw [h1,hd];exact (upd_same _ _ _).symm
  ·rw [Ck fun e he=>Df nd hkn (x.lt j hj) (fun e=>hks (e▸hj)) ho ho' he hd'];exact x.done j hj hDj o' d' ho' hd'
 ·rcases List.mem_cons.1 hj with rfl | hj
  ·rw [hD] at hDj;cases hDj
  ·obtain ⟨o',xs',b',v',pf⟩:=x.pend j hj hDj;exact ⟨o',xs',b',v',pf.put nd x.lt hkn hks ho hj (GH.Le.refl _)⟩
theorem Ia.unfoldB {k:Nat} (nd:(DK l n).Nodup) (hD:D k=true) (x:Ia E l n cls fl hs ds Lw F seen effs rds wr ((Kd.b,k) ::π) σr hr D σ' h') :
  ∃σr',Ia E l n cls fl hs ds Lw F (k ::seen) (k ::effs) rds wr π σr' h' D σ' h':=by
 obtain ⟨o,xs,ho,hx,hkn,hks,hfix,hg,hh⟩:=Er x.ok;obtain ⟨o2,b,ho2,hgd,hF,hT⟩:=x.td;obtain rfl:o2=o:=Option.some.inj (ho2.symm.trans ho);obtain ⟨hfl,hwr,hds,hgn,ok'⟩:=hh;obtain rfl:b=true:=by unfold Gd at hgd;rw [hgn] at hgd;exact hgd
 obtain ⟨d,hd⟩:=Option.isSome_iff_exists.1 hds;have hL:=x.fld k List.mem_cons_self hD o2 d ho hd;refine ⟨putS σr o2.dst (σ' d),hT rfl (σ' d) h' x.gw.1 hL,ok',Gw.refl _ _,fun t ht=>?_,fun j hj=>?_,fun j hj=>?_,fun kd' j hj hne=>x.rest kd' j (List.mem_cons_of_mem _ hj) hne,fun j hj hDj o' d' ho' hd'=>?_,fun j hj hDj=>?_,
  fun j hj=>x.flo j (List.mem_cons_of_mem _ hj),fun j hj hDj=>(x.flb j (List.mem_cons_of_mem _ hj) hDj).imp (fun q=>Ff q (by decide)) (Xd.put nd x.lt hkn hks ho),fun j hj=>x.fld j (List.mem_cons_of_mem _ hj),x.mono,x.pre,x.clos⟩
 ·rw [Ck (He hkn ho ht)];exact x.base t ht
 ·rcases List.mem_cons.1 hj with rfl | hj
  ·exact hkn
  ·exact x.lt j hj
 ·rcases List.mem_cons.1 hj with rfl | hj
  ·exact hD
  ·exact x.eff j hj
 ·rcases List.mem_cons.1 hj with rfl | hj
  ·obtain rfl:o'=o2:=Option.some.inj (ho'.symm.trans ho);obtain rfl:d'=d:=Option.some.inj (hd'.symm.trans hd);rw [hd];exact (upd_same _ _ _).symm
  ·rw [Ck fun e he=>Df nd hkn (x.lt j hj) (fun e=>hks (e▸hj)) ho ho' he hd'];exact x.done j hj hDj o' d' ho' hd'
 ·rcases List.mem_cons.1 hj with rfl | hj
  ·rw [hD] at hDj;cases hDj
  ·obtain ⟨o',xs',b',v',pf⟩:=x.pend j hj hDj;exact ⟨o',xs',b',v',pf.put nd x.lt hkn hks ho hj (GH.Le.refl _)⟩
theorem Ia.unfoldL {k:Nat} (x:Ia E l n cls fl hs ds Lw F seen effs rds wr ((Kd.l,k) ::π) σr hr D σ' h') :
  Ia E l n cls fl hs ds Lw F seen effs rds wr π σr hr D σ' h':=by
 obtain ⟨o,xs,ho,hx,hkn,hks,hfix,hg,hh⟩:=Er x.ok;obtain ⟨o2,b,ho2,hgd,hF,hT⟩:=x.td;obtain rfl:o2=o:=Option.some.inj (ho2.symm.trans ho);obtain ⟨hfl,hds,hgn,heff,ok'⟩:=hh;obtain rfl:b=true:=by unfold Gd at hgd;rw [hgn] at hgd;exact hgd
 obtain ⟨d,hd⟩:=Option.isSome_iff_exists.1 hds;obtain ⟨hp,td⟩:=hT rfl;refine ⟨td,ok',x.gw,x.base,x.lt,x.eff,fun kd' j hj hne=>x.rest kd' j (List.mem_cons_of_mem _ hj) hne,x.done,x.pend,fun j hj=>x.flo j (List.mem_cons_of_mem _ hj),fun j hj hDj=>?_,fun j hj=>x.fld j (List.mem_cons_of_mem _ hj),x.mono,x.pre,x.clos⟩;by_cases e:j=k
 ·subst e;refine .inr ⟨o2,xs,ho,hx,hfix,fun σ2 hx2 e l2=>?_⟩;refine Be.move hx e (fun z ds' h2 q=>?_) (hp hx2 (x.gw.1.trans l2));obtain ⟨rfl,v,hv,l3,hL⟩:=q;have hz:z=v:=by
   have:=congrFun hv d
   simp only [hd,putS,upd_same] at this;exact this
  exact ⟨rfl,v,by rw [hz],l3,hL⟩
 ·refine (x.flb j (List.mem_cons_of_mem _ hj) hDj).imp (fun q=>?_) id;rcases List.mem_cons.1 q with e2 | q
  ·cases e2;exact absurd rfl e
  ·exact q
theorem Ia.ran {kd:Kd} {k:Nat} {o:Oper} {xs:List Operand} {v:Value} {hr2 h2:GH} {wr':Bool} (nd:(DK l n).Nodup) (hkl:kd≠.l) (ho:l[k]? =some o) (hkn:k<n) (hks:k ∉ seen) (hcl:∀q ∈ cls.getD k [],D q=true)
  (x:Ia E l n cls fl hs ds Lw F seen effs rds wr ((kd,k) ::π) σr hr D σ' h') (td:TD E l n fl hs ds Lw F π (putS σr o.dst v) hr2) (ok':Fr P l n cls fl π (k ::seen) (k ::effs) rds wr'=true) (gw:Gw fl hr2 h2)
  (how:(wr'=wr∧h'.Le h2)∨(wr'=true∧∀q ∈ rds,D q=true)) :
  Ia E l n cls fl hs ds Lw F (k ::seen) (k ::effs) rds wr' π (putS σr o.dst v) hr2 (Ha D k) (putS σ' o.dst v) h2:=by
 refine ⟨td,ok',gw,fun t ht=>?_,fun j hj=>?_,fun j hj=>?_,fun kd' j hj hne=>?_,fun j hj hDj o' d' ho' hd'=>?_,fun j hj hDj=>?_,fun j hj hDj o' t d' ho' hop hd'=>?_,fun j hj hDj=>?_,fun j hj hDj o' d' ho' hd'=>?_,x.mono,fun hw=>?_,fun j hjn hDj q hq=>?_⟩
 ·rw [Ck (He hkn ho ht),Ck (He hkn ho ht)];exact x.base t ht
 ·rcases List.mem_cons.1 hj with rfl | hj
  ·exact hkn
  ·exact x.lt j hj
 ·rcases List.mem_cons.1 hj with rfl | hj
  ·exact Jh
  ·exact FE (x.eff j hj)
 ·have hnew:=(C4 ok' kd' j hj).1;rw [CP fun e=>hnew (by rw [e];exact List.mem_cons_self)];exact x.rest kd' j (List.mem_cons_of_mem _ hj) hne
 ·rcases List.mem_cons.1 hj with rfl | hj
  ·obtain rfl:o'=o:=Option.some.inj (ho'.symm.trans ho);rw [hd'];exact (upd_same _ _ _).trans (upd_same _ _ _).symm
  ·have hjk:j≠k:=fun e=>hks (e▸hj);rw [CP hjk] at hDj;have hne:∀e,o.dst=some e→d'≠e:=fun e he=>Df nd hkn (x.lt j hj) (fun e=>hjk e.symm) ho ho' he hd';rw [Ck hne,Ck hne];exact x.done j hj hDj o' d' ho' hd'
 ·rcases List.mem_cons.1 hj with rfl | hj
  ·rw [Jh] at hDj;cases hDj
  ·have hjk:j≠k:=fun e=>hks (e▸hj);rw [CP hjk] at hDj;obtain ⟨o',xs',b',v',pf⟩:=x.pend j hj hDj;rcases how with ⟨_,l2⟩ | ⟨_,hrd⟩
   ·exact ⟨o',xs',b',v',pf.put nd x.lt hkn hks ho hj l2⟩
   ·have pf2:PF E l n cls ds seen rds σr h2 j o' xs' b' v':=⟨pf.at',pf.op,pf.val,pf.fix,pf.gfix,pf.gd,fun hb=>(pf.vop hb).2.elim (fun hm=>by rw [hrd j hm] at hDj;cases hDj) fun hall=>⟨hall h2,.inr hall⟩,pf.is⟩;exact ⟨o',xs',b',v',pf2.put nd x.lt hkn hks ho hj (GH.Le.refl _)⟩
 ·have hnew:=(C4 ok' _ j hj);have hjk:j≠k:=fun e=>hnew.1 (by rw [e];exact List.mem_cons_self);rw [CP hjk] at hDj;obtain ⟨r,h1,h3,h4⟩:=x.flo j (List.mem_cons_of_mem _ hj) hDj o' t d' ho' hop hd';rcases how with ⟨_,l2⟩ | ⟨hw,_⟩
  ·exact ⟨r,by rw [Ck fun e he=>Df nd hkn hnew.2 (fun e=>hjk e.symm) ho ho' he hd'];exact h1,h3,l2.get h4⟩
  ·have:=(DJ ok' _ j hj (.inl rfl)).2.1;rw [hw] at this;cases this
 ·have hnew:=(C4 ok' _ j hj);have hjk:j≠k:=fun e=>hnew.1 (by rw [e];exact List.mem_cons_self);rw [CP hjk] at hDj;rcases how with ⟨_,l2⟩ | ⟨hw,_⟩
  ·exact (x.flb j (List.mem_cons_of_mem _ hj) hDj).imp (fun q=>Ff q hkl.symm) fun q=>(q.put nd x.lt hkn hks ho).le l2
  ·have:=(DJ ok' _ j hj (.inr rfl)).2.1;rw [hw] at this;cases this
 ·have hnew:=(C4 ok' _ j hj);have hjk:j≠k:=fun e=>hnew.1 (by rw [e];exact List.mem_cons_self);rw [CP hjk] at hDj;rcases how with ⟨_,l2⟩ | ⟨hw,_⟩
  ·rw [Ck fun e he=>Df nd hkn hnew.2 (fun e=>hjk e.symm) ho ho' he hd'];exact x.mono _ _ _ _ l2 (x.fld j (List.mem_cons_of_mem _ hj) hDj o' d' ho' hd')
  ·have:=(DJ ok' _ j hj (.inr rfl)).2.1;rw [hw] at this;cases this
 ·rcases how with ⟨e,l2⟩ | ⟨e,_⟩
  ·exact (x.pre (e▸hw)).trans l2
  ·rw [e] at hw;cases hw
 ·by_cases e:j=k
  ·subst e;exact FE (hcl q hq)
  ·rw [CP e] at hDj;exact FE (x.clos j hjn hDj q hq)
def TdAt (E:GY P) (l:List Oper) (n:Nat) (cls:List (List Nat)) (fl:Bool) (hs:GH) (ds:List Deferred) (Lw:Nat→Value→GH→Prop) (F:(Nat→Value)→GH→Prop) (D:Nat→Bool) (σ':Nat→Value) (h':GH):Prop:=
 ∃seen effs rds wr π σr hr,Ia E l n cls fl hs ds Lw F seen effs rds wr π σr hr D σ' h'
abbrev RunK (E:GY P) (l:List Oper) (n:Nat) (cls:List (List Nat)) (fl:Bool) (hs:GH) (ds:List Deferred) (Lw:Nat→Value→GH→Prop) (F:(Nat→Value)→GH→Prop) (D:Nat→Bool) (σ':Nat→Value) (h':GH) (k:Nat) (o:Oper):Prop:=
 (Ci l o σ'→Be E o σ' ds h' fun σ'' ds'' h''=>ds''=ds∧TdAt E l n cls fl hs ds Lw F (Ha D k) σ'' h'')∧(¬Ci l o σ'→TdAt E l n cls fl hs ds Lw F (Ha D k) (putS σ' o.dst undef) h')
theorem Ia.runV {k:Nat} {o:Oper} (nd:(DK l n).Nodup) (ho:l[k]? =some o) (hks:k ∈ seen) (hkD:D k=false) (hcl:∀q ∈ cls.getD k [],D q=true) (x:Ia E l n cls fl hs ds Lw F seen effs rds wr π σr hr D σ' h') :
  RunK E l n cls fl hs ds Lw F D σ' h' k o:=by
 obtain ⟨o2,xs,b,v,pf⟩:=x.pend k hks hkD;obtain rfl:o2=o:=Option.some.inj (pf.at'.symm.trans ho);have hkn:=x.lt k hks;have hgi:=(x.guard hcl pf.gfix pf.gd).iff;have key:Ia E l n cls fl hs ds Lw F seen effs rds wr π σr hr (Ha D k) (putS σ' o2.dst (if b=true then v else undef)) h':=by
  refine ⟨x.td,x.ok,x.gw,fun t ht=>?_,x.lt,fun j hj=>FE (x.eff j hj),fun kd' j hj hne=>?_,fun j hj hDj o' d' ho' hd'=>?_,fun j hj hDj=>?_,fun j hj hDj o' t d' ho' hop hd'=>?_,fun j hj hDj=>?_,fun j hj hDj o' d' ho' hd'=>?_,x.mono,x.pre,fun j hjn hDj q hq=>?_⟩
  ·rw [Ck (He hkn ho ht)];exact x.base t ht
  ·have hnew:=(C4 x.ok kd' j hj).1;rw [CP fun (e:j=k)=>hnew (by rw [e];exact hks)];exact x.rest kd' j hj hne
  ·by_cases hjk:j=k
   ·subst hjk;obtain rfl:o'=o2:=Option.some.inj (ho'.symm.trans ho);rw [pf.is d' hd',hd'];exact upd_same _ _ _
   ·rw [CP hjk] at hDj;rw [Ck fun e he=>Df nd hkn (x.lt j hj) (fun e=>hjk e.symm) ho ho' he hd'];exact x.done j hj hDj o' d' ho' hd'
  ·by_cases hjk:j=k
   ·subst hjk;rw [Jh] at hDj;cases hDj
   ·rw [CP hjk] at hDj;exact x.pend j hj hDj
  ·have hnew:=C4 x.ok _ j hj;have hjk:j≠k:=fun e=>hnew.1 (by rw [e];exact hks);rw [CP hjk] at hDj;obtain ⟨r,h1,h3⟩:=x.flo j hj hDj o' t d' ho' hop hd';exact ⟨r,by rw [Ck fun e he=>Df nd hkn hnew.2 (fun e=>hjk e.symm) ho ho' he hd'];exact h1,h3⟩
  ·have hnew:=C4 x.ok _ j hj;have hjk:j≠k:=fun e=>hnew.1 (by rw [e];exact hks);rw [CP hjk] at hDj;exact x.flb j hj hDj
  ·have hnew:=C4 x.ok _ j hj;have hjk:j≠k:=fun e=>hnew.1 (by rw [e];exact hks);rw [CP hjk] at hDj;rw [Ck fun e he=>Df nd hkn hnew.2 (fun e=>hjk e.symm) ho ho' he hd'];exact x.fld j hj hDj o' d' ho' hd'
  ·by_cases e:j=k
   ·subst e;exact FE (hcl q hq)
   ·rw [CP e] at hDj;exact FE (x.clos j hjn hDj q hq)
 refine ⟨fun hG=>?_,fun hG=>?_⟩
 ·obtain rfl:=hgi.1 hG;have y:=(pf.vop rfl).1.move pf.val pf.op (fun t ht=>x.agree hcl (pf.fix t ht)) (GH.Le.refl _);refine Be.move pf.op (fun _ _=>rfl) (fun z ds' h'' q=>?_) y;obtain ⟨q1,rfl,rfl⟩:=q;exact ⟨rfl,_,_,_,_,_,_,_,by rw [q1];exact key⟩
 ·cases b with
  | true=>exact absurd (hgi.2 rfl) hG
  | false=>exact ⟨_,_,_,_,_,_,_,key⟩
theorem Ia.runE {kd:Kd} {k:Nat} {o:Oper} (nd:(DK l n).Nodup) (hkd:kd=.e∨kd=.w) (ho:l[k]? =some o) (hcl:∀q ∈ cls.getD k [],D q=true) (x:Ia E l n cls fl hs ds Lw F seen effs rds wr ((kd,k) ::π) σr hr D σ' h') :
  RunK E l n cls fl hs ds Lw F D σ' h' k o:=by
 obtain ⟨o1,xs,ho1,hx,hkn,hks,hfix,hg,hh⟩:=Er x.ok;obtain rfl:o1=o:=Option.some.inj (ho1.symm.trans ho);obtain ⟨o2,b,ho2,hgd,hF,hT⟩:=x.td;obtain rfl:o2=o1:=Option.some.inj (ho2.symm.trans ho);have hgi:=(x.guard hcl hg hgd).iff;refine ⟨fun hG=>?_,fun hG=>?_⟩
 ·obtain rfl:=hgi.1 hG;rcases hkd with rfl | rfl
  ·refine (hT rfl h' x.gw).move hx (fun t ht=>x.agree hcl (hfix t ht)) fun z ds' h'' q=>?_;obtain ⟨rfl,v,hv,l2,td⟩:=q;refine ⟨rfl,?_⟩;have e:putS σ' o2.dst z=putS σ' o2.dst v:=by
    cases hd:o2.dst with
    | none=>rfl
    | some d=>
     have:=congrFun hv d
     simp only [hd,putS,upd_same] at this;rw [this]
   rw [e];exact ⟨_,_,_,_,_,_,_,x.ran (xs:=xs) nd (by decide) ho hkn hks hcl td hh.2 (Gw.refl _ _) (.inl ⟨rfl,l2⟩)⟩
  ·refine (hT rfl h' x.gw).move hx (fun t ht=>x.agree hcl (hfix t ht)) fun z ds' h'' q=>?_;obtain ⟨rfl,v,hv,td⟩:=q;refine ⟨rfl,?_⟩;have e:putS σ' o2.dst z=putS σ' o2.dst v:=by
    cases hd:o2.dst with
    | none=>rfl
    | some d=>
     have:=congrFun hv d
     simp only [hd,putS,upd_same] at this;rw [this]
   rw [e];exact ⟨_,_,_,_,_,_,_,x.ran (xs:=xs) nd (by decide) ho hkn hks hcl td hh.2.2 (Gw.refl _ _) (.inr ⟨rfl,fun q hq=>hcl q (hh.2.1 q hq)⟩)⟩
 ·cases b with
  | true=>exact absurd (hgi.2 rfl) hG
  | false=>
   rcases hkd with rfl | rfl
   ·exact ⟨_,_,_,_,_,_,_,x.ran (xs:=xs) nd (by decide) ho hkn hks hcl (hF rfl) hh.2 x.gw (.inl ⟨rfl,GH.Le.refl _⟩)⟩
   ·exact ⟨_,_,_,_,_,_,_,x.ran (xs:=xs) nd (by decide) ho hkn hks hcl (hF rfl) hh.2.2 x.gw (.inr ⟨rfl,fun q hq=>hcl q (hh.2.1 q hq)⟩)⟩
theorem Gy:∀{π:List (Kd×Nat)} {seen effs rds:List Nat} {wr:Bool},Fr P l n cls fl π seen effs rds wr=true→∀{kd1 kd2:Kd} {j:Nat},(kd1,j) ∈ π→(kd2,j) ∈ π→kd1≠.l→kd2≠.l→kd1=kd2
 | [],_,_,_,_,_,_,_,_,h,_,_,_=>by cases h
 | (kd,k) ::π,seen,effs,rds,wr,x,kd1,kd2,j,h1,h2,n1,n2=>by
  obtain ⟨seen',e',r',w',ok2,_,z,_⟩:=Gx x;rcases List.mem_cons.1 h1 with e1 | h3 <;> rcases List.mem_cons.1 h2 with e2 | h4
  ·cases e1;cases e2;rfl
  ·cases e1;exact absurd (by rw [z n1];exact List.mem_cons_self) (C4 ok2 _ _ h4).1
  ·cases e2;exact absurd (by rw [z n2];exact List.mem_cons_self) (C4 ok2 _ _ h3).1
  ·exact Gy ok2 h3 h4 n1 n2
theorem Ia.runA {k:Nat} {o:Oper} (nd:(DK l n).Nodup) (hk:(Kd.a,k) ∈ π) (hkD:D k=false) (ho:l[k]? =some o) (hcl:∀q ∈ cls.getD k [],D q=true) (x:Ia E l n cls fl hs ds Lw F seen effs rds wr π σr hr D σ' h') :
  RunK E l n cls fl hs ds Lw F D σ' h' k o:=by
 obtain ⟨hfl,hwr,hkn,o2,ho2,hal0,hds,hgn⟩:=DJ x.ok _ k hk (.inl rfl);have hal:=hal0 rfl;obtain rfl:o2=o:=Option.some.inj (ho2.symm.trans ho);have hks:=(C4 x.ok _ k hk).1;obtain ⟨t,hop⟩:∃t,o2.op=.alloc t:=by
  cases hq:o2.op <;> rw [hq] at hal <;> first | exact ⟨_,rfl⟩ | cases hal
 have hz:CD P t=some (zOf P t):=by
  rw [hop] at hal;obtain ⟨z,hz⟩:=Option.isSome_iff_exists.1 (show (CD P t).isSome=true from hal);unfold zOf;rw [hz];rfl
 refine ⟨fun _=>?_,fun hG=>absurd (by unfold Ci;rw [hgn];trivial) hG⟩;obtain ⟨dst,op,ty,pos,af,gd⟩:=o2;simp only at hop hds hgn;subst hop;obtain ⟨d,rfl⟩:=Option.isSome_iff_exists.1 hds;refine Ai hz fun r h2 hr0 l2 hnb hoth=>⟨rfl,seen,effs,rds,wr,π,σr,hr,x.td,x.ok,⟨x.gw.1.trans l2,fun e=>by rw [hfl] at e;cases e⟩,fun t' ht=>?_,x.lt,fun j hj=>FE (x.eff j hj),fun kd' j hj hne=>?_,fun j hj hDj o' d' ho' hd'=>?_,fun j hj hDj=>?_,fun j hj hDj o' t' d' ho' hop' hd'=>?_,fun j hj hDj=>?_,fun j hj hDj o' d' ho' hd'=>?_,x.mono,fun hw=>(x.pre hw).trans l2,fun j hjn hDj q hq=>?_⟩
 ·rw [Ck (He hkn ho ht)];exact x.base t' ht
 ·by_cases e:j=k
  ·subst e;rw [Gy x.ok hj hk (by rintro rfl;cases hne) (by decide)] at hne;cases hne
  ·rw [CP e];exact x.rest kd' j hj hne
 ·have hjk:j≠k:=fun e=>hks (e▸hj);rw [CP hjk] at hDj;rw [Ck fun e he=>Df nd hkn (x.lt j hj) (fun e=>hjk e.symm) ho ho' he hd'];exact x.done j hj hDj o' d' ho' hd'
 ·have hjk:j≠k:=fun e=>hks (e▸hj);rw [CP hjk] at hDj;obtain ⟨o',xs',b',v',pf⟩:=x.pend j hj hDj;exact ⟨o',xs',b',v',pf.at',pf.op,pf.val,pf.fix,pf.gfix,pf.gd,fun hb=>⟨(pf.vop hb).1.move pf.val pf.op (fun _ _=>rfl) l2,(pf.vop hb).2⟩,pf.is⟩
 ·by_cases e:j=k
  ·subst e;cases ho'.symm.trans ho;cases hd';cases hop';have hb0:hs r=none:=by
    cases hb:hs r with
    | none=>rfl
    | some y=>rw [(x.pre hwr).get hb] at hr0;cases hr0
   exact ⟨r,upd_same _ _ _,hb0,hnb⟩
  ·rw [CP e] at hDj;have hnew:=C4 x.ok _ j hj;obtain ⟨r',h1,h3,h4⟩:=x.flo j hj hDj o' t' d' ho' hop' hd';exact ⟨r',by rw [Ck fun e' he=>Df nd hkn hnew.2 (fun q=>e q.symm) ho ho' he hd'];exact h1,h3,l2.get h4⟩
 ·have e:j≠k:=fun e=>by subst e;cases Gy x.ok hj hk (by decide) (by decide)
  rw [CP e] at hDj;exact (x.flb j hj hDj).imp id (Xd.le l2)
 ·have e:j≠k:=fun e=>by subst e;cases Gy x.ok hj hk (by decide) (by decide)
  rw [CP e] at hDj;have hnew:=C4 x.ok _ j hj;rw [Ck fun e' he=>Df nd hkn hnew.2 (fun q=>e q.symm) ho ho' he hd'];exact x.mono _ _ _ _ l2 (x.fld j hj hDj o' d' ho' hd')
 ·by_cases e:j=k
  ·subst e;exact FE (hcl q hq)
  ·rw [CP e] at hDj;exact FE (x.clos j hjn hDj q hq)
theorem Ia.reachB {k:Nat} (nd:(DK l n).Nodup) (hkD:D k=false) (hcl:∀q ∈ cls.getD k [],D q=true):∀{π:List (Kd×Nat)} {seen effs rds:List Nat} {wr:Bool} {σr:Nat→Value} {hr:GH},
  Ia E l n cls fl hs ds Lw F seen effs rds wr π σr hr D σ' h'→(Kd.b,k) ∈ π→∃seen effs rds wr π' σr hr,Ia E l n cls fl hs ds Lw F seen effs rds wr π' σr hr D σ' h'∧(Kd.b,k) ∈ π'∧Xd E l n cls ds Lw seen σr h' k:=by
 intro π
 induction π with
 | nil=>intro _ _ _ _ _ _ _ h;cases h
 | cons y π ih=>
  intro seen effs rds wr σr hr x hm;obtain ⟨kd2,k2⟩:=y;rcases x.flb k hm hkD with hl | hp
  ·by_cases hL:kd2=.l
   ·subst hL;exact ih x.unfoldL (Ff hm (by decide))
   ·have hl2:=Ff hl (Ne.symm hL);have heff:kd2=.e∨kd2=.w∨kd2=.a∨kd2=.b→D k2=true:=fun hk=>by
     obtain ⟨s',e',r',w',ok2,_,_,_,_,z⟩:=Gx x.ok;exact hcl _ (Nq ok2 .l k hl2 (by decide) (by decide) k2 (z hk))
    cases kd2 with
    | p=>obtain ⟨rds',σr',x'⟩:=x.unfoldV nd (.inl rfl);exact ih x' (Ff hm (by decide))
    | r=>obtain ⟨rds',σr',x'⟩:=x.unfoldV nd (.inr rfl);exact ih x' (Ff hm (by decide))
    | e=>have:=x.rest _ _ List.mem_cons_self rfl;rw [heff (.inl rfl)] at this;cases this
    | w=>have:=x.rest _ _ List.mem_cons_self rfl;rw [heff (.inr (.inl rfl))] at this;cases this
    | a=>obtain ⟨σr',x'⟩:=x.unfoldA nd (heff (.inr (.inr (.inl rfl))));exact ih x' (Ff hm (by decide))
    | l=>exact absurd rfl hL
    | b=>
     have hD2:=heff (.inr (.inr (.inr rfl)));obtain ⟨σr',x'⟩:=x.unfoldB nd hD2;rcases List.mem_cons.1 hm with e | hm2
     ·cases e;rw [hkD] at hD2;cases hD2
     ·exact ih x' hm2
  ·exact ⟨_,_,_,_,_,_,_,x,hm,hp⟩
theorem Ia.runB {k:Nat} {o:Oper} (nd:(DK l n).Nodup) (hk0:(Kd.b,k) ∈ π) (hkD:D k=false) (ho:l[k]? =some o) (hcl:∀q ∈ cls.getD k [],D q=true) (x0:Ia E l n cls fl hs ds Lw F seen effs rds wr π σr hr D σ' h') :
  RunK E l n cls fl hs ds Lw F D σ' h' k o:=by
 obtain ⟨seen,effs,rds,wr,π,σr,hr,x,hk,hp⟩:=x0.reachB nd hkD hcl hk0;obtain ⟨hfl,hwr,hkn,o2,ho2,_,hds,hgn⟩:=DJ x.ok _ k hk (.inr rfl);obtain rfl:o2=o:=Option.some.inj (ho2.symm.trans ho);have hks:=(C4 x.ok _ k hk).1;refine ⟨fun _=>?_,fun hG=>absurd (by unfold Ci;rw [hgn];trivial) hG⟩;obtain ⟨o3,xs,ho3,hx,hfix,hrun⟩:=hp;obtain rfl:o3=o2:=Option.some.inj (ho3.symm.trans ho);obtain ⟨d,hd⟩:=Option.isSome_iff_exists.1 hds;refine Be.move hx (fun _ _=>rfl) (fun z ds' h2 q=>?_) (hrun σ' h' (fun t ht=>x.agree hcl (hfix t ht)) (GH.Le.refl _));obtain ⟨rfl,v,hv,l2,hL⟩:=q;rw [hv];refine ⟨rfl,seen,effs,rds,wr,π,σr,hr,x.td,x.ok,⟨x.gw.1.trans l2,fun e=>by rw [hfl] at e;cases e⟩,fun t' ht=>?_,x.lt,fun j hj=>FE (x.eff j hj),fun kd' j hj hne=>?_,fun j hj hDj o' d' ho' hd'=>?_,fun j hj hDj=>?_,fun j hj hDj o' t' d' ho' hop' hd'=>?_,fun j hj hDj=>?_,fun j hj hDj o' d' ho' hd'=>?_,x.mono,fun hw=>(x.pre hw).trans l2,fun j hjn hDj q hq=>?_⟩
 ·rw [Ck (He hkn ho ht)];exact x.base t' ht
 ·by_cases e:j=k
  ·subst e;rw [Gy x.ok hj hk (by rintro rfl;cases hne) (by decide)] at hne;cases hne
  ·rw [CP e];exact x.rest kd' j hj hne
 ·have hjk:j≠k:=fun e=>hks (e▸hj);rw [CP hjk] at hDj;rw [Ck fun e he=>Df nd hkn (x.lt j hj) (fun e=>hjk e.symm) ho ho' he hd'];exact x.done j hj hDj o' d' ho' hd'
 ·have hjk:j≠k:=fun e=>hks (e▸hj);rw [CP hjk] at hDj;obtain ⟨o',xs',b',v',pf⟩:=x.pend j hj hDj;exact ⟨o',xs',b',v',pf.at',pf.op,pf.val,pf.fix,pf.gfix,pf.gd,fun hb=>⟨(pf.vop hb).1.move pf.val pf.op (fun _ _=>rfl) l2,(pf.vop hb).2⟩,pf.is⟩
 ·have e:j≠k:=fun e=>by subst e;cases Gy x.ok hj hk (by decide) (by decide)
  rw [CP e] at hDj;have hnew:=C4 x.ok _ j hj;obtain ⟨r',h1,h3,h4⟩:=x.flo j hj hDj o' t' d' ho' hop' hd';exact ⟨r',by rw [Ck fun e' he=>Df nd hkn hnew.2 (fun q=>e q.symm) ho ho' he hd'];exact h1,h3,l2.get h4⟩
 ·have e:j≠k:=fun e=>by subst e;rw [Jh] at hDj;cases hDj
  rw [CP e] at hDj;exact (x.flb j hj hDj).imp id (Xd.le l2)
 ·by_cases e:j=k
  ·subst e;obtain rfl:o'=o3:=Option.some.inj (ho'.symm.trans ho);rw [hd'];rw [show putS σ' (some d') v d'=v from upd_same _ _ _];exact hL
  ·rw [CP e] at hDj;have hnew:=C4 x.ok _ j hj;rw [Ck fun e' he=>Df nd hkn hnew.2 (fun q=>e q.symm) ho ho' he hd'];exact x.mono _ _ _ _ l2 (x.fld j hj hDj o' d' ho' hd')
 ·by_cases e:j=k
  ·subst e;exact FE (hcl q hq)
  ·rw [CP e] at hDj;exact FE (x.clos j hjn hDj q hq)
theorem Ia.reach {kd:Kd} {i:Nat} (nd:(DK l n).Nodup) (hne:kd.fix=true) (hcl:∀q ∈ cls.getD i [],D q=true):∀{π:List (Kd×Nat)} {seen effs rds:List Nat} {wr:Bool} {σr:Nat→Value} {hr:GH},
  Ia E l n cls fl hs ds Lw F seen effs rds wr π σr hr D σ' h'→(kd,i) ∈ π→∃seen effs rds wr π' σr hr,Ia E l n cls fl hs ds Lw F seen effs rds wr ((kd,i) ::π') σr hr D σ' h':=by
 intro π
 induction π with
 | nil=>intro _ _ _ _ _ _ _ h;cases h
 | cons y π ih=>
  intro seen effs rds wr σr hr x hm;obtain ⟨kd2,k2⟩:=y;rcases List.mem_cons.1 hm with e | hm2
  ·cases e;exact ⟨_,_,_,_,_,_,_,x⟩
  ·have hv:kd2=.p∨kd2=.r→∃seen effs rds wr π' σr hr,Ia E l n cls fl hs ds Lw F seen effs rds wr ((kd,i) ::π') σr hr D σ' h':=fun hk=>by
    obtain ⟨rds',σr',x'⟩:=x.unfoldV nd hk;exact ih x' hm2
   have heff:kd2=.e∨kd2=.w∨kd2=.a∨kd2=.b→D k2=true:=fun hk=>by
    obtain ⟨s',e',r',w',ok2,_,_,_,_,z⟩:=Gx x.ok;exact hcl _ (Nq ok2 kd i hm2 (by rintro rfl;cases hne) (by rintro rfl;cases hne) k2 (z hk))
   cases kd2 with
   | p=>exact hv (.inl rfl)
   | r=>exact hv (.inr rfl)
   | e=>have:=x.rest _ _ List.mem_cons_self rfl;rw [heff (.inl rfl)] at this;cases this
   | w=>have:=x.rest _ _ List.mem_cons_self rfl;rw [heff (.inr (.inl rfl))] at this;cases this
   | a=>
    obtain ⟨σr',x'⟩:=x.unfoldA nd (heff (.inr (.inr (.inl rfl))));exact ih x' hm2
   | l=>exact ih x.unfoldL hm2
   | b=>
    obtain ⟨σr',x'⟩:=x.unfoldB nd (heff (.inr (.inr (.inr rfl))));exact ih x' hm2
theorem Ia.ends (nd:(DK l n).Nodup) (hall:∀i,i<n→D i=true):∀{π:List (Kd×Nat)} {seen effs rds:List Nat} {wr:Bool} {σr:Nat→Value} {hr:GH},
  Ia E l n cls fl hs ds Lw F seen effs rds wr π σr hr D σ' h'→F σ' h':=by
 intro π
 induction π with
 | nil=>
  intro seen effs rds wr σr hr x;have e:σ'=σr:=funext fun t=>by
   cases hc:(DK l n).contains t with
   | false=>exact x.base t hc
   | true=>
    rw [List.contains_iff_mem] at hc;simp only [DK,List.mem_filterMap] at hc;obtain ⟨o,ho,hd⟩:=hc;obtain ⟨k,hk⟩:=List.mem_iff_getElem?.1 ho;have hkn:k<n:=by
     have:=(List.getElem?_eq_some_iff.1 hk).1
     simp at this;omega
    have hok:l[k]? =some o:=by rw [List.getElem?_take] at hk;simpa [hkn] using hk
    rcases Np x.ok k hkn with h | ⟨_,h,_⟩
    ·exact x.done k h (hall k hkn) o t hok hd
    ·cases h
  rw [e];exact x.td h' x.gw
 | cons y π ih=>
  intro seen effs rds wr σr hr x;obtain ⟨kd,k⟩:=y;have hk:=(C4 x.ok kd k List.mem_cons_self).2;cases kd with
  | a=>obtain ⟨σr',x'⟩:=x.unfoldA nd (hall k hk);exact ih x'
  | b=>obtain ⟨σr',x'⟩:=x.unfoldB nd (hall k hk);exact ih x'
  | l=>exact ih x.unfoldL
  | p=>have:=x.rest _ k List.mem_cons_self rfl;rw [hall k hk] at this;cases this
  | r=>have:=x.rest _ k List.mem_cons_self rfl;rw [hall k hk] at this;cases this
  | e=>have:=x.rest _ k List.mem_cons_self rfl;rw [hall k hk] at this;cases this
  | w=>have:=x.rest _ k List.mem_cons_self rfl;rw [hall k hk] at this;cases this
end
def Rc (c:List Nat) (k:List Nat→Bool):Bool:=match c with
 | []=>k []
 | x ::xs=>Rc xs fun xs'=>k (x ::xs')
theorem Pz:∀(c:List Nat) (k:List Nat→Bool),Rc c k=k c
 | [],_=>rfl
 | x ::xs,k=>by unfold Rc;rw [Pz xs]
def Re (cls:List (List Nat)) (k:List (List Nat)→Bool):Bool:=match cls with
 | []=>k []
 | c ::cs=>Re cs fun cs'=>k (c ::cs')
theorem P0:∀(cls:List (List Nat)) (k:List (List Nat)→Bool),Re cls k=k cls
 | [],_=>rfl
 | c ::cs,k=>by unfold Re;exact P0 cs _
def P1 (l:List Oper):List Oper→Nat→List (List Nat)→(List (List Nat)→Bool)→Bool
 | [],_,acc,c=>Re acc.reverse c
 | o ::os,k,acc,c=>Rc ((List.range k).filter fun j=>Hc o j || (List.range k).any fun e=>Hc o e && (acc.getD (k-1-e) []).contains j) fun x=>P1 l os (k+1) (x ::acc) c
theorem Ib {l:List Oper} {c:List (List Nat)→Bool}:∀{os:List Oper} {k:Nat} {acc:List (List Nat)},P1 l os k acc c=true→∃cls,c cls=true
 | [],k,acc,h=>⟨acc.reverse,(P0 acc.reverse c).symm.trans h⟩
 | o ::os,k,acc,h=>by unfold P1 at h;rw [Pz] at h;exact Ib h
def S3 (P:Program) (N:Nat) (l:List Oper) (n:Nat) (cls:List (List Nat)) (fl:Bool) (π:List (Kd×Nat)):Bool:=FD N l n cls && Fr P l n cls fl π [] [] [] false && π.all fun x=>x.1 !=.b || π.contains (.l,x.2)
theorem Zw {Lw:Nat→Value→GH→Prop} {F:(Nat→Value)→GH→Prop} {id:Nat} {l:List Oper} {σ:Nat→Value} {ds:List Deferred} {h:GH} {Q:Post} (n:Nat) (cls:List (List Nat)) (fl:Bool) (π:List (Kd×Nat)) (hm:P.follows .mixedOrders=true)
  (hL:∀k v h1 h2,GH.Le h1 h2→Lw k v h1→Lw k v h2) (ok:S3 P E.N l n cls fl π=true) (x:TD E l n fl h ds Lw F π σ h) (y:∀σ' h',F σ' h'→EK E l.toArray (l.drop n) σ' ds h' Q):Tr E (.region id l.toArray true) σ ds h Q:=by
 unfold S3 at ok;rw [Bool.and_eq_true,Bool.and_eq_true] at ok;obtain ⟨⟨ok1,ok2⟩,ok3⟩:=ok;have nd:(DK l n).Nodup:=by
  have:=ok1
  unfold FD at this;simp only [Bool.and_eq_true] at this;exact of_decide_eq_true this.1.2
 refine Nf n cls (TdAt E l n cls fl h ds Lw F) hm ok1 ?_ ?_ ?_
 ·exact ⟨[],[],[],false,π,σ,h,x,ok2,Gw.refl _ _,fun _ _=>rfl,(fun _ hk=>by cases hk),(fun _ hk=>by cases hk),(fun _ _ _ _=>rfl),(fun _ hk=>by cases hk),(fun _ hk=>by cases hk),(fun _ _ hD=>by cases hD),(fun k hk _=>.inl (by have:=List.all_eq_true.1 ok3 _ hk;simpa using this)),(fun _ _ hD=>by cases hD),hL,(fun _=>GH.Le.refl _),(fun _ _ hD=>by cases hD)⟩
 ·rintro D σ' h' i o ⟨seen,effs,rds,wr,π',σr,hr,z0⟩ hin hiD ho hcl hgl;rcases Np z0.ok i hin with hs | ⟨kd,hk,hkl⟩
  ·exact z0.runV nd ho hs hiD hcl
  ·by_cases hne:kd.fix=false
   ·cases kd with
    | a=>exact z0.runA nd hk hiD ho hcl
    | b=>exact z0.runB nd hk hiD ho hcl
    | l=>exact absurd rfl hkl
    | p=>cases hne
    | r=>cases hne
    | e=>cases hne
    | w=>cases hne
   ·obtain ⟨seen,effs,rds,wr,π'',σr,hr,z⟩:=z0.reach nd (by simpa using hne) hcl hk;cases kd with
    | p=>
     obtain ⟨rds',σr',z'⟩:=z.unfoldV nd (.inl rfl);exact z'.runV nd ho List.mem_cons_self hiD hcl
    | r=>
     obtain ⟨rds',σr',z'⟩:=z.unfoldV nd (.inr rfl);exact z'.runV nd ho List.mem_cons_self hiD hcl
    | e=>exact z.runE nd (.inl rfl) ho hcl
    | w=>exact z.runE nd (.inr rfl) ho hcl
    | a=>exact absurd rfl hne
    | l=>exact absurd rfl hne
    | b=>exact absurd rfl hne
 ·rintro D σ' h' ⟨seen,effs,rds,wr,π',σr,hr,z0⟩ hall;exact y _ _ (z0.ends nd hall)
abbrev LoIs (σ:Nat→Value) (o:Option Operand) (lo d:Nat):Prop:=match o with
 | none=>lo=d
 | some o=>∃kd,AU σ o=.int kd lo
def S4 (m:Nat):Kd×Nat:=if 1000≤m then (if m%2=0 then .l else .b,(m-1000) / 2) else (match m%5 with | 0=>.p | 1=>.r | 2=>.e | 3=>.w | _=>.a,m / 5)
def dK:List Nat→List (Kd×Nat)
 | []=>[]
 | m ::l=>S4 m ::dK l
theorem BG {id:Nat} {l:List Oper} {σ:Nat→Value} {ds:List Deferred} {h:GH} {Q:Post} (n:Nat) (fl:Bool) (π:List Nat) (hm:P.follows .mixedOrders=true)
  (ok:P1 l (l.take n) 0 [] (fun cls=>S3 P E.N l n cls fl (dK π))=true) (x:TD E l n fl h ds (fun _ _ _=>True) (fun σ' h'=>EK E l.toArray (l.drop n) σ' ds h' Q) (dK π) σ h):Tr E (.region id l.toArray true) σ ds h Q:=
 let ⟨cls,h1⟩:=Ib ok
 Zw n cls fl (dK π) hm (fun _ _ _ _ _ y=>y) h1 x fun _ _ y=>y
theorem GV {id:Nat} {l:List Oper} {σ:Nat→Value} {ds:List Deferred} {h:GH} {Q:Post} (F:(Nat→Value)→GH→Prop) (n:Nat) (fl:Bool) (π:List Nat) (hm:P.follows .mixedOrders=true)
  (ok:P1 l (l.take n) 0 [] (fun cls=>S3 P E.N l n cls fl (dK π))=true) (x:TD E l n fl h ds (fun _ _ _=>True) F (dK π) σ h) (y:∀σ' h',F σ' h'→EK E l.toArray (l.drop n) σ' ds h' Q):Tr E (.region id l.toArray true) σ ds h Q:=
 let ⟨cls,h1⟩:=Ib ok
 Zw n cls fl (dK π) hm (fun _ _ _ _ _ y=>y) h1 x y
theorem tr_tdL {id:Nat} {l:List Oper} {σ:Nat→Value} {ds:List Deferred} {h:GH} {Q:Post} (n:Nat) (Lw:Nat→Value→GH→Prop) (hL:∀k v h1 h2,GH.Le h1 h2→Lw k v h1→Lw k v h2) (π:List Nat) (hm:P.follows .mixedOrders=true)
  (ok:P1 l (l.take n) 0 [] (fun cls=>S3 P E.N l n cls true (dK π))=true) (x:TD E l n true h ds Lw (fun σ' h'=>EK E l.toArray (l.drop n) σ' ds h' Q) (dK π) σ h):Tr E (.region id l.toArray true) σ ds h Q:=
 let ⟨cls,h1⟩:=Ib ok
 Zw n cls true (dK π) hm hL h1 x fun _ _ y=>y
section
variable {l:List Oper} {n:Nat} {fl:Bool} {hs:GH} {ds:List Deferred} {Lw:Nat→Value→GH→Prop} {F:(Nat→Value)→GH→Prop} {π:List Nat} {σ:Nat→Value} {h:GH} {m k g d:Nat} {dst:Option Nat} {op:Op} {ty:TypeId} {pos:String} {af:Array Edge} {v:Value} {w is:Bool} {og:Oper}
theorem vz {α β γ:Type} {a:α} {b:β} {c:γ}:a=a∧b=b∧c=c:=⟨rfl,rfl,rfl⟩
theorem tP (hk:S4 m=(.p,k)) (ho:l[k]? =some ⟨dst,op,ty,pos,af,none⟩) (x:∀hx,W9 E ⟨dst,op,ty,pos,af,none⟩ σ ds hx v) (y:TD E l n fl hs ds Lw F (dK π) (putS σ dst v) h):TD E l n fl hs ds Lw F (dK (m ::π)) σ h:=by
 unfold dK;rw [hk];exact ⟨_,true,ho,rfl,fun e=>(by cases e),fun _=>⟨v,x,y⟩⟩
theorem tR (hk:S4 m=(.r,k)) (ho:l[k]? =some ⟨dst,op,ty,pos,af,none⟩) (x:W9 E ⟨dst,op,ty,pos,af,none⟩ σ ds h v) (y:TD E l n fl hs ds Lw F (dK π) (putS σ dst v) h):TD E l n fl hs ds Lw F (dK (m ::π)) σ h:=by
 unfold dK;rw [hk];exact ⟨_,true,ho,rfl,fun e=>(by cases e),fun _=>⟨v,x,y⟩⟩
theorem tE (hk:S4 m=(.e,k)) (ho:l[k]? =some ⟨dst,op,ty,pos,af,none⟩)
  (x:Be E ⟨dst,op,ty,pos,af,none⟩ σ ds h fun σ' ds' h'=>ds'=ds∧∃v,σ'=putS σ dst v∧h.Le h'∧TD E l n false hs ds Lw F (dK π) (putS σ dst v) h'):TD E l n false hs ds Lw F (dK (m ::π)) σ h:=by
 unfold dK;rw [hk];exact ⟨_,true,ho,rfl,fun e=>(by cases e),fun _ hx hg=>by rw [hg.2 rfl];exact x⟩
theorem HY (hk:S4 m=(.e,k)) (ho:l[k]? =some ⟨dst,op,ty,pos,af,none⟩)
  (x:∀hx,h.Le hx→Be E ⟨dst,op,ty,pos,af,none⟩ σ ds hx fun σ' ds' h'=>ds'=ds∧∃v,σ'=putS σ dst v∧hx.Le h'∧TD E l n true hs ds Lw F (dK π) (putS σ dst v) h'):TD E l n true hs ds Lw F (dK (m ::π)) σ h:=by
 unfold dK;rw [hk];exact ⟨_,true,ho,rfl,fun e=>(by cases e),fun _ hx hg=>x hx hg.1⟩
theorem tW (hk:S4 m=(.w,k)) (ho:l[k]? =some ⟨dst,op,ty,pos,af,none⟩)
  (x:Be E ⟨dst,op,ty,pos,af,none⟩ σ ds h fun σ' ds' h'=>ds'=ds∧∃v,σ'=putS σ dst v∧TD E l n false hs ds Lw F (dK π) (putS σ dst v) h'):TD E l n false hs ds Lw F (dK (m ::π)) σ h:=by
 unfold dK;rw [hk];exact ⟨_,true,ho,rfl,fun e=>(by cases e),fun _ hx hg=>by rw [hg.2 rfl];exact x⟩
theorem Uk (hk:S4 m=(.w,k)) (ho:l[k]? =some ⟨dst,op,ty,pos,af,none⟩)
  (x:∀hx,h.Le hx→Be E ⟨dst,op,ty,pos,af,none⟩ σ ds hx fun σ' ds' h'=>ds'=ds∧∃v,σ'=putS σ dst v∧TD E l n true hs ds Lw F (dK π) (putS σ dst v) h'):TD E l n true hs ds Lw F (dK (m ::π)) σ h:=by
 unfold dK;rw [hk];exact ⟨_,true,ho,rfl,fun e=>(by cases e),fun _ hx hg=>x hx hg.1⟩
theorem tA {t:TypeId} {z:Array Value} (hk:S4 m=(.a,k)) (ho:l[k]? =some ⟨dst,.alloc t,ty,pos,af,none⟩) (hz:CD P t=some z)
  (x:∀r hx,h.Le hx→hs r=none→hx r=some (true,.cells z t (0,0))→TD E l n true hs ds Lw F (dK π) (putS σ dst (.pointer (some ⟨r,0,none⟩))) hx):TD E l n true hs ds Lw F (dK (m ::π)) σ h:=by
 unfold dK;rw [hk];refine ⟨_,true,ho,rfl,fun e=>(by cases e),fun _ t' r hx e l2 hr hb=>?_⟩;cases e;exact x r hx l2 hr (by rw [hb];unfold zOf;rw [hz];rfl)
theorem tL (hk:S4 m=(.l,k)) (ho:l[k]? =some ⟨dst,op,ty,pos,af,none⟩)
  (x:∀hx,h.Le hx→Be E ⟨dst,op,ty,pos,af,none⟩ σ ds hx fun σ' ds' h'=>ds'=ds∧∃v,σ'=putS σ dst v∧hx.Le h'∧Lw k v h') (y:TD E l n fl hs ds Lw F (dK π) σ h):TD E l n fl hs ds Lw F (dK (m ::π)) σ h:=by
 unfold dK;rw [hk];exact ⟨_,true,ho,rfl,fun e=>(by cases e),fun _=>⟨x,y⟩⟩
theorem tB (hk:S4 m=(.b,k)) (ho:l[k]? =some ⟨dst,op,ty,pos,af,none⟩) (x:∀v hx,h.Le hx→Lw k v hx→TD E l n fl hs ds Lw F (dK π) (putS σ dst v) hx):TD E l n fl hs ds Lw F (dK (m ::π)) σ h:=by
 unfold dK;rw [hk];exact ⟨_,true,ho,rfl,fun e=>(by cases e),fun _=>x⟩
theorem Rf (h1:l[g]? =some og) (h2:og.dst=some d) (h3:σ d=.bool w):Gd l ⟨dst,op,ty,pos,af,some (g,w)⟩ σ true:=⟨og,d,w,h1,h2,h3,by cases w <;> rfl⟩
theorem tPg (hk:S4 m=(.p,k)) (ho:l[k]? =some ⟨dst,op,ty,pos,af,some (g,w)⟩) (h1:l[g]? =some og) (h2:og.dst=some d) (h3:σ d=.bool w) (x:∀hx,W9 E ⟨dst,op,ty,pos,af,some (g,w)⟩ σ ds hx v)
  (y:TD E l n fl hs ds Lw F (dK π) (putS σ dst v) h):TD E l n fl hs ds Lw F (dK (m ::π)) σ h:=by
 unfold dK;rw [hk];exact ⟨_,true,ho,Rf h1 h2 h3,fun e=>(by cases e),fun _=>⟨v,x,y⟩⟩
theorem C2 (hk:S4 m=(.r,k)) (ho:l[k]? =some ⟨dst,op,ty,pos,af,some (g,w)⟩) (h1:l[g]? =some og) (h2:og.dst=some d) (h3:σ d=.bool w) (x:W9 E ⟨dst,op,ty,pos,af,some (g,w)⟩ σ ds h v)
  (y:TD E l n fl hs ds Lw F (dK π) (putS σ dst v) h):TD E l n fl hs ds Lw F (dK (m ::π)) σ h:=by
 unfold dK;rw [hk];exact ⟨_,true,ho,Rf h1 h2 h3,fun e=>(by cases e),fun _=>⟨v,x,y⟩⟩
theorem XA (hk:S4 m=(.e,k)) (ho:l[k]? =some ⟨dst,op,ty,pos,af,some (g,w)⟩) (h1:l[g]? =some og) (h2:og.dst=some d) (h3:σ d=.bool w)
  (x:Be E ⟨dst,op,ty,pos,af,some (g,w)⟩ σ ds h fun σ' ds' h'=>ds'=ds∧∃v,σ'=putS σ dst v∧h.Le h'∧TD E l n false hs ds Lw F (dK π) (putS σ dst v) h'):TD E l n false hs ds Lw F (dK (m ::π)) σ h:=by
 unfold dK;rw [hk];exact ⟨_,true,ho,Rf h1 h2 h3,fun e=>(by cases e),fun _ hx hg=>by rw [hg.2 rfl];exact x⟩
theorem tS {kd:Kd} (hk:S4 m=(kd,k)) (ho:l[k]? =some ⟨dst,op,ty,pos,af,some (g,w)⟩) (h1:l[g]? =some og) (h2:og.dst=some d) (h3:σ d=.bool is) (hne:(is==w)=false)
  (y:TD E l n fl hs ds Lw F (dK π) (putS σ dst undef) h):TD E l n fl hs ds Lw F (dK (m ::π)) σ h:=by
 unfold dK;rw [hk];exact ⟨_,false,ho,⟨og,d,is,h1,h2,h3,hne.symm⟩,fun _=>y,fun e=>(by cases e)⟩
theorem tN (x:F σ h):TD E l n false hs ds Lw F (dK []) σ h:=fun hx hg=>by rw [hg.2 rfl];exact x
theorem Ul (x:∀hx,h.Le hx→F σ hx):TD E l n true hs ds Lw F (dK []) σ h:=fun hx hg=>x hx hg.1
section
variable {α:Type} {enc:α→Array Value} {xs:List α} {h0:GH} {t:TypeId} {a ix:Operand} {z:Nat} {sv:Value} {kd:IntKind} {i:Int}
theorem tI (hk:S4 m=(.p,k)) (ho:l[k]? =some ⟨dst,.indexAddr t a ix,ty,pos,af,none⟩) (ht:EI P t=some z) (hs':AJ h0 sv z enc xs) (hx:AU σ a=sv) (hi:AU σ ix=.int kd i) (h0':0≤i) (h1:i<xs.length)
  (y:∀b off,Ab h0 b off z (enc (xs[i.toNat]'(by omega)))→TD E l n fl hs ds Lw F (dK π) (putS σ dst (.pointer (some ⟨b,off,none⟩))) h):TD E l n fl hs ds Lw F (dK (m ::π)) σ h:=by
 obtain ⟨p,cap,rfl,_,_,he⟩:=hs';obtain ⟨b,off,rfl,hb⟩:=he i.toNat (by omega);exact tP hk ho (fun _=>AH ht hx hi h0' h1 vz) (y b _ hb)
theorem tSl {olo ohi:Option Operand} (lo hi:Nat) (hk:S4 m=(.p,k)) (ho:l[k]? =some ⟨dst,.slice t a olo ohi none,ty,pos,af,none⟩) (ht:EI P t=some z) (hs':AJ h0 sv z enc xs) (hx:AU σ a=sv)
  (hlo:LoIs σ olo lo 0) (hhi:LoIs σ ohi hi xs.length) (h1:lo≤hi) (h2:hi≤xs.length)
  (y:∀v',AJ h0 v' z enc ((xs.take hi).drop lo)→TD E l n fl hs ds Lw F (dK π) (putS σ dst v') h):TD E l n fl hs ds Lw F (dK (m ::π)) σ h:=by
 have h3:=hs';obtain ⟨p,cap,rfl,hc,_,_⟩:=hs';exact tP hk ho (fun _=>L5 lo hi ht hc hx hlo hhi h1 h2 vz) (y _ (h3.part h1 h2))
theorem tIg (hk:S4 m=(.p,k)) (ho:l[k]? =some ⟨dst,.indexAddr t a ix,ty,pos,af,some (g,w)⟩) (h1':l[g]? =some og) (h2':og.dst=some d) (h3':σ d=.bool w) (ht:EI P t=some z) (hs':AJ h0 sv z enc xs) (hx:AU σ a=sv) (hi:AU σ ix=.int kd i) (h0':0≤i) (h1:i<xs.length)
  (y:∀b off,Ab h0 b off z (enc (xs[i.toNat]'(by omega)))→TD E l n fl hs ds Lw F (dK π) (putS σ dst (.pointer (some ⟨b,off,none⟩))) h):TD E l n fl hs ds Lw F (dK (m ::π)) σ h:=by
 obtain ⟨p,cap,rfl,_,_,he⟩:=hs';obtain ⟨b,off,rfl,hb⟩:=he i.toNat (by omega);exact tPg hk ho h1' h2' h3' (fun _=>AH ht hx hi h0' h1 vz) (y b _ hb)
end
theorem eT {h':GH} {π':List (Kd×Nat)} (l2:h.Le h') (y:TD E l n fl hs ds Lw F π' (putS σ dst v) h'):ds=ds∧∃v',putS σ dst v=putS σ dst v'∧h.Le h'∧TD E l n fl hs ds Lw F π' (putS σ dst v') h':=⟨rfl,v,rfl,l2,y⟩
theorem wT {h':GH} {π':List (Kd×Nat)} (y:TD E l n fl hs ds Lw F π' (putS σ dst v) h'):ds=ds∧∃v',putS σ dst v=putS σ dst v'∧TD E l n fl hs ds Lw F π' (putS σ dst v') h':=⟨rfl,v,rfl,y⟩
end
theorem DL {X:Prop} {p:Prop} [Decidable p] (a:p→X) (b:¬p→X):X:=if h:p then a h else b h
end
end Go.Ns
namespace Go.Ns
def eI (i:Int):Array Value:=#[.int .i64 i]
def eB (i:Int):Array Value:=#[.int .u8 i]
structure Good where
 name:ByteArray
 cost:Int
 pack:Int
 low:Int
 high:Int
structure AB where
 kind:Int
 good:Int
 day:Int
 low:Int
 high:Int
structure AF where
 good:Int
 day:Int
 low:Int
 high:Int
def BJ (x:Good):Array Value:=#[.string x.name,.int .i64 x.cost,.int .i64 x.pack,.int .i64 x.low,.int .i64 x.high]
def BD (x:AB):Array Value:=#[.int .i64 x.kind,.int .i64 x.good,.int .i64 x.day,.int .i64 x.low,.int .i64 x.high]
def A2 (x:AF):Array Value:=#[.int .i64 x.good,.int .i64 x.day,.int .i64 x.low,.int .i64 x.high]
structure AV where
 first:Nat→Int
 many:Nat→Int
 lies:Nat→Bool
def AV.zero:AV:=⟨fun _=>0,fun _=>0,fun _=>false⟩
def Am (p:AV):Array Value:=#[.int .i64 (p.first 0),.int .i64 (p.first 1),.int .i64 (p.first 2),.int .i64 (p.many 0),.int .i64 (p.many 1),.int .i64 (p.many 2),.int .i64 (p.many 3),.int .i64 (p.many 4),.int .i64 (p.many 5),
 .bool (p.lies 0),.bool (p.lies 1),.bool (p.lies 2),.bool (p.lies 3),.bool (p.lies 4),.bool (p.lies 5)]
def AV.setFirst (p:AV) (i:Nat) (n:Int):AV:={ p with first:=fun k=>if k=i then n else p.first k }
def AV.setMany (p:AV) (i:Nat) (n:Int):AV:={ p with many:=fun k=>if k=i then n else p.many k }
def AV.setLie (p:AV) (i:Nat) (b:Bool):AV:={ p with lies:=fun k=>if k=i then b else p.lies k }
theorem S5 {p:AV} {i:Nat} (h:i<3):(Am p)[i*1]? =some (.int .i64 (p.first i)):=by
 match i,h with
 | 0,_=>rfl
 | 1,_=>rfl
 | 2,_=>rfl
theorem Um {p:AV} {i:Nat} (h:i<6):(Am p)[3+i*1]? =some (.int .i64 (p.many i)):=by
 match i,h with
 | 0,_=>rfl
 | 1,_=>rfl
 | 2,_=>rfl
 | 3,_=>rfl
 | 4,_=>rfl
 | 5,_=>rfl
theorem KW {p:AV} {i:Nat} (h:i<6):(Am p)[9+i*1]? =some (.bool (p.lies i)):=by
 match i,h with
 | 0,_=>rfl
 | 1,_=>rfl
 | 2,_=>rfl
 | 3,_=>rfl
 | 4,_=>rfl
 | 5,_=>rfl
theorem S6 {p:AV} {i:Nat} (h:i<6):(if false=true then some (Value.agg ((#[.bool (p.lies 0),.bool (p.lies 1),.bool (p.lies 2),.bool (p.lies 3),.bool (p.lies 4),.bool (p.lies 5)]:Array Value).extract (i*1) (i*1+1))) else (#[.bool (p.lies 0),.bool (p.lies 1),.bool (p.lies 2),.bool (p.lies 3),.bool (p.lies 4),.bool (p.lies 5)]:Array Value)[i*1]?)=some (.bool (p.lies i)):=by
 match i,h with
 | 0,_=>rfl
 | 1,_=>rfl
 | 2,_=>rfl
 | 3,_=>rfl
 | 4,_=>rfl
 | 5,_=>rfl
theorem Nr {p:AV} {i:Nat} {n:Int} (h:i<3):B2 (Am p) (i*1) [.int .i64 n]=Am (p.setFirst i n):=by
 match i,h with
 | 0,_=>rfl
 | 1,_=>rfl
 | 2,_=>rfl
theorem M5 {p:AV} {i:Nat} {n:Int} (h:i<3):B2 (Am p) (0+i*1) [.int .i64 n]=Am (p.setFirst i n):=by rw [Nat.zero_add];exact Nr h
theorem PL {p:AV} {i:Nat} {n:Int} (h:i<6):B2 (Am p) (3+i*1) [.int .i64 n]=Am (p.setMany i n):=by
 match i,h with
 | 0,_=>rfl
 | 1,_=>rfl
 | 2,_=>rfl
 | 3,_=>rfl
 | 4,_=>rfl
 | 5,_=>rfl
theorem Ic {p:AV} {i:Nat} {b:Bool} (h:i<6):B2 (Am p) (9+i*1) [.bool b]=Am (p.setLie i b):=by
 match i,h with
 | 0,_=>rfl
 | 1,_=>rfl
 | 2,_=>rfl
 | 3,_=>rfl
 | 4,_=>rfl
 | 5,_=>rfl
theorem Rh {p:AV} {i:Nat} (h:i<3):(Am p)[0+i*1]? =some (.int .i64 (p.first i)):=by rw [Nat.zero_add];exact S5 h
def Av (p:AV):Nat→Nat
 | 0=>0
 | k+1=>Av p k+if p.lies k then 1 else 0
theorem Nt (p:AV):∀k,Av p k≤k
 | 0=>Nat.le_refl _
 | k+1=>by have:=Nt p k;unfold Av;split <;> omega
def CQ (p:AV) (i:Nat):Int:=if p.lies i then 0 else p.many i
def Good.z:Good:=⟨⟨#[]⟩,0,0,0,0⟩
def AB.z:AB:=⟨0,0,0,0,0⟩
def AF.z:AF:=⟨0,0,0,0⟩
theorem Bi {α:Type} {xs:List α} {i:Nat} (d:α) (hi:i<xs.length):xs.getD i d=xs[i]'hi:=by
 simp [List.getD_eq_getElem?_getD,List.getElem?_eq_getElem hi]
theorem Ab.getD {α:Type} {h:GH} {b off n:Nat} {enc:α→Array Value} {xs:List α} {i:Nat} {hi:i<xs.length} (d:α) (x:Ab h b off n (enc (xs[i]'hi))):Ab h b off n (enc (xs.getD i d)):=by
 rw [Bi d hi];exact x
theorem Cv {α:Type} {a:List α} {k:Nat} (d:α) (ha:k<a.length):a.take (k+1)=a.take k++[a.getD k d]:=by
 rw [List.take_succ_eq_append_getElem ha,Bi d ha]
theorem Nu {α:Type} {a b:List α} {k:Nat} (d:α) (h:a.take k=b.take k) (ha:k<a.length) (hb:k<b.length) (e:a.getD k d=b.getD k d):a.take (k+1)=b.take (k+1):=by
 rw [Cv d ha,Cv d hb,h,e]
theorem Ri {a b:List Int} {k:Nat} (h:a.take k=b.take k) (hk:k≤a.length) (hk':¬(k:Int)<a.length) (hl:(a.length:Int)=b.length):a=b:=by
 have h1:k=a.length:=by omega
 have h2:b.length=a.length:=by omega
 rw [h1,List.take_length,←h2,List.take_length] at h;exact h
theorem ne_len {α:Type} {a b:List α} (h:¬(a.length:Int)=b.length):¬a=b:=fun e=>h (by rw [e])
theorem ne_getD {α:Type} {a b:List α} {k:Nat} {d:α} (e:¬a.getD k d=b.getD k d):¬a=b:=fun h=>e (by rw [h])
theorem has_hit {a:List Int} {k:Nat} {n:Int} (hk:(k:Int)<a.length) (e:a.getD k 0=n):n ∈ a:=by
 have hk':k<a.length:=by omega
 rw [Bi 0 hk'] at e;exact e▸List.getElem_mem hk'
theorem Zx {a:List Int} {k:Nat} {n:Int} (hk:(k:Int)<a.length) (h:¬n ∈ a.take k) (e:¬a.getD k 0=n):¬n ∈ a.take (k+1):=by
 rw [Cv 0 (by omega)];simp only [List.mem_append,List.mem_singleton,not_or];exact ⟨h,fun q=>e q.symm⟩
theorem has_end {a:List Int} {k:Nat} {n:Int} (hk:¬(k:Int)<a.length) (h:¬n ∈ a.take k):¬n ∈ a:=by
 rwa [List.take_of_length_le (by omega)] at h
def E7 (c:Int):Prop:=97≤c∧c≤122
def FF (c:Int):Prop:=48≤c∧c≤57
instance (c:Int):Decidable (E7 c):=inferInstanceAs (Decidable (_∧_))
instance (c:Int):Decidable (FF c):=inferInstanceAs (Decidable (_∧_))
def E8 (d m:Int):Int:=if¬(1≤d∧d≤99)∨¬(0≤m∧m≤2) then 1 else 0
def idxOf {α:Type} (p:α→Bool):List α→Int
 | []=> -1
 | x ::l=>if p x then 0 else if idxOf p l<0 then-1 else idxOf p l+1
theorem Nv {α:Type} (p:α→Bool):∀l:List α,-1≤idxOf p l
 | []=>by simp [idxOf]
 | x ::l=>by have:=Nv p l;unfold idxOf;split <;> (try split) <;> omega
theorem H5 {α:Type} (p:α→Bool):∀l:List α,(0≤idxOf p l)↔l.any p=true
 | []=>by simp [idxOf]
 | x ::l=>by
  have:=H5 p l
  have h2:=Nv p l;unfold idxOf;cases hp:p x with
  | true=>simp [hp]
  | false=>
   simp only [Bool.false_eq_true,if_false,List.any_cons,hp,Bool.false_or];rw [←this];split <;> omega
theorem L7 {α:Type} {p:α→Bool} {l:List α} {k:Nat} {d:α} (hk:(k:Int)<l.length) (h:(l.take k).any p=false) (e:p (l.getD k d)=true):idxOf p l=k:=by
 induction l generalizing k with
 | nil=>simp at hk;omega
 | cons x l ih=>
  unfold idxOf;cases k with
  | zero=>simp at e;simp [e]
  | succ k=>
   simp only [List.take_succ_cons,List.any_cons,Bool.or_eq_false_iff] at h;rw [h.1]
   have:=ih (k:=k) (by simp at hk;omega) h.2 (by simpa using e)
   rw [this];simp only [Bool.false_eq_true,if_false];rw [if_neg (by omega)];omega
theorem KX {α:Type} {p:α→Bool} {l:List α} {k:Nat} (hk:¬(k:Int)<l.length) (h:(l.take k).any p=false):idxOf p l= -1:=by
 rw [List.take_of_length_le (by omega)] at h
 have:=H5 p l
 have h2:=Nv p l;rw [h] at this;simp at this;omega
theorem LK {α:Type} {p:α→Bool} {l:List α} {k:Nat} {d:α} (hk:(k:Int)<l.length) (h:(l.take k).any p=false) (e:p (l.getD k d)=false):(l.take (k+1)).any p=false:=by
 rw [Cv d (by omega),List.any_append,h];simp only [Bool.false_or,List.any_cons,List.any_nil,Bool.or_false,e]
theorem CR {α:Type} {l:List α} {k:Nat} {d:α} (hk:k<l.length):l.getD k d ∈ l:=by
 rw [Bi d hk];exact List.getElem_mem hk
def A8 (l:List Int) (m:Int):Int:=if¬(l.length:Int)=m then 2 else if l.any (fun x=>decide (¬(0≤x∧x≤99))) then 1 else 0
def EM (f:Nat→Int):Nat→Nat→Int
 | _,0=>0
 | i,n+1=>if f i=0 then EM f (i+1) n else f i
theorem Nw {f:Nat→Int} {c:Int}:∀{n i k:Nat},(∀j,i≤j→j<i+k→f j=0)→k<n→f (i+k)=c→c≠0→EM f i n=c
 | 0,i,k,_,hk,_,_=>by omega
 | n+1,i,0,_,_,e,hc=>by unfold EM;rw [Nat.add_zero] at e;rw [e,if_neg hc]
 | n+1,i,k+1,h,hk,e,hc=>by
  unfold EM;rw [if_pos (h i (Nat.le_refl _) (by omega))];exact Nw (k:=k) (fun j h1 h2=>h j (by omega) (by omega)) (by omega) (by rw [←e];congr 1;omega) hc
theorem Mh {f:Nat→Int}:∀{n i:Nat},(∀j,i≤j→j<i+n→f j=0)→EM f i n=0
 | 0,_,_=>rfl
 | n+1,i,h=>by
  unfold EM;rw [if_pos (h i (Nat.le_refl _) (by omega))];exact Mh fun j h1 h2=>h j (by omega) (by omega)
theorem DP {f:Nat→Int} {k:Nat} (h:∀j,j<k→f j=0) (e:f k=0):∀j,j<k+1→f j=0:=fun j hj=>by
 rcases Nat.lt_or_ge j k with q | q
 ·exact h j q
 ·rw [show j=k by omega];exact e
theorem BS {f:Nat→Int} {c:Int} {n k:Nat} (h:∀j,j<k→f j=0) (hk:k<n) (e:f k=c) (hc:c≠0):EM f 0 n=c:=
 Nw (i:=0) (k:=k) (fun j _ hj=>h j (by omega)) hk (by rw [Nat.zero_add];exact e) hc
theorem Cl {f:Nat→Int} {n k:Nat} (h:∀j,j<k→f j=0) (hk:n≤k):EM f 0 n=0:=Mh fun j _ hj=>h j (by omega)
def Hq (s:ByteArray) (k:Nat):Int:=if¬E7 ((bytesOf s).getD k 0)∧(k=0∨¬FF ((bytesOf s).getD k 0)) then 1 else 0
def Dz (s:ByteArray):Bool:=decide (EM (Hq s) 0 s.size=0) && decide (1≤(s.size:Int)∧(s.size:Int)≤10)
def E2 (l h:Int):Prop:=((0≤l∧l≤h)∧h≤99)∧h-l<3
instance (l h:Int):Decidable (E2 l h):=inferInstanceAs (Decidable (_∧_))
def FN (gs:List Good) (k:Nat):Int:=
 if Dz (gs.getD k Good.z).name=false then 4
 else if (gs.take k).any (fun x=>x.name.toList==(gs.getD k Good.z).name.toList) then 5
 else if (¬(0≤(gs.getD k Good.z).cost∧(gs.getD k Good.z).cost≤999)∨¬(1≤(gs.getD k Good.z).pack∧(gs.getD k Good.z).pack≤20))∨¬E2 (gs.getD k Good.z).low (gs.getD k Good.z).high then 1 else 0
def Bb (gs:List Good):Int:=if¬(1≤(gs.length:Int)∧(gs.length:Int)≤3) then 2 else EM (FN gs) 0 gs.length
def Ds (ms:List AB) (k:Nat):Int:=if k=0 then 0 else (ms.getD (k-1) AB.z).day
def DU (d:Int) (gs:List Good) (ms:List AB) (k:Nat):Int:=
 if¬(0≤(ms.getD k AB.z).kind∧(ms.getD k AB.z).kind≤4) then 1
 else if¬(0≤(ms.getD k AB.z).good∧(ms.getD k AB.z).good≤(gs.length:Int)-1) then 6
 else if¬(1≤(ms.getD k AB.z).day∧(ms.getD k AB.z).day≤d) then 1
 else if (ms.getD k AB.z).day<Ds ms k then 7
 else if¬E2 (ms.getD k AB.z).low (ms.getD k AB.z).high then 1 else 0
def BT (d:Int) (gs:List Good) (ms:List AB):Int:=if (6:Int)<ms.length then 2 else EM (DU d gs ms) 0 ms.length
def FG (d:Int) (gs:List Good) (cs:List AF) (k:Nat):Int:=
 if¬(0≤(cs.getD k AF.z).good∧(cs.getD k AF.z).good≤(gs.length:Int)-1) then 6
 else if¬(0≤(cs.getD k AF.z).day∧(cs.getD k AF.z).day≤d)∨¬((0≤(cs.getD k AF.z).low∧(cs.getD k AF.z).low≤(cs.getD k AF.z).high)∧(cs.getD k AF.z).high≤999) then 1 else 0
def CZ (d:Int) (gs:List Good) (cs:List AF):Int:=if (4:Int)<cs.length then 2 else EM (FG d gs cs) 0 cs.length
theorem J8 (s:ByteArray) (k:Nat):0≤(bytesOf s).getD k 0∧(bytesOf s).getD k 0≤255:=by
 by_cases h:k<(bytesOf s).length
 ·rw [Bi 0 h];have h2:k<s.data.toList.length:=by rw [Cj] at h;rw [Array.length_toList];exact h
  have e:(bytesOf s)[k]'h=((s.data.toList[k]'h2).toNat:Int):=List.getElem_map _;rw [e]
  have:=(s.data.toList[k]'h2).toNat_lt
  omega
 ·simp only [List.getD_eq_getElem?_getD];rw [List.getElem?_eq_none (by omega)];decide
theorem Nx {s:ByteArray} {k:Nat} (h:∀j,j<k→Hq s j=0) (hk:k<s.size) (e:Hq s k=1):Dz s=false:=by
 unfold Dz;rw [BS h hk e (by decide)];simp
theorem Ny {s:ByteArray} {k:Nat} (h:∀j,j<k→Hq s j=0) (hk:s.size≤k):Dz s=decide (1≤(s.size:Int)∧(s.size:Int)≤10):=by
 unfold Dz;rw [Cl h hk];simp
theorem rd_at0 {P:Program} {h:GH} {t:TypeId} {b n m o:Nat} {vs:Array Value} {v:Value} (ht:CV P t=some (false,m)) (x:Ab h b 0 n vs) (hv:vs[o]? =some v):Rd P h t b o v:=by
 have:=Bq (o:=o) ht x hv
 rwa [Nat.zero_add] at this
def D7 (d m:Int) (gs:List Good) (ms:List AB) (cs:List AF):Nat→Int
 | 0=>E8 d m
 | 1=>Bb gs
 | 2=>BT d gs ms
 | _=>CZ d gs cs
def Ag (d m:Int) (gs:List Good) (ms:List AB) (cs:List AF):Int:=EM (D7 d m gs ms cs) 0 4
def D0 (k:Nat) (n:Int):Int:=if k=0∨k=4 then n else-n
theorem LL {k:Nat} {n:Int} (h:0≤n∧n≤99): -99≤D0 k n∧D0 k n≤99:=by unfold D0;split <;> omega
def Bl (p:AV):Prop:=(∀i,0≤p.first i∧p.first i≤99)∧∀i,0≤p.many i∧p.many i≤99
theorem Gi {p:AV} (h:Bl p) (i:Nat):0≤CQ p i∧CQ p i≤99:=by
 unfold CQ;have:=h.2 i;split <;> omega
def GK (ms:List AB) (p:AV) (g:Int) (k:Nat) (n:Int):Int:=if (ms.getD k AB.z).good=g then n+D0 (ms.getD k AB.z).kind.toNat (CQ p k) else n
def Fg (ms:List AB) (k:Nat) (low n:Int):Int:=if (k:Int)+1=ms.length∨(ms.getD k AB.z).day<(ms.getD (k+1) AB.z).day then min low n else low
def Cm (ms:List AB) (p:AV) (g dy:Int):Nat→Nat→Int→Int→Int×Int
 | 0,_,n,low=>(n,low)
 | f+1,k,n,low=>if dy<(ms.getD k AB.z).day then (n,low) else Cm ms p g dy f (k+1) (GK ms p g k n) (Fg ms k low (GK ms p g k n))
def AP (ms:List AB) (p:AV) (g dy:Int):Int×Int:=Cm ms p g dy ms.length 0 (p.first g.toNat) (p.first g.toNat)
theorem EV {ms:List AB} {p:AV} {g dy:Int} {k:Nat} {n low:Int} (hk:k<ms.length) (hd:¬dy<(ms.getD k AB.z).day) :
  Cm ms p g dy (ms.length-k) k n low=Cm ms p g dy (ms.length-(k+1)) (k+1) (GK ms p g k n) (Fg ms k low (GK ms p g k n)):=by
 rw [show ms.length-k=(ms.length-(k+1))+1 by omega]
 conv=>lhs;unfold Cm
 rw [if_neg hd]
theorem PM {ms:List AB} {p:AV} {g dy:Int} {k:Nat} {n low:Int} (hk:k<ms.length) (hd:dy<(ms.getD k AB.z).day):Cm ms p g dy (ms.length-k) k n low=(n,low):=by
 rw [show ms.length-k=(ms.length-(k+1))+1 by omega]
 conv=>lhs;unfold Cm
 rw [if_pos hd]
theorem Rj {ms:List AB} {p:AV} {g dy:Int} {k:Nat} {n low:Int} (hk:¬(k:Int)<ms.length):Cm ms p g dy (ms.length-k) k n low=(n,low):=by
 rw [show ms.length-k=0 by omega];rfl
def BF (d:Int) (ng:Nat) (ms:List AB) (cs:List AF) (p:AV):Bool:=
 decide (∀j,j<ng→¬(AP ms p (j:Int) d).2<0) && !(cs.any fun x=>decide (¬(x.low≤(AP ms p x.good x.day).1∧(AP ms p x.good x.day).1≤x.high)))
theorem Un {d:Int} {ng:Nat} {ms:List AB} {cs:List AF} {p:AV} {k:Nat} (hk:k<ng) (h:(AP ms p (k:Int) d).2<0):BF d ng ms cs p=false:=by
 unfold BF;rw [decide_eq_false (fun q=>q k hk h)];rfl
theorem S7 {d:Int} {ng:Nat} {ms:List AB} {cs:List AF} {p:AV} {k:Nat} (hk:ng≤k) (h:∀j,j<k→¬(AP ms p (j:Int) d).2<0) :
  BF d ng ms cs p= !(cs.any fun x=>decide (¬(x.low≤(AP ms p x.good x.day).1∧(AP ms p x.good x.day).1≤x.high))):=by
 unfold BF;rw [decide_eq_true (fun j hj=>h j (by omega))];rfl
theorem Ji {q:Nat→Prop} {k:Nat} (h:∀j,j<k→q j) (e:q k):∀j,j<k+1→q j:=fun j hj=>by
 rcases Nat.lt_or_ge j k with r | r
 ·exact h j r
 ·rw [show j=k by omega];exact e
def AV.setFirsts (p:AV) (l:List Int):AV:={ p with first:=fun k=>if k<l.length then l.getD k 0 else p.first k }
def AV.setManys (p:AV) (l:List Int):AV:={ p with many:=fun k=>if k<l.length then l.getD k 0 else p.many k }
theorem M6 {p:AV} {l:List Int} (h:l.length≤3):B2 (Am p) 0 (DA eI l)=Am (p.setFirsts l):=by
 match l,h with
 | [],_=>rfl
 | [_],_=>rfl
 | [_,_],_=>rfl
 | [_,_,_],_=>rfl
 | _ ::_ ::_ ::_ ::_,h=>simp at h
theorem Nz {p:AV} {l:List Int} (h:l.length≤6):B2 (Am p) 3 (DA eI l)=Am (p.setManys l):=by
 match l,h with
 | [],_=>rfl
 | [_],_=>rfl
 | [_,_],_=>rfl
 | [_,_,_],_=>rfl
 | [_,_,_,_],_=>rfl
 | [_,_,_,_,_],_=>rfl
 | [_,_,_,_,_,_],_=>rfl
 | _ ::_ ::_ ::_ ::_ ::_ ::_ ::_,h=>simp at h
end Go.Ns
namespace Go.Ns
open Go.Conc
def Bo (lo:Int) (k:Nat):List Int:=(List.range k).map fun (j:Nat)=>lo+(j:Int)
def FU (lo hi:Int):List Int:=Bo lo (hi-lo+1).toNat
theorem Mi (lo:Int) (k:Nat):Bo lo (k+1)=Bo lo k++[lo+(k:Int)]:=by
 simp [Bo,List.range_succ]
theorem Uo {lo n:Int} {k:Nat}:n ∈ Bo lo k↔lo≤n∧n<lo+k:=by
 simp only [Bo,List.mem_map,List.mem_range];constructor
 ·rintro ⟨j,hj,rfl⟩;omega
 ·rintro ⟨h1,h2⟩;exact ⟨(n-lo).toNat,by omega,by omega⟩
theorem FV {lo hi n:Int}:n ∈ FU lo hi↔lo≤n∧n≤hi:=by
 unfold FU;rw [Uo];omega
theorem N0 {β:Type} {f:Int→List β} {lo hi:Int} {k:Nat} (h:¬lo+(k:Int)≤hi) (hk:(k:Int)≤hi-lo+1∨k=0):(Bo lo k).flatMap f=(FU lo hi).flatMap f:=by
 unfold FU;congr 2;omega
theorem Hf {β:Type} {f:Int→List β} {lo:Int} {k:Nat}:(Bo lo (k+1)).flatMap f=(Bo lo k).flatMap f++f (lo+k):=by
 rw [Mi,List.flatMap_append];simp
def AV.setMove (p:AV) (i:Nat) (n:Int) (b:Bool):AV:=(p.setMany i n).setLie i b
theorem M7 (p:AV) (i:Nat) (n n':Int) (b b':Bool):(p.setMove i n b).setMove i n' b'=p.setMove i n' b':=by
 unfold AV.setMove AV.setMany AV.setLie;congr 1 <;> funext k <;> simp only [] <;> split <;> rfl
theorem G9 (p:AV) (i:Nat) (n:Int) (b b':Bool):(p.setMove i n b).setLie i b'=p.setMove i n b':=by
 unfold AV.setMove AV.setMany AV.setLie;congr 1;funext k;simp only [];split <;> rfl
theorem LM (p:AV) (i:Nat) (n n':Int):(p.setFirst i n).setFirst i n'=p.setFirst i n':=by
 unfold AV.setFirst;congr 1;funext k;simp only [];split <;> rfl
theorem Bl.zero:Bl AV.zero:=⟨fun _=>⟨Int.le_refl 0,(by decide:(0:Int)≤99)⟩,fun _=>⟨Int.le_refl 0,(by decide:(0:Int)≤99)⟩⟩
theorem Bl.setFirst {p:AV} (h:Bl p) {i:Nat} {n:Int} (hn:0≤n∧n≤99):Bl (p.setFirst i n):=
 ⟨fun k=>by unfold AV.setFirst;simp only [];split;exact hn;exact h.1 k,h.2⟩
theorem Bl.setMany {p:AV} (h:Bl p) {i:Nat} {n:Int} (hn:0≤n∧n≤99):Bl (p.setMany i n):=
 ⟨h.1,fun k=>by unfold AV.setMany;simp only [];split;exact hn;exact h.2 k⟩
theorem Bl.setMove {p:AV} (h:Bl p) {i:Nat} {n:Int} {b:Bool} (hn:0≤n∧n≤99):Bl (p.setMove i n b):=h.setMany hn
def Dc (ms:List AB) (i:Int):Bool:=decide ((0≤i∧i≤(ms.length:Int)-1)∧(ms.getD i.toNat AB.z).kind=0)
def Aw (ag:AV→Bool) (ms:List AB) (most:Int):Nat→Nat→AV→List AV
 | 0,_,p=>if ag p then [p] else []
 | f+1,i,p=>(FU (ms.getD i AB.z).low (ms.getD i AB.z).high).flatMap fun n=>
   Aw ag ms most f (i+1) (p.setMove i n false)++
    if Dc ms i && decide ((Av (p.setMove i n false) 6:Int)<most) then Aw ag ms most f (i+1) (p.setMove i n true) else []
def BP (ag:AV→Bool) (gs:List Good) (ms:List AB) (most:Int):Nat→Nat→AV→List AV
 | 0,_,p=>Aw ag ms most ms.length 0 p
 | f+1,i,p=>(FU (gs.getD i Good.z).low (gs.getD i Good.z).high).flatMap fun n=>BP ag gs ms most f (i+1) (p.setFirst i n)
def AR (d:Int) (gs:List Good) (ms:List AB) (cs:List AF) (most:Int):List AV:=BP (BF d gs.length ms cs) gs ms most gs.length 0 AV.zero
def Bh (ag:AV→Bool) (ms:List AB) (most:Int) (f i:Nat) (p:AV) (n:Int):List AV:=
 Aw ag ms most f (i+1) (p.setMove i n false)++
  if Dc ms i && decide ((Av (p.setMove i n false) 6:Int)<most) then Aw ag ms most f (i+1) (p.setMove i n true) else []
theorem Cn (ag:AV→Bool) (ms:List AB) (most:Int) (f i:Nat) (p:AV) :
  Aw ag ms most (f+1) i p=(FU (ms.getD i AB.z).low (ms.getD i AB.z).high).flatMap (Bh ag ms most f i p):=rfl
theorem DV (ag:AV→Bool) (gs:List Good) (ms:List AB) (most:Int) (f i:Nat) (p:AV) :
  BP ag gs ms most (f+1) i p=(FU (gs.getD i Good.z).low (gs.getD i Good.z).high).flatMap (fun n=>BP ag gs ms most f (i+1) (p.setFirst i n)):=rfl
def Bc (X:Nat→Prop) (h h':GH):Prop:=∀b p o,h b=some (p,o)→¬X b→∃o',h' b=some (p,o')∧(o'=o∨(KN o=true∧KN o'=true))
theorem Bc.refl (X:Nat→Prop) (h:GH):Bc X h h:=fun _ _ o x _=>⟨o,x,.inl rfl⟩
theorem GH.Le.keepX {h h':GH} (l:h.Le h') (X:Nat→Prop):Bc X h h':=fun b p o x _=>l b p o x
theorem Bc.trans {X X1:Nat→Prop} {a b c:GH} (x:Bc X a b) (hX:∀r,X1 r→X r∨a r=none) (y:Bc X1 b c):Bc X a c:=fun r p o hr hn=>by
 obtain ⟨o1,h1,h2⟩:=x r p o hr hn;obtain ⟨o2,h3,h4⟩:=y r p o1 h1 fun q=>(hX r q).elim hn fun e=>by rw [e] at hr;cases hr
 refine ⟨o2,h3,?_⟩;rcases h2 with rfl | h2
 ·exact h4
 ·rcases h4 with rfl | h4
  ·exact .inr h2
  ·exact .inr ⟨h2.1,h4.2⟩
theorem Bc.box {X:Nat→Prop} {h h':GH} (x:Bc X h h') {b:Nat} {p:Bool} {o:Obj} (hb:h b=some (p,o)) (hX:¬X b) (ho:KN o=false):h' b=some (p,o):=by
 obtain ⟨o',h1,rfl | ⟨h2,_⟩⟩:=x b p o hb hX
 ·exact h1
 ·rw [ho] at h2;cases h2
theorem Bc.store {X:Nat→Prop} {h h1 h2:GH} (x:Bc X h h1) {r:Nat} (hr:h r=none) (ho:∀b,b≠r→h2 b=h1 b):Bc X h h2:=fun b p o hb hn=>by
 rw [ho b fun e=>by subst e;rw [hr] at hb;cases hb];exact x b p o hb hn
structure Id {α:Type} (hB:GH) (I:List α→(Nat→Prop)→GH→Prop):Prop where
 dom:∀pre X h b,I pre X h→X b→∃p o,h b=some (p,o)∧KN o=false
 stable:∀pre X h h',I pre X h→(∀b,X b→h' b=h b)→hB.Le h'→I pre X h'
theorem Id.le {α:Type} {hB:GH} {I:List α→(Nat→Prop)→GH→Prop} (P:Id hB I) {pre:List α} {X:Nat→Prop} {h h':GH} (x:I pre X h) (l:h.Le h') (lB:hB.Le h'):I pre X h':=
 P.stable pre X h h' x (fun b hb=>by
  obtain ⟨p,o,h1,h2⟩:=P.dom pre X h b x hb;rw [l.keep h1 h2,h1]) lB
theorem Id.store {α:Type} {hB:GH} {I:List α→(Nat→Prop)→GH→Prop} (P:Id hB I) {pre:List α} {X:Nat→Prop} {h h':GH} (x:I pre X h) {r:Nat} (hr:¬X r) (ho:∀b,b≠r→h' b=h b) (lB:hB.Le h'):I pre X h':=
 P.stable pre X h h' x (fun b hb=>ho b fun e=>hr (e▸hb)) lB
theorem Id.off {α:Type} {hB:GH} {I:List α→(Nat→Prop)→GH→Prop} (P:Id hB I) {pre:List α} {X:Nat→Prop} {h:GH} (x:I pre X h) {r:Nat} (hr:h r=none):¬X r:=fun q=>by
 obtain ⟨p,o,h1,_⟩:=P.dom pre X h r x q;rw [hr] at h1;cases h1
theorem PN {X X1:Nat→Prop} {h:GH} (hX:∀r,X1 r→X r∨h r=none) {r:Nat} {o:Bool×Obj} (hr:h r=some o) (n:¬X r):¬X1 r:=fun q=>(hX r q).elim n fun e=>by rw [e] at hr;cases hr
def Hb {α:Type} (hB:GH) (I:List α→(Nat→Prop)→GH→Prop) (S:GH→Prop) (pre:List α) (X:Nat→Prop) (h:GH) (l:List α) (v:Value) (h':GH):Prop:=
 ∃ok X',v=.bool ok∧(∀b,X' b→X b∨h b=none)∧Bc X h h'∧hB.Le h'∧(ok=true→I (pre++l) X' h')∧(ok=false→S h')
structure KY {α:Type} {P:Program} (W:Wk P) (hB:GH) (yv:Value) (enc:α→Array Value) (I:List α→(Nat→Prop)→GH→Prop) (S:GH→Prop) (all:List α):Prop where
 prom:Id hB I
 one:yv.cells=#[yv]
 call:∀pre p post X h,all=pre++p ::post→I pre X h→hB.Le h→Cg W yv #[.agg (enc p)] h (Hb hB I S pre X h [p])
structure HZ {α:Type} (hB:GH) (I:List α→(Nat→Prop)→GH→Prop) (X0:Nat→Prop) (h:GH) (pre:List α) (X:Nat→Prop) (hc:GH):Prop where
 inv:I pre X hc
 sub:∀b,X b→X0 b∨h b=none
 keep:Bc X0 h hc
 base:hB.Le hc
section
variable {α:Type} {hB:GH} {I:List α→(Nat→Prop)→GH→Prop} {S:GH→Prop} {X0 X X1:Nat→Prop} {h hc h':GH} {pre l:List α}
theorem HZ.start (x:I pre X h) (lB:hB.Le h):HZ hB I X h pre X h:=⟨x,fun _ q=>.inl q,Bc.refl _ _,lB⟩
theorem HZ.le (P:Id hB I) (y:HZ hB I X0 h pre X hc) (l:hc.Le h'):HZ hB I X0 h pre X h':=
 ⟨P.le y.inv l (y.base.trans l),y.sub,y.keep.trans (fun _ q=>.inl q) (l.keepX X0),y.base.trans l⟩
theorem HZ.store (P:Id hB I) (y:HZ hB I X0 h pre X hc) {r:Nat} (hr:h r=none) (rB:hB r=none) (hn:¬X r) (ho:∀b,b≠r→h' b=hc b):HZ hB I X0 h pre X h':=
 ⟨P.store y.inv hn ho (y.base.upd rB ho),y.sub,y.keep.store hr ho,y.base.upd rB ho⟩
theorem subX (s:∀b,X b→X0 b∨h b=none) (k:Bc X0 h hc) (s':∀b,X1 b→X b∨hc b=none):∀b,X1 b→X0 b∨h b=none:=fun b q=>by
 rcases s' b q with q | q
 ·exact s b q
 ·by_cases q0:X0 b
  ·exact .inl q0
  ·refine .inr ?_;cases hb:h b with
   | none=>rfl
   | some x=>
    obtain ⟨o',h1,_⟩:=k b x.1 x.2 hb q0;rw [h1] at q;cases q
theorem HZ.call (y:HZ hB I X0 h pre X hc) {v:Value} (r:Hb hB I S pre X hc l v h') :
  ∃ok X',v=.bool ok∧(∀b,X' b→X b∨hc b=none)∧Bc X hc h'∧(ok=true→HZ hB I X0 h (pre++l) X' h')∧(ok=false→∀l',Hb hB I S pre X0 h l' (.bool false) h'):=by
 obtain ⟨ok,X',hv,hs,hk,hl,h1,h2⟩:=r;have kk:Bc X0 h h':=y.keep.trans y.sub hk;have ss:=subX y.sub y.keep hs;exact ⟨ok,X',hv,hs,hk,fun e=>⟨h1 e,ss,kk,hl⟩,fun e l'=>⟨false,X',rfl,ss,kk,hl,(fun x=>by cases x),fun _=>h2 e⟩⟩
theorem HZ.done (y:HZ hB I X0 h (pre++l) X hc):Hb hB I S pre X0 h l (.bool true) hc:=⟨true,X,rfl,y.sub,y.keep,y.base,fun _=>y.inv,fun x=>by cases x⟩
theorem HZ.pass {α:Type} {hB:GH} {I:List α→(Nat→Prop)→GH→Prop} {S:GH→Prop} {X0 X:Nat→Prop} {h hc h':GH} {pre:List α} {l:List α} {v:Value} (y:HZ hB I X0 h pre X hc) (r:Hb hB I S pre X hc l v h'):Hb hB I S pre X0 h l v h':=by
 obtain ⟨ok,X',hv,hs,hk,hl,h1,h2⟩:=r;exact ⟨ok,X',hv,subX y.sub y.keep hs,y.keep.trans y.sub hk,hl,h1,h2⟩
theorem Hb.stopped {pre':List α} {v:Value} (hv:v=.bool false) (r:∀l',Hb hB I S pre X0 h l' (.bool false) h'):Hb hB I S pre' X0 h l v h':=by
 obtain ⟨ok,X',e,hs,hk,hl,_,h2⟩:=r [];cases e;exact ⟨false,X',hv,hs,hk,hl,(fun x=>by cases x),h2⟩
end
def Co {α:Type} (all pre l:List α):Prop:=∃post,all=pre++l++post
section
variable {α:Type} {all pre a b:List α}
theorem Co.left (w:Co all pre (a++b)):Co all pre a:=by
 obtain ⟨post,h⟩:=w;exact ⟨b++post,by rw [h];simp⟩
theorem Co.right (w:Co all pre (a++b)):Co all (pre++a) b:=by
 obtain ⟨post,h⟩:=w;exact ⟨post,by rw [h];simp⟩
theorem Co.one {p:α} (w:Co all pre [p]):∃post,all=pre++p ::post:=by
 obtain ⟨post,h⟩:=w;exact ⟨post,by rw [h];simp⟩
theorem Up (lo:Int) (i j:Nat):Bo lo (i+j)=Bo lo i++Bo (lo+i) j:=by
 unfold Bo;rw [List.range_add,List.map_append,List.map_map];congr 1;apply List.map_congr_left;intro x _;simp only [Function.comp];omega
theorem Co.round {lo hi:Int} {k:Nat} {F:Int→List α} (w:Co all pre ((FU lo hi).flatMap F)) (hk:lo+(k:Int)≤hi):Co all (pre++(Bo lo k).flatMap F) (F (lo+k)):=by
 have e:FU lo hi=Bo lo k++([lo+(k:Int)]++Bo (lo+((k+1:Nat):Int)) ((hi-lo+1).toNat-(k+1))):=by
  unfold FU;rw [←List.append_assoc,←Mi,←Up];congr 1;omega
 rw [e,List.flatMap_append,List.flatMap_append] at w;have w2:=w.right.left;simpa using w2
theorem Co.roundEnd {lo hi:Int} {k:Nat} {F:Int→List α} (h:¬lo+(k:Int)≤hi) (hk:(k:Int)≤hi-lo+1∨k=0):(FU lo hi).flatMap F=(Bo lo k).flatMap F:=(N0 h hk).symm
end
section
variable {ag:AV→Bool} {gs:List Good} {ms:List AB} {mo:Int} {f i k:Nat} {p pc:AV} {all pre:List AV} {lo hi x:Int}
theorem S8 {b1 b2:Bool} (hpc:∀n b,pc.setMove i n b=p.setMove i n b):∀n b,(((pc.setMany i x).setLie i b1).setLie i b2).setMove i n b=p.setMove i n b:=fun n b=>by
 rw [←hpc,show ((pc.setMany i x).setLie i b1)=pc.setMove i x b1 from rfl,G9,M7]
theorem Zy (hpc:∀n,pc.setFirst i n=p.setFirst i n):∀n,(pc.setFirst i x).setFirst i n=p.setFirst i n:=fun n=>by rw [←hpc,LM]
def S9 (ms:List AB) (mo:Int) (i:Nat) (q:AV):Prop:=((0≤(i:Int)∧(i:Int)≤(ms.length:Int)-1)∧(ms.getD ((i:Int)).toNat AB.z).kind=0)∧((Av q 6:Int)<mo)
instance (ms:List AB) (mo:Int) (i:Nat) (q:AV):Decidable (S9 ms mo i q):=inferInstanceAs (Decidable (_∧_))
theorem Rk {q:AV}:(Dc ms i && decide ((Av q 6:Int)<mo))=decide (S9 ms mo i q):=by
 unfold Dc S9;rw [←Bool.decide_and];exact decide_eq_decide.2 Iff.rfl
theorem N1 {q:AV} {b:Bool}:(q.setLie i b).lies i=b:=by simp [AV.setLie]
theorem TA (hpc:∀n b,pc.setMove i n b=p.setMove i n b) (hC:(((pc.setMany i x).setLie i false).setLie i (decide (S9 ms mo i ((pc.setMany i x).setLie i false)))).lies i=true) (hx:x=lo+(k:Int)) :
  pre++(Bo lo (k+1)).flatMap (Bh ag ms mo f i p)=((pre++(Bo lo k).flatMap (Bh ag ms mo f i p))++Aw ag ms mo f (i+1) ((pc.setMany i x).setLie i false))++
   Aw ag ms mo f (i+1) (((pc.setMany i x).setLie i false).setLie i (decide (S9 ms mo i ((pc.setMany i x).setLie i false)))):=by
 rw [N1] at hC;rw [hC,show ((pc.setMany i x).setLie i false)=pc.setMove i x false from rfl,G9,hpc,hpc,Hf,←hx];rw [show ((pc.setMany i x).setLie i false)=pc.setMove i x false from rfl,hpc] at hC;unfold Bh;rw [Rk,hC];simp
theorem TB (hpc:∀n b,pc.setMove i n b=p.setMove i n b) (hC:(((pc.setMany i x).setLie i false).setLie i (decide (S9 ms mo i ((pc.setMany i x).setLie i false)))).lies i=false) (hx:x=lo+(k:Int)) :
  pre++(Bo lo (k+1)).flatMap (Bh ag ms mo f i p)=(pre++(Bo lo k).flatMap (Bh ag ms mo f i p))++Aw ag ms mo f (i+1) ((pc.setMany i x).setLie i false):=by
 rw [N1] at hC;rw [show ((pc.setMany i x).setLie i false)=pc.setMove i x false from rfl,hpc,Hf,←hx];rw [show ((pc.setMany i x).setLie i false)=pc.setMove i x false from rfl,hpc] at hC;unfold Bh;rw [Rk,hC];simp
theorem Uq (hpc:∀n,pc.setFirst i n=p.setFirst i n) (hx:x=lo+(k:Int)) :
  pre++(Bo lo (k+1)).flatMap (fun n=>BP ag gs ms mo f (i+1) (p.setFirst i n))=(pre++(Bo lo k).flatMap (fun n=>BP ag gs ms mo f (i+1) (p.setFirst i n)))++BP ag gs ms mo f (i+1) (pc.setFirst i x):=by
 rw [hpc,Hf,←hx];simp
theorem PO (hpc:∀n b,pc.setMove i n b=p.setMove i n b) (hw:Co all pre (Aw ag ms mo (f+1) i p)) (hx:x=(ms.getD i AB.z).low+(k:Int)) (hk:x≤(ms.getD i AB.z).high) :
  Co all (pre++(Bo (ms.getD i AB.z).low k).flatMap (Bh ag ms mo f i p)) (Aw ag ms mo f (i+1) ((pc.setMany i x).setLie i false)):=by
 rw [Cn] at hw;have w:=hw.round (k:=k) (by omega);rw [←hx] at w;unfold Bh at w;rw [←hpc] at w;exact w.left
theorem PP (hpc:∀n b,pc.setMove i n b=p.setMove i n b) (hw:Co all pre (Aw ag ms mo (f+1) i p)) (hC:(((pc.setMany i x).setLie i false).setLie i (decide (S9 ms mo i ((pc.setMany i x).setLie i false)))).lies i=true) (hx:x=(ms.getD i AB.z).low+(k:Int)) (hk:x≤(ms.getD i AB.z).high) :
  Co all ((pre++(Bo (ms.getD i AB.z).low k).flatMap (Bh ag ms mo f i p))++Aw ag ms mo f (i+1) ((pc.setMany i x).setLie i false)) (Aw ag ms mo f (i+1) (((pc.setMany i x).setLie i false).setLie i (decide (S9 ms mo i ((pc.setMany i x).setLie i false))))):=by
 rw [N1] at hC;rw [hC,show ((pc.setMany i x).setLie i false)=pc.setMove i x false from rfl,G9,hpc,hpc];rw [show ((pc.setMany i x).setLie i false)=pc.setMove i x false from rfl,hpc] at hC;rw [Cn] at hw;have w:=hw.round (k:=k) (by omega);rw [←hx] at w;have w2:Co all (pre++(Bo (ms.getD i AB.z).low k).flatMap (Bh ag ms mo f i p)) (Aw ag ms mo f (i+1) (p.setMove i x false)++Aw ag ms mo f (i+1) (p.setMove i x true)):=by
  have e:Bh ag ms mo f i p x=Aw ag ms mo f (i+1) (p.setMove i x false)++Aw ag ms mo f (i+1) (p.setMove i x true):=by
   unfold Bh;rw [Rk,hC,if_pos rfl]
  rw [←e];exact w
 exact w2.right
theorem Rl (hpc:∀n,pc.setFirst i n=p.setFirst i n) (hw:Co all pre (BP ag gs ms mo (f+1) i p)) (hx:x=(gs.getD i Good.z).low+(k:Int)) (hk:x≤(gs.getD i Good.z).high) :
  Co all (pre++(Bo (gs.getD i Good.z).low k).flatMap (fun n=>BP ag gs ms mo f (i+1) (p.setFirst i n))) (BP ag gs ms mo f (i+1) (pc.setFirst i x)):=by
 rw [DV] at hw;have w:=hw.round (k:=k) (by omega);rw [←hx] at w;rw [hpc];exact w
end
def Hg (l:List Int) (k:Nat):Int:=if k=0 then-1 else l.getD (k-1) 0
def LN (ms:List AB) (l:List Int) (k:Nat):Int:=if¬Dc ms (l.getD k 0)=true then 6 else if l.getD k 0≤Hg l k then 7 else 0
def E5 (p:AV) (l:List Int) (k:Nat):AV:=(l.take k).foldl (fun p i=>p.setLie i.toNat true) p
theorem TC {p:AV} {l:List Int} {k:Nat} (hk:k<l.length):E5 p l (k+1)=(E5 p l k).setLie (l.getD k 0).toNat true:=by
 unfold E5;rw [Cv 0 hk,List.foldl_append];rfl
def BA (d m:Int) (gs:List Good) (ms:List AB) (cs:List AF) (f y l:List Int):Int:=
 if¬Ag d m gs ms cs=0 then Ag d m gs ms cs
 else if¬A8 f gs.length=0 then A8 f gs.length
 else if¬A8 y ms.length=0 then A8 y ms.length
 else EM (LN ms l) 0 l.length
def KZ (f y l:List Int):AV:=E5 ((AV.zero.setFirsts f).setManys y) l l.length
theorem FW {f:Nat→Int}:∀{n i:Nat},EM f i n=0→∀j,i≤j→j<i+n→f j=0
 | 0,i,_,j,h1,h2=>by omega
 | n+1,i,h,j,h1,h2=>by
  unfold EM at h;split at h
  ·rename_i e
   rcases Nat.eq_or_lt_of_le h1 with rfl | h3
   ·exact e
   ·exact FW h j h3 (by omega)
  ·rename_i e;exact absurd h e
structure Az (d m:Int) (gs:List Good) (ms:List AB) (cs:List AF):Prop where
 days:1≤d∧d≤99
 most:0≤m∧m≤2
 glen:1≤gs.length∧gs.length≤3
 good:∀k,k<gs.length→FN gs k=0
 mlen:ms.length≤6
 move:∀k,k<ms.length→DU d gs ms k=0
 clen:cs.length≤4
 count:∀k,k<cs.length→FG d gs cs k=0
theorem Ie {d m:Int} {gs:List Good} {ms:List AB} {cs:List AF} (h:Ag d m gs ms cs=0):Az d m gs ms cs:=by
 have z:=fun j hj=>FW (f:=D7 d m gs ms cs) h j (Nat.zero_le _) (by omega:j<0+4);have z0:E8 d m=0:=z 0 (by decide);have z1:Bb gs=0:=z 1 (by decide);have z2:BT d gs ms=0:=z 2 (by decide);have z3:CZ d gs cs=0:=z 3 (by decide);unfold E8 at z0;unfold Bb at z1;unfold BT at z2;unfold CZ at z3;split at z0 <;> first | (cases z0;done) | skip
 split at z1 <;> first | (cases z1;done) | skip
 split at z2 <;> first | (cases z2;done) | skip
 split at z3 <;> first | (cases z3;done) | skip
 exact ⟨by omega,by omega,by omega,fun k hk=>FW z1 k (Nat.zero_le _) (by omega),by omega,fun k hk=>FW z2 k (Nat.zero_le _) (by omega),by omega,fun k hk=>FW z3 k (Nat.zero_le _) (by omega)⟩
section
variable {d m:Int} {gs:List Good} {ms:List AB} {cs:List AF}
theorem Az.move' (b:Az d m gs ms cs) {k:Nat} (hk:k<ms.length):(0≤(ms.getD k AB.z).kind∧(ms.getD k AB.z).kind≤4)∧(0≤(ms.getD k AB.z).good∧(ms.getD k AB.z).good≤(gs.length:Int)-1)∧
  (1≤(ms.getD k AB.z).day∧(ms.getD k AB.z).day≤d)∧Ds ms k≤(ms.getD k AB.z).day∧E2 (ms.getD k AB.z).low (ms.getD k AB.z).high:=by
 have z:=b.move k hk;unfold DU at z;split at z <;> first | (cases z;done) | skip
 split at z <;> first | (cases z;done) | skip
 split at z <;> first | (cases z;done) | skip
 split at z <;> first | (cases z;done) | skip
 split at z <;> first | (cases z;done) | skip
 rename_i a1 a2 a3 a4 a5
 exact ⟨Decidable.not_not.1 a1,Decidable.not_not.1 a2,Decidable.not_not.1 a3,by omega,Decidable.not_not.1 a5⟩
theorem CB {α:Type} {l:List α} {k:Nat} {z:α} (h:l.length≤k):l.getD k z=z:=by
 simp [List.getD_eq_getElem?_getD,List.getElem?_eq_none h]
theorem Az.kind (b:Az d m gs ms cs):∀k,0≤(ms.getD k AB.z).kind∧(ms.getD k AB.z).kind≤4:=fun k=>by
 by_cases h:k<ms.length
 ·exact (b.move' h).1
 ·rw [CB (by omega)];decide
theorem Az.few (b:Az d m gs ms cs):∀k,0≤(ms.getD k AB.z).low∧(ms.getD k AB.z).low≤(ms.getD k AB.z).high∧(ms.getD k AB.z).high≤99∧(ms.getD k AB.z).high-(ms.getD k AB.z).low<3:=fun k=>by
 by_cases h:k<ms.length
 ·have:=(b.move' h).2.2.2.2;unfold E2 at this;omega
 ·rw [CB (by omega)];decide
theorem Az.good' (b:Az d m gs ms cs) {k:Nat} (hk:k<gs.length):(0≤(gs.getD k Good.z).cost∧(gs.getD k Good.z).cost≤999)∧(1≤(gs.getD k Good.z).pack∧(gs.getD k Good.z).pack≤20)∧E2 (gs.getD k Good.z).low (gs.getD k Good.z).high:=by
 have z:=b.good k hk;unfold FN at z;split at z <;> first | (cases z;done) | skip
 split at z <;> first | (cases z;done) | skip
 split at z <;> first | (cases z;done) | skip
 rename_i a1 a2 a3
 exact ⟨by omega,by omega,Decidable.byContradiction fun q=>a3 (.inr q)⟩
theorem Az.gfew (b:Az d m gs ms cs):∀k,0≤(gs.getD k Good.z).low∧(gs.getD k Good.z).low≤(gs.getD k Good.z).high∧(gs.getD k Good.z).high≤99∧(gs.getD k Good.z).high-(gs.getD k Good.z).low<3:=fun k=>by
 by_cases h:k<gs.length
 ·have:=(b.good' h).2.2;unfold E2 at this;omega
 ·rw [CB (by omega)];decide
theorem Az.cgood (b:Az d m gs ms cs):∀x ∈ cs,0≤x.good∧x.good<3:=fun x hx=>by
 obtain ⟨k,hk,rfl⟩:=List.getElem_of_mem hx;have z:=b.count k hk;unfold FG at z;rw [Bi AF.z hk] at z
 have:=b.glen
 split at z <;> first | (cases z;done) | skip
 omega
theorem FX {l:List Int} {n:Int} (h:A8 l n=0):(l.length:Int)=n∧∀k,0≤l.getD k 0∧l.getD k 0≤99:=by
 unfold A8 at h;split at h <;> first | (cases h;done) | skip
 split at h <;> first | (cases h;done) | skip
 rename_i a1 a2
 refine ⟨Decidable.not_not.1 a1,fun k=>?_⟩;by_cases hk:k<l.length
 ·refine Decidable.byContradiction fun q=>a2 ?_;rw [List.any_eq_true];exact ⟨l.getD k 0,CR hk,decide_eq_true q⟩
 ·rw [CB (by omega)];decide
variable {f y l:List Int}
def BO (d m:Int) (gs:List Good) (ms:List AB) (cs:List AF) (f y l:List Int):AV:=if BA d m gs ms cs f y l=0 then KZ f y l else AV.zero
theorem Rm (h:¬Ag d m gs ms cs=0):BA d m gs ms cs f y l=Ag d m gs ms cs:=by unfold BA;rw [if_pos h]
theorem Rn (h:¬¬Ag d m gs ms cs=0) (h2:¬A8 f gs.length=0):BA d m gs ms cs f y l=A8 f gs.length:=by unfold BA;rw [if_neg h,if_pos h2]
theorem Ro (h:¬¬Ag d m gs ms cs=0) (h2:¬¬A8 f gs.length=0) (h3:¬A8 y ms.length=0):BA d m gs ms cs f y l=A8 y ms.length:=by unfold BA;rw [if_neg h,if_neg h2,if_pos h3]
theorem If (h:¬¬Ag d m gs ms cs=0) (h2:¬¬A8 f gs.length=0) (h3:¬¬A8 y ms.length=0) {c:Int} (h4:EM (LN ms l) 0 l.length=c):BA d m gs ms cs f y l=c:=by unfold BA;rw [if_neg h,if_neg h2,if_neg h3,h4]
theorem HA {c:Int} (e:BA d m gs ms cs f y l=c) (hc:¬c=0):(.tuple #[.agg (Am AV.zero),.int .i64 c]:Value)=.tuple #[.agg (Am (BO d m gs ms cs f y l)),.int .i64 (BA d m gs ms cs f y l)]:=by
 unfold BO;rw [e,if_neg hc]
theorem TE (e:BA d m gs ms cs f y l=0) {k:Nat} (hk:¬(k:Int)<l.length) (hk':k≤l.length):(.tuple #[.agg (Am (E5 ((AV.zero.setFirsts f).setManys y) l k)),.int .i64 0]:Value)=.tuple #[.agg (Am (BO d m gs ms cs f y l)),.int .i64 (BA d m gs ms cs f y l)]:=by
 unfold BO KZ;rw [e,if_pos rfl,show k=l.length by omega]
theorem lieAt_6 {k:Nat} (h:¬((0≤l.getD k 0∧l.getD k 0≤(ms.length:Int)-1)∧(ms.getD (l.getD k 0).toNat AB.z).kind=0)):LN ms l k=6:=by
 unfold LN Dc;rw [if_pos (by simpa using h)]
theorem lieAt_7 {k:Nat} (h:¬¬((0≤l.getD k 0∧l.getD k 0≤(ms.length:Int)-1)∧(ms.getD (l.getD k 0).toNat AB.z).kind=0)) (h2:l.getD k 0≤Hg l k):LN ms l k=7:=by
 unfold LN Dc;rw [if_neg (by simpa using h),if_pos h2]
theorem lieAt_0 {k:Nat} (h:¬¬((0≤l.getD k 0∧l.getD k 0≤(ms.length:Int)-1)∧(ms.getD (l.getD k 0).toNat AB.z).kind=0)) (h2:¬l.getD k 0≤Hg l k):LN ms l k=0:=by
 unfold LN Dc;rw [if_neg (by simpa using h),if_neg h2]
end
theorem Ig (p:AV):(Value.agg (Am p)).cells.size=15:=rfl
theorem Ih (p:AV):Value.fine (.agg (Am p))=true:=rfl
theorem Jj (p:AV):0+15≤(Am p).size:=Nat.le_refl 15
theorem Jk (p q:AV):B2 (Am p) 0 (Value.agg (Am q)).cells.toList=Am q:=by
 show B2 (Am p) 0 (Am q).toList=Am q;apply Array.toList_inj.1;rw [ER _ _ _ (Nat.le_refl 15)];show []++(Am q).toList++[]=_;simp
theorem Eh {β:Type} (f:Nat→β) (k:Nat):(List.range (k+1)).map f=(List.range k).map f++[f k]:=by
 rw [List.range_succ,List.map_append];rfl
section
variable {d m:Int} {gs:List Good} {ms:List AB} {cs:List AF} {f y l:List Int}
theorem Bl.lies {p:AV} (h:Bl p) (l:List Int) (k:Nat):Bl (E5 p l k):=by
 unfold E5;generalize l.take k=t
 induction t generalizing p with
 | nil=>exact h
 | cons x t ih=>exact ih (p:=p.setLie x.toNat true) h
theorem Xe (h:BA d m gs ms cs f y l=0):Az d m gs ms cs∧Bl (BO d m gs ms cs f y l):=by
 have h0:=h;unfold BA at h;split at h <;> first | (rename_i q;exact absurd h q) | skip
 split at h <;> first | (rename_i q;exact absurd h q) | skip
 split at h <;> first | (rename_i q;exact absurd h q) | skip
 rename_i a1 a2 a3
 refine ⟨Ie (Decidable.not_not.1 a1),?_⟩;unfold BO;rw [if_pos h0];unfold KZ;refine Bl.lies ?_ _ _;have b2:=(FX (Decidable.not_not.1 a2)).2;have b3:=(FX (Decidable.not_not.1 a3)).2;refine ⟨fun i=>?_,fun i=>?_⟩
 ·show 0≤(if i<f.length then f.getD i 0 else 0)∧(if i<f.length then f.getD i 0 else 0)≤99;split
  ·exact b2 i
  ·decide
 ·show 0≤(if i<y.length then y.getD i 0 else 0)∧(if i<y.length then y.getD i 0 else 0)≤99;split
  ·exact b3 i
  ·decide
def HB (d m:Int) (gs:List Good) (ms:List AB) (cs:List AF) (f y l:List Int):List Int:=if BA d m gs ms cs f y l=0 then (List.range gs.length).map (fun (i:Nat)=>(AP ms (BO d m gs ms cs f y l) (i:Int) d).1) else []
def Ii (d m:Int) (gs:List Good) (ms:List AB) (cs:List AF) (f y l:List Int):List Int:=if BA d m gs ms cs f y l=0 then (List.range gs.length).map (fun (i:Nat)=>(AP ms (BO d m gs ms cs f y l) (i:Int) d).2) else []
theorem Rp (h:¬BA d m gs ms cs f y l=0):HB d m gs ms cs f y l=[]:=if_neg h
theorem TF (h:¬BA d m gs ms cs f y l=0):Ii d m gs ms cs f y l=[]:=if_neg h
theorem PQ (h:¬¬BA d m gs ms cs f y l=0) {k:Nat} (hk:k≤gs.length) (hk':¬(k:Int)<gs.length):HB d m gs ms cs f y l=(List.range k).map (fun (i:Nat)=>(AP ms (BO d m gs ms cs f y l) (i:Int) d).1):=by
 unfold HB;rw [if_pos (Decidable.not_not.1 h),show gs.length=k by omega]
theorem Rq (h:¬¬BA d m gs ms cs f y l=0) {k:Nat} (hk:k≤gs.length) (hk':¬(k:Int)<gs.length):Ii d m gs ms cs f y l=(List.range k).map (fun (i:Nat)=>(AP ms (BO d m gs ms cs f y l) (i:Int) d).2):=by
 unfold Ii;rw [if_pos (Decidable.not_not.1 h),show gs.length=k by omega]
end
theorem N2 {α β:Type} {f:α→List β} {c:Nat}:∀{l:List α},(∀x ∈ l,(f x).length≤c)→(l.flatMap f).length≤l.length*c
 | [],_=>by simp
 | x ::l,h=>by
  rw [List.flatMap_cons,List.length_append,List.length_cons,Nat.succ_mul];have h1:=h x (by simp);have h2:=N2 (l:=l) fun y hy=>h y (by simp [hy]);omega
theorem P2 {lo hi:Int} (h:hi-lo<3):(FU lo hi).length≤3:=by
 unfold FU Bo;rw [List.length_map,List.length_range];omega
theorem Hr {ag:AV→Bool} {ms:List AB} {mo:Int} (hf:∀k,(ms.getD k AB.z).high-(ms.getD k AB.z).low<3):∀f i p,(Aw ag ms mo f i p).length≤6 ^ f
 | 0,_,p=>by unfold Aw;split <;> simp
 | f+1,i,p=>by
  rw [Cn];have h1:=N2 (f:=Bh ag ms mo f i p) (c:=2*6 ^ f) (l:=FU (ms.getD i AB.z).low (ms.getD i AB.z).high) fun n _=>by
   unfold Bh;rw [List.length_append];have a:=Hr (ag:=ag) (mo:=mo) hf f (i+1) (p.setMove i n false);have b:=Hr (ag:=ag) (mo:=mo) hf f (i+1) (p.setMove i n true);split
   ·omega
   ·simp only [List.length_nil];omega
  have h2:=Nat.mul_le_mul_right (2*6 ^ f) (P2 (hf i));rw [Nat.pow_succ];omega
theorem J9 {ag:AV→Bool} {gs:List Good} {ms:List AB} {mo:Int} (hg:∀k,(gs.getD k Good.z).high-(gs.getD k Good.z).low<3) (hf:∀k,(ms.getD k AB.z).high-(ms.getD k AB.z).low<3) :
  ∀f i p,(BP ag gs ms mo f i p).length≤3 ^ f*6 ^ ms.length
 | 0,_,p=>by unfold BP;have:=Hr (ag:=ag) (mo:=mo) hf ms.length 0 p;omega
 | f+1,i,p=>by
  rw [DV];have h1:=N2 (f:=fun n=>BP ag gs ms mo f (i+1) (p.setFirst i n)) (c:=3 ^ f*6 ^ ms.length) (l:=FU (gs.getD i Good.z).low (gs.getD i Good.z).high) fun n _=>J9 hg hf f (i+1) _;have h2:=Nat.mul_le_mul_right (3 ^ f*6 ^ ms.length) (P2 (hg i));rw [Nat.pow_succ,Nat.mul_comm (3 ^ f) 3,Nat.mul_assoc];omega
theorem EW {d m:Int} {gs:List Good} {ms:List AB} {cs:List AF} (b:Az d m gs ms cs) (mo:Int):(AR d gs ms cs mo).length≤2000000:=by
 unfold AR;have h:=J9 (ag:=BF d gs.length ms cs) (mo:=mo) (fun k=>(b.gfew k).2.2.2) (fun k=>(b.few k).2.2.2) gs.length 0 AV.zero;have h1:3 ^ gs.length≤3 ^ 3:=Nat.pow_le_pow_right (by decide) b.glen.2;have h2:6 ^ ms.length≤6 ^ 6:=Nat.pow_le_pow_right (by decide) b.mlen;have h3:=Nat.mul_le_mul h1 h2
 have:3 ^ 3*6 ^ 6≤2000000:=by decide
 omega
theorem pre_len {α:Type} {all pre post:List α} {p:α} (h:all=pre++p ::post) {n:Nat} (hn:all.length≤n):pre.length+1≤n:=by
 rw [h,List.length_append,List.length_cons] at hn;omega
theorem AJ.one {α:Type} {h:GH} {v:Value} {n:Nat} {enc:α→Array Value} {xs:List α} (x:AJ h v n enc xs):v.cells=#[v]∧v.oneCell'=true:=by
 obtain ⟨a,cap,rfl,_⟩:=x;exact ⟨rfl,rfl⟩
theorem Ij {v:Value} (h:v.cells=#[v]∧v.oneCell'=true):Value.fine v=true:=by unfold Value.fine;rw [h.1];simp [h.2]
theorem Ik {v:Value} (h:v.cells=#[v]∧v.oneCell'=true):v.cells.size=1:=by rw [h.1];rfl
theorem Ka {v:Value} (h:v.cells=#[v]∧v.oneCell'=true) {c c':Array Value} {o:Nat} (e:B2 c o [v]=c'):B2 c o v.cells.toList=c':=by rw [h.1];exact e
end Go.Ns
namespace Go.Ns
open Go.Conc
section
variable {P:Program} {E:GY P} {σ:Nat→Value} {ds:List Deferred} {α:Type}
def Zz (hB:GH) (J:List α→(Nat→Prop)→GH→Prop) (Stop:Code→GH→Prop) (pre:List α) (Y:Nat→Prop) (h:GH) (l:Nat) (lo:Loop):Post:=fun e _ _ h3=>
 h3 l=some (true,.loop { lo with state:=.busy })∧∃Y',(∀b,Y' b→Y b∨h b=none)∧Bc (fun b=>Y b∨b=l) h h3∧hB.Le h3∧match e with
  | .normal=>J pre Y' h3
  | .exit id=>Stop (.exit id) h3
  | .ret=>Stop .ret h3
  | _=>False
def XB (J:List α→(Nat→Prop)→GH→Prop) (l d:Nat) (lo:Loop) (pre:List α) (X:Nat→Prop) (h:GH):Prop:=
 ∃Y,J pre Y h∧(∀b,X b↔Y b∨b=l∨b=d)∧¬Y l∧¬Y d∧h l=some (true,.loop lo)∧h d=some (true,.deferred (some []))
def Z0 (Stop:Code→GH→Prop) (l d:Nat) (lo:Loop) (h:GH):Prop:=
 ∃c,Stop c h∧h l=some (true,.loop { lo with state:=.done,pending:=some c })∧h d=some (true,.deferred (some []))
def YEnd (hB:GH) (I:List α→(Nat→Prop)→GH→Prop) (Sp:GH→Prop) (all:List α) (X:Nat→Prop) (h h':GH):Prop:=
 ∃X',(∀b,X' b→X b∨h b=none)∧Bc X h h'∧hB.Le h'∧(I all X' h'∨Sp h')
theorem Hb.final {hB:GH} {I:List α→(Nat→Prop)→GH→Prop} {Sp:GH→Prop} {all:List α} {X:Nat→Prop} {h h':GH} {v:Value} (r:Hb hB I Sp [] X h all v h'):YEnd hB I Sp all X h h':=by
 obtain ⟨ok,X',hv,hs,hk,hl,h1,h2⟩:=r;cases ok with
 | true=>exact ⟨X',hs,hk,hl,.inl (h1 rfl)⟩
 | false=>exact ⟨X',hs,hk,hl,.inr (h2 rfl)⟩
theorem N3 {enc:α→Array Value} {all:List α} {hB hc:GH} {J:List α→(Nat→Prop)→GH→Prop} {Stop:Code→GH→Prop} {Y0:Nat→Prop} {par:Tmp} {f:Operand} {assign body:Code} {Q:Post}
  (hrd:E.rd=none) (hpar:Nat.blt par E.N=true) (hJ:Id hB J) (hB0:hB.Le hc) (j0:J [] Y0 hc)
  (hS:∀c (h h':GH) l lo,Stop c h→h l=some (true,.loop lo)→(∀b,b≠l→h' b=h b)→Stop c h')
  (src:∀(yv:Value) (I:List α→(Nat→Prop)→GH→Prop) (Sp:GH→Prop) (X:Nat→Prop) (h:GH),KY E.wk hB yv enc I Sp all→hB.Le h→I [] X h→Cg E.wk (AU σ f) #[yv] h fun _ h'=>YEnd hB I Sp all X h h')
  (round:∀(l d:Nat) (lo:Loop) (pre:List α) (p:α) (post:List α) (Y:Nat→Prop) (h:GH),all=pre++p ::post→J pre Y h→hB.Le h→hB l=none→¬Y l→h l=some (true,.loop lo)→
   Tr ⟨E.wk,E.fn,some l,E.N⟩ assign (upd σ par (.agg (enc p))) [] h fun e σ' ds' h1=>e=.normal∧h1 l=some (true,.loop lo)∧∀h2,h2 l=some (true,.loop { lo with state:=.busy })→(∀b,b≠l→h2 b=h1 b)→
    Tr ⟨E.wk,E.fn,some l,E.N⟩ body σ' ds' h2 (Zz hB J Stop (pre++[p]) Y h l lo))
  (fin:∀(d l:Nat) (h':GH),hB.Le h'→hB d=none→hB l=none→hc d=none→h' d=some (true,.deferred (some []))→
   (∀Y,J all Y h'→(∀b,Y b→b≠d)→Q .normal σ ({ target:=.collected d,args:=#[] } ::ds) h')∧
   (∀c,Stop c h'→match c with
    | .exit id=>Q (.exit id) σ ({ target:=.collected d,args:=#[] } ::ds) h'
    | .ret=>Q .ret σ ({ target:=.collected d,args:=#[] } ::ds) h'
    | _=>False)):Tr E (.rangeFunc f #[par] assign body) σ ds hc Q:=by
 refine RX hrd fun t d l hs hd hl hne=>?_;have hl':hB l=none:=hB0.nothing hl;have hd':hB d=none:=hB0.nothing hd;let lo:Loop:={ state:=.ready,pending:=none,fn:=E.fn,tmps:=t,params:=#[par],assign,body,defers:=d };have nYl:¬Y0 l:=hJ.off j0 hl;have nYd:¬Y0 d:=hJ.off j0 hd;have hL1:((hc.set d true (.deferred (some []))).set l true (.loop lo)) l=some (true,.loop lo):=GH.set_same _ _ _ _;have hL2:((hc.set d true (.deferred (some []))).set l true (.loop lo)) d=some (true,.deferred (some [])):=by rw [GH.set_ne _ _ _ (Ne.symm hne)];exact GH.set_same _ _ _ _
 have hL3:∀b,b≠l→b≠d→((hc.set d true (.deferred (some []))).set l true (.loop lo)) b=hc b:=fun b h1 h2=>by rw [GH.set_ne _ _ _ h1,GH.set_ne _ _ _ h2]
 have hLB:hB.Le ((hc.set d true (.deferred (some []))).set l true (.loop lo)):=(hB0.trans (GH.Le.new hd _ _)).trans (GH.Le.new (by rw [GH.set_ne _ _ _ hne];exact hl) _ _);have hI0:XB J l d lo [] (fun b=>Y0 b∨b=l∨b=d) ((hc.set d true (.deferred (some []))).set l true (.loop lo)):=by
  refine ⟨Y0,hJ.stable _ _ hc _ j0 (fun b hb=>hL3 b (fun e=>nYl (e▸hb)) (fun e=>nYd (e▸hb))) hLB,fun b=>Iff.rfl,nYl,nYd,hL1,hL2⟩
 have prom:Id hB (XB J l d lo):=by
  refine ⟨?_,?_⟩
  ·rintro pre X h b ⟨Y,j,hX,_,_,h1,h2⟩ hb;rcases (hX b).1 hb with h3 | rfl | rfl
   ·exact hJ.dom _ _ _ _ j h3
   ·exact ⟨_,_,h1,rfl⟩
   ·exact ⟨_,_,h2,rfl⟩
  ·rintro pre X h h' ⟨Y,j,hX,n1,n2,h1,h2⟩ same lB;refine ⟨Y,hJ.stable _ _ h h' j (fun b hb=>same b ((hX b).2 (.inl hb))) lB,hX,n1,n2,?_,?_⟩
   ·rw [same l ((hX l).2 (.inr (.inl rfl)))];exact h1
   ·rw [same d ((hX d).2 (.inr (.inr rfl)))];exact h2
 have yk:KY E.wk hB (.func (.yield l) #[] #[]) enc (XB J l d lo) (Z0 Stop l d lo) all:=by
  refine ⟨prom,rfl,?_⟩;rintro pre p post X h hall ⟨Y,j,hX,n1,n2,h1,h2⟩ lB;refine Ui h1 rfl ?_;have ef:(lo.params.zip #[Value.agg (enc p)]).foldl (fun tmps x=>tmps.setIfInBounds x.1 x.2) lo.tmps=t.setIfInBounds par (.agg (enc p)):=by simp [lo]
  rw [ef];show CC E.wk l E.fn (t.setIfInBounds par (.agg (enc p))) assign body h _;have hs':=hs.put hpar (.agg (enc p));refine Sy (N:=E.N) hs'.1 ?_;have e0:(fun i=>(t.setIfInBounds par (.agg (enc p))).getD i undef)=upd σ par (.agg (enc p)):=funext hs'.2;rw [e0];refine NC ?_ (round l d lo pre p post Y h hall j lB hl' n1 h1);rintro e σ' ds' ha ⟨rfl,ha1,hb⟩;refine ⟨rfl,lo,ha1,rfl,?_⟩;refine NC ?_ (hb _ (GH.set_same _ _ _ _) fun b hb=>GH.set_ne _ _ _ hb);rintro e σ2 ds2 h3 ⟨g1,Y',g2,g3,g4,g5⟩;have hd3:h3 d=some (true,.deferred (some [])):=g3.box h2 (fun q=>q.elim n2 (fun e=>hne e.symm)) rfl;have nl:¬Y' l:=fun q=>(g2 l q).elim n1 fun e=>by rw [h1] at e;cases e
  have nd:¬Y' d:=fun q=>(g2 d q).elim n2 fun e=>by rw [h2] at e;cases e
  have key:∀(lo2:Loop) (ok:Bool),(if ok then J (pre++[p]) Y' (h3.set l true (.loop lo2))∧lo2=lo else Z0 Stop l d lo (h3.set l true (.loop lo2)))→Hb hB (XB J l d lo) (Z0 Stop l d lo) pre X h [p] (.bool ok) (h3.set l true (.loop lo2)):=by
   intro lo2 ok hok;refine ⟨ok,fun b=>Y' b∨b=l∨b=d,rfl,?_,?_,?_,?_,?_⟩
   ·rintro b (hb | rfl | rfl)
    ·exact (g2 b hb).imp (fun q=>(hX b).2 (.inl q)) id
    ·exact .inl ((hX _).2 (.inr (.inl rfl)))
    ·exact .inl ((hX _).2 (.inr (.inr rfl)))
   ·intro b q o hb hn;have nb:b≠l:=fun e=>hn ((hX b).2 (.inr (.inl e)));rw [GH.set_ne _ _ _ nb];exact g3 b q o hb fun q=>q.elim (fun z=>hn ((hX b).2 (.inl z))) nb
   ·exact g4.upd hl' fun b hb=>GH.set_ne _ _ _ hb
   ·rintro rfl;simp only [if_true] at hok;obtain ⟨hj,rfl⟩:=hok;exact ⟨Y',hj,fun b=>Iff.rfl,nl,nd,GH.set_same _ _ _ _,by rw [GH.set_ne _ _ _ (Ne.symm hne)];exact hd3⟩
   ·rintro rfl;simpa using hok
  have js:∀(lo2:Loop),J (pre++[p]) Y' h3→J (pre++[p]) Y' (h3.set l true (.loop lo2)):=fun lo2 hj=>hJ.store hj nl (fun b hb=>GH.set_ne _ _ _ hb) (g4.upd hl' fun b hb=>GH.set_ne _ _ _ hb);have ss:∀c (lo2:Loop),Stop c h3→Stop c (h3.set l true (.loop lo2)):=fun c lo2 hc=>hS c h3 _ l _ hc g1 fun b hb=>GH.set_ne _ _ _ hb;refine ⟨_,g1,?_⟩;cases e with
  | normal=>exact key _ true (by simp only [if_true];exact ⟨js _ g5,rfl⟩)
  | exit id=>exact key _ false (by simp only [Bool.false_eq_true,if_false];exact ⟨_,ss _ _ g5,GH.set_same _ _ _ _,by rw [GH.set_ne _ _ _ (Ne.symm hne)];exact hd3⟩)
  | ret=>exact key _ false (by simp only [Bool.false_eq_true,if_false];exact ⟨_,ss _ _ g5,GH.set_same _ _ _ _,by rw [GH.set_ne _ _ _ (Ne.symm hne)];exact hd3⟩)
  | goto _=>exact g5.elim
  | panic _=>exact g5.elim
  | outgrown=>exact g5.elim
 refine (src _ _ _ _ _ yk hLB hI0).mono ?_;rintro v h' ⟨X',hs',hk,hl2,hor⟩;rcases hor with ⟨Y,j,hX,n1,n2,h1,h2⟩ | ⟨c,hst,h1,h2⟩
 ·refine ⟨lo,h1,rfl,?_⟩;show Q .normal σ _ _;have hB':=hl2.upd hl' (fun b hb=>GH.set_ne h' true (.loop { lo with state:=.exhausted }) hb);refine (fin d l _ hB' hd' hl' hd (by rw [GH.set_ne _ _ _ (Ne.symm hne)];exact h2)).1 Y (hJ.store j n1 (fun b hb=>GH.set_ne _ _ _ hb) hB') fun b hb e=>n2 (e▸hb)
 ·refine ⟨_,h1,rfl,?_⟩;have hB':=hl2.upd hl' (fun b hb=>GH.set_ne h' true (.loop { { lo with state:=.done,pending:=some c } with state:=.exhausted }) hb)
  have:=(fin d l _ hB' hd' hl' hd (by rw [GH.set_ne _ _ _ (Ne.symm hne)];exact h2)).2 c (hS c h' _ l _ hst h1 fun b hb=>GH.set_ne _ _ _ hb)
  cases c with
  | exit id=>exact this
  | ret=>exact this
  | _=>exact this.elim
structure PI (hB:GH) (X:Nat→Prop) (h hc:GH):Prop where
 keep:Bc X h hc
 base:hB.Le hc
 dom:∀b,X b→∃o,hc b=some o
section
variable {hB h hc h':GH} {X:Nat→Prop}
theorem GH.Le.someOf {h h':GH} (l:h.Le h') {b:Nat} (x:∃o,h b=some o):∃o,h' b=some o:=by
 obtain ⟨o,hb⟩:=x;obtain ⟨o',h1,_⟩:=l b o.1 o.2 hb;exact ⟨_,h1⟩
theorem PI.start (lB:hB.Le h) (d:∀b,X b→∃o,h b=some o):PI hB X h h:=⟨Bc.refl _ _,lB,d⟩
theorem PI.le (r:PI hB X h hc) (l:hc.Le h'):PI hB X h h':=⟨r.keep.trans (fun _ q=>.inl q) (l.keepX X),r.base.trans l,fun b hb=>l.someOf (r.dom b hb)⟩
theorem PI.nothing (r:PI hB X h hc) {q:Nat} (hq:hc q=none):h q=none:=by
 cases hx:h q with
 | none=>rfl
 | some x=>
  by_cases hX:X q
  ·obtain ⟨o,ho⟩:=r.dom q hX;rw [hq] at ho;cases ho
  ·obtain ⟨o',h1,_⟩:=r.keep q x.1 x.2 hx hX;rw [hq] at h1;cases h1
theorem PI.store (r:PI hB X h hc) {q:Nat} (hq:X q∨h q=none) (rB:hB q=none) (ho:∀b,b≠q→h' b=hc b) (hn:∃o,h' q=some o):PI hB X h h':=
 ⟨fun b p o hb hX=>by
   have nb:b≠q:=fun e=>by
    subst e;rcases hq with hq | hq
    ·exact hX hq
    ·rw [hq] at hb;cases hb
   rw [ho b nb];exact r.keep b p o hb hX,
  r.base.upd rB ho,fun b hb=>by
   by_cases e:b=q
   ·subst e;exact hn
   ·rw [ho b e];exact r.dom b hb⟩
theorem Bc.app {v v':Value} (k:Bc X h hc) (g:Fs hc h' v v') (hv:∀b,Bw v=some b→X b):Bc X h h':=fun b p o hb hX=>by
 obtain ⟨o',h1,h2⟩:=k b p o hb hX;exact ⟨o',g.1 b _ h1 fun e=>hX (hv b e),h2⟩
theorem Bc.store' {q:Nat} (k:Bc X h hc) (hq:X q∨h q=none) (ho:∀b,b≠q→h' b=hc b):Bc X h h':=fun b p o hb hX=>by
 have nb:b≠q:=fun e=>by
  subst e;rcases hq with hq | hq
  ·exact hX hq
  ·rw [hq] at hb;cases hb
 rw [ho b nb];exact k b p o hb hX
end
def GH.del (h:GH) (r:Nat):GH:=fun b=>if b=r then none else h b
theorem GH.del_le (h:GH) (r:Nat):(h.del r).Le h:=fun b p o hb=>by
 unfold GH.del at hb;split at hb
 ·cases hb
 ·exact ⟨o,hb,.inl rfl⟩
theorem GH.del_none (h:GH) (r:Nat):h.del r r=none:=if_pos rfl
theorem GH.del_ne {h:GH} {r b:Nat} (e:b≠r):h.del r b=h b:=if_neg e
theorem GH.Le.del {h0 h:GH} (l:h0.Le h) {r:Nat} (hr:h0 r=none):h0.Le (h.del r):=fun b p o hb=>by
 rw [GH.del_ne (GH.ne_of hb hr)];exact l b p o hb
theorem Ab.del {h:GH} {r b off n:Nat} {vs:Array Value} (x:Ab h b off n vs) (e:b≠r):Ab (h.del r) b off n vs:=x.same (GH.del_ne e)
theorem Rr {W:Wk P} {x v:Value} {args:Array Value} {h:GH} {R:Value→GH→Prop} (e:x=v) (k:Cg W v args h R):Cg W x args h R:=e▸k
def JCol {α:Type} (hB:GH) (r:Nat) (T t:TypeId) (n:Nat) (enc:α→Array Value) (pre:List α) (Y:Nat→Prop) (h:GH):Prop:=
 ∃w,h r=some (true,.cells #[w] T (0,0))∧AT hB h w t n enc pre∧CA w r∧hB r=none∧∀b,Y b↔b=r∨Bw w=some b
theorem AT.cellsAt {α:Type} {h0 h:GH} {v:Value} {t:TypeId} {n:Nat} {enc:α→Array Value} {xs:List α} (x:AT h0 h v t n enc xs):∀b,Bw v=some b→∃c,h b=some (true,.cells c t (0,0)):=by
 intro b hb;rcases x with ⟨rfl,_⟩ | ⟨b',cap,c,rfl,h1,h2,_⟩
 ·cases hb
 ·simp [Bw] at hb;subst hb;exact ⟨_,h2⟩
theorem P3 {α:Type} (hB:GH) (r:Nat) (T t:TypeId) (n:Nat) (enc:α→Array Value):Id hB (JCol hB r T t n enc):=by
 refine ⟨?_,?_⟩
 ·rintro pre Y h b ⟨w,h1,h2,h3,h0,h4⟩ hb;rcases (h4 b).1 hb with rfl | h5
  ·exact ⟨_,_,h1,rfl⟩
  ·obtain ⟨c,hc⟩:=h2.cellsAt b h5;exact ⟨_,_,hc,rfl⟩
 ·rintro pre Y h h' ⟨w,h1,h2,h3,h0,h4⟩ same lB;refine ⟨w,by rw [same r ((h4 r).2 (.inl rfl))];exact h1,h2.keep fun b o hb ho=>by rw [same b ((h4 b).2 (.inr hb))];exact ho,h3,h0,h4⟩
theorem Ur {α:Type} {hB h:GH} {r:Nat} {T t:TypeId} {n:Nat} {enc:α→Array Value} (x:h r=some (true,.cells #[.slice none 0 0] T (0,0))) (h0:hB r=none):JCol hB r T t n enc [] (fun b=>b=r) h:=
 ⟨_,x,AT.nil _ _ _ _ _,CA.nil,h0,fun _=>⟨.inl,fun q=>q.elim id fun e=>by cases e⟩⟩
theorem Z1 {α:Type} {hB h h' ha hb:GH} {r:Nat} {T t:TypeId} {n:Nat} {enc:α→Array Value} {pre:List α} {w w':Value} {Y:Nat→Prop} (hY:∀b,Y b↔b=r∨Bw w=some b) (g:Fs ha hb w w') (hn:∀q,ha q=none→h q=none)
  (x:h' r=some (true,.cells #[w'] T (0,0))) (o:AT hB h' w' t n enc pre) (f:CA w' r) (h0:hB r=none) :
  ∃Y',(∀b,Y' b→Y b∨h b=none)∧JCol hB r T t n enc pre Y' h':=by
 refine ⟨fun b=>b=r∨Bw w'=some b,?_,w',x,o,f,h0,fun _=>Iff.rfl⟩;rintro b (rfl | hb)
 ·exact .inl ((hY _).2 (.inl rfl))
 ·rcases g.2 with e | ⟨⟨q,e1,e2⟩,_⟩
  ·exact .inl ((hY _).2 (.inr (by rw [←e];exact hb)))
  ·rw [e1] at hb;cases hb;exact .inr (hn _ e2)
theorem L9 {fn:Func} {σ:Nat→Value} {R:Value→GH→Prop} {d:Nat} {ds:List Deferred} {h:GH} (hd:h d=some (true,.deferred (some []))) (x:∀h',(∀b,b≠d→h' b=h b)→Gc P fn σ R ds h') :
  Gc P fn σ R ({ target:=.collected d,args:=#[] } ::ds) h:=⟨d,rfl,_,hd,rfl,x _ fun b hb=>GH.set_ne _ _ _ hb⟩
end
end Go.Ns
namespace Go.Ns
open Go.Conc
section
variable {P:Program} {E:GY P}
abbrev H6:=(Nat→Value)→Value→GH→Prop
def Fy (Φ:List H6) (k:Nat):H6:=Φ.getD k fun _ _ _=>True
def N4 (ops:List Oper) (Φ:List H6) (σ:Nat→Value) (h:GH) (j:Nat):Prop:=match ops[j]? with
 | some o=>Ci ops o σ→Fy Φ j σ (H0 o σ) h
 | none=>True
def Gj (ops:List Oper) (Φ:List H6) (σ:Nat→Value) (h:GH):List Nat→Prop
 | []=>True
 | j ::l=>N4 ops Φ σ h j∧Gj ops Φ σ h l
theorem Gj.get {ops:List Oper} {Φ:List H6} {σ:Nat→Value} {h:GH}:∀{l:List Nat},(∀j ∈ l,N4 ops Φ σ h j)→Gj ops Φ σ h l
 | [],_=>trivial
 | j ::l,x=>⟨x j (by simp),Gj.get fun i hi=>x i (by simp [hi])⟩
def Rs (l:List Oper) (n:Nat) (cls:List (List Nat)) (Φ:List H6):Prop:=
 ∀k i oi d,k<n→i<n→i≠k→i ∉ cls.getD k []→l[i]? =some oi→oi.dst=some d→∀σ u v h,Fy Φ k σ v h→Fy Φ k (upd σ d u) v h
def St (R:GH→GH→Prop) (Pre:Nat→GH→Prop) (Φ:List H6) (cl:List Nat) (k:Nat) (h h':GH):Prop:=R h h'∧(∀j,j≠k→∀σ v,Fy Φ j σ v h→Fy Φ j σ v h')∧∀j,j≠k→j ∉ cl→Pre j h→Pre j h'
def XC (R:GH→GH→Prop) (Pre:Nat→GH→Prop) (E:GY P) (ops:List Oper) (n:Nat) (Φ:List H6) (σ:Nat→Value) (ds:List Deferred) (h:GH) (k:Nat) (o:Oper) (cl:List Nat):Prop:=
 ∀σ' h',R h h'→(∀t,(DK ops n).contains t=false→σ' t=σ t)→Gj ops Φ σ' h' cl→Ci ops o σ'→Pre k h'→
  Be E o σ' ds h' fun σ'' ds'' h''=>ds''=ds∧St R Pre Φ cl k h' h''∧∃v,σ''=putS σ' o.dst v∧Fy Φ k σ'' v h''∧(o.dst=none→v=undef)
def JH (R:GH→GH→Prop) (Pre:Nat→GH→Prop) (E:GY P) (ops:List Oper) (n:Nat) (Φ:List H6) (σ:Nat→Value) (ds:List Deferred) (h:GH) (Q:Post):Nat→Nat→List Oper→List (List Nat)→Prop
 | 0,k,rest,_=>∀σ' h',R h h'→(∀t,(DK ops n).contains t=false→σ' t=σ t)→Gj ops Φ σ' h' (List.range k)→EK E ops.toArray rest σ' ds h' Q
 | m+1,k,o ::rest,cl ::cls=>XC R Pre E ops n Φ σ ds h k o cl∧JH R Pre E ops n Φ σ ds h Q m (k+1) rest cls
 | _,_,_,_=>False
theorem JH.at {R:GH→GH→Prop} {Pre:Nat→GH→Prop} {ops:List Oper} {n:Nat} {Φ:List H6} {σ:Nat→Value} {ds:List Deferred} {h:GH} {Q:Post}:∀(m k:Nat) (rest:List Oper) (cls:List (List Nat)),
  JH R Pre E ops n Φ σ ds h Q m k rest cls→(∀i o,i<m→rest[i]? =some o→XC R Pre E ops n Φ σ ds h (k+i) o (cls.getD i []))∧
   (∀σ' h',R h h'→(∀t,(DK ops n).contains t=false→σ' t=σ t)→Gj ops Φ σ' h' (List.range (k+m))→EK E ops.toArray (rest.drop m) σ' ds h' Q)
 | 0,k,rest,cls,x=>⟨fun i o hi=>by omega,x⟩
 | m+1,k,[],cls,x=>by cases cls <;> exact x.elim
 | m+1,k,o ::rest,[],x=>x.elim
 | m+1,k,o ::rest,cl ::cls,x=>by
  obtain ⟨h1,h2⟩:=x;obtain ⟨a,b⟩:=JH.at m (k+1) rest cls h2;refine ⟨fun i o' hi ho=>?_,fun σ' h' hl hb hk=>?_⟩
  ·cases i with
   | zero=>simp at ho;subst ho;exact h1
   | succ i=>have:=a i o' (by omega) (by simpa using ho);rw [show k+(i+1)=k+1+i by omega];simpa using this
  ·rw [List.drop_succ_cons];exact b σ' h' hl hb (by rw [show k+1+m=k+(m+1) by omega];exact hk)
structure TG (R:GH→GH→Prop) (Pre:Nat→GH→Prop) (l:List Oper) (n:Nat) (cls:List (List Nat)) (Φ:List H6) (σ:Nat→Value) (h:GH) (D:Nat→Bool) (σ':Nat→Value) (h':GH):Prop where
 le:R h h'
 base:∀t,(DK l n).contains t=false→σ' t=σ t
 lt:∀j,D j=true→j<n
 done:∀j,D j=true→N4 l Φ σ' h' j
 clos:∀j,D j=true→∀i ∈ cls.getD j [],D i=true
 grd:∀j o,D j=true→l[j]? =some o→∀g w,o.guard=some (g,w)→D g=true
 pend:∀j,j<n→D j=false→Pre j h'
theorem Z2 (R:GH→GH→Prop) {id:Nat} {l:List Oper} {σ:Nat→Value} {ds:List Deferred} {h:GH} {Q:Post} (n:Nat) (cls:List (List Nat)) (Φ:List H6) (Pre:Nat→GH→Prop)
  (hm:P.follows .mixedOrders=true) (ok:FD E.N l n cls=true) (rr:∀h,R h h) (rt:∀a b c,R a b→R b c→R a c) (p0:∀k,k<n→Pre k h) (ind:Rs l n cls Φ)
  (x:JH R Pre E l n Φ σ ds h Q n 0 l cls):Tr E (.region id l.toArray true) σ ds h Q:=by
 obtain ⟨steps,fin⟩:=JH.at n 0 l cls x;simp only [Nat.zero_add] at steps fin;have ok':=ok;unfold FD at ok';simp only [Bool.and_eq_true] at ok';have nd:(DK l n).Nodup:=of_decide_eq_true ok'.1.2;refine Nf n cls (TG R Pre l n cls Φ σ h) hm ok ⟨rr h,fun _ _=>rfl,fun _ q=>(by cases q),fun _ q=>(by cases q),fun _ q=>(by cases q),fun _ _ q=>(by cases q),fun j hj _=>p0 j hj⟩ (fun D σ' h' i o I hin hiu ho hcl hgl=>?_) fun D σ' h' I hall=>fin σ' h' I.le I.base (Gj.get fun j hj=>I.done j (hall j (List.mem_range.1 hj)));have hset:∀j,Ha D i j=if i=j then true else D j:=fun _=>rfl
 have next:∀(σ2:Nat→Value) (h2:GH) (v:Value),σ2=putS σ' o.dst v→St R Pre Φ (cls.getD i []) i h' h2→(Ci l o σ2→Fy Φ i σ2 v h2)→(o.dst=none→v=undef)→TG R Pre l n cls Φ σ h (Ha D i) σ2 h2:=by
  rintro σ2 h2 v rfl hle hlaw hun;have hkeep:∀j oj e,j<n→j≠i→l[j]? =some oj→oj.dst=some e→putS σ' o.dst v e=σ' e:=fun j oj e hj hji hoj he=>by
   cases hd:o.dst with
   | none=>rfl
   | some d=>exact upd_ne σ' v (KT (Df nd hin hj (fun x=>hji x.symm) ho hoj hd he))
  refine ⟨rt _ _ _ I.le hle.1,fun u hu=>?_,fun j hjl=>?_,fun j hjl=>?_,fun j hjl q hq'=>?_,fun j oj hjl hoj g w hg=>?_,fun j hj hjl=>?_⟩
  ·rw [←I.base u hu];cases hd:o.dst with
   | none=>rfl
   | some d=>exact upd_ne σ' v (KT fun e=>by rw [e,Nd hin ho hd] at hu;cases hu)
  ·rw [hset] at hjl;by_cases hij:i=j
   ·exact hij▸hin
   ·rw [if_neg hij] at hjl;exact I.lt j hjl
  ·rw [hset] at hjl;by_cases hij:i=j
   ·subst hij;unfold N4;rw [ho];intro hg
    have:H0 o (putS σ' o.dst v)=v:=by
     cases hd:o.dst with
     | none=>rw [hun hd];simp [H0,hd]
     | some d=>simp [H0,hd,putS,upd]
    rw [this];exact hlaw hg
   ·rw [if_neg hij] at hjl;have K:=I.done j hjl;unfold N4 at K ⊢;cases hoj:l[j]? with
    | none=>trivial
    | some oj=>
     rw [hoj] at K;simp only at K ⊢;intro hg;have hg':Ci l oj σ':=hg.congr fun g w og dg hgw hog hdg=>by
      have hgl':=I.grd j oj hjl hoj g w hgw;exact hkeep g og dg (I.lt g hgl') (fun e=>by rw [e,hiu] at hgl';cases hgl') hog hdg
     have hji:i ∉ cls.getD j []:=fun q=>by rw [I.clos j hjl i q] at hiu;cases hiu
     have:=hle.2.1 j (fun e=>hij e.symm) _ _ (K hg')
     have hsv:H0 oj (putS σ' o.dst v)=H0 oj σ':=by
      unfold H0;cases hdj:oj.dst with
      | none=>rfl
      | some e=>exact hkeep j oj e (I.lt j hjl) (fun x=>hij x.symm) hoj hdj
     rw [hsv];cases hd:o.dst with
     | none=>exact this
     | some d=>exact ind j i o d (I.lt j hjl) hin hij hji ho hd σ' v _ h2 this
  ·rw [hset] at hjl ⊢;split
   ·rfl
   ·rename_i hn
    by_cases hij:i=j
    ·subst hij;exact hcl q hq'
    ·rw [if_neg hij] at hjl;exact I.clos j hjl q hq'
  ·rw [hset] at hjl ⊢;split
   ·rfl
   ·by_cases hij:i=j
    ·subst hij;rw [ho] at hoj;cases hoj;exact hgl g w hg
    ·rw [if_neg hij] at hjl;exact I.grd j oj hjl hoj g w hg
  ·rw [hset] at hjl;by_cases hij:i=j
   ·rw [if_pos hij] at hjl;cases hjl
   ·rw [if_neg hij] at hjl;exact hle.2.2 j (fun e=>hij e.symm) (fun q=>by rw [hcl j q] at hjl;cases hjl) (I.pend j hj hjl)
 refine ⟨fun hG=>?_,fun hnG=>?_⟩
 ·exact Be.mono (steps i o hin ho σ' h' I.le I.base (Gj.get fun j hj=>I.done j (hcl j hj)) hG (I.pend i hin hiu)) fun σ2 ds2 h2 y=>⟨y.1,by
   obtain ⟨_,hle,v,hσ,hlaw,hun⟩:=y;exact next σ2 h2 v hσ hle (fun _=>hlaw) hun⟩
 ·refine next _ _ undef rfl ⟨rr _,fun _ _ _ _ z=>z,fun _ _ _ z=>z⟩ (fun hg=>?_) fun _=>rfl;refine absurd (hg.congr fun g w og dg hgw hog hdg=>?_) hnG;cases hd:o.dst with
  | none=>rfl
  | some d=>
   have hgi:g≠i:=fun e=>by have:=hgl g w hgw;rw [e,hiu] at this;cases this
   exact upd_ne σ' undef (KT (Df nd hin (I.lt g (hgl g w hgw)) (fun x=>hgi x.symm) ho hog hd hdg))
def D9 (S:Nat→Prop) (h h':GH):Prop:=Bc S h h'∧∀b,(∃o,h b=some o)→∃o,h' b=some o
theorem D9.refl (S:Nat→Prop) (h:GH):D9 S h h:=⟨Bc.refl _ _,fun _ x=>x⟩
theorem D9.trans {S:Nat→Prop} {a b c:GH} (x:D9 S a b) (y:D9 S b c):D9 S a c:=⟨x.1.trans (fun _ q=>.inl q) y.1,fun r q=>y.2 r (x.2 r q)⟩
theorem GH.Le.keepD {h h':GH} (l:h.Le h') (S:Nat→Prop):D9 S h h':=⟨l.keepX S,fun _ ⟨o,ho⟩=>let ⟨o',h1,_⟩:=l _ o.1 o.2 ho;⟨_,h1⟩⟩
theorem D9.nothing {S:Nat→Prop} {h h':GH} (k:D9 S h h') {r:Nat} (hr:h' r=none):h r=none:=by
 cases hx:h r with
 | none=>rfl
 | some x=>obtain ⟨o,ho⟩:=k.2 r ⟨x,hx⟩;rw [ho] at hr;cases hr
theorem D9.grown {α:Type} {S:Nat→Prop} {h0 h h':GH} {v v':Value} {t:TypeId} {n:Nat} {enc:α→Array Value} {xs:List α} (g:Fs h h' v v') (hv:∀b,Bw v=some b→S b) (o:AT h0 h' v' t n enc xs):D9 S h h':=
 ⟨fun b p o hb hX=>⟨o,g.1 b _ hb fun e=>hX (hv b e),.inl rfl⟩,fun b ⟨x,hx⟩=>by
  rcases g.2 with q | ⟨_,q⟩
  ·by_cases e:Bw v=some b
   ·exact o.inDom b (q.trans e)
   ·exact ⟨_,g.1 b x hx e⟩
  ·exact ⟨_,q b x hx⟩⟩
theorem AT.baseD {α:Type} {S:Nat→Prop} {h0 h00 h:GH} {v:Value} {t:TypeId} {n:Nat} {enc:α→Array Value} {xs:List α} (x:AT h0 h v t n enc xs) (k:D9 S h00 h0):AT h00 h v t n enc xs:=by
 rcases x with x | ⟨b,cap,c,h1,h2,h3,h4⟩
 ·exact .inl x
 ·exact .inr ⟨b,cap,c,h1,k.nothing h2,h3,h4⟩
def D4 (R:GH→GH→Prop):List H6→Prop
 | []=>True
 | φ ::l=>(∀σ v h h',R h h'→φ σ v h→φ σ v h')∧D4 R l
theorem D4.mono {R:GH→GH→Prop}:∀{Φ:List H6},D4 R Φ→∀k σ v h h',R h h'→Fy Φ k σ v h→Fy Φ k σ v h'
 | [],_,k,σ,v,h,h',_,x=>by cases k <;> exact x
 | φ ::l,ok,0,σ,v,h,h',r,x=>ok.1 σ v h h' r x
 | φ ::l,ok,k+1,σ,v,h,h',r,x=>D4.mono ok.2 k σ v h h' r x
theorem Xf {S:Nat→Prop} {id:Nat} {l:List Oper} {σ:Nat→Value} {ds:List Deferred} {h:GH} {Q:Post} (n:Nat) (cls:List (List Nat)) (Φ:List H6) (Pre:Nat→GH→Prop)
  (hm:P.follows .mixedOrders=true) (ok:FD E.N l n cls=true) (p0:∀k,k<n→Pre k h) (ind:Rs l n cls Φ) (x:JH (D9 S) Pre E l n Φ σ ds h Q n 0 l cls):Tr E (.region id l.toArray true) σ ds h Q:=
 Z2 (D9 S) n cls Φ Pre hm ok (fun h=>D9.refl S h) (fun _ _ _ x y=>x.trans y) p0 ind x
section
variable {Pre:Nat→GH→Prop} {Φ:List H6} {S:Nat→Prop} {k:Nat} {cl:List Nat} {h h':GH}
theorem St.same:St (D9 S) Pre Φ cl k h h:=⟨D9.refl _ _,fun _ _ _ _ z=>z,fun _ _ _ z=>z⟩
theorem St.ofLe (l:h.Le h') (m:D4 GH.Le Φ) (pm:∀k h h',GH.Le h h'→Pre k h→Pre k h'):St (D9 S) Pre Φ cl k h h':=⟨l.keepD S,fun j _ σ v z=>m.mono j σ v h h' l z,fun j _ _ z=>pm j h h' l z⟩
end
def P4 (h0:GH) (w v:Value):Prop:=Bw v=Bw w∨∃r,Bw v=some r∧h0 r=none
theorem CA.fromB {h0:GH} {w v:Value} (f:P4 h0 w v) {r:Nat} {o:Bool×Obj} (hr:h0 r=some o) (x:CA w r):CA v r:=fun e=>by
 rcases f with q | ⟨b,q1,q2⟩
 ·exact x (q▸e)
 ·rw [q1] at e;cases e;rw [q2] at hr;cases hr
theorem P4.grown {h0 hk h':GH} {S:Nat→Prop} {w v:Value} (g:Fs hk h' w v) (k:D9 S h0 hk):P4 h0 w v:=by
 rcases g.2 with q | ⟨⟨r,q1,q2⟩,_⟩
 ·exact .inl q
 ·exact .inr ⟨r,q1,k.nothing q2⟩
theorem AT.apartTy {α β:Type} {h0 h1 h:GH} {v w:Value} {t t':TypeId} {n n':Nat} {enc:α→Array Value} {enc':β→Array Value} {xs:List α} {ys:List β} (x:AT h0 h v t n enc xs) (y:AT h1 h w t' n' enc' ys) (ne:t≠t'):Apart v w:=fun b e e'=>by
 rcases x with ⟨rfl,_⟩ | ⟨b1,_,c1,rfl,_,h2,_⟩
 ·cases e
 ·rcases y with ⟨rfl,_⟩ | ⟨b2,_,c2,rfl,_,h3,_⟩
  ·cases e'
  ·simp only [Bw,Option.some.injEq] at e e';subst e;subst e';rw [h2] at h3;simp only [Option.some.injEq,Prod.mk.injEq,Obj.cells.injEq] at h3;exact ne h3.2.2.1
theorem AT.apartNew {α β:Type} {h1 h h2:GH} {v w:Value} {t t':TypeId} {n n':Nat} {enc:α→Array Value} {enc':β→Array Value} {xs:List α} {ys:List β} (x:AT h1 h2 w t n enc xs) (y:AT h2 h v t' n' enc' ys):Apart w v:=fun b e e'=>by
 obtain ⟨o,ho⟩:=x.inDom b e;rw [y.fresh b e'] at ho;cases ho
theorem Bc.leBase {S:Nat→Prop} {hb h h':GH} (k:Bc S h h') (l:hb.Le h) (hS:∀b,S b→hb b=none):hb.Le h':=fun b p o hx=>by
 obtain ⟨o1,h1,h2⟩:=l b p o hx;obtain ⟨o2,h3,h4⟩:=k b p o1 h1 fun q=>by rw [hS b q] at hx;cases hx
 refine ⟨o2,h3,?_⟩;rcases h2 with rfl | h2
 ·exact h4
 ·rcases h4 with rfl | h4
  ·exact .inr h2
  ·exact .inr ⟨h2.1,h4.2⟩
theorem AT.keepD {α:Type} {S:Nat→Prop} {h0 h h':GH} {v:Value} {t:TypeId} {n:Nat} {enc:α→Array Value} {xs:List α} (x:AT h0 h v t n enc xs) (k:D9 S h h') (hS:∀b,Bw v=some b→¬S b):AT h0 h' v t n enc xs:=by
 rcases x with x | ⟨b,cap,c,rfl,h2,h3,h4⟩
 ·exact .inl x
 ·exact .inr ⟨b,cap,c,rfl,h2,k.1.box h3 (hS b rfl) rfl,h4⟩
end
end Go.Ns
namespace Go.Ns
open Go.Conc
section
variable {P:Program} {E:GY P} {σ:Nat→Value} {ds:List Deferred} {h:GH} {T:(Nat→Value)→List Deferred→GH→Prop}
variable {dst:Option Nat} {ty:TypeId} {pos:String} {af:Array Edge} {gd:Option (Nat×Bool)}
def Ru:Value→Bool
 | .slice none _ _=>true
 | _=>false
theorem Xg {xt yt:TypeId} {x y:Operand} {a:Option Addr} {l c:Nat} (ht:JE P xt=true) (hx:AU σ x=.slice a l c) (hy:AU σ y=.slice none 0 0) (k:T (putS σ dst (.bool (Ru (.slice a l c)))) ds h) :
  Be E ⟨dst,.binOp .eql xt x y yt,ty,pos,af,gd⟩ σ ds h T:=by
 unfold Be execOp;simp only [hx,hy];refine Fv (AG _ _ ?_);show Sem.gh P (do pure (Value.bool (←Op.equal xt (.slice a l c) (.slice none 0 0))):Sem Value) h _;refine AG _ _ ?_;unfold Op.equal Op.maxDepth;show (Op.equalIn (9999+1) xt (.slice a l c) (.slice none 0 0)).gh P h _;unfold Op.equalIn;unfold JE at ht;cases hu:P.underlying xt with
 | none=>rw [hu] at ht;cases ht
 | some d=>
  rw [hu] at ht;refine AG _ _ (Ao hu ?_);cases d <;> first | (cases ht;done) | skip
  cases a with
  | none=>exact k
  | some a=>exact k
theorem Us {α:Type} {xt yt:TypeId} {x y:Operand} {v:Value} {n:Nat} {enc:α→Array Value} {xs:List α} (ht:JE P xt=true) (s:AJ h v n enc xs) (hx:AU σ x=v) (hy:AU σ y=.slice none 0 0) (k:T (putS σ dst (.bool (Ru v))) ds h) :
  Be E ⟨dst,.binOp .eql xt x y yt,ty,pos,af,gd⟩ σ ds h T:=by
 obtain ⟨a,cap,rfl,_⟩:=s;exact Xg ht hx hy k
theorem Ut {α:Type} {v:Value} {n:Nat} {enc:α→Array Value} {xs:List α} (s:AJ h v n enc xs) (e:Ru v=true):xs=[]:=by
 obtain ⟨a,cap,rfl,_,_,q⟩:=s;cases a with
 | some a=>cases e
 | none=>
  cases xs with
  | nil=>rfl
  | cons x xs=>obtain ⟨b,off,h1,_⟩:=q 0 (by simp);cases h1
theorem Z3 {a:Int} {k:Nat} (h:k≤63):a.fdiv (2 ^ (min ((k:Int)).toNat IntKind.i64.bits))=a.fdiv (2 ^ k):=by
 have:min ((k:Int)).toNat IntKind.i64.bits=k:=by
  show min ((k:Int)).toNat 64=k;omega
 rw [this]
theorem Z4 {k:Nat} (h:k≤60):IntKind.i64.wrap (1*2 ^ (min ((k:Int)).toNat IntKind.i64.bits))=2 ^ k:=by
 have:min ((k:Int)).toNat IntKind.i64.bits=k:=by
  show min ((k:Int)).toNat 64=k;omega
 rw [this,Int.one_mul];have h1:(2:Int) ^ k≤2 ^ 60:=by
  have:=Nat.pow_le_pow_right (show 0<2 by decide) h
  exact_mod_cast this
 have h2:(0:Int)≤2 ^ k:=by
  have:=Nat.zero_le (2 ^ k)
  exact_mod_cast this
 exact IntWalk.i64_in _ (by omega)
end
theorem N5 {a:Int} (h:0≤a∧a≤65535) (k:Nat):0≤a.fdiv (2 ^ k)∧a.fdiv (2 ^ k)≤65535:=by
 have hp:(0:Int)<2 ^ k:=by
  have:=Nat.pow_pos (n:=k) (show 0<2 by decide)
  exact_mod_cast this
 rw [Int.fdiv_eq_ediv_of_nonneg _ (Int.le_of_lt hp)];refine ⟨Int.ediv_nonneg h.1 (Int.le_of_lt hp),Int.le_trans (Int.ediv_le_self _ h.1) h.2⟩
def HC (mask:Int) (k:Nat):Bool:=decide (mask.fdiv (2 ^ k)%2=1)
def Cp (cs:List AF) (mask:Int) (k:Nat):List AF:=((List.range k).filter (HC mask)).map fun (i:Nat)=>cs.getD i AF.z
def BK (mask:Int) (k:Nat):List Int:=((List.range k).filter (HC mask)).map fun (i:Nat)=>(i:Int)
theorem JI {p:Nat→Bool} {k:Nat} (h:p k=true):(List.range (k+1)).filter p=(List.range k).filter p++[k]:=by
 rw [List.range_succ,List.filter_append];simp [h]
theorem JJ {p:Nat→Bool} {k:Nat} (h:p k=false):(List.range (k+1)).filter p=(List.range k).filter p:=by
 rw [List.range_succ,List.filter_append];simp [h]
theorem pickC_t {cs:List AF} {mask:Int} {k:Nat} (h:mask.fdiv (2 ^ k)%2=1):Cp cs mask (k+1)=Cp cs mask k++[cs.getD k AF.z]:=by
 unfold Cp;rw [JI (by unfold HC;rw [decide_eq_true h]),List.map_append];rfl
theorem pickC_f {cs:List AF} {mask:Int} {k:Nat} (h:¬mask.fdiv (2 ^ k)%2=1):Cp cs mask (k+1)=Cp cs mask k:=by
 unfold Cp;rw [JJ (by unfold HC;rw [decide_eq_false h])]
theorem XD {mask:Int} {k:Nat} (h:mask.fdiv (2 ^ k)%2=1):BK mask (k+1)=BK mask k++[(k:Int)]:=by
 unfold BK;rw [JI (by unfold HC;rw [decide_eq_true h]),List.map_append];rfl
theorem XE {mask:Int} {k:Nat} (h:¬mask.fdiv (2 ^ k)%2=1):BK mask (k+1)=BK mask k:=by
 unfold BK;rw [JJ (by unfold HC;rw [decide_eq_false h])]
theorem P5 (cs:List AF) (mask:Int) (k:Nat):(Cp cs mask k).length≤k:=by
 unfold Cp;rw [List.length_map]
 have:=List.length_filter_le (HC mask) (List.range k)
 rwa [List.length_range] at this
theorem P6 (mask:Int) (k:Nat):(BK mask k).length≤k:=by
 unfold BK;rw [List.length_map]
 have:=List.length_filter_le (HC mask) (List.range k)
 rwa [List.length_range] at this
def PR (a b:Int):Int:=if a<b then-1 else if b<a then 1 else 0
def Jl (a b:List Int):Nat→Nat→Int
 | 0,_=>if (a.length:Int)<b.length then-1 else 0
 | f+1,k=>if (b.length:Int)≤k then 1 else if¬PR (a.getD k 0) (b.getD k 0)=0 then PR (a.getD k 0) (b.getD k 0) else Jl a b f (k+1)
def PT (a b:List Int):Int:=Jl a b a.length 0
theorem Mj {a b:List Int} {k:Nat} (hk:¬(k:Int)<a.length):Jl a b (a.length-k) k=if (a.length:Int)<b.length then-1 else 0:=by
 rw [show a.length-k=0 by omega];rfl
theorem Kb {a b:List Int} {k:Nat} (hk:k<a.length):Jl a b (a.length-k) k=if (b.length:Int)≤k then 1 else if¬PR (a.getD k 0) (b.getD k 0)=0 then PR (a.getD k 0) (b.getD k 0) else Jl a b (a.length-(k+1)) (k+1):=by
 rw [show a.length-k=(a.length-(k+1))+1 by omega];rfl
def Rv (a b:List Int):Bool:=decide ((a.length:Int)<b.length) || (decide ((a.length:Int)=b.length) && decide (PT a b<0))
abbrev Sl:=Value×List Int
def Sl.z:Sl:=(.slice none 0 0,[])
def IO (x:Sl):Array Value:=#[x.1]
def B9 (h:GH) (l:List Sl):Prop:=∀k,AJ h (l.getD k Sl.z).1 1 eI (l.getD k Sl.z).2
theorem B9.le {h h':GH} {l:List Sl} (x:B9 h l) (e:h.Le h'):B9 h' l:=fun k=>(x k).le e
theorem B9.nil (h:GH):B9 h []:=fun k=>by
 rw [CB (by simp)];exact AJ.nil _ _ _
theorem B9.snoc {h:GH} {l:List Sl} {x:Sl} (a:B9 h l) (b:AJ h x.1 1 eI x.2):B9 h (l++[x]):=fun k=>by
 rcases Nat.lt_trichotomy k l.length with q | q | q
 ·have e:(l++[x]).getD k Sl.z=l.getD k Sl.z:=by simp [List.getD_eq_getElem?_getD,List.getElem?_append_left q]
  rw [e];exact a k
 ·have e:(l++[x]).getD k Sl.z=x:=by subst q;simp [List.getD_eq_getElem?_getD]
  rw [e];exact b
 ·rw [CB (by simp;omega)];exact AJ.nil _ _ _
def LO (x c:List Int):List Int:=if Rv x c then x else c
def I6 (c:List Int) (l:List (List Int)):List Int:=l.foldl (fun c x=>LO x c) c
def A5 (l:List Sl):List (List Int):=l.map (·.2)
theorem Cb {l:List Sl} {k:Nat} (hk:k<l.length):(A5 l).getD k []=(l.getD k Sl.z).2:=by
 unfold A5;rw [Bi [] (by simpa using hk),Bi Sl.z hk];simp
theorem N6 {c:List Int} {l:List Sl} {k:Nat} (hk:k<l.length):I6 c ((A5 l).take (k+1))=LO (l.getD k Sl.z).2 (I6 c ((A5 l).take k)):=by
 rw [Cv [] (by simpa [A5] using hk),Cb hk];unfold I6;rw [List.foldl_append];rfl
def DB (d:Int) (gs:List Good) (ms:List AB) (cs:List AF) (mo:Int):Bool:= !(AR d gs ms cs mo).isEmpty
theorem someB_t {d:Int} {gs:List Good} {ms:List AB} {cs:List AF} {mo:Int} (h:AR d gs ms cs mo≠[]):DB d gs ms cs mo=true:=by
 unfold DB;cases hx:AR d gs ms cs mo with
 | nil=>exact absurd hx h
 | cons _ _=>rfl
theorem someB_f {d:Int} {gs:List Good} {ms:List AB} {cs:List AF} {mo:Int} (h:AR d gs ms cs mo=[]):DB d gs ms cs mo=false:=by
 unfold DB;rw [h];rfl
def Z5 {α:Type} (hB:GH) (r:Nat) (T:TypeId) (pre:List α) (Y:Nat→Prop) (h:GH):Prop:=pre=[]∧h r=some (true,.cells #[.bool false] T (0,0))∧hB r=none∧∀b,Y b↔b=r
def Z6 {α:Type} (r:Nat) (T:TypeId) (all:List α) (c:Code) (h:GH):Prop:=c=.ret∧h r=some (true,.cells #[.bool true] T (0,0))∧all≠[]
theorem N7 {α:Type} (hB:GH) (r:Nat) (T:TypeId):Id hB (Z5 (α:=α) hB r T):=by
 refine ⟨?_,?_⟩
 ·rintro pre Y h b ⟨_,h1,_,h2⟩ hb;rw [h2] at hb;subst hb;exact ⟨_,_,h1,rfl⟩
 ·rintro pre Y h h' ⟨h0,h1,h3,h2⟩ same _;exact ⟨h0,(same r ((h2 r).2 rfl)).trans h1,h3,h2⟩
theorem TH {α:Type} {hB h:GH} {r:Nat} {T:TypeId} (nr:hB r=none) (x:h r=some (true,.cells #[.bool false] T (0,0))):Z5 (α:=α) hB r T [] (fun b=>b=r) h:=⟨rfl,x,nr,fun _=>Iff.rfl⟩
theorem Rw {α:Type} {r:Nat} {T:TypeId} {all:List α}:∀c (h h':GH) l lo,Z6 r T all c h→h l=some (true,.loop lo)→(∀b,b≠l→h' b=h b)→Z6 r T all c h':=by
 rintro c h h' l lo ⟨q1,q2,q3⟩ hl ho;exact ⟨q1,(ho _ fun e=>by subst e;rw [q2] at hl;cases hl).trans q2,q3⟩
end Go.Ns
namespace Go.Ns
open Go.Conc
abbrev Key:=Int×Int×Int
def J1 (a:Key):Value:=.agg #[.int .i64 a.1,.int .i64 a.2.1,.int .i64 a.2.2]
def EZ (n:Int):Value:=.int .i64 n
def Ah (ms:List AB) (pasts:List AV) (r:Nat) (h:GH):Prop:=
 ∃M:Key→Option Int,E1 h r J1 EZ M∧∀a v,M a=some v→v=(AP ms (pasts.getD a.1.toNat AV.zero) a.2.1 a.2.2).1
theorem Ah.same {ms:List AB} {pasts:List AV} {r:Nat} {h h':GH} (x:Ah ms pasts r h) (e:h' r=h r):Ah ms pasts r h':=by
 obtain ⟨M,h1,h2⟩:=x;exact ⟨M,h1.le_other e,h2⟩
theorem Ah.known {ms:List AB} {pasts:List AV} {r:Nat} {h:GH} (x:Ah ms pasts r h):∃o,h r=some (true,o):=by
 obtain ⟨M,⟨es,clk,h1,_⟩,_⟩:=x;exact ⟨_,h1⟩
structure CU (hB:GH) (ms:List AB) (pasts:List AV) (r:Nat) (h hc:GH):Prop where
 ok:Ah ms pasts r hc
 keep:Bc (fun b=>b=r) h hc
 base:hB.Le hc
def JB (hB:GH) (ms:List AB) (pasts:List AV) (r:Nat) (h h':GH):Prop:=Ah ms pasts r h'∧Bc (fun b=>b=r) h h'∧hB.Le h'
section
variable {hB h hc h':GH} {ms:List AB} {pasts:List AV} {r:Nat}
theorem CU.start (x:Ah ms pasts r h) (l:hB.Le h):CU hB ms pasts r h h:=⟨x,Bc.refl _ _,l⟩
theorem CU.le (y:CU hB ms pasts r h hc) (l:hc.Le h'):CU hB ms pasts r h h':=by
 obtain ⟨o,ho⟩:=y.ok.known;exact ⟨y.ok.same ((l.keep ho rfl).trans ho.symm),y.keep.trans (fun _ q=>.inl q) (l.keepX _),y.base.trans l⟩
theorem CU.store (y:CU hB ms pasts r h hc) {q:Nat} (hq:h q=none) (qB:hB q=none) (hn:q≠r) (ho:∀b,b≠q→h' b=hc b):CU hB ms pasts r h h':=
 ⟨y.ok.same (ho r (Ne.symm hn)),y.keep.store hq ho,y.base.upd qB ho⟩
theorem CU.app {v v':Value} (y:CU hB ms pasts r h hc) (g:Fs hc h' v v') (f:CA v r) (hv:∀b,Bw v=some b→h b=none) (hvB:∀b,Bw v=some b→hB b=none):CU hB ms pasts r h h':=by
 obtain ⟨o,ho⟩:=y.ok.known;refine ⟨y.ok.same ((g.1 r _ ho f).trans ho.symm),fun b p o hb hX=>?_,GH.Le.grown g y.base hvB⟩;obtain ⟨o',h1,h2⟩:=y.keep b p o hb hX;exact ⟨o',g.1 b _ h1 (fun e=>by rw [hv b e] at hb;cases hb),h2⟩
theorem CU.call (y:CU hB ms pasts r h hc) (m:JB hB ms pasts r hc h'):CU hB ms pasts r h h':=⟨m.1,y.keep.trans (fun _ q=>.inl q) m.2.1,m.2.2⟩
theorem CU.ne (y:CU hB ms pasts r h hc) {q:Nat} (hq:hc q=none):q≠r:=fun e=>by
 obtain ⟨o,ho⟩:=y.ok.known;rw [e,ho] at hq;cases hq
theorem CU.res (y:CU hB ms pasts r h hc):JB hB ms pasts r h hc:=⟨y.ok,y.keep,y.base⟩
end
theorem Key.eq_iff (a b:Key):(a.1==b.1 && (a.2.1==b.2.1 && (a.2.2==b.2.2 && true)))=decide (a=b):=by
 obtain ⟨a1,a2,a3⟩:=a;obtain ⟨b1,b2,b3⟩:=b;simp only [Bool.and_true,Prod.mk.injEq];by_cases h1:a1=b1 <;> by_cases h2:a2=b2 <;> by_cases h3:a3=b3 <;> simp [h1,h2,h3]
section
variable {P:Program} {E:GY P} {σ:Nat→Value} {ds:List Deferred} {h:GH} {T:(Nat→Value)→List Deferred→GH→Prop}
variable {dst:Option Nat} {ty:TypeId} {pos:String} {af:Array Edge} {gd:Option (Nat×Bool)}
theorem Rx {t kt vt:TypeId} {x ix:Operand} {r d:Nat} {ms:List AB} {pasts:List AV} {i g dy:Int} (ht:J6 P t=some (kt,vt)) (hx:AU σ x=.map (some r)) (hk:AU σ ix=.agg #[.int .i64 i,.int .i64 g,.int .i64 dy]) (hm:Ah ms pasts r h) (hd:Nat.ble (d+1) 10000=true)
  (hc:∀a,Zt P (d+1) kt (J1 a)=true) (he:∀a b,PH P (d+1) kt (J1 a) (J1 b)=some (a.1==b.1 && (a.2.1==b.2.1 && (a.2.2==b.2.2 && true)))) (hz:(P.info? vt).bind (·.zero)=some (.int .i64 0))
  (k:∀(n:Int) (is:Bool),(is=true→n=(AP ms (pasts.getD i.toNat AV.zero) g dy).1)→T (putS σ dst (.tuple #[.int .i64 n,.bool is])) ds h):Be E ⟨dst,.lookup t x ix true,ty,pos,af,gd⟩ σ ds h T:=by
 obtain ⟨M,h1,h2⟩:=hm;refine Px (a:=(i,g,dy)) (z:=.int .i64 0) ht hx hk h1 hd (hc _) (fun b=>by rw [he,Key.eq_iff]) hz ?_;cases hM:M (i,g,dy) with
 | none=>exact k 0 false (by intro e;cases e)
 | some v=>exact k v true fun _=>h2 _ _ hM
theorem TJ {t kt vt:TypeId} {om ok ox:Operand} {r d:Nat} {ms:List AB} {pasts:List AV} {i g dy n:Int} (ht:J6 P t=some (kt,vt)) (hm':AU σ om=.map (some r)) (hk:AU σ ok=.agg #[.int .i64 i,.int .i64 g,.int .i64 dy]) (hv:AU σ ox=.int .i64 n) (hm:Ah ms pasts r h) (hd:Nat.ble (d+1) 10000=true)
  (hc:∀a,Zt P (d+1) kt (J1 a)=true) (he:∀a b,PH P (d+1) kt (J1 a) (J1 b)=some (a.1==b.1 && (a.2.1==b.2.1 && (a.2.2==b.2.2 && true)))) (hs:∀a,Instr.sameBits 10000 (J1 a) (J1 a)=true) (hn:n=(AP ms (pasts.getD i.toNat AV.zero) g dy).1)
  (k:∀h',Ah ms pasts r h'→(∀b,b≠r→h' b=h b)→T (putS σ dst undef) ds h'):Be E ⟨dst,.mapUpdate t om ok ox,ty,pos,af,gd⟩ σ ds h T:=by
 obtain ⟨M,h1,h2⟩:=hm;refine LH (a:=(i,g,dy)) (v:=n) (ek:=J1) (ev:=EZ) ht hm' hk hv h1 hd (hc _) (fun b=>by rw [he,Key.eq_iff]) (hs _) fun h' g1 g2=>k h' ⟨_,g1,fun a v hav=>?_⟩ g2;by_cases e:a=(i,g,dy)
 ·subst e;rw [if_pos rfl] at hav;cases hav;exact hn
 ·rw [if_neg e] at hav;exact h2 a v hav
end
section
variable {hB h hc h':GH} {ms:List AB} {pasts:List AV} {r:Nat}
theorem CU.nothing (y:CU hB ms pasts r h hc) {q:Nat} (hq:hc q=none):h q=none:=by
 cases hx:h q with
 | none=>rfl
 | some x=>
  obtain ⟨o',h1,_⟩:=y.keep q x.1 x.2 hx (y.ne hq);rw [h1] at hq;cases hq
theorem Ah.le (x:Ah ms pasts r h) (l:h.Le h'):Ah ms pasts r h':=by
 obtain ⟨o,ho⟩:=x.known;exact x.same ((l.keep ho rfl).trans ho.symm)
theorem Ah.empty (x:h r=some (true,.map #[] 0)):Ah ms pasts r h:=⟨fun _=>none,E1.empty x,fun a v e=>by cases e⟩
theorem Ah.neCells {b:Nat} {p:Bool} {c:Array Value} {t:TypeId} {z:Nat×Nat} (x:Ah ms pasts r h) (hb:h b=some (p,.cells c t z)):b≠r:=fun e=>by
 obtain ⟨M,⟨es,clk,h1,_⟩,_⟩:=x;rw [e,h1] at hb;cases hb
theorem AT.keepX {α:Type} {X:Nat→Prop} {h0:GH} {v:Value} {t:TypeId} {n:Nat} {enc:α→Array Value} {xs:List α} (x:AT h0 h v t n enc xs) (k:Bc X h h') (hS:∀b,Bw v=some b→¬X b):AT h0 h' v t n enc xs:=by
 rcases x with x | ⟨b,cap,c,rfl,h2,h3,h4⟩
 ·exact .inl x
 ·exact .inr ⟨b,cap,c,rfl,h2,k.box h3 (hS b rfl) rfl,h4⟩
theorem AJ.slDel {α:Type} {v:Value} {n:Nat} {enc:α→Array Value} {xs:List α} (x:AJ h v n enc xs) {p:Bool} {es:Array MapEntry} {clk:Nat} (hr:h r=some (p,.map es clk)):AJ (h.del r) v n enc xs:=by
 obtain ⟨a,cap,hv,hc,hm,he⟩:=x;refine ⟨a,cap,hv,hc,hm,fun i hi=>?_⟩;obtain ⟨b,off,h1,h2⟩:=he i hi;refine ⟨b,off,h1,h2.del fun e=>?_⟩;obtain ⟨p',c,t,f,hb,_⟩:=h2;rw [e,hr] at hb;cases hb
theorem Ah.slDel {α:Type} (k:Ah ms pasts r h) {v:Value} {n:Nat} {enc:α→Array Value} {xs:List α} (x:AJ h v n enc xs):AJ (h.del r) v n enc xs:=by
 obtain ⟨M,⟨es,clk,h1,_⟩,_⟩:=k;exact x.slDel h1
end
section
variable {P:Program} {E:GY P} {σ:Nat→Value} {ds:List Deferred} {h:GH}
end
theorem Ry (a:Key):Instr.sameBits 10000 (J1 a) (J1 a)=true:=by
 have hi:∀(n:Nat) (x:Int),Instr.sameBits n (.int .i64 x) (.int .i64 x)=true:=fun n x=>by
  cases n <;> (unfold Instr.sameBits;simp)
 unfold J1;show Instr.sameBits (9999+1) _ _=true;unfold Instr.sameBits;simp only [List.zip_cons_cons,List.zip_nil_left,List.all_cons,List.all_nil,hi];simp
def AW (d m:Int) (gs:List Good) (ms:List AB) (cs:List AF) (o:List Int):Int:=
 if¬Ag d m gs ms cs=0 then Ag d m gs ms cs else if¬EM (fun k=>o.getD k 0) 0 o.length=0 then EM (fun k=>o.getD k 0) 0 o.length else if (AR d gs ms cs m).length=0 then 9 else 0
section
variable {d m:Int} {gs:List Good} {ms:List AB} {cs:List AF} {o:List Int}
theorem Il (h:¬Ag d m gs ms cs=0):AW d m gs ms cs o=Ag d m gs ms cs:=by unfold AW;rw [if_pos h]
theorem Im (h:¬¬Ag d m gs ms cs=0) {k:Nat} (hs:∀j,j<k→o.getD j 0=0) (hk:k<o.length) (h2:¬o.getD k 0=0):AW d m gs ms cs o=o.getD k 0:=by
 unfold AW;rw [if_neg h,BS (f:=fun k=>o.getD k 0) hs hk rfl h2,if_pos h2]
theorem In (h:¬¬Ag d m gs ms cs=0) {k:Nat} (hs:∀j,j<k→o.getD j 0=0) (hk:o.length≤k) (h2:(AR d gs ms cs m).length=0):AW d m gs ms cs o=9:=by
 unfold AW;rw [if_neg h,Cl (f:=fun k=>o.getD k 0) hs hk,if_neg (by simp),if_pos h2]
theorem Kc (h:¬¬Ag d m gs ms cs=0) {k:Nat} (hs:∀j,j<k→o.getD j 0=0) (hk:o.length≤k) (h2:¬(AR d gs ms cs m).length=0):AW d m gs ms cs o=0:=by
 unfold AW;rw [if_neg h,Cl (f:=fun k=>o.getD k 0) hs hk,if_neg (by simp),if_neg h2]
theorem DC (h:AW d m gs ms cs o=0):Az d m gs ms cs∧(∀k,k<o.length→o.getD k 0=0)∧0<(AR d gs ms cs m).length:=by
 unfold AW at h;split at h <;> first | (rename_i q;exact absurd h q) | skip
 split at h <;> first | (rename_i q;exact absurd h q) | skip
 split at h <;> first | (cases h;done) | skip
 rename_i a b c
 exact ⟨Ie (Decidable.not_not.1 a),fun k hk=>FW (Decidable.not_not.1 b) k (Nat.zero_le _) (by omega),by omega⟩
end
end Go.Ns
namespace Go.Ns
open Go.Conc Go.Sort
def BQ (rest:List Value) (d:Array Int):Array Value:=(d.toList.map (fun x=>Value.int .i64 x)++rest).toArray
theorem BI (rest:List Value) (d:Array Int):(BQ rest d).size=d.size+rest.length:=by simp [BQ]
theorem Aq {rest:List Value} {d:Array Int} {i:Nat} (h:i<d.size):(BQ rest d)[0+i*1]? =some (.int .i64 d[i]!):=by
 have h1:i<(d.toList.map (fun x=>Value.int .i64 x)).length:=by simpa using h
 rw [Nat.zero_add,Nat.mul_one];unfold BQ;rw [List.getElem?_toArray,List.getElem?_append_left h1,List.getElem?_map];simp [h,getElem!_pos]
theorem Ba {rest:List Value} {d:Array Int} {i:Nat} {v:Int} (h:i<d.size):B2 (BQ rest d) (0+i*1) [.int .i64 v]=BQ rest (d.setIfInBounds i v):=by
 rw [Nat.zero_add,Nat.mul_one];show (BQ rest d).setIfInBounds i (.int .i64 v)=_;unfold BQ;apply Array.toList_inj.1;have h1:i<(d.toList.map (fun x=>Value.int .i64 x)).length:=by simpa using h
 rw [Array.toList_setIfInBounds];simp only [];rw [List.set_append_left _ _ h1,Array.toList_setIfInBounds,List.map_set]
structure Aj (b:Nat) (h hc:GH):Prop where
 keep:Bc (fun x=>x=b) h hc
 dom:∃o,hc b=some o
section
variable {b:Nat} {h hc h':GH}
theorem Aj.start (x:∃o,h b=some o):Aj b h h:=⟨Bc.refl _ _,x⟩
theorem Aj.le (y:Aj b h hc) (l:hc.Le h'):Aj b h h':=⟨y.keep.trans (fun _ q=>.inl q) (l.keepX _),l.someOf y.dom⟩
theorem Aj.put (y:Aj b h hc) (ho:∀x,x≠b→h' x=hc x) (x:∃o,h' b=some o):Aj b h h':=⟨y.keep.store' (.inl rfl) ho,x⟩
theorem Aj.ne (y:Aj b h hc) {q:Nat} (hq:hc q=none):q≠b:=fun e=>by
 obtain ⟨o,ho⟩:=y.dom;rw [e,ho] at hq;cases hq
theorem Aj.nothing (y:Aj b h hc) {q:Nat} (hq:hc q=none):h q=none:=by
 cases hx:h q with
 | none=>rfl
 | some x=>
  obtain ⟨o',h1,_⟩:=y.keep q x.1 x.2 hx (y.ne hq);rw [h1] at hq;cases hq
theorem Aj.store (y:Aj b h hc) {q:Nat} (hq:h q=none) (hn:q≠b) (ho:∀x,x≠q→h' x=hc x):Aj b h h':=⟨y.keep.store hq ho,by rw [ho b (Ne.symm hn)];exact y.dom⟩
theorem Aj.call (y:Aj b h hc) (k:Bc (fun x=>x=b) hc h') (x:∃o,h' b=some o):Aj b h h':=⟨y.keep.trans (fun _ q=>.inl q) k,x⟩
end
def GL (d:Array Int) (off:Nat):Array Int:=(d.toList.take off++List.replicate (d.size-off) 0).toArray
theorem PU (d:Array Int) (off:Nat):(GL d off).size=d.size:=by simp [GL];omega
theorem Xh {a j:Nat} {dd:Array Int} (h:(a:Int)<(j:Int)∧dd[j]! <dd[((j:Int)-1).toNat]!) :
  insInner ltInt a j dd=insInner ltInt a (j-1) ((dd.setIfInBounds j dd[((j:Int)-1).toNat]!).setIfInBounds ((j:Int)-1).toNat dd[j]!):=by
 obtain ⟨h1,h2⟩:=h;cases j with
 | zero=>omega
 | succ j=>
  have e:(((j+1:Nat):Int)-1).toNat=j:=by omega
  rw [e] at h2 ⊢
  conv=>lhs;unfold insInner
  rw [if_pos (by unfold ltInt;simp;exact ⟨by omega,h2⟩)];rfl
theorem Z7 {a j:Nat} {dd:Array Int} (h:¬((a:Int)<(j:Int)∧dd[j]! <dd[((j:Int)-1).toNat]!)):insInner ltInt a j dd=dd:=by
 cases j with
 | zero=>rfl
 | succ j=>
  have e:(((j+1:Nat):Int)-1).toNat=j:=by omega
  rw [e] at h;unfold insInner;rw [if_neg (by unfold ltInt;simp;intro q;exact Int.not_lt.1 fun r=>h ⟨by omega,r⟩)]
theorem PV {a b i:Nat} {dd:Array Int} (h:i<b):insOuter ltInt a b i dd=insOuter ltInt a b (i+1) (insInner ltInt a i dd):=by
 conv=>lhs;unfold insOuter
 rw [if_pos h]
theorem Rz {a b i:Nat} {dd:Array Int} (h:¬(i:Int)<b):insOuter ltInt a b i dd=dd:=by
 unfold insOuter;rw [if_neg (by omega)]
def JK (l:List Int):List Int:=(Go.Sort.sort ltInt l.toArray).toList
theorem Hh {a r:Int} {k:Nat} (h:k≤63) (e:a / 2 ^ k=r):a.fdiv (2 ^ (min ((k:Int)).toNat IntKind.u64.bits))=r:=by
 have:min ((k:Int)).toNat IntKind.u64.bits=k:=by
  show min ((k:Int)).toNat 64=k;omega
 have hp:(0:Int)≤2 ^ k:=by
  have:=Nat.zero_le (2 ^ k)
  exact_mod_cast this
 rw [this,Int.fdiv_eq_ediv_of_nonneg _ hp,e]
section
variable {P:Program} {E:GY P} {σ:Nat→Value} {ds:List Deferred} {h:GH} {T:(Nat→Value)→List Deferred→GH→Prop}
variable {dst:Option Nat} {ty:TypeId} {pos:String} {af:Array Edge} {gd:Option (Nat×Bool)}
end
theorem XF (l:List Int):DA eI l=l.map (fun x=>Value.int .i64 x):=by
 induction l with
 | nil=>rfl
 | cons x l ih=>show (eI x).toList++DA eI l=_;rw [ih];rfl
theorem AT.row {h0 h:GH} {v:Value} {xs:List Int} (x:AT h0 h v 3 1 eI xs) (hne:xs≠[]) :
  ∃b cap rest,v=.slice (some ⟨b,0,none⟩) xs.toArray.size cap∧h b=some (true,.cells (BQ rest xs.toArray) 3 (0,0)):=by
 rcases x with ⟨_,e⟩ | ⟨b,cap,c,rfl,h1,h2,h3,h4,h5,h6,h7⟩
 ·exact absurd e hne
 ·refine ⟨b,cap,c.toList.drop xs.length,by simp,?_⟩;have e:c=BQ (c.toList.drop xs.length) xs.toArray:=by
   apply Array.toList_inj.1;unfold BQ;simp only [];rw [←XF,←h6,Nat.mul_one,List.take_append_drop]
  rw [←e];exact h2
theorem AT.ofRow {h0 h h':GH} {b cap:Nat} {rest:List Value} {xs:List Int} {D:Array Int} (x:AT h0 h (.slice (some ⟨b,0,none⟩) xs.toArray.size cap) 3 1 eI xs) (hne:xs≠[]) (hD:D.size=xs.length) (hb:h b=some (true,.cells (BQ rest xs.toArray) 3 (0,0))) (hb':h' b=some (true,.cells (BQ rest D) 3 (0,0))) :
  AT h0 h' (.slice (some ⟨b,0,none⟩) xs.toArray.size cap) 3 1 eI D.toList:=by
 rcases x with ⟨e,_⟩ | ⟨b1,cap1,c,e,h1,h2,h3,h4,h5,h6,h7⟩
 ·cases e
 ·simp only [Value.slice.injEq,Option.some.injEq,Addr.mk.injEq] at e;obtain ⟨⟨rfl,_⟩,_,rfl⟩:=e;rw [hb] at h2;simp only [Option.some.injEq,Prod.mk.injEq,Obj.cells.injEq,true_and,and_true] at h2;subst h2;have hDl:D.toList.length=xs.length:=by rw [Array.length_toList];exact hD
  refine .inr ⟨b,cap,_,by rw [hDl];simp,h1,hb',?_,by omega,by omega,?_,fun y _=>rfl⟩
  ·rw [BI] at h3 ⊢;rw [hD];simpa using h3
  ·unfold BQ;simp only [Nat.mul_one];rw [XF,←List.length_map (f:=fun x=>Value.int .i64 x),List.take_append_of_le_length (Nat.le_refl _),List.take_length]
theorem Bc.grownSame {h h':GH} {b cap n:Nat} (k:Bc (fun x=>x=b) h h'):Fs h h' (.slice (some ⟨b,0,none⟩) n cap) (.slice (some ⟨b,0,none⟩) n cap):=
 ⟨fun r o hr hn=>(by
  obtain ⟨o',h1,rfl | ⟨h2,_⟩⟩:=k r o.1 o.2 hr (fun e=>hn (by rw [e];rfl))
  ·exact h1
  ·cases h2),.inl rfl⟩
section
variable {P:Program} {E:GY P} {σ:Nat→Value} {ds:List Deferred} {h:GH} {T:(Nat→Value)→List Deferred→GH→Prop}
variable {dst:Option Nat} {ty:TypeId} {pos:String} {af:Array Edge} {gd:Option (Nat×Bool)}
theorem Uu {t:TypeId} {x o:Operand} {b len cap hi:Nat} (ht:EI P t=some 1) (hc:len≤cap) (hx:AU σ x=.slice (some ⟨b,0,none⟩) len cap) (ho:∃kd,AU σ o=.int kd hi) (h2:hi≤len) (k:T (putS σ dst (.slice (some ⟨b,0,none⟩) hi cap)) ds h) :
  Be E ⟨dst,.slice t x none (some o) none,ty,pos,af,gd⟩ σ ds h T:=by
 refine L5 (olo:=none) (ohi:=some o) 0 hi ht hc hx rfl ho (Nat.zero_le _) h2 ?_;have e:(if cap=0 then (some ⟨b,0,none⟩:Option Addr) else (some ⟨b,0,none⟩:Option Addr).map (·.add (0*1)))=some ⟨b,0,none⟩:=by
  split
  ·rfl
  ·simp [IV]
 rw [e];exact k
theorem LP {t:TypeId} {x o:Operand} {b len cap lo:Nat} (ht:EI P t=some 1) (hc:len≤cap) (hx:AU σ x=.slice (some ⟨b,0,none⟩) len cap) (ho:∃kd,AU σ o=.int kd lo) (h2:lo<len) (k:T (putS σ dst (.slice (some ⟨b,lo,none⟩) (len-lo) (cap-lo))) ds h) :
  Be E ⟨dst,.slice t x (some o) none none,ty,pos,af,gd⟩ σ ds h T:=by
 refine L5 (olo:=some o) (ohi:=none) lo len ht hc hx ho rfl (Nat.le_of_lt h2) (Nat.le_refl _) ?_;have e:(if cap=lo then (some ⟨b,0,none⟩:Option Addr) else (some ⟨b,0,none⟩:Option Addr).map (·.add (lo*1)))=some ⟨b,lo,none⟩:=by
  rw [if_neg (by omega)];simp [IV]
 rw [e];exact k
theorem TK {t e:TypeId} {x:Operand} {b off len cap:Nat} {rest:List Value} {d:Array Int} {z:Nat} (ht:Dr P t=some (1,#[.int .i64 0],e)) (hx:AU σ x=.slice (some ⟨b,off,none⟩) len cap) (hb:h b=some (true,.cells (BQ rest d) z (0,0))) (hn:off+len=d.size) (hl:0<len)
  (k:∀h',h' b=some (true,.cells (BQ rest (GL d off)) z (0,0))→(∀x,x≠b→h' x=h x)→T (putS σ dst (.tuple #[])) ds h') :
  Be E ⟨dst,.call ⟨.builtin .clear,#[x],#[t]⟩,ty,pos,af,gd⟩ σ ds h T:=by
 refine FL (vs:=#[.slice (some ⟨b,off,none⟩) len cap]) (s:=Builtin.clear_ #[t] ty #[.slice (some ⟨b,off,none⟩) len cap]) (by simp [hx]) (fun _=>rfl) ?_;unfold Dr at ht;cases hu:P.underlying t with
 | none=>rw [hu] at ht;cases ht
 | some dd=>
 rw [hu] at ht;cases dd <;> first | (cases ht;done) | skip
 rename_i el
 simp only at ht;cases hty:CV P el with
 | none=>rw [hty] at ht;cases ht
 | some g=>
 cases hz:CD P el with
 | none=>rw [hty,hz] at ht;cases ht
 | some z'=>
 rw [hty,hz] at ht;simp only [Option.some.injEq,Prod.mk.injEq] at ht;obtain ⟨_,rfl,rfl⟩:=ht;unfold Builtin.clear_;simp only [List.getElem?_toArray,List.getElem?_cons_zero];refine AG _ _ (Ao hu ?_);obtain ⟨len,rfl⟩:∃m,len=m+1:=⟨len-1,by omega⟩;have hzero:∀{Q:Value→GH→Prop} {h:GH},(∀v,v.cells=#[.int .i64 0]→Q v h)→(zeroValue el).gh P h Q:=fun {Q h} q=>by
  unfold CD at hz;unfold zeroValue;cases hi:P.info? el with
  | none=>rw [hi] at hz;cases hz
  | some i=>
   rw [hi] at hz;simp only [Option.map_eq_some_iff] at hz;obtain ⟨v,hv,e⟩:=hz;refine AG _ _ (Cx hi ?_);rw [hv];exact q v e
 refine AG _ _ (hzero fun vz hvz=>?_);rw [hvz];have hcells:(Builtin.zeroCells #[.int .i64 0] (len+1)).toList=List.replicate (len+1) (.int .i64 0):=by
  unfold Builtin.zeroCells;apply List.ext_getElem
  ·simp
  ·intro i h1 h2;simp [Nat.mod_one]
 rw [hcells];have hsz:d.size=d.toList.length:=by simp
 refine AG _ _ (F8 (a:=⟨b,off,none⟩) rfl _ 0 (BQ rest d) h ?_ hb ?_ ?_)
 ·intro y hy;rw [List.eq_of_mem_replicate hy];rfl
 ·rw [BI,List.length_replicate];show off+0+(len+1)≤_;omega
 ·refine A0 (k _ ?_ fun x hx=>GH.set_ne _ _ _ hx);have e:B2 (BQ rest d) (off+0) (List.replicate (len+1) (.int .i64 0))=BQ rest (GL d off):=by
   apply Array.toList_inj.1;rw [ER _ _ _ (by rw [BI,List.length_replicate];omega)];unfold BQ GL;simp only [List.length_replicate,Nat.add_zero,List.map_append,List.map_take,List.map_replicate];have h1:off≤(d.toList.map (fun x=>Value.int .i64 x)).length:=by simp;omega
   rw [List.take_append_of_le_length h1,show d.size-off=len+1 by omega];congr 1;rw [show off+(len+1)=(d.toList.map (fun x=>Value.int .i64 x)).length by simp;omega,List.drop_left]
  rw [←e];exact GH.set_same _ _ _ _
end
def GZ (acc:List Int) (x:Int):List Int:=if acc.getLast? =some x then acc else acc++[x]
def DW (l:List Int):List Int:=l.foldl GZ []
theorem N8 (acc:List Int) (x:Int):(GZ acc x).getLast? =some x:=by
 unfold GZ;split
 ·assumption
 ·simp
theorem HD {d:Array Int} {j:Nat} (hj:j<d.size):DW (d.toList.take (j+1))=GZ (DW (d.toList.take j)) d[j]! :=by
 have e:d.toList.take (j+1)=d.toList.take j++[d[j]!]:=by
  rw [List.take_succ_eq_append_getElem (by simpa using hj)];simp [getElem!_pos,hj]
 rw [e];unfold DW;rw [List.foldl_append];rfl
theorem Uv {d:Array Int} {j:Nat} (hj:j<d.size):(DW (d.toList.take (j+1))).getLast? =some d[j]! :=by
 rw [HD hj];exact N8 _ _
theorem MA {rest:List Value} {d:Array Int} {o i:Nat} (h:o+i<d.size):(BQ rest d)[o+i*1]? =some (.int .i64 d[o+i]!):=by
 have:=Aq (rest:=rest) h
 rw [Nat.zero_add,Nat.mul_one] at this;rw [Nat.mul_one];exact this
theorem KA {d:Array Int} {j:Nat} (hj:j<d.size):d.toList.take (j+1)=d.toList.take j++[d[j]!]:=by
 rw [List.take_succ_eq_append_getElem (by simpa using hj)];simp [getElem!_pos,hj]
theorem Io {d:Array Int} {j:Nat} (h1:1≤j) (hj:j≤d.size):(DW (d.toList.take j)).getLast? =some d[j-1]! :=by
 obtain ⟨i,rfl⟩:∃i,j=i+1:=⟨j-1,by omega⟩;exact Uv (by omega)
theorem R0 {d:Array Int} {k:Nat} (h1:1≤k) (hk:k<d.size) (h:¬d[k]! =d[((k:Int)-1).toNat]!) (hs:DW (d.toList.take k)=d.toList.take k):DW (d.toList.take (k+1))=d.toList.take (k+1):=by
 rw [HD hk,KA hk];unfold GZ;rw [Io h1 (by omega),if_neg (by rw [show ((k:Int)-1).toNat=k-1 by omega] at h;simpa using fun e=>h e.symm),hs]
theorem R1 {d:Array Int} {k:Nat} (h1:1≤k) (hk:k<d.size) (h:d[k]! =d[((k:Int)-1).toNat]!) (hs:DW (d.toList.take k)=d.toList.take k):d.toList.take k=DW (d.toList.take (k+1)):=by
 rw [HD hk];unfold GZ;rw [Io h1 (by omega),if_pos (by rw [show ((k:Int)-1).toNat=k-1 by omega] at h;rw [h]),hs]
theorem Uw {d dd:Array Int} {k q kk:Nat} (hq:1≤q∧k+q<d.size) (hkk:k≤kk∧kk+1≤k+q) (hsz:dd.size=d.size) (hd:∀j,kk≤j→dd[j]! =d[j]!) (hdd:dd.toList.take kk=DW (d.toList.take (k+q))) (h:¬dd[k+q]! =dd[k+((q:Int)-1).toNat]!) :
  (dd.setIfInBounds kk dd[k+q]!).toList.take (kk+1)=DW (d.toList.take (k+(q+1))):=by
 have e1:((q:Int)-1).toNat=q-1:=by omega
 rw [e1,hd _ (by omega),hd _ (by omega)] at h;rw [show k+(q+1)=(k+q)+1 by omega,HD hq.2];unfold GZ;rw [Io (by omega) (by omega),if_neg (by rw [show k+q-1=k+(q-1) by omega];simpa using fun e=>h e.symm),←hdd,hd _ (by omega),Array.toList_setIfInBounds];rw [List.take_succ_eq_append_getElem (by simp;omega),List.take_set_of_le (by omega)];simp
theorem Ux {d dd:Array Int} {k q kk:Nat} (hq:1≤q∧k+q<d.size) (hkk:k≤kk∧kk+1≤k+q) (hd:∀j,kk≤j→dd[j]! =d[j]!) (hdd:dd.toList.take kk=DW (d.toList.take (k+q))) (h:dd[k+q]! =dd[k+((q:Int)-1).toNat]!) :
  dd.toList.take kk=DW (d.toList.take (k+(q+1))):=by
 have e1:((q:Int)-1).toNat=q-1:=by omega
 rw [e1,hd _ (by omega),hd _ (by omega)] at h;rw [show k+(q+1)=(k+q)+1 by omega,HD hq.2];unfold GZ;rw [Io (by omega) (by omega),if_pos (by rw [show k+q-1=k+(q-1) by omega,h]),hdd]
theorem Xi {d dd:Array Int} {kk:Nat} {x:Int} (hd:∀j,kk≤j→dd[j]! =d[j]!):∀j,kk+1≤j→(dd.setIfInBounds kk x)[j]! =d[j]! :=fun j hj=>by
 rw [←hd j (by omega)];simp only [getElem!_def,Array.getElem?_setIfInBounds_ne (show kk≠j by omega)]
theorem PW {d:Array Int} {k:Nat} (h:k≤d.size):(GL d k).toList.take k=d.toList.take k:=by
 unfold GL;simp only [];rw [List.take_append_of_le_length (by simp;omega),List.take_take];simp
theorem TL {d:Array Int} (h:2≤d.size):DW (d.toList.take 1)=d.toList.take 1:=by
 have e:=KA (d:=d) (j:=0) (by omega);rw [Nat.zero_add] at e;rw [e];rfl
theorem TM {d:Array Int} {k:Nat} (hs:DW (d.toList.take k)=d.toList.take k) (h1:k≤d.size) (h2:d.size≤k):d.toList.take d.size=DW d.toList:=by
 rw [show k=d.toList.length by simp;omega,List.take_length] at hs;rw [hs,←Array.length_toList,List.take_length]
theorem TN {d:Array Int} (h:d.size<2):d.toList.take d.size=DW d.toList:=by
 rw [←Array.length_toList,List.take_length]
 have:d.toList.length<2:=by simpa using h
 match hd:d.toList,this with
 | [],_=>rfl
 | [x],_=>rfl
 | _ ::_ ::_,h=>simp at h;omega
theorem JL (l:List Int):JK l=l.mergeSort (fun x y=>decide (x≤y)):=sortInt l
theorem Ip (l:List Int):(JK l).length=l.length:=by rw [JL,List.length_mergeSort]
theorem TO {l:List Int} (h:l≠[]):JK l≠[]:=fun e=>by
 have:=congrArg List.length e
 rw [Ip] at this;exact h (List.length_eq_zero_iff.1 this)
end Go.Ns
namespace Go.Ns
open Go.Conc Go.Sort
theorem MB:SWO ltInt:=⟨fun x=>by unfold ltInt;simp,fun x y z=>by unfold ltInt;simp;omega,fun x y z=>by unfold ltInt;simp;omega⟩
theorem TP {d dd:Array Int} {a b i j:Nat} (h:PermIn a b d dd) (hi:a≤i∧i<b) (hj:a≤j∧j<b) (hb:b≤d.size):PermIn a b d ((dd.setIfInBounds i dd[j]!).setIfInBounds j dd[i]!):=
 permIn_trans _ _ _ a b h (swp_permIn dd a b i j hi.1 hi.2 hj.1 hj.2 (by rw [h.1];exact hb))
theorem Z8 {hi first root:Nat} {dd:Array Int} (h:hi≤2*root+1):siftDown ltInt hi first root dd=dd:=by
 unfold siftDown;rw [dif_pos h]
theorem sift_r {hi first root:Nat} {dd:Array Int} (h:¬hi≤2*root+1) (h1:2*root+1+1<hi) (h1':dd[first+(2*root+1)]! <dd[first+(2*root+1)+1]!) (h2:dd[first+root]! <dd[first+(2*root+1+1)]!) :
  siftDown ltInt hi first root dd=siftDown ltInt hi first (2*root+1+1) (swp dd (first+root) (first+(2*root+1+1))):=by
 have h2':dd[first+root]! <dd[first+(2*root+2)]! :=h2
 conv=>lhs;unfold siftDown
 rw [dif_neg h,if_pos (by unfold ltInt;simpa using ⟨h1,h1'⟩),if_neg (by unfold ltInt;simpa using h2'),dif_pos (by omega)]
theorem sift_r0 {hi first root:Nat} {dd:Array Int} (h:¬hi≤2*root+1) (h1:2*root+1+1<hi) (h1':dd[first+(2*root+1)]! <dd[first+(2*root+1)+1]!) (h2:¬dd[first+root]! <dd[first+(2*root+1+1)]!) :
  siftDown ltInt hi first root dd=dd:=by
 have h2':¬dd[first+root]! <dd[first+(2*root+2)]! :=h2;unfold siftDown;rw [dif_neg h,if_pos (by unfold ltInt;simpa using ⟨h1,h1'⟩),if_pos (by unfold ltInt;simpa using h2')]
theorem sift_l {hi first root:Nat} {dd:Array Int} (h:¬hi≤2*root+1) (h1:¬(2*root+1+1<hi∧dd[first+(2*root+1)]! <dd[first+(2*root+1)+1]!)) (h2:dd[first+root]! <dd[first+(2*root+1)]!) :
  siftDown ltInt hi first root dd=siftDown ltInt hi first (2*root+1) (swp dd (first+root) (first+(2*root+1))):=by
 conv=>lhs;unfold siftDown
 rw [dif_neg h,if_neg (by unfold ltInt;simpa using h1),if_neg (by unfold ltInt;simpa using h2)]
theorem sift_l0 {hi first root:Nat} {dd:Array Int} (h:¬hi≤2*root+1) (h1:¬(2*root+1+1<hi∧dd[first+(2*root+1)]! <dd[first+(2*root+1)+1]!)) (h2:¬dd[first+root]! <dd[first+(2*root+1)]!) :
  siftDown ltInt hi first root dd=dd:=by
 unfold siftDown;rw [dif_neg h,if_neg (by unfold ltInt;simpa using h1),if_pos (by unfold ltInt;simpa using h2)]
theorem MC (hi first root:Nat) (d:Array Int):(siftDown ltInt hi first root d).size=d.size:=by
 fun_induction siftDown ltInt hi first root d <;> simp_all [swp]
theorem Uy {z a k:Nat} {dd:Array Int} (hk:(0:Int)≤(k:Int)-1):heapBuild ltInt (z-a) a k dd=heapBuild ltInt (z-a) a (k-1) (siftDown ltInt ((z:Int)-(a:Int)).toNat a ((k:Int)-1).toNat dd):=by
 obtain ⟨q,rfl⟩:∃q,k=q+1:=⟨k-1,by omega⟩;rw [show ((z:Int)-(a:Int)).toNat=z-a by omega,show (((q+1:Nat):Int)-1).toNat=q by omega];rfl
theorem Xj {z a k:Nat} {dd:Array Int} (hk:¬(0:Int)≤(k:Int)-1):heapBuild ltInt (z-a) a k dd=dd:=by
 obtain rfl:k=0:=by omega
 rfl
theorem Uz {a k:Nat} {dd:Array Int} (hk:(0:Int)≤(k:Int)-1):heapPop ltInt a k dd=heapPop ltInt a (k-1) (siftDown ltInt ((k:Int)-1).toNat a (0:Int).toNat ((dd.setIfInBounds a dd[((a:Int)+((k:Int)-1)).toNat]!).setIfInBounds ((a:Int)+((k:Int)-1)).toNat dd[a]!)):=by
 obtain ⟨q,rfl⟩:∃q,k=q+1:=⟨k-1,by omega⟩;rw [show ((a:Int)+(((q+1:Nat):Int)-1)).toNat=a+q by omega,show (((q+1:Nat):Int)-1).toNat=q by omega];rfl
theorem Xk {a k:Nat} {dd:Array Int} (hk:¬(0:Int)≤(k:Int)-1):heapPop ltInt a k dd=dd:=by
 obtain rfl:k=0:=by omega
 rfl
theorem ES {P:Program} {W:Wk P} {f:FuncId} {b cap m n:Nat} {as:List Value} {h:GH} {R:Value→GH→Prop} (e:m=n) (x:Ac W f (Value.slice (some ⟨b,0,none⟩) m cap ::as).toArray h R):Ac W f (Value.slice (some ⟨b,0,none⟩) n cap ::as).toArray h R:=e▸x
def U0 (dd:Array Int) (a j i:Nat):Nat:=scanUp (fun x=>ltInt x dd[a]!) dd j i
def Xl (dd:Array Int) (a i j:Nat):Nat:=scanDown (fun x=> !ltInt x dd[a]!) dd i j
def ZU (dd:Array Int) (a j i:Nat):Nat:=scanUp (fun x=> !ltInt dd[a]! x) dd j i
def Z9 (dd:Array Int) (a i j:Nat):Nat:=scanDown (fun x=>ltInt dd[a]! x) dd i j
theorem P7 {p:Int→Bool} {dd:Array Int} {j i:Nat} (h1:i≤j) (h2:p dd[i]! =true):scanUp p dd j i=scanUp p dd j (i+1):=by
 conv=>lhs;unfold scanUp
 rw [if_pos (by simp [h1,h2])]
theorem N9 {p:Int→Bool} {dd:Array Int} {j i:Nat} (h:¬(i≤j∧p dd[i]! =true)):scanUp p dd j i=i:=by
 unfold scanUp;rw [if_neg (by simpa using h)]
theorem Mk {p:Int→Bool} {dd:Array Int} {i j:Nat} (hi:1≤i) (h1:i≤j) (h2:p dd[j]! =true):scanDown p dd i j=scanDown p dd i (j-1):=by
 obtain ⟨q,rfl⟩:∃q,j=q+1:=⟨j-1,by omega⟩
 conv=>lhs;unfold scanDown
 rw [if_pos (by simp [h1,h2])];rfl
theorem LQ {p:Int→Bool} {dd:Array Int} {i j:Nat} (h:¬(i≤j∧p dd[j]! =true)):scanDown p dd i j=j:=by
 cases j with
 | zero=>rfl
 | succ q=>unfold scanDown;rw [if_neg (by simpa using h)]
section
variable {d dd:Array Int} {a z p i j i0 j0:Nat}
theorem TQ {J:Int} (h:(i:Int)≤J∧dd[i]! <dd[a]!) (hJ:J=(j:Int)):U0 dd a j i=U0 dd a j (i+1):=P7 (by omega) (decide_eq_true h.2)
theorem XG {J:Int} (h:¬((i:Int)≤J∧dd[i]! <dd[a]!)) (hJ:J=(j:Int)):U0 dd a j i=i:=N9 fun q=>h ⟨by omega,of_decide_eq_true q.2⟩
theorem TR (hi:1≤i) (h:(i:Int)≤(j:Int)∧¬dd[j]! <dd[a]!):Xl dd a i j=Xl dd a i (j-1):=Mk hi (by omega) (by unfold ltInt;simpa using h.2)
theorem NE (h:¬((i:Int)≤(j:Int)∧¬dd[j]! <dd[a]!)):Xl dd a i j=j:=LQ fun q=>h ⟨by omega,by have:=q.2;unfold ltInt at this;simpa using this⟩
theorem AAA {J:Int} (h:(i:Int)≤J∧¬dd[a]! <dd[i]!) (hJ:J=(j:Int)):ZU dd a j i=ZU dd a j (i+1):=P7 (by omega) (by unfold ltInt;simpa using h.2)
theorem upE_end {J:Int} (h:¬((i:Int)≤J∧¬dd[a]! <dd[i]!)) (hJ:J=(j:Int)):ZU dd a j i=i:=N9 fun q=>h ⟨by omega,by have:=q.2;unfold ltInt at this;simpa using this⟩
theorem AAB (hi:1≤i) (h:(i:Int)≤(j:Int)∧dd[a]! <dd[j]!):Z9 dd a i j=Z9 dd a i (j-1):=Mk hi (by omega) (decide_eq_true h.2)
theorem XH (h:¬((i:Int)≤(j:Int)∧dd[a]! <dd[j]!)):Z9 dd a i j=j:=LQ fun q=>h ⟨by omega,of_decide_eq_true q.2⟩
theorem P8 (hu:U0 dd a j0 i=U0 dd a j0 i0) (hue:U0 dd a j0 i=i) (hv:Xl dd a i j=Xl dd a i j0) (hve:Xl dd a i j=j) (h:j<i):partLoop ltInt a i0 j0 dd=(j,dd):=by
 have e1:scanUp (fun x=>ltInt x dd[a]!) dd j0 i0=i:=by rw [←hue,hu];rfl
 have e2:scanDown (fun x=> !ltInt x dd[a]!) dd i j0=j:=by rw [←hve,hv];rfl
 rw [partLoop_eq,e1,e2,if_pos h]
theorem TS (hu:U0 dd a j0 i=U0 dd a j0 i0) (hue:U0 dd a j0 i=i) (hv:Xl dd a i j=Xl dd a i j0) (hve:Xl dd a i j=j) (h:¬j<i):partLoop ltInt a i0 j0 dd=partLoop ltInt a (i+1) (j-1) (swp dd i j):=by
 have e1:scanUp (fun x=>ltInt x dd[a]!) dd j0 i0=i:=by rw [←hue,hu];rfl
 have e2:scanDown (fun x=> !ltInt x dd[a]!) dd i j0=j:=by rw [←hve,hv];rfl
 rw [partLoop_eq,e1,e2,if_neg h]
theorem Xm (hu:ZU dd a j0 i=ZU dd a j0 i0) (hue:ZU dd a j0 i=i) (hv:Z9 dd a i j=Z9 dd a i j0) (hve:Z9 dd a i j=j) (h:j<i):partEqLoop ltInt a i0 j0 dd=(i,dd):=by
 have e1:scanUp (fun x=> !ltInt dd[a]! x) dd j0 i0=i:=by rw [←hue,hu];rfl
 have e2:scanDown (fun x=>ltInt dd[a]! x) dd i j0=j:=by rw [←hve,hv];rfl
 rw [partEqLoop_eq,e1,e2,if_pos h]
theorem AAC (hu:ZU dd a j0 i=ZU dd a j0 i0) (hue:ZU dd a j0 i=i) (hv:Z9 dd a i j=Z9 dd a i j0) (hve:Z9 dd a i j=j) (h:¬j<i):partEqLoop ltInt a i0 j0 dd=partEqLoop ltInt a (i+1) (j-1) (swp dd i j):=by
 have e1:scanUp (fun x=> !ltInt dd[a]! x) dd j0 i0=i:=by rw [←hue,hu];rfl
 have e2:scanDown (fun x=>ltInt dd[a]! x) dd i j0=j:=by rw [←hve,hv];rfl
 rw [partEqLoop_eq,e1,e2,if_neg h]
theorem TT (h:partLoop ltInt a (a+1) (z-1) (swp d a p)=(j,dd)):∃q,partition ltInt d a z p=(j,q,swp dd j a):=by
 have h1:=partition_fst ltInt d a z p;have h2:=partition_arr ltInt d a z p;rw [h] at h1 h2;exact ⟨(partition ltInt d a z p).2.1,Prod.ext h1 (Prod.ext rfl h2)⟩
theorem Xn (h:partEqLoop ltInt a (a+1) (z-1) (swp d a p)=(i,dd)):partitionEqual ltInt d a z p=(i,dd):=h
theorem ijL {J:Int} {c:Int} (h1:¬((i:Int)≤J∧dd[i]! <c)) (hJ:(j:Int)≤J) (h2:¬((i:Int)≤(j:Int)∧¬dd[j]! <c)) (h:¬(j:Int)<(i:Int)):i<j:=by
 by_cases e:i=j
 ·subst e;exact absurd (Decidable.not_not.1 fun q=>h2 ⟨by omega,q⟩) fun q=>h1 ⟨hJ,q⟩
 ·omega
theorem ijE {J:Int} {c:Int} (h1:¬((i:Int)≤J∧¬c<dd[i]!)) (hJ:(j:Int)≤J) (h2:¬((i:Int)≤(j:Int)∧c<dd[j]!)) (h:¬(j:Int)<(i:Int)):i<j:=by
 by_cases e:i=j
 ·subst e;exact absurd (show¬c<dd[i]! from fun q=>h2 ⟨by omega,q⟩) fun q=>h1 ⟨hJ,q⟩
 ·omega
variable {de df:Array Int} {s i2:Nat} {J:Int}
theorem U1 (h:(i:Int)<(z:Int)∧¬dd[i]! <dd[((i:Int)-1).toNat]!):scanSorted ltInt dd z i=scanSorted ltInt dd z (i+1):=by
 rw [show ((i:Int)-1).toNat=i-1 by omega] at h
 conv=>lhs;unfold scanSorted
 rw [if_pos (by unfold ltInt;simp only [Bool.and_eq_true,decide_eq_true_eq,Bool.not_eq_true',decide_eq_false_iff_not];exact ⟨by omega,h.2⟩)]
theorem H7 (h:¬((i:Int)<(z:Int)∧¬dd[i]! <dd[((i:Int)-1).toNat]!)):scanSorted ltInt dd z i=i:=by
 rw [show ((i:Int)-1).toNat=i-1 by omega] at h;unfold scanSorted;rw [if_neg (by unfold ltInt;simp only [Bool.and_eq_true,decide_eq_true_eq,Bool.not_eq_true',decide_eq_false_iff_not];exact fun q=>h ⟨by omega,q.2⟩)]
theorem R2 (hj:1≤j) (h:dd[j]! <dd[((j:Int)-1).toNat]!):shiftDown ltInt j dd=shiftDown ltInt (j-1) ((dd.setIfInBounds j dd[((j:Int)-1).toNat]!).setIfInBounds ((j:Int)-1).toNat dd[j]!):=by
 obtain ⟨q,rfl⟩:∃q,j=q+1:=⟨j-1,by omega⟩;rw [show (((q+1:Nat):Int)-1).toNat=q by omega] at h ⊢
 conv=>lhs;unfold shiftDown
 rw [if_neg (by unfold ltInt;simpa using h)];rfl
theorem Ml (h:¬(1:Int)≤(j:Int)∨¬dd[j]! <dd[((j:Int)-1).toNat]!):shiftDown ltInt j dd=dd:=by
 cases j with
 | zero=>rfl
 | succ q=>
  rw [show (((q+1:Nat):Int)-1).toNat=q by omega] at h;unfold shiftDown;rw [if_pos (by unfold ltInt;simp only [Bool.not_eq_true',decide_eq_false_iff_not];rcases h with h | h;omega;exact h)]
theorem R3 (hj:(j:Int)<(z:Int)) (h1:1≤j) (h:dd[j]! <dd[((j:Int)-1).toNat]!):shiftUp ltInt z j dd=shiftUp ltInt z (j+1) ((dd.setIfInBounds j dd[((j:Int)-1).toNat]!).setIfInBounds ((j:Int)-1).toNat dd[j]!):=by
 rw [show ((j:Int)-1).toNat=j-1 by omega] at h ⊢
 conv=>lhs;unfold shiftUp
 rw [if_pos (by omega),if_neg (by unfold ltInt;simpa using h)];rfl
theorem Mm (h:¬(j:Int)<(z:Int)∨¬dd[j]! <dd[((j:Int)-1).toNat]!):shiftUp ltInt z j dd=dd:=by
 by_cases hj:j<z
 ·rw [show ((j:Int)-1).toNat=j-1 by omega] at h;unfold shiftUp;rw [if_pos hj,if_pos (by unfold ltInt;simp only [Bool.not_eq_true',decide_eq_false_iff_not];rcases h with h | h;omega;exact h)]
 ·unfold shiftUp;rw [if_neg hj]
theorem Xo (he:scanSorted ltInt dd z i=i2) (h:i2=z):partialIns ltInt a z (s+1) i dd=(dd,true):=by
 rw [partialIns_succ,he,if_pos h]
theorem U2 (he:scanSorted ltInt dd z i=i2) (h:¬i2=z) (h2:z-a<50):partialIns ltInt a z (s+1) i dd=(dd,false):=by
 rw [partialIns_succ,he,if_neg h,if_pos h2]
theorem MD (he:scanSorted ltInt dd z i=i2) (h:¬i2=z) (h2:¬z-a<50) (hd:de=if i2-a≥2 then shiftDown ltInt (i2-1) (swp dd i2 (i2-1)) else swp dd i2 (i2-1)) (hf:df=if z-i2≥2 then shiftUp ltInt z (i2+1) de else de) :
  partialIns ltInt a z (s+1) i dd=partialIns ltInt a z s i2 df:=by
 rw [partialIns_succ,he,if_neg h,if_neg h2,hf,hd];rfl
end
section
variable {P:Program} {E:GY P} {σ:Nat→Value} {ds:List Deferred} {h:GH} {T:(Nat→Value)→List Deferred→GH→Prop} {dst:Option Nat} {ty:TypeId} {pos:String} {af:Array Edge} {gd:Option (Nat×Bool)} {xt yt:TypeId} {x y:Operand} {a b:Int}
def J2 (a b:Int):Int:=IntKind.u64.wrap ((BitVec.ofInt 64 a ^^^ BitVec.ofInt 64 b).toNat)
def LR (a b:Int):Int:=IntKind.u64.wrap ((BitVec.ofInt 64 a &&& BitVec.ofInt 64 b).toNat)
def ET (a b:Int):Int:=IntKind.u64.wrap (a*2 ^ (min b.toNat IntKind.u64.bits))
theorem R4 (hx:AU σ x=.int .u64 a) (hy:AU σ y=.int .u64 b) (k:T (putS σ dst (.int .u64 (J2 a b))) ds h):Be E ⟨dst,.binOp .xor xt x y yt,ty,pos,af,gd⟩ σ ds h T:=FJ hx hy rfl k
theorem ok_andU (hx:AU σ x=.int .u64 a) (hy:AU σ y=.int .u64 b) (k:T (putS σ dst (.int .u64 (LR a b))) ds h):Be E ⟨dst,.binOp .and xt x y yt,ty,pos,af,gd⟩ σ ds h T:=FJ hx hy rfl k
theorem R5 {ke:IntKind} (hx:AU σ x=.int .u64 a) (hy:AU σ y=.int ke b) (h0:0≤b) (k:T (putS σ dst (.int .u64 (ET a b))) ds h):Be E ⟨dst,.binOp .shl xt x y yt,ty,pos,af,gd⟩ σ ds h T:=Uh hx hy h0 rfl k
theorem ok_subU (hx:AU σ x=.int .u64 a) (hy:AU σ y=.int .u64 b) (hr:0≤a-b∧a-b≤18446744073709551615) (k:T (putS σ dst (.int .u64 (a-b))) ds h):Be E ⟨dst,.binOp .sub xt x y yt,ty,pos,af,gd⟩ σ ds h T:=FJ hx hy (by
 show (pure (Value.int .u64 (IntKind.u64.wrap (a-b))):Sem Value)=_;rw [IntWalk.u64_in _ (by omega)]) k
theorem U3 (hb:0≤b∧b≤9223372036854775807):0≤LR a b∧LR a b≤b:=by
 unfold LR;obtain ⟨n,rfl⟩:=Int.eq_ofNat_of_zero_le hb.1;have e1:(BitVec.ofInt 64 (n:Int)).toNat=n:=by rw [BitVec.toNat_ofInt];omega
 have e2:(BitVec.ofInt 64 a &&& BitVec.ofInt 64 (n:Int)).toNat≤n:=by rw [BitVec.toNat_and,e1];exact Nat.and_le_right
 rw [IntWalk.u64_in _ (by omega)];omega
theorem AAD {k:Nat} (h:k≤60):ET 1 (k:Int)=2 ^ k:=by
 unfold ET
 have:min ((k:Int)).toNat IntKind.u64.bits=k:=by show min ((k:Int)).toNat 64=k;omega
 rw [this,Int.one_mul];have h1:(2:Int) ^ k≤2 ^ 60:=by
  have:=Nat.pow_le_pow_right (show 0<2 by decide) h
  exact_mod_cast this
 have h2:(0:Int)≤2 ^ k:=by
  have:=Nat.zero_le (2 ^ k)
  exact_mod_cast this
 rw [IntWalk.u64_in _ (by have:(2:Int) ^ 60=1152921504606846976:=rfl;omega)]
def tabOK (s:ByteArray):Bool:=s.size==256 && (List.range 256).all fun i=>(s.get! i).toNat==bitsLen i
theorem FY {t:TypeId} {x ix:Operand} {s:ByteArray} {kd:IntKind} {i:Int} (ht:NX P t=true) (hx:AU σ x=.string s) (hi:AU σ ix=.int kd i) (h0:0≤i) (h1:i<((256:Nat):Int)) (hs:tabOK s=true)
  (k:T (putS σ dst (.int .u8 (bitsLen i.toNat:Int))) ds h):Be E ⟨dst,.index t x ix,ty,pos,af,gd⟩ σ ds h T:=by
 unfold tabOK at hs;rw [Bool.and_eq_true,List.all_eq_true] at hs;have hz:s.size=256:=by simpa using hs.1
 have e:=hs.2 i.toNat (List.mem_range.2 (by omega));refine Pv ht hx hi h0 (by omega) ?_;have e2:(s[i.toNat]'(by omega)).toNat=bitsLen i.toNat:=by
  rw [←(show (s.get! i.toNat).toNat=bitsLen i.toNat by simpa using e)];have hlt:i.toNat<s.size:=by omega
  congr 1;show s.data[i.toNat]=s.data[i.toNat]!;rw [getElem!_pos s.data i.toNat hlt]
 rw [e2];exact k
theorem Mn {n k:Nat} (h:2 ^ k≤n):bitsLen n=k+bitsLen (n / 2 ^ k):=by
 have hp:0<2 ^ k:=Nat.two_pow_pos k;have h1:∀j,bitsLen n≤j↔k+bitsLen (n / 2 ^ k)≤j:=fun j=>by
  rw [bitsLen_le_iff];constructor
  ·intro q;have hkj:k<j:=(Nat.pow_lt_pow_iff_right (by decide:1<2)).1 (Nat.lt_of_le_of_lt h q)
   have:=(bitsLen_le_iff (n / 2 ^ k) (j-k)).2 ((Nat.div_lt_iff_lt_mul hp).2 (by rw [←Nat.pow_add,show j-k+k=j by omega];exact q))
   omega
  ·intro q;have h2:=(bitsLen_le_iff (n / 2 ^ k) (j-k)).1 (by omega);have h3:=(Nat.div_lt_iff_lt_mul hp).1 h2;rw [←Nat.pow_add,show j-k+k=j by omega] at h3;exact h3
 have a1:=(h1 (bitsLen n)).1 (Nat.le_refl _);have a2:=(h1 (k+bitsLen (n / 2 ^ k))).2 (Nat.le_refl _);omega
theorem TU {n:Int} (h:65536≤n):(bitsLen n.toNat:Int)=16+bitsLen (n / 65536).toNat:=by
 rw [Mn (n:=n.toNat) (k:=16) (by omega),show (n / 65536).toNat=n.toNat / 2 ^ 16 by omega];omega
theorem UX {n:Int} (h:256≤n):(bitsLen n.toNat:Int)=8+bitsLen (n / 256).toNat:=by
 rw [Mn (n:=n.toNat) (k:=8) (by omega),show (n / 256).toNat=n.toNat / 2 ^ 8 by omega];omega
theorem D1 {n:Nat} (h:n<4294967296):bitsLen n≤32:=(bitsLen_le_iff n 32).2 h
end
section
variable {d dd D D' R:Array Int} {a z a0 z0 p mid:Nat} {ap:Bool}
def Fh (a0 z0:Nat) (d:Array Int) (a z:Nat) (dd:Array Int):Prop:=a≤z∧z≤dd.size∧dd.size=d.size∧Below ltInt a z dd∧∀R,PermIn a z dd R→SortedIn ltInt a z R→PermIn a0 z0 d R∧SortedIn ltInt a0 z0 R
theorem Fh.start (h:a≤z) (hz:z≤d.size) (hB:Below ltInt a z d):Fh a z d a z d:=⟨h,hz,rfl,hB,fun _ x y=>⟨x,y⟩⟩
theorem Fh.perm (r:Fh a0 z0 d a z dd) (x:PermIn a z dd D):Fh a0 z0 d a z D:=
 ⟨r.1,by rw [x.1];exact r.2.1,x.1.trans r.2.2.1,r.2.2.2.1.perm r.2.1 x,fun R y s=>r.2.2.2.2 R (permIn_trans _ _ _ a z x y) s⟩
theorem Fh.done (r:Fh a0 z0 d a z dd) (x:PermIn a z dd D) (s:SortedIn ltInt a z D):PermIn a0 z0 d D∧SortedIn ltInt a0 z0 D:=r.2.2.2.2 D x s
theorem Fh.ins (r:Fh a0 z0 d a z dd):PermIn a0 z0 d (insertionSort ltInt dd a z)∧SortedIn ltInt a0 z0 (insertionSort ltInt dd a z):=
 let x:=insertionSort_holds (lt:=ltInt) MB dd a z r.1 r.2.1
 r.done x.1 x.2
theorem Fh.heap (r:Fh a0 z0 d a z dd):PermIn a0 z0 d (heapSort ltInt dd a z)∧SortedIn ltInt a0 z0 (heapSort ltInt dd a z):=
 let x:=heapSort_holds (lt:=ltInt) MB dd a z r.1 r.2.1
 r.done x.1 x.2
theorem Fh.pins (r:Fh a0 z0 d a z dd) (h:a<z) {fl:Bool} (e:partialInsertionSort ltInt dd a z=(D,fl)):Fh a0 z0 d a z D∧(fl=true→PermIn a0 z0 d D∧SortedIn ltInt a0 z0 D):=by
 have x:=partialInsertionSort_holds (lt:=ltInt) MB dd a z h r.2.1 r.2.2.2.1;rw [e] at x;exact ⟨r.perm x.1,fun q=>r.done x.1 (x.2 q)⟩
theorem Fh.eq (r:Fh a0 z0 d a z dd) (h0:0<a) (hp:a≤p∧p<z) (hl:¬dd[a-1]! <dd[p]!) (e:partitionEqual ltInt dd a z p=(mid,D)):a<mid∧mid≤z∧Fh a0 z0 d mid z D:=by
 obtain ⟨h1,h2,h3,h4,h5⟩:=round_eq MB (partitionEqual_holds ltInt) h0 hp.1 hp.2 r.2.1 r.2.2.2.1 (decide_eq_false hl) e;exact ⟨h1,h2,h2,by rw [h3];exact r.2.1,h3.trans r.2.2.1,h4,fun R x s=>let y:=h5 R x s;r.2.2.2.2 R y.1 y.2⟩
theorem Fh.eq' (r:Fh a0 z0 d a z dd) (h0:0<a) (hp:a≤p∧p<z) (hl:¬dd[((a:Int)-1).toNat]! <dd[p]!) (e:partitionEqual ltInt dd a z p=(mid,D)):a<mid∧mid≤z∧Fh a0 z0 d mid z D:=
 r.eq h0 hp (by rw [show ((a:Int)-1).toNat=a-1 by omega] at hl;exact hl) e
theorem Fh.part (r:Fh a0 z0 d a z dd) (hp:a≤p∧p<z) (e:∃q,partition ltInt dd a z p=(mid,q,D)):a≤mid∧mid<z∧D.size=d.size∧z≤D.size∧Below ltInt a mid D∧Below ltInt (mid+1) z D∧
  (∀L,PermIn a mid D L→SortedIn ltInt a mid L→Fh a0 z0 d (mid+1) z L)∧(∀L,PermIn (mid+1) z D L→SortedIn ltInt (mid+1) z L→Fh a0 z0 d a mid L):=by
 obtain ⟨q,e⟩:=e;obtain ⟨h1,h2,h3,h4,h5,h6,h7⟩:=round_part MB (partition_holds ltInt) hp.1 hp.2 r.2.1 r.2.2.2.1 e;have hz:=r.2.1;refine ⟨h1,h2,h3.trans r.2.2.1,by omega,h4,h5,fun L x s=>?_,fun L x s=>?_⟩
 ·obtain ⟨y1,y2⟩:=h6 L x s
  have:=x.1
  exact ⟨by omega,by omega,by rw [x.1,h3];exact r.2.2.1,y1,fun R x2 s2=>let y:=y2 R x2 s2;r.2.2.2.2 R y.1 y.2⟩
 ·obtain ⟨y1,y2⟩:=h7 L x s
  have:=x.1
  exact ⟨h1,by omega,by rw [x.1,h3];exact r.2.2.1,y1,fun R x2 s2=>let y:=y2 R x2 s2;r.2.2.2.2 R y.1 y.2⟩
theorem U4 {D:Array Int} {xs:List Int} (x:PermIn 0 xs.length xs.toArray D) (s:SortedIn ltInt 0 xs.length D):D=(JK xs).toArray:=by
 have y:=sorted_unique_holds (lt:=ltInt) MB (fun x y h1 h2=>by simp only [ltInt,decide_eq_false_iff_not] at h1 h2;omega) xs.toArray D (by simpa using x) (by simpa using s);rw [JL];apply Array.toList_inj.1;rw [y];congr 1;funext a b;unfold ltInt;simp only [Bool.not_eq_eq_eq_not];by_cases h:a≤b
 ·simp [h]
 ·simp [h];omega
theorem TV {D d:Array Int} (x:PermIn 0 d.size d D∧SortedIn ltInt 0 d.size D):D=(JK d.toList).toArray:=
 U4 (xs:=d.toList) (by simpa using x.1) (by simpa using x.2)
end
end Go.Ns
namespace Go.Ns
open Go.Conc
theorem Iq {ag:AV→Bool} {ms:List AB} {mo:Int} (hf:∀k,0≤(ms.getD k AB.z).low∧(ms.getD k AB.z).high≤99):∀f i p,Bl p→∀q ∈ Aw ag ms mo f i p,Bl q
 | 0,_,p,hp,q,hq=>by
  unfold Aw at hq;split at hq
  ·rw [List.mem_singleton] at hq;subst hq;exact hp
  ·cases hq
 | f+1,i,p,hp,q,hq=>by
  rw [Cn,List.mem_flatMap] at hq;obtain ⟨n,hn,hq⟩:=hq;rw [FV] at hn
  have:=hf i
  unfold Bh at hq;rw [List.mem_append] at hq;rcases hq with hq | hq
  ·exact Iq hf f (i+1) _ (hp.setMove (by omega)) q hq
  ·split at hq
   ·exact Iq hf f (i+1) _ (hp.setMove (by omega)) q hq
   ·cases hq
theorem LS {ag:AV→Bool} {gs:List Good} {ms:List AB} {mo:Int} (hg:∀k,0≤(gs.getD k Good.z).low∧(gs.getD k Good.z).high≤99) (hf:∀k,0≤(ms.getD k AB.z).low∧(ms.getD k AB.z).high≤99) :
  ∀f i p,Bl p→∀q ∈ BP ag gs ms mo f i p,Bl q
 | 0,_,p,hp,q,hq=>Iq hf _ _ p hp q hq
 | f+1,i,p,hp,q,hq=>by
  rw [DV,List.mem_flatMap] at hq;obtain ⟨n,hn,hq⟩:=hq;rw [FV] at hn
  have:=hg i
  exact LS hg hf f (i+1) _ (hp.setFirst (by omega)) q hq
theorem E9 {d m:Int} {gs:List Good} {ms:List AB} {cs:List AF} (b:Az d m gs ms cs) (mo:Int):∀k,Bl ((AR d gs ms cs mo).getD k AV.zero):=fun k=>by
 by_cases h:k<(AR d gs ms cs mo).length
 ·exact LS (fun j=>⟨(b.gfew j).1,(b.gfew j).2.2.1⟩) (fun j=>⟨(b.few j).1,(b.few j).2.2.1⟩) _ _ _ Bl.zero _ (CR h)
 ·rw [CB (by omega)];exact Bl.zero
def CK (n:Nat) (f:Nat→Int):List Int:=DW (JK ((List.range n).map f))
theorem Ir {n:Nat} {f:Nat→Int} (h:0<n):(List.range n).map f≠[]:=by
 intro e
 have:=congrArg List.length e
 simp at this;omega
section
variable (d m:Int) (gs:List Good) (ms:List AB) (cs:List AF)
def H8 (g dy:Int):Int:=AW d m gs ms cs [if (decide (0≤g∧g≤(gs.length:Int)-1)) then (0:Int) else 6,if (decide (0≤dy∧dy≤d)) then (0:Int) else 1]
def P9 (g dy:Int):List Int:=if H8 d m gs ms cs g dy=0 then CK (AR d gs ms cs m).length (fun (i:Nat)=>(AP ms ((AR d gs ms cs m).getD ((i:Int)).toNat AV.zero) g dy).1) else []
def FZ (mv:Int):Int:=AW d m gs ms cs [if (decide (0≤mv∧mv≤(ms.length:Int)-1)) then (0:Int) else 6]
def H9 (mv:Int):List Int:=if FZ d m gs ms cs mv=0 then CK (AR d gs ms cs m).length (fun (i:Nat)=>CQ ((AR d gs ms cs m).getD ((i:Int)).toNat AV.zero) (mv).toNat) else []
def Do (mv:Int):Int:=AW d m gs ms cs [if (decide ((0≤mv∧mv≤(ms.length:Int)-1)∧(ms.getD (mv).toNat AB.z).kind=0)) then (0:Int) else 6]
def Is (ps:List AV) (i:Nat):Nat:=(ps.filter fun p=>p.lies i).length
def OA (n l:Nat):Int:=if n=0 then 2 else if n=l then 1 else 0
def Fz (mv:Int):Int:=if Do d m gs ms cs mv=0 then OA (Is (AR d gs ms cs m) (mv).toNat) (AR d gs ms cs m).length else 0
end
theorem KB {p:Prop} [Decidable p] {c:Int} (hc:c≠0) {o:List Int} (h:∀k,k<(((if decide p then (0:Int) else c) ::o)).length→(((if decide p then (0:Int) else c) ::o)).getD k 0=0):p:=by
 have:=h 0 (by simp)
 by_cases hp:p
 ·exact hp
 ·simp [hp] at this;exact absurd this hc
theorem JM {x:Int} {o:List Int} (h:∀k,k<(x ::o).length→(x ::o).getD k 0=0):∀k,k<o.length→o.getD k 0=0:=fun k hk=>by
 have:=h (k+1) (by simp;omega)
 simpa using this
theorem AAE {p q:Prop} [Decidable p] [Decidable q] {c e:Int} (hc:c≠0) (he:e≠0) {o:List Int} (h:∀k,k<(((if decide p then (0:Int) else c) ::(if decide q then (0:Int) else e) ::o)).length→(((if decide p then (0:Int) else c) ::(if decide q then (0:Int) else e) ::o)).getD k 0=0):p∧q:=
 ⟨KB hc h,KB he (JM h)⟩
theorem own_3 {p q r:Prop} [Decidable p] [Decidable q] [Decidable r] {c e f:Int} (hc:c≠0) (he:e≠0) (hf:f≠0) {o:List Int} (h:∀k,k<(((if decide p then (0:Int) else c) ::(if decide q then (0:Int) else e) ::(if decide r then (0:Int) else f) ::o)).length→(((if decide p then (0:Int) else c) ::(if decide q then (0:Int) else e) ::(if decide r then (0:Int) else f) ::o)).getD k 0=0):p∧q∧r:=
 ⟨KB hc h,AAE he hf (JM h)⟩
theorem HE {α:Type} {l:List α} {k:Nat} (z:α) (h:k<l.length):l.take (k+1)=l.take k++[l.getD k z]:=by
 rw [List.take_add_one,List.getElem?_eq_getElem h,List.getD_eq_getElem?_getD,List.getElem?_eq_getElem h];rfl
theorem lies_t {ps:List AV} {k q i:Nat} (hk:k<ps.length) (h:q=Is (ps.take k) i) (e:(ps.getD k AV.zero).lies i=true):q+1=Is (ps.take (k+1)) i:=by
 unfold Is at *;rw [HE AV.zero hk,List.filter_append,List.length_append,←h,List.filter_cons,if_pos e];rfl
theorem lies_f {ps:List AV} {k q i:Nat} (hk:k<ps.length) (h:q=Is (ps.take k) i) (e:(ps.getD k AV.zero).lies i=false):q=Is (ps.take (k+1)) i:=by
 unfold Is at *;rw [HE AV.zero hk,List.filter_append,List.length_append,←h,List.filter_cons,if_neg (by rw [e];decide)];rfl
theorem PX {d m:Int} {gs:List Good} {ms:List AB} {cs:List AF} {mv:Int} (h:¬Do d m gs ms cs mv=0):Fz d m gs ms cs mv=0:=by unfold Fz;rw [if_neg h]
theorem It {d m:Int} {gs:List Good} {ms:List AB} {cs:List AF} {mv:Int} {k q:Nat} (h:Do d m gs ms cs mv=0) (hq:q=Is ((AR d gs ms cs m).take k) (mv).toNat) (hk:(AR d gs ms cs m).length≤k):Fz d m gs ms cs mv=OA q (AR d gs ms cs m).length:=by
 unfold Fz;rw [if_pos h,hq,List.take_of_length_le hk]
theorem JN {ms:List AB} {p:AV} {g dy:Int} (hp:Bl p):∀(f k:Nat) (n low B:Int),-B≤n∧n≤B→-(B+99*(f:Int))≤(Cm ms p g dy f k n low).1∧(Cm ms p g dy f k n low).1≤B+99*(f:Int)
 | 0,k,n,low,B,h=>by unfold Cm;simpa using h
 | f+1,k,n,low,B,h=>by
  unfold Cm;split
  ·show-(B+99*((f+1:Nat):Int))≤n∧n≤B+99*((f+1:Nat):Int);omega
  ·have:=JN (ms:=ms) (g:=g) (dy:=dy) hp f (k+1) (GK ms p g k n) (Fg ms k low (GK ms p g k n)) (B+99) (by
    unfold GK
    have:=LL (k:=(ms.getD k AB.z).kind.toNat) (Gi hp k)
    split <;> omega)
   omega
theorem Hs {ms:List AB} {p:AV} {g dy:Int} (hp:Bl p) (hm:ms.length≤6): -693≤(AP ms p g dy).1∧(AP ms p g dy).1≤693:=by
 have h0:=hp.1 g.toNat
 have:=JN (ms:=ms) (g:=g) (dy:=dy) hp ms.length 0 (p.first g.toNat) (p.first g.toNat) 99 (by omega)
 unfold AP;omega
theorem I7 {x:Int}:∀(l acc:List Int),x ∈ l.foldl GZ acc→x ∈ acc∨x ∈ l
 | [],acc,h=>.inl h
 | y ::l,acc,h=>by
  rcases I7 l _ h with h | h
  ·unfold GZ at h;split at h
   ·exact .inl h
   ·rcases List.mem_append.1 h with h | h
    ·exact .inl h
    ·rw [List.mem_singleton] at h;exact .inr (by rw [h];exact List.mem_cons_self ..)
  ·exact .inr (List.mem_cons_of_mem _ h)
theorem JO:∀(l acc:List Int),acc≠[]∨l≠[]→l.foldl GZ acc≠[]
 | [],acc,h=>by
  rcases h with h | h
  ·exact h
  ·exact absurd rfl h
 | y ::l,acc,h=>JO l _ (.inl fun e=>by
   have:=N8 acc y
   rw [e] at this;cases this)
theorem IA {n:Nat} (f:Nat→Int) (h:0<n):0<(CK n f).length:=by
 have:CK n f≠[]:=JO _ _ (.inr (TO (Ir h)))
 exact List.length_pos_iff.2 this
theorem Jm {n:Nat} {f:Nat→Int} {x:Int} (h:x ∈ CK n f):∃i,i<n∧f i=x:=by
 rcases I7 _ _ h with h | h
 ·cases h
 ·rw [JL] at h
  have:=List.mem_mergeSort.1 h
  obtain ⟨i,hi,e⟩:=List.mem_map.1 this;exact ⟨i,List.mem_range.1 hi,e⟩
def BB (l:List Int):Int:=l.getD 0 0
def B5 (l:List Int):Int:=l.getD ((l.length:Int)-1).toNat 0
theorem U5 {n:Nat} {f:Nat→Int} {A B:Int} (h:∀i,A≤f i∧f i≤B) (hn:0<n):(A≤BB (CK n f)∧BB (CK n f)≤B)∧A≤B5 (CK n f)∧B5 (CK n f)≤B:=by
 have hp:=IA f hn;have q:∀k,k<(CK n f).length→A≤(CK n f).getD k 0∧(CK n f).getD k 0≤B:=fun k hk=>by
  obtain ⟨i,_,e⟩:=Jm (CR (d:=0) hk);rw [←e];exact h i
 exact ⟨q 0 hp,q _ (by omega)⟩
def CO (ms:List AB) (p:AV) (g a b:Int):Nat→Int
 | 0=>0
 | k+1=>CO ms p g a b k+(if ((ms.getD k AB.z).kind=2∧(ms.getD k AB.z).good=g)∧a≤(ms.getD k AB.z).day∧(ms.getD k AB.z).day≤b then CQ p k else 0)
theorem LT {ms:List AB} {p:AV} {g a b:Int} (hp:Bl p):∀k:Nat,0≤CO ms p g a b k∧CO ms p g a b k≤99*(k:Int)
 | 0=>by unfold CO;omega
 | k+1=>by
  have:=LT (ms:=ms) (g:=g) (a:=a) (b:=b) hp k
  have:=Gi hp k
  unfold CO;split <;> omega
def CH (gs:List Good) (ms:List AB) (p:AV) (dy:Int):Nat→Int
 | 0=>0
 | k+1=>CH gs ms p dy k+(gs.getD k Good.z).cost*(AP ms p (k:Int) dy).1
theorem Es {a b A B:Int} (ha:0≤a∧a≤A) (hb: -B≤b∧b≤B): -(A*B)≤a*b∧a*b≤A*B:=by
 have hB:0≤B:=by omega
 have e1:a*B≤A*B:=Int.mul_le_mul_of_nonneg_right ha.2 hB;have e2:a*b≤a*B:=Int.mul_le_mul_of_nonneg_left hb.2 ha.1;have e3:a*(-B)≤a*b:=Int.mul_le_mul_of_nonneg_left hb.1 ha.1;rw [Int.mul_neg] at e3;omega
theorem KC {gs:List Good} {ms:List AB} {p:AV} {dy:Int} (hp:Bl p) (hm:ms.length≤6) (hc:∀k,0≤(gs.getD k Good.z).cost∧(gs.getD k Good.z).cost≤999):∀k:Nat,-(692307*(k:Int))≤CH gs ms p dy k∧CH gs ms p dy k≤692307*(k:Int)
 | 0=>by unfold CH;omega
 | k+1=>by
  have:=KC (dy:=dy) hp hm hc k
  have:=Es (hc k) (Hs (g:=(k:Int)) (dy:=dy) hp hm)
  unfold CH;omega
theorem Az.costs {d m:Int} {gs:List Good} {ms:List AB} {cs:List AF} (b:Az d m gs ms cs):∀k,0≤(gs.getD k Good.z).cost∧(gs.getD k Good.z).cost≤999:=fun k=>by
 by_cases h:k<gs.length
 ·exact (b.good' h).1
 ·rw [CB (by omega)];decide
section
variable (d m:Int) (gs:List Good) (ms:List AB) (cs:List AF)
def CL (g a b:Int):Int:=AW d m gs ms cs [if (decide (0≤g∧g≤(gs.length:Int)-1)) then (0:Int) else 6,if (decide (1≤a∧a≤d)) then (0:Int) else 1,if (decide (a≤b∧b≤d)) then (0:Int) else 1]
def NF (g a b:Int):List Int:=CK (AR d gs ms cs m).length (fun (i:Nat)=>CO ms ((AR d gs ms cs m).getD ((i:Int)).toNat AV.zero) g a b ms.length)
def HF (g a b:Int):Int:=if CL d m gs ms cs g a b=0 then BB (NF d m gs ms cs g a b) else 0
def HG (g a b:Int):Int:=if CL d m gs ms cs g a b=0 then B5 (NF d m gs ms cs g a b) else 0
def B0 (dy:Int):Int:=AW d m gs ms cs [if (decide (0≤dy∧dy≤d)) then (0:Int) else 1]
def LU (dy:Int):List Int:=CK (AR d gs ms cs m).length (fun (i:Nat)=>CH gs ms ((AR d gs ms cs m).getD ((i:Int)).toNat AV.zero) dy gs.length)
def Fi (dy:Int):Int:=if B0 d m gs ms cs dy=0 then BB (LU d m gs ms cs dy) else 0
def Fj (dy:Int):Int:=if B0 d m gs ms cs dy=0 then B5 (LU d m gs ms cs dy) else 0
end
def Ea (d:Int) (ms:List AB) (ps:List AV) (g:Int):List Int:=CK ps.length (fun (i:Nat)=>(AP ms (ps.getD ((i:Int)).toNat AV.zero) g d).1)
theorem LV {d:Int} {ms:List AB} {ps:List AV} {g:Int} (hp:∀k,Bl (ps.getD k AV.zero)) (hm:ms.length≤6) (hn:0<ps.length):(-693≤BB (Ea d ms ps g)∧BB (Ea d ms ps g)≤693)∧-693≤B5 (Ea d ms ps g)∧B5 (Ea d ms ps g)≤693:=
 U5 (fun _=>Hs (hp _) hm) hn
section
variable (d m:Int) (gs:List Good) (ms:List AB) (cs:List AF)
def B6 (g r:Int):Int:=AW d m gs ms cs [if (decide (0≤g∧g≤(gs.length:Int)-1)) then (0:Int) else 6,if (decide (1≤r∧r≤99)) then (0:Int) else 1]
def GB (g r:Int):Int:=if B6 d m gs ms cs g r=0 then (BB (Ea d ms (AR d gs ms cs m) g)).tdiv r else 0
def GC (g r:Int):Int:=if B6 d m gs ms cs g r=0 then (B5 (Ea d ms (AR d gs ms cs m) g)).tdiv r else 0
end
theorem AT.offKnown {α:Type} {h0 h:GH} {v:Value} {t:TypeId} {n:Nat} {enc:α→Array Value} {xs:List α} {ms:List AB} {ps:List AV} {r:Nat} (x:AT h0 h v t n enc xs) (m:Ah ms ps r h):CA v r:=fun e=>by
 obtain ⟨c',h1⟩:=x.cellsAt r e;exact m.neCells h1 rfl
section
variable (d m:Int) (gs:List Good) (ms:List AB) (cs:List AF)
def CI (ls:List Int) (r:Int):Int:=AW d m gs ms cs [A8 ls (gs.length:Int),if (decide (0≤r∧r≤99)) then (0:Int) else 1]
def Dg (ls:List Int) (r:Int) (k:Nat):Int:=(max 0 ((ls.getD k 0)*r-(BB (Ea d ms (AR d gs ms cs m) (k:Int))))+(gs.getD k Good.z).pack-1) / ((gs.getD k Good.z).pack)
def C1 (ls:List Int) (r:Int):Nat→Int
 | 0=>0
 | k+1=>C1 ls r k+(Dg d m gs ms cs ls r k)*((gs.getD k Good.z).pack)*((gs.getD k Good.z).cost)
def Ke (ls:List Int) (r:Int):List Int:=if CI d m gs ms cs ls r=0 then (List.range gs.length).map (Dg d m gs ms cs ls r) else []
def Cq (ls:List Int) (r:Int):Int:=if CI d m gs ms cs ls r=0 then C1 d m gs ms cs ls r gs.length else 0
end
theorem LW {d m:Int} {gs:List Good} {ms:List AB} {cs:List AF} {ls:List Int} {r:Int} {k:Nat} (hl:0≤ls.getD k 0∧ls.getD k 0≤99) (hr:0≤r∧r≤99) (hp:1≤(gs.getD k Good.z).pack∧(gs.getD k Good.z).pack≤20)
  (hs: -693≤BB (Ea d ms (AR d gs ms cs m) (k:Int))∧BB (Ea d ms (AR d gs ms cs m) (k:Int))≤693):(0≤Dg d m gs ms cs ls r k∧Dg d m gs ms cs ls r k≤10600):=by
 have h1:=Es (a:=ls.getD k 0) (b:=r) (A:=99) (B:=99) hl (by omega);unfold Dg;have h0:0≤max 0 ((ls.getD k 0)*r-(BB (Ea d ms (AR d gs ms cs m) (k:Int))))+(gs.getD k Good.z).pack-1:=by omega
 refine ⟨Int.ediv_nonneg h0 (by omega),Int.le_trans (Int.ediv_le_self _ h0) (by omega)⟩
theorem HH {p a c:Int} (hp:0≤p∧p≤10600) (ha:1≤a∧a≤20) (hc:0≤c∧c≤999):(0≤p*a∧p*a≤212000)∧0≤p*a*c∧p*a*c≤211788000:=by
 have h1:=Es (a:=p) (b:=a) (A:=10600) (B:=20) hp (by omega);have h2:0≤p*a:=Int.mul_nonneg hp.1 (by omega);have h3:=Es (a:=p*a) (b:=c) (A:=212000) (B:=999) (by omega) (by omega);have h4:0≤p*a*c:=Int.mul_nonneg h2 hc.1;omega
theorem Mo {d m:Int} {gs:List Good} {ms:List AB} {cs:List AF} {ls:List Int} {r:Int} {k:Nat} (hp:0≤Dg d m gs ms cs ls r k∧Dg d m gs ms cs ls r k≤10600) (ha:1≤(gs.getD k Good.z).pack∧(gs.getD k Good.z).pack≤20) (hc:0≤(gs.getD k Good.z).cost∧(gs.getD k Good.z).cost≤999)
  (h:0≤C1 d m gs ms cs ls r k∧C1 d m gs ms cs ls r k≤211788000*(k:Int)):0≤C1 d m gs ms cs ls r (k+1)∧C1 d m gs ms cs ls r (k+1)≤211788000*((k+1:Nat):Int):=by
 have:=HH hp ha hc
 unfold C1;omega
theorem AAF {l:List Int} {n:Int} (h:¬(l.length:Int)=n):(Value.int .i64 2)=.int .i64 (A8 l n):=by unfold A8;rw [if_pos h]
theorem AAG {l:List Int} {n:Int} (h:(l.length:Int)=n):(Value.int .i64 (if (!(l.any (fun x=>decide (¬(0≤x∧x≤99))))) then (0:Int) else 1))=.int .i64 (A8 l n):=by
 have e:A8 l n=if l.any (fun x=>decide (¬(0≤x∧x≤99))) then 1 else 0:=by unfold A8;rw [if_neg (fun q=>q h)]
 rw [e];cases l.any (fun x=>decide (¬(0≤x∧x≤99))) <;> rfl
section
variable {P:Program} {E:GY P} {σ:Nat→Value} {ds:List Deferred} {h:GH} {T:(Nat→Value)→List Deferred→GH→Prop}
variable {dst:Option Nat} {ty:TypeId} {pos:String} {af:Array Edge} {gd:Option (Nat×Bool)}
def AAH (P:Program) (s:TypeId) (f:Nat) (cs:Array Value):Option Value:=match P.underlying s with
 | some (.struct fields)=>match fields[f]? with
  | some fl=>H2 P fl.type cs fl.offset
  | none=>none
 | _=>none
theorem QA {t:TypeId} {x:Operand} {f:Nat} {cs:Array Value} {v:Value} (hx:AU σ x=.agg cs) (hp:AAH P t f cs=some v) (k:T (putS σ dst v) ds h):Be E ⟨dst,.field t x f,ty,pos,af,gd⟩ σ ds h T:=by
 refine Zo (v:=v) ?_ k;rw [hx];unfold AAH at hp;unfold Instr.field;cases hu:P.underlying t with
 | none=>rw [hu] at hp;cases hp
 | some d=>
  rw [hu] at hp;cases d <;> first | (cases hp;done) | skip
  rename_i fields
  refine AG _ _ (Ao hu ?_);simp only at hp ⊢;cases hf:fields[f]? with
  | none=>rw [hf] at hp;cases hp
  | some fl=>
   rw [hf] at hp;simp only at hp ⊢;exact H3 hp ⟨rfl,rfl⟩
theorem NG {xt yt:TypeId} {x y:Operand} {a b:Int} (hx:AU σ x=.int .i64 a) (hy:AU σ y=.int .i64 b) (ha: -9223372036854775807≤a) (ha':a≤9223372036854775807) (hb:0<b) (k:T (putS σ dst (.int .i64 (a.tdiv b))) ds h) :
  Be E ⟨dst,.binOp .quo xt x y yt,ty,pos,af,gd⟩ σ ds h T:=FJ hx hy (by
 show (if b=0 then _ else (pure (Value.int .i64 (IntKind.i64.wrap (a.tdiv b))):Sem Value))=_;rw [if_neg (by omega)];have h1:(a.tdiv b).natAbs≤a.natAbs:=by rw [Int.natAbs_tdiv];exact Nat.div_le_self _ _
 rw [IntWalk.i64_in _ (by omega)]) k
end
def FA (hB:GH) (ms:List AB) (pasts:List AV) (r:Nat) (h h':GH):Prop:=Bc (fun b=>b=r) h h'∧(Ah ms pasts r h→Ah ms pasts r h')∧(hB.Le h→hB.Le h')
section
variable {hB h hc h':GH} {ms:List AB} {pasts:List AV} {r:Nat}
theorem FA.refl (h:GH):FA hB ms pasts r h h:=⟨Bc.refl _ _,id,id⟩
theorem FA.trans (a b c:GH) (x:FA hB ms pasts r a b) (y:FA hB ms pasts r b c):FA hB ms pasts r a c:=⟨x.1.trans (fun _ q=>.inl q) y.1,fun z=>y.2.1 (x.2.1 z),fun z=>y.2.2 (x.2.2 z)⟩
theorem FA.ofRes (m:JB hB ms pasts r h h'):FA hB ms pasts r h h':=⟨m.2.1,fun _=>m.1,fun _=>m.2.2⟩
theorem CU.rel (y:CU hB ms pasts r h hc) (m:FA hB ms pasts r hc h'):CU hB ms pasts r h h':=⟨m.2.1 y.ok,y.keep.trans (fun _ q=>.inl q) m.1,m.2.2 y.base⟩
theorem CU.callDel (y:CU hB ms pasts r h hc) (l:hB.Le (hc.del r)) (m:JB (hc.del r) ms pasts r hc h'):CU hB ms pasts r h h':=⟨m.1,y.keep.trans (fun _ q=>.inl q) m.2.1,l.trans m.2.2⟩
end
section
variable {P:Program} {E:GY P} {σ:Nat→Value} {ds:List Deferred} {h hB:GH} {ms:List AB} {pasts:List AV} {r:Nat}
theorem QB {id:Nat} {l:List Oper} {Q:Post} (n:Nat) (cls:List (List Nat)) (Φ:List PK) (hm:P.follows .mixedOrders=true) (ok:Nc E.N l n cls=true) (mono:FM (FA hB ms pasts r) Φ) (x:LG (FA hB ms pasts r) E l n Φ σ ds h Q n 0 l cls) :
  Tr E (.region id l.toArray true) σ ds h Q:=Sz FA.refl FA.trans n cls Φ hm ok mono x
end
theorem D9.leOf {h0 h:GH} (k:D9 (fun b=>h0 b=none) h0 h):h0.Le h:=fun b p o hb=>k.1 b p o hb fun (e:h0 b=none)=>by rw [hb] at e;cases e
theorem AT.offTy {α:Type} {h0 h:GH} {v:Value} {t T:TypeId} {n:Nat} {enc:α→Array Value} {xs:List α} (x:AT h0 h v t n enc xs) {r:Nat} {p:Bool} {c:Array Value} {f:Nat×Nat} (hr:h r=some (p,.cells c T f)) (ne:t≠T):CA v r:=fun e=>by
 obtain ⟨c',h1⟩:=x.cellsAt r e;rw [h1] at hr;simp only [Option.some.injEq,Prod.mk.injEq,Obj.cells.injEq] at hr;exact ne hr.2.2.1
section
variable {P:Program} {E:GY P} {σ:Nat→Value} {ds:List Deferred} {h:GH} {T:(Nat→Value)→List Deferred→GH→Prop}
variable {dst:Option Nat} {ty:TypeId} {pos:String} {af:Array Edge} {gd:Option (Nat×Bool)}
end
section
variable {h h':GH} {q r:Nat} {M:Int→Option Int}
theorem E1.keepNum (x:E1 h q EZ EZ M) (k:Bc (fun b=>b=r) h h') (hq:q≠r):E1 h' q EZ EZ M:=by
 obtain ⟨es,clk,h1,y⟩:=x;obtain ⟨o,h2,h3⟩:=k q _ _ h1 hq;rcases h3 with rfl | ⟨h3,_⟩
 ·exact ⟨es,clk,h2,y⟩
 ·cases h3
end
section
variable {P:Program} {E:GY P} {σ:Nat→Value} {ds:List Deferred} {h:GH} {T:(Nat→Value)→List Deferred→GH→Prop}
variable {dst:Option Nat} {ty:TypeId} {pos:String} {af:Array Edge} {gd:Option (Nat×Bool)}
theorem OB {t kt vt:TypeId} {x ix:Operand} {r d:Nat} {M:Int→Option Int} {a:Int} (ht:J6 P t=some (kt,vt)) (hx:AU σ x=.map (some r)) (hk:AU σ ix=.int .i64 a) (hm:E1 h r EZ EZ M) (hd:Nat.ble (d+1) 10000=true)
  (hc:∀a,Zt P (d+1) kt (EZ a)=true) (he:∀a b,PH P (d+1) kt (EZ a) (EZ b)=some (a==b)) (hz:(P.info? vt).bind (·.zero)=some (.int .i64 0))
  (k:T (putS σ dst (.int .i64 ((M a).getD 0))) ds h):Be E ⟨dst,.lookup t x ix false,ty,pos,af,gd⟩ σ ds h T:=by
 refine Px (ek:=EZ) (ev:=EZ) (a:=a) (z:=.int .i64 0) ht hx hk hm hd (hc _) (fun b=>he a b) hz ?_;cases hM:M a <;> (rw [hM] at k;exact k)
theorem Xp {t kt vt:TypeId} {om ok ox:Operand} {r d:Nat} {M:Int→Option Int} {a n:Int} (ht:J6 P t=some (kt,vt)) (hm':AU σ om=.map (some r)) (hk:AU σ ok=.int .i64 a) (hv:AU σ ox=.int .i64 n) (hm:E1 h r EZ EZ M) (hd:Nat.ble (d+1) 10000=true)
  (hc:∀a,Zt P (d+1) kt (EZ a)=true) (he:∀a b,PH P (d+1) kt (EZ a) (EZ b)=some (a==b)) (hs:∀a,Instr.sameBits 10000 (EZ a) (EZ a)=true)
  (k:∀h',E1 h' r EZ EZ (fun b=>if b=a then some n else M b)→(∀b,b≠r→h' b=h b)→T (putS σ dst undef) ds h'):Be E ⟨dst,.mapUpdate t om ok ox,ty,pos,af,gd⟩ σ ds h T:=
 LH (a:=a) (v:=n) (ek:=EZ) (ev:=EZ) ht hm' hk hv hm hd (hc _) (fun b=>he a b) (hs _) k
end
theorem R6 (a:Int):Instr.sameBits 10000 (EZ a) (EZ a)=true:=by
 show Instr.sameBits (9999+1) (Value.int .i64 a) (Value.int .i64 a)=true;unfold Instr.sameBits;simp
def Fb (f:Nat→Int):Nat→Int→Option Int
 | 0=>fun _=>none
 | k+1=>fun b=>if b=f k then some ((Fb f k (f k)).getD 0+1) else Fb f k b
theorem JP (f:Nat→Int):∀(k:Nat) (b:Int),0≤(Fb f k b).getD 0∧(Fb f k b).getD 0≤(k:Int)
 | 0,b=>by simp [Fb]
 | k+1,b=>by
  have h1:=JP f k b;have h2:=JP f k (f k);unfold Fb;split
  ·show 0≤(Fb f k (f k)).getD 0+1∧(Fb f k (f k)).getD 0+1≤((k+1:Nat):Int);omega
  ·omega
def IB (f:Nat→Int):Nat→Int
 | 0=>0
 | k+1=>max (IB f k) ((Fb f (k+1) (f k)).getD 0)
def EA (w:Nat→Int) (n:Int):Nat→Int×Int
 | 0=>(-1,n)
 | k+1=>if w k<(EA w n k).2 then ((k:Int),w k) else EA w n k
section
variable (d m:Int) (gs:List Good) (ms:List AB) (cs:List AF)
def Jn:Int:=AW d m gs ms cs []
def GW (g:Nat):Int:=IB (fun i=>(AP ms ((AR d gs ms cs m).getD ((i:Int)).toNat AV.zero) (g:Int) d).1) (AR d gs ms cs m).length
def NH:Int:=if Jn d m gs ms cs=0 then (EA (GW d m gs ms cs) ((AR d gs ms cs m).length:Int) gs.length).1 else 0
def LX:Int:=if Jn d m gs ms cs=0 then (EA (GW d m gs ms cs) ((AR d gs ms cs m).length:Int) gs.length).2 else 0
end
end Go.Ns
namespace Go.Ns
open Go.Conc
open Classical in
noncomputable def GH.delS (h:GH) (X:Nat→Prop):GH:=fun b=>if X b then none else h b
section
variable {h h0 h':GH} {X:Nat→Prop}
theorem GH.delS_in {b:Nat} (x:X b):h.delS X b=none:=if_pos x
theorem GH.delS_ne {b:Nat} (x:¬X b):h.delS X b=h b:=if_neg x
theorem GH.delS_le (h:GH) (X:Nat→Prop):(h.delS X).Le h:=fun b p o hb=>by
 by_cases e:X b
 ·rw [GH.delS_in e] at hb;cases hb
 ·rw [GH.delS_ne e] at hb;exact ⟨o,hb,.inl rfl⟩
theorem GH.Le.delS (l:h0.Le h) (hX:∀b,X b→h0 b=none):h0.Le (h.delS X):=fun b p o hb=>by
 have e:¬X b:=fun x=>by rw [hX b x] at hb;cases hb
 rw [GH.delS_ne e];exact l b p o hb
theorem Ab.delS {b off n:Nat} {vs:Array Value} (x:Ab h b off n vs) (e:¬X b):Ab (h.delS X) b off n vs:=x.same (GH.delS_ne e)
theorem AT.slDelS {α:Type} {v:Value} {t:TypeId} {n:Nat} {enc:α→Array Value} {xs:List α} (x:AT h0 h v t n enc xs) (f:∀b,Bw v=some b→¬X b):AJ (h.delS X) v n enc xs:=
 AT.sl (h0:=h0) (x.keep fun b o hb ho=>by rw [GH.delS_ne (f b hb)];exact ho)
theorem AT.rebase {α:Type} {h1:GH} {v:Value} {t:TypeId} {n:Nat} {enc:α→Array Value} {xs:List α} (x:AT h0 h v t n enc xs) (f:∀b,Bw v=some b→h1 b=none):AT h1 h v t n enc xs:=by
 rcases x with x | ⟨b,cap,c,rfl,h2,h3⟩
 ·exact .inl x
 ·exact .inr ⟨b,cap,c,rfl,f b rfl,h3⟩
end
def mkD (d:Nat):Deferred:={ target:=.collected d,args:=#[] }
def HI (h0 h:GH) (ds:List Deferred):Prop:=∃l:List Nat,ds=l.map mkD∧l.Nodup∧∀d ∈ l,h0 d=none∧h d=some (true,.deferred (some []))
theorem HI.nil (h0 h:GH):HI h0 h []:=⟨[],rfl,List.nodup_nil,fun _ hd=>by cases hd⟩
theorem HI.le {h0 h h':GH} {ds:List Deferred} (m:HI h0 h ds) (l:h.Le h'):HI h0 h' ds:=by
 obtain ⟨L,e,n,x⟩:=m;exact ⟨L,e,n,fun d hd=>⟨(x d hd).1,l.keep (x d hd).2 rfl⟩⟩
theorem HI.cons {h0 h h':GH} {ds:List Deferred} {d:Nat} (m:HI h0 h ds) (l:h.Le h') (hn:h d=none) (h0n:h0 d=none) (hd:h' d=some (true,.deferred (some []))):HI h0 h' ({ target:=.collected d,args:=#[] } ::ds):=by
 obtain ⟨L,rfl,n,x⟩:=m;refine ⟨d ::L,rfl,List.nodup_cons.2 ⟨fun hm=>?_,n⟩,fun b hb=>?_⟩
 ·rw [(x d hm).2] at hn;cases hn
 ·rcases List.mem_cons.1 hb with rfl | hb
  ·exact ⟨h0n,hd⟩
  ·exact ⟨(x b hb).1,l.keep (x b hb).2 rfl⟩
def SameM (h h':GH):Prop:=∀b,h b≠some (true,.deferred (some []))→h' b=h b
theorem AJ.sameM {α:Type} {h h':GH} {v:Value} {n:Nat} {enc:α→Array Value} {xs:List α} (x:AJ h v n enc xs) (s:SameM h h'):AJ h' v n enc xs:=by
 obtain ⟨a,cap,hv,hc,hm,he⟩:=x;refine ⟨a,cap,hv,hc,hm,fun i hi=>?_⟩;obtain ⟨b,off,h1,h2⟩:=he i hi;refine ⟨b,off,h1,h2.same (s b fun e=>?_)⟩;obtain ⟨p,c,t,z,q,_⟩:=h2;rw [e] at q;cases q
theorem OC {P:Program} {fn:Func} {σ:Nat→Value} {R:Value→GH→Prop} {h0:GH}:∀{ds:List Deferred} {h:GH},HI h0 h ds→h0.Le h→(∀h',SameM h h'→h0.Le h'→Gc P fn σ R [] h')→Gc P fn σ R ds h:=by
 intro ds h ⟨l,e,n,x⟩ lB k;subst e
 induction l generalizing h with
 | nil=>exact k h (fun _ _=>rfl) lB
 | cons d l ih=>
  have hd:=x d (List.mem_cons_self ..);refine ⟨d,rfl,_,hd.2,rfl,?_⟩;have nd:=List.nodup_cons.1 n;have ho:∀b,b≠d→(h.set d true (.deferred none)) b=h b:=fun b hb=>GH.set_ne _ _ _ hb;refine ih nd.2 (fun b hb=>?_) (lB.upd hd.1 ho) fun h' s l'=>k h' (fun b hb=>?_) l'
  ·have:=x b (List.mem_cons_of_mem _ hb)
   exact ⟨this.1,(ho b fun e=>nd.1 (e▸hb)).trans this.2⟩
  ·have e:b≠d:=fun e=>hb (e▸hd.2);rw [s b (by rw [ho b e];exact hb),ho b e]
theorem OD {α:Type} {enc:α→Array Value} {n:Nat}:∀{xs:List α},(∀x ∈ xs,(enc x).size=n)→∀(i:Nat) (z:α),i<xs.length→DA enc xs=DA enc (xs.take i)++(enc (xs.getD i z)).toList++DA enc (xs.drop (i+1))
 | [],_,i,z,h=>by simp at h
 | y ::xs,hn,0,z,h=>by simp [DA]
 | y ::xs,hn,i+1,z,h=>by
  have:=OD (fun x hx=>hn x (List.mem_cons_of_mem _ hx)) i z (by simpa using h)
  show (enc y).toList++DA enc xs=((enc y).toList++DA enc (xs.take i))++(enc (xs.getD i z)).toList++DA enc (xs.drop (i+1));rw [this];simp only [List.append_assoc]
theorem TW {α:Type} {enc:α→Array Value}:∀{xs:List α} (i:Nat) (x:α),i<xs.length→DA enc (xs.set i x)=DA enc (xs.take i)++(enc x).toList++DA enc (xs.drop (i+1))
 | [],i,x,h=>by simp at h
 | y ::xs,0,x,h=>by simp [DA]
 | y ::xs,i+1,x,h=>by
  have:=TW (enc:=enc) (xs:=xs) i x (by simpa using h)
  show (enc y).toList++DA enc (xs.set i x)=((enc y).toList++DA enc (xs.take i))++(enc x).toList++DA enc (xs.drop (i+1));rw [this];simp only [List.append_assoc]
theorem AT.put {α:Type} {h0 h h':GH} {t:TypeId} {n cap b i dl:Nat} {enc:α→Array Value} {xs:List α} {c:Array Value} {vs:List Value} {x':α} (z:α) (x:AT h0 h (.slice (some ⟨b,0,none⟩) xs.length cap) t n enc xs) (hb:h b=some (true,.cells c t (0,0)))
  (hi:i<xs.length) (hz:dl+vs.length≤n) (heq:B2 (enc (xs.getD i z)) dl vs=enc x') (hb':h' b=some (true,.cells (B2 c (i*n+dl) vs) t (0,0))):AT h0 h' (.slice (some ⟨b,0,none⟩) xs.length cap) t n enc (xs.set i x'):=by
 rcases x with ⟨e,_⟩ | ⟨b1,cap1,c1,e,f0,f1,f2,f3,f4,f5,f6⟩
 ·cases e
 simp only [Value.slice.injEq,Option.some.injEq,Addr.mk.injEq] at e;obtain ⟨⟨rfl,_⟩,_,rfl⟩:=e;rw [hb] at f1;simp only [Option.some.injEq,Prod.mk.injEq,Obj.cells.injEq,true_and] at f1;obtain ⟨rfl,_⟩:=f1;have hx:(enc (xs.getD i z)).size=n:=f6 _ (CR hi);have hx':(enc x').size=n:=by rw [←heq,F7];exact hx
 refine .inr ⟨_,_,_,by rw [List.length_set],f0,hb',by rw [F7];exact f2,by rw [List.length_set];exact f3,by rw [List.length_set];exact f4,?_,fun y hy=>?_⟩
 ·rw [List.length_set];have hA:(DA enc (xs.take i)).length=i*n:=by
   rw [EJ (n:=n) (fun y hy=>f6 y (List.mem_of_mem_take hy)),List.length_take];congr 1;omega
  have hlen:(DA enc xs).length=xs.length*n:=EJ f6;have hmul:i*n+n≤xs.length*n:=by rw [←Nat.succ_mul];exact Nat.mul_le_mul_right n hi
  have hcap:xs.length*n≤c.size:=by rw [f2];exact Nat.mul_le_mul_right n f3
  have hc:c.toList=DA enc xs++c.toList.drop (xs.length*n):=by rw [←f5,List.take_append_drop]
  have hB:(enc x').toList=(enc (xs.getD i z)).toList.take dl++vs++(enc (xs.getD i z)).toList.drop (dl+vs.length):=by rw [←heq,ER _ _ _ (by omega)]
  have hBl:(enc (xs.getD i z)).toList.length=n:=by rw [Array.length_toList];exact hx
  have hC:(DA enc (xs.take i)).length+n+(DA enc (xs.drop (i+1))).length=xs.length*n:=by
   rw [←hlen];conv=>rhs;rw [OD f6 i z hi]
   rw [List.length_append,List.length_append,hBl]
  rw [ER _ _ _ (by omega),TW i x' hi,hB,hc,OD f6 i z hi];generalize enc (xs.getD i z)=B at *;generalize DA enc (xs.take i)=A at *;generalize DA enc (xs.drop (i+1))=C at *;generalize c.toList.drop (xs.length*n)=R at *;have e1:(A++B.toList++C++R).take (i*n+dl)=A++B.toList.take dl:=by
   rw [List.append_assoc,List.append_assoc,←hA,List.take_length_add_append,List.take_append_of_le_length (by omega)]
  have e2:(A++B.toList++C++R).drop (i*n+dl+vs.length)=B.toList.drop (dl+vs.length)++C++R:=by
   rw [List.append_assoc,List.append_assoc,show i*n+dl+vs.length=A.length+(dl+vs.length) by omega,List.drop_length_add_append,List.drop_append_of_le_length (by omega),List.append_assoc]
  rw [e1,e2];have e3:A++B.toList.take dl++vs++(B.toList.drop (dl+vs.length)++C++R)=(A++(B.toList.take dl++vs++B.toList.drop (dl+vs.length))++C)++R:=by simp only [List.append_assoc]
  rw [e3,List.take_left' ?_];simp only [List.length_append,List.length_take,List.length_drop,hBl];omega
 ·rcases List.mem_or_eq_of_mem_set hy with h | rfl
  ·exact f6 y h
  ·exact hx'
theorem AT.opened {α:Type} {h0 h:GH} {v:Value} {t:TypeId} {n k:Nat} {enc:α→Array Value} {xs:List α} (x:AT h0 h v t n enc xs) (hk:k<xs.length):∃b cap c,v=.slice (some ⟨b,0,none⟩) xs.length cap∧h b=some (true,.cells c t (0,0)):=by
 rcases x with ⟨_,rfl⟩ | ⟨b,cap,c,h1,_,h2,_⟩
 ·simp at hk
 ·exact ⟨b,cap,c,h1,h2⟩
theorem AT.room {α:Type} {h0 h:GH} {t:TypeId} {n cap b k:Nat} {enc:α→Array Value} {xs:List α} {c:Array Value} (x:AT h0 h (.slice (some ⟨b,0,none⟩) xs.length cap) t n enc xs) (hb:h b=some (true,.cells c t (0,0))) (hk:k<xs.length):k*n+n≤c.size:=by
 rcases x with ⟨e,_⟩ | ⟨b1,cap1,c1,e,f0,f1,f2,f3,_⟩
 ·cases e
 simp only [Value.slice.injEq,Option.some.injEq,Addr.mk.injEq] at e;obtain ⟨⟨rfl,_⟩,_,rfl⟩:=e;rw [hb] at f1;simp only [Option.some.injEq,Prod.mk.injEq,Obj.cells.injEq,true_and] at f1;obtain ⟨rfl,_⟩:=f1;rw [f2,←Nat.succ_mul];exact Nat.mul_le_mul_right n (by omega)
def clearAt (ms:List AB) (i:Nat):List AB:=ms.set i { ms.getD i AB.z with low:=0,high:=0 }
def D2 (ms:List AB) (l:List Int):List AB:=l.foldl (fun ms i=>clearAt ms i.toNat) ms
theorem TX {ms:List AB} {l:List Int} {k:Nat} (hk:k<l.length):D2 ms (l.take (k+1))=clearAt (D2 ms (l.take k)) (l.getD k 0).toNat:=by
 unfold D2;rw [HE 0 hk,List.foldl_append];rfl
theorem HJ (ms:List AB) (i:Nat):(clearAt ms i).length=ms.length:=by unfold clearAt;rw [List.length_set]
theorem PY (ms:List AB):∀(l:List Int),(D2 ms l).length=ms.length:=by
 intro l;unfold D2
 induction l generalizing ms with
 | nil=>rfl
 | cons i l ih=>show (l.foldl _ (clearAt ms i.toNat)).length=_;rw [ih,HJ]
theorem Gk (ms:List AB) (i k:Nat):(clearAt ms i).getD k AB.z=ms.getD k AB.z∨(clearAt ms i).getD k AB.z={ ms.getD k AB.z with low:=0,high:=0 }:=by
 unfold clearAt;rw [List.getD_eq_getElem?_getD,List.getElem?_set];split
 ·rename_i e
  subst e;split
  ·exact .inr rfl
  ·rename_i h
   refine .inl ?_;rw [List.getD_eq_getElem?_getD,List.getElem?_eq_none (by omega)]
 ·refine .inl ?_;rw [←List.getD_eq_getElem?_getD]
theorem Xq {d:Int} {gs:List Good} {ms:List AB} {k:Nat} (h1:0≤(ms.getD k AB.z).kind∧(ms.getD k AB.z).kind≤4) (h2:0≤(ms.getD k AB.z).good∧(ms.getD k AB.z).good≤(gs.length:Int)-1)
  (h3:1≤(ms.getD k AB.z).day∧(ms.getD k AB.z).day≤d) (h4:Ds ms k≤(ms.getD k AB.z).day) (h5:E2 (ms.getD k AB.z).low (ms.getD k AB.z).high):DU d gs ms k=0:=by
 unfold DU;rw [if_neg (not_not_intro h1),if_neg (not_not_intro h2),if_neg (not_not_intro h3),if_neg (by omega),if_neg (not_not_intro h5)]
theorem Az.clearAt {d m:Int} {gs:List Good} {ms:List AB} {cs:List AF} (b:Az d m gs ms cs) (i:Nat):Az d m gs (clearAt ms i) cs:=by
 refine ⟨b.days,b.most,b.glen,b.good,by rw [HJ];exact b.mlen,fun k hk=>?_,b.clen,b.count⟩;rw [HJ] at hk;have hd:∀k,((Go.Ns.clearAt ms i).getD k AB.z).day=(ms.getD k AB.z).day:=fun k=>by rcases Gk ms i k with e | e <;> rw [e]
 have hl:Ds (Go.Ns.clearAt ms i) k=Ds ms k:=by unfold Ds;rw [hd]
 obtain ⟨g1,g2,g3,g4,g5⟩:=b.move' hk;refine Xq ?_ ?_ ?_ ?_ ?_
 ·rcases Gk ms i k with e | e <;> rw [e] <;> exact g1
 ·rcases Gk ms i k with e | e <;> rw [e] <;> exact g2
 ·rw [hd];exact g3
 ·rw [hl,hd];exact g4
 ·rcases Gk ms i k with e | e <;> rw [e]
  ·exact g5
  ·show E2 0 0;decide
theorem Az.clear {d m:Int} {gs:List Good} {cs:List AF}:∀{l:List Int} {ms:List AB},Az d m gs ms cs→Az d m gs (D2 ms l) cs
 | [],_,b=>b
 | i ::l,_,b=>Az.clear (l:=l) (b.clearAt i.toNat)
def Fk (ms:List AB) (mask:Int) (k:Nat):Bool:=(List.range k).all fun i=> !HC mask i || Dc ms i
def FB (d:Int) (gs:List Good) (ms:List AB) (cs:List AF) (mask:Nat):Option (List Int):=
 if Fk ms (mask:Int) ms.length=true then
  if AR d gs (D2 ms (BK (mask:Int) ms.length)) cs 0=[] then none else some (BK (mask:Int) ms.length)
 else none
def Dt (d:Int) (gs:List Good) (ms:List AB) (cs:List AF) (k:Nat):List (List Int):=(List.range k).filterMap (FB d gs ms cs)
theorem LY {d:Int} {gs:List Good} {ms:List AB} {cs:List AF} {k:Nat} (h:FB d gs ms cs k=none):Dt d gs ms cs (k+1)=Dt d gs ms cs k:=by
 unfold Dt;rw [List.range_succ,List.filterMap_append];simp [h]
theorem R7 {d:Int} {gs:List Good} {ms:List AB} {cs:List AF} {k:Nat} {l:List Int} (h:FB d gs ms cs k=some l):Dt d gs ms cs (k+1)=Dt d gs ms cs k++[l]:=by
 unfold Dt;rw [List.range_succ,List.filterMap_append];simp [h]
theorem AAI {n:Nat} (h:n≤6):1≤(2:Int) ^ n∧(2:Int) ^ n≤64:=by
 have:n=0∨n=1∨n=2∨n=3∨n=4∨n=5∨n=6:=by omega
 rcases this with rfl | rfl | rfl | rfl | rfl | rfl | rfl <;> decide
theorem Xr (mask:Int) (n q:Nat):q<(BK mask n).length→0≤(BK mask n).getD q 0∧(BK mask n).getD q 0<(n:Int):=fun hq=>by
 have:=CR (d:=(0:Int)) hq
 unfold BK at this ⊢;obtain ⟨i,hi,e⟩:=List.mem_map.1 this
 have:=List.mem_range.1 (List.mem_filter.1 hi).1
 rw [←e];omega
theorem PZ (ms:List AB) (mask:Int):Fk ms mask 0=true:=rfl
theorem KD {ms:List AB} {mask:Int} {j:Nat} (h:Fk ms mask j=true) (e:mask.fdiv (2 ^ j)%2=0∨Dc ms (j:Int)=true):Fk ms mask (j+1)=true:=by
 unfold Fk at *;rw [List.range_succ,List.all_append,h];rcases e with e | e
 ·have:HC mask j=false:=by unfold HC;rw [decide_eq_false (by omega)]
  simp [this]
 ·simp [e]
theorem U6 {d:Int} {gs:List Good} {ms:List AB} {cs:List AF} {k j:Nat} (hj:j<ms.length) (hb:¬(k:Int).fdiv (2 ^ j)%2=0) (hn:¬((0≤(j:Int)∧(j:Int)≤(ms.length:Int)-1)∧(ms.getD ((j:Int)).toNat AB.z).kind=0)):FB d gs ms cs k=none:=by
 unfold FB;rw [if_neg];unfold Fk;rw [List.all_eq_true];intro h
 have:=h j (List.mem_range.2 hj)
 have e1:HC (k:Int) j=true:=by unfold HC;rw [decide_eq_true];omega
 have e2:Dc ms (j:Int)=false:=by unfold Dc;exact decide_eq_false hn
 rw [e1,e2] at this;cases this
theorem AAJ {d:Int} {gs:List Good} {ms:List AB} {cs:List AF} {k j q:Nat} (hj:j≤ms.length) (hj':¬(j:Int)<(ms.length:Int)) (ha:Fk ms (k:Int) j=true) (hq:¬(q:Int)<((BK (k:Int) j).length:Int)) (h:AR d gs (D2 ms ((BK (k:Int) j).take q)) cs 0=[]):FB d gs ms cs k=none:=by
 obtain rfl:j=ms.length:=by omega
 rw [List.take_of_length_le (by omega)] at h;unfold FB;rw [if_pos ha,if_pos h]
theorem Xs {d:Int} {gs:List Good} {ms:List AB} {cs:List AF} {k j q:Nat} (hj:j≤ms.length) (hj':¬(j:Int)<(ms.length:Int)) (ha:Fk ms (k:Int) j=true) (hq:¬(q:Int)<((BK (k:Int) j).length:Int)) (h:AR d gs (D2 ms ((BK (k:Int) j).take q)) cs 0≠[]):FB d gs ms cs k=some (BK (k:Int) j):=by
 obtain rfl:j=ms.length:=by omega
 rw [List.take_of_length_le (by omega)] at h;unfold FB;rw [if_pos ha,if_neg h]
theorem OE {fl:List Sl} {v:Value} {xs:List Int} {l:List (List Int)} (h:A5 fl=l):A5 (fl++[(v,xs)])=l++[xs]:=by unfold A5 at *;rw [List.map_append,h];rfl
theorem B9.drop {h:GH} {l:List Sl} (a:B9 h l) (n:Nat):B9 h (l.drop n):=fun k=>by
 have:=a (n+k)
 rw [List.getD_eq_getElem?_getD] at this ⊢;rw [List.getElem?_drop];exact this
section
variable (d m:Int) (gs:List Good) (ms:List AB) (cs:List AF)
def EX:Int:=if Ag d m gs ms cs=0 then (if (Dt d gs ms cs (2 ^ ms.length)).length=0 then 9 else 0) else Ag d m gs ms cs
def HK:List Int:=if EX d m gs ms cs=0 then I6 ((Dt d gs ms cs (2 ^ ms.length)).getD 0 []) ((Dt d gs ms cs (2 ^ ms.length)).drop 1) else []
end
section
variable {d m:Int} {gs:List Good} {ms:List AB} {cs:List AF} {fl:List Sl} {k:Nat}
theorem KE (h:¬Ag d m gs ms cs=0):EX d m gs ms cs=Ag d m gs ms cs:=by unfold EX;rw [if_neg h]
theorem LZ (h:Ag d m gs ms cs=0):EX d m gs ms cs=if (Dt d gs ms cs (2 ^ ms.length)).length=0 then 9 else 0:=by unfold EX;rw [if_pos h]
theorem R8 (n:Nat):((2 ^ n:Nat):Int)=(2:Int) ^ n:=by induction n with
 | zero=>rfl
 | succ n ih=>rw [Nat.pow_succ,Int.pow_succ,←ih];rfl
theorem ME (hk:(k:Int)≤(2:Int) ^ ((ms.length:Int)).toNat) (hk':¬(k:Int)<(2:Int) ^ ((ms.length:Int)).toNat):k=2 ^ ms.length:=by
 have:=R8 ms.length
 rw [Int.toNat_natCast] at hk hk';omega
theorem C7 (l:List Sl):(A5 l).length=l.length:=by unfold A5;simp
theorem U7 (h:¬Ag d m gs ms cs=0):(.tuple #[.slice none 0 0,.int .i64 (Ag d m gs ms cs)]:Value)=.tuple #[.slice none 0 0,.int .i64 (EX d m gs ms cs)]:=by rw [KE h]
theorem JQ (hfl:A5 fl=Dt d gs ms cs k) (hk:(k:Int)≤(2:Int) ^ ((ms.length:Int)).toNat) (hk':¬(k:Int)<(2:Int) ^ ((ms.length:Int)).toNat) (hb:¬¬Ag d m gs ms cs=0) (h0:(fl.length:Int)=0):EX d m gs ms cs=9:=by
 obtain rfl:=ME hk hk';rw [LZ (Decidable.not_not.1 hb),←hfl,C7,if_pos (by omega)]
theorem JR (hfl:A5 fl=Dt d gs ms cs k) (hk:(k:Int)≤(2:Int) ^ ((ms.length:Int)).toNat) (hk':¬(k:Int)<(2:Int) ^ ((ms.length:Int)).toNat) (hb:¬¬Ag d m gs ms cs=0) (h0:¬(fl.length:Int)=0):EX d m gs ms cs=0:=by
 obtain rfl:=ME hk hk';rw [LZ (Decidable.not_not.1 hb),←hfl,C7,if_neg (by omega)]
theorem U8 (h:¬Ag d m gs ms cs=0):HK d m gs ms cs=[]:=by unfold HK;rw [KE h,if_neg h]
theorem TY (hfl:A5 fl=Dt d gs ms cs k) (hk:(k:Int)≤(2:Int) ^ ((ms.length:Int)).toNat) (hk':¬(k:Int)<(2:Int) ^ ((ms.length:Int)).toNat) (hb:¬¬Ag d m gs ms cs=0) (h0:(fl.length:Int)=0):HK d m gs ms cs=[]:=by
 unfold HK;rw [JQ hfl hk hk' hb h0,if_neg (by decide)]
theorem Xu (hfl:A5 fl=Dt d gs ms cs k) (hk:(k:Int)≤(2:Int) ^ ((ms.length:Int)).toNat) (hk':¬(k:Int)<(2:Int) ^ ((ms.length:Int)).toNat) (hb:¬¬Ag d m gs ms cs=0) (h0:¬(fl.length:Int)=0):HK d m gs ms cs=I6 (fl.getD 0 Sl.z).2 (A5 (fl.drop 1)):=by
 have e:=ME hk hk';unfold HK;rw [JR hfl hk hk' hb h0,if_pos rfl];subst e;rw [←hfl,Cb (by omega)];congr 1;unfold A5;rw [List.map_drop]
end
theorem fl_len {d:Int} {gs:List Good} {ms:List AB} {cs:List AF} {fl:List Sl} {k:Nat} (h:A5 fl=Dt d gs ms cs k):fl.length≤k:=by
 rw [←C7,h];unfold Dt
 have:=List.length_filterMap_le (FB d gs ms cs) (List.range k)
 rw [List.length_range] at this;exact this
theorem La {v:Value} (h:v.cells=#[v]):Instr.fill (fun i=>some (i*1,1)) ((Array.range (1*1)).map (#[Value.slice none 0 0][·% #[Value.slice none 0 0].size]!)) [(0,v)]=some #[v]:=by
 have e:((Array.range (1*1)).map (#[Value.slice none 0 0][·% #[Value.slice none 0 0].size]!))=#[Value.slice none 0 0]:=by kernel_rfl
 rw [e];simp [Instr.fill,h]
def JFnd {α:Type} (hB:GH) (r:Nat) (T t:TypeId) (wf:Value) (fl:List Sl) (pre:List α) (Y:Nat→Prop) (h:GH):Prop:=
 pre=[]∧h r=some (true,.cells #[wf] T (0,0))∧AT hB h wf t 1 IO fl∧CA wf r∧hB r=none∧∀b,Y b↔b=r∨Bw wf=some b
def SFnd {α:Type} (hB:GH) (r:Nat) (T t:TypeId) (fl:List Sl) (cd:Code) (all:List α) (c:Code) (h:GH):Prop:=
 c=cd∧(∃w,h r=some (true,.cells #[w] T (0,0))∧AT hB h w t 1 IO fl∧CA w r)∧all≠[]
theorem QC {α:Type} (hB:GH) (r:Nat) (T t:TypeId) (wf:Value) (fl:List Sl):Id hB (JFnd (α:=α) hB r T t wf fl):=by
 refine ⟨?_,?_⟩
 ·rintro pre Y h b ⟨_,h1,h2,h3,h0,h4⟩ hb;rcases (h4 b).1 hb with rfl | h5
  ·exact ⟨_,_,h1,rfl⟩
  ·obtain ⟨c,hc⟩:=h2.cellsAt b h5;exact ⟨_,_,hc,rfl⟩
 ·rintro pre Y h h' ⟨e,h1,h2,h3,h0,h4⟩ same lB;exact ⟨e,by rw [same r ((h4 r).2 (.inl rfl))];exact h1,h2.keep fun b o hb ho=>by rw [same b ((h4 b).2 (.inr hb))];exact ho,h3,h0,h4⟩
theorem U9 {α:Type} {hK h:GH} {r:Nat} {T t:TypeId} {wf:Value} {fl:List Sl} (x:h r=some (true,.cells #[wf] T (0,0))) (o:AT hK h wf t 1 IO fl) (f:CA wf r) :
  JFnd (α:=α) (h.delS fun b=>b=r∨Bw wf=some b) r T t wf fl [] (fun b=>b=r∨Bw wf=some b) h:=
 ⟨rfl,x,o.rebase fun _ q=>GH.delS_in (.inr q),f,GH.delS_in (.inl rfl),fun _=>Iff.rfl⟩
theorem TZ {α:Type} {hB:GH} {r:Nat} {T t:TypeId} {fl:List Sl} {cd:Code} {all:List α}:∀c (h h':GH) l lo,SFnd hB r T t fl cd all c h→h l=some (true,.loop lo)→(∀b,b≠l→h' b=h b)→SFnd hB r T t fl cd all c h':=by
 rintro c h h' l lo ⟨q1,⟨w,q2,q3,q4⟩,q5⟩ hl ho;refine ⟨q1,⟨w,(ho _ fun e=>by subst e;rw [q2] at hl;cases hl).trans q2,q3.keep fun b o hb hbo=>?_,q4⟩,q5⟩;obtain ⟨c,hc⟩:=q3.cellsAt b hb;exact (ho b fun e=>by subst e;rw [hc] at hl;cases hl).trans hbo
end Go.Ns
