/- Rules and walks, part 2 of 6. No conditions. -/
import Derived.Sort.AssemblyPlain
import Derived.Sort.LotD3
import Derived.Test.YthccgklboafliaaGreatDoorReA
set_option linter.unusedVariables false
set_option linter.unusedSimpArgs false
set_option linter.unnecessarySimpa false
set_option linter.unusedSectionVars false
namespace Go.Ns
open Go.Conc
section
variable {P:Program} {E:HI P} {σ:Nat→Value} {ds:List Deferred} {h:GH} {T:(Nat→Value)→List Deferred→GH→Prop}
variable {dst:Option Nat} {ty:TypeId} {pos:String} {af:Array Edge} {gd:Option (Nat×Bool)}
variable {α:Type}
def FZ (R:GH→GH→Prop):List PK→Prop
 | []=>True
 | φ ::l=>(∀v h h',R h h'→φ v h→φ v h')∧FZ R l
theorem FZ.mono {R:GH→GH→Prop}:∀{Φ:List PK},FZ R Φ→∀k v h h',R h h'→LC Φ k v h→LC Φ k v h'
 | [],_,k,v,h,h',_,x=>by cases k <;> exact x
 | φ ::l,ok,0,v,h,h',r,x=>ok.1 v h h' r x
 | φ ::l,ok,k+1,v,h,h',r,x=>FZ.mono ok.2 k v h h' r x
theorem SD {R:GH→GH→Prop} (rr:∀h,R h h) (rt:∀a b c,R a b→R b c→R a c) {id:Nat} {l:List Oper} {Q:Post} (n:Nat) (cls:List (List Nat)) (Φ:List PK)
  (hm:P.follows .mixedOrders=true) (ok:NQ E.N l n cls=true) (mono:FZ R Φ) (x:LD R E l n Φ σ ds h Q n 0 l cls):Tr E (.region id l.toArray true) σ ds h Q:=
 tr_draw R n cls Φ hm ok rr rt mono.mono x
theorem NX {id:Nat} {l:List Oper} {Q:Post} (n:Nat) (cls:List (List Nat)) (Φ:List PK)
  (hm:P.follows .mixedOrders=true) (ok:NQ E.N l n cls=true) (mono:FZ GH.Le Φ) (x:LD GH.Le E l n Φ σ ds h Q n 0 l cls):Tr E (.region id l.toArray true) σ ds h Q:=
 SD GH.Le.refl (fun _ _ _=>GH.Le.trans) n cls Φ hm ok mono x
theorem Ai {ops:Array Oper} {o:Oper} {l:List Oper} {Q:Post} {j d:Nat} {want:Bool} {oj:Oper} (hg:o.guard=some (j,want)) (hj:ops[j]? =some oj) (hjd:oj.dst=some d) (hv:σ d=.bool want) (hdj:Nat.blt d E.N=true)
  (hdf:E.rd=none∨EH o.op=false) (hd:En o.dst E.N=true) (x:Br E o σ ds h fun σ' ds' h'=>ER E ops l σ' ds' h' Q):ER E ops (o ::l) σ ds h Q:=Qu hg hj hjd hv hdj hdf hd x
theorem BZ {ops:Array Oper} {o:Oper} {l:List Oper} {Q:Post} {j d:Nat} {want:Bool} {oj:Oper} (hg:o.guard=some (j,want)) (hj:ops[j]? =some oj) (hjd:oj.dst=some d) (hv:σ d=undef) (hdj:Nat.blt d E.N=true)
  (hd:En o.dst E.N=true) (x:ER E ops l (putS σ o.dst undef) ds h Q):ER E ops (o ::l) σ ds h Q:=by
 intro i b k cs L t hi hb hr hl hs hc;have ho:ops[i]? =some o:=by simpa using (hi 0).symm
 have hy:yielded ops t j=none:=by
  have hlt:d<t.size:=by rw [hs.1];exact Nat.blt_eq▸hdj
  have h2:=hs.2 d;rw [hv] at h2;have h3:t[d]? =some undef:=by
   simp only [Array.getD_eq_getD_getElem?,Array.getElem?_eq_getElem hlt,Option.getD_some] at h2;rw [Array.getElem?_eq_getElem hlt,h2]
  simp [yielded,hj,hjd,h3,undef]
 refine Wk.go (Cp b (Wh t o.dst undef) ds (.inRegion ops (List.range' (i+1) l.length) ::k)) (fun w=>?_) ?_
 ·have hw':((ops[i]?).map (Region.wanted · (yielded ops t))).getD false=false:=by
   simp only [ho,Option.map_some,Option.getD_some,Region.wanted,hg,hy];cases want <;> rfl
  rw [←DM ho (rest:=List.range' (i+1) l.length),List.length_cons,List.range'_succ,BI];unfold stepG.exec;simp only [Cp,hw',Bool.false_eq_true,↓reduceIte];rfl
 ·exact x (i+1) b k cs L _ (fun j=>by have:=hi (j+1);simpa [Nat.add_assoc,Nat.add_comm 1 j] using this) hb hr hl (hs.putS hd undef) hc
theorem BM {ops:Array Oper} {l:List Oper} {Q:Post} {p:Prop} [Decidable p] (a:p→ER E ops l σ ds h Q) (a':¬p→ER E ops l σ ds h Q):ER E ops l σ ds h Q:=if h:p then a h else a' h
theorem HA {ops:Array Oper} {l:List Oper} {Q:Post} {b:Bool} (a:b=true→ER E ops l σ ds h Q) (a':b=false→ER E ops l σ ds h Q):ER E ops l σ ds h Q:=by
 cases b with
 | true=>exact a rfl
 | false=>exact a' rfl
theorem Q1 {f:Fn} {x1:Operand} {v1:Value} (h1:AY σ x1=v1) (k:T (putS σ dst (.func f #[] #[v1])) ds h):Br E ⟨dst,.makeFunc f #[] #[x1],ty,pos,af,gd⟩ σ ds h T:=GY (by simp [h1]) k
theorem Gy {f:Fn} {x1 x2:Operand} {v1 v2:Value} (h1:AY σ x1=v1) (h2:AY σ x2=v2) (k:T (putS σ dst (.func f #[] #[v1,v2])) ds h):Br E ⟨dst,.makeFunc f #[] #[x1,x2],ty,pos,af,gd⟩ σ ds h T:=GY (by simp [h1,h2]) k
theorem Gz {f:Fn} {x1 x2 x3:Operand} {v1 v2 v3:Value} (h1:AY σ x1=v1) (h2:AY σ x2=v2) (h3:AY σ x3=v3) (k:T (putS σ dst (.func f #[] #[v1,v2,v3])) ds h):Br E ⟨dst,.makeFunc f #[] #[x1,x2,x3],ty,pos,af,gd⟩ σ ds h T:=GY (by simp [h1,h2,h3]) k
theorem Q2 {f:Fn} {x1 x2 x3 x4:Operand} {v1 v2 v3 v4:Value} (h1:AY σ x1=v1) (h2:AY σ x2=v2) (h3:AY σ x3=v3) (h4:AY σ x4=v4) (k:T (putS σ dst (.func f #[] #[v1,v2,v3,v4])) ds h):Br E ⟨dst,.makeFunc f #[] #[x1,x2,x3,x4],ty,pos,af,gd⟩ σ ds h T:=GY (by simp [h1,h2,h3,h4]) k
theorem Q3 {f:Fn} {x1 x2 x3 x4 x5:Operand} {v1 v2 v3 v4 v5:Value} (h1:AY σ x1=v1) (h2:AY σ x2=v2) (h3:AY σ x3=v3) (h4:AY σ x4=v4) (h5:AY σ x5=v5) (k:T (putS σ dst (.func f #[] #[v1,v2,v3,v4,v5])) ds h):Br E ⟨dst,.makeFunc f #[] #[x1,x2,x3,x4,x5],ty,pos,af,gd⟩ σ ds h T:=GY (by simp [h1,h2,h3,h4,h5]) k
theorem DJ {v:Value} {p:Prop} [Decidable p] (e:v=.bool (decide p)) (g:v=.bool false):¬p:=by
 rw [e] at g;simpa using g
theorem Aa.fresh {h0 h:GH} {v:Value} {t:TypeId} {n:Nat} {enc:α→Array Value} {xs:List α} (x:Aa h0 h v t n enc xs):∀b,B9 v=some b→h0 b=none:=by
 intro b hb;rcases x with ⟨rfl,_⟩ | ⟨b',cap,c,rfl,h1,_⟩
 ·cases hb
 ·simp [B9] at hb;subst hb;exact h1
theorem Aa.inDom {h0 h:GH} {v:Value} {t:TypeId} {n:Nat} {enc:α→Array Value} {xs:List α} (x:Aa h0 h v t n enc xs):∀b,B9 v=some b→∃o,h b=some o:=by
 intro b hb;rcases x with ⟨rfl,_⟩ | ⟨b',cap,c,rfl,h1,h2,_⟩
 ·cases hb
 ·simp [B9] at hb;subst hb;exact ⟨_,h2⟩
def BL (v:Value) (b:Nat):Prop:=B9 v≠some b
def Apart (v w:Value):Prop:=∀b,B9 v=some b→B9 w≠some b
theorem Apart.symm {v w:Value} (a:Apart v w):Apart w v:=fun b h h'=>a b h' h
theorem BL.nil {b:Nat}:BL (.slice none 0 0) b:=by intro h;cases h
theorem Apart.nil {w:Value}:Apart (.slice none 0 0) w:=by intro b h;cases h
theorem BL.old {h0 h:GH} {v:Value} {t:TypeId} {n:Nat} {enc:α→Array Value} {xs:List α} (x:Aa h0 h v t n enc xs) {b:Nat} {o:Bool×Obj} (hb:h0 b=some o):BL v b:=fun e=>by
 rw [x.fresh b e] at hb;cases hb
theorem BL.new {h0 h:GH} {v:Value} {t:TypeId} {n:Nat} {enc:α→Array Value} {xs:List α} (x:Aa h0 h v t n enc xs) {b:Nat} (hb:h b=none):BL v b:=fun e=>by
 obtain ⟨o,ho⟩:=x.inDom b e;rw [hb] at ho;cases ho
def Ho (h h':GH) (v v':Value):Prop:=(∀b o,h b=some o→B9 v≠some b→h' b=some o)∧(B9 v'=B9 v∨((∃r,B9 v'=some r∧h r=none)∧∀b o,h b=some o→h' b=some o))
theorem BL.grown {h h':GH} {v v':Value} (g:Ho h h' v v') {b:Nat} {o:Bool×Obj} (hb:h b=some o) (x:BL v b):BL v' b:=fun e=>by
 rcases g.2 with q | ⟨⟨r,q1,q2⟩,_⟩
 ·exact x (q▸e)
 ·rw [q1] at e;cases e;rw [q2] at hb;cases hb
theorem Apart.grown {h h' h0:GH} {v v' w:Value} (g:Ho h h' v v') {t:TypeId} {n:Nat} {enc:α→Array Value} {xs:List α} (y:Aa h0 h w t n enc xs) (x:Apart v w):Apart v' w:=fun b e e'=>by
 obtain ⟨o,ho⟩:=y.inDom b e';rcases g.2 with q | ⟨⟨r,q1,q2⟩,_⟩
 ·exact x b (q▸e) e'
 ·rw [q1] at e;cases e;rw [q2] at ho;cases ho
theorem Aa.grown {h h' h0:GH} {v v' w:Value} (g:Ho h h' v v') {t:TypeId} {n:Nat} {enc:α→Array Value} {xs:List α} (y:Aa h0 h w t n enc xs) (x:Apart v w):Aa h0 h' w t n enc xs:=
 y.keep fun b o hb ho=>g.1 b o ho fun e=>x b e hb
theorem GH.Le.grown {h1 h h':GH} {v v':Value} (g:Ho h h' v v') (l:h1.Le h) (f:∀b,B9 v=some b→h1 b=none):h1.Le h':=fun b p o hb=>by
 obtain ⟨o',h2,h3⟩:=l b p o hb;exact ⟨o',g.1 b _ h2 fun e=>(by rw [f b e] at hb;cases hb),h3⟩
theorem B3 {h h':GH} {v v':Value} (g:Ho h h' v v') {b:Nat} {o:Bool×Obj} (hb:h b=some o) (x:BL v b):h' b=some o:=g.1 b o hb x
theorem Aa.stored {h0 h h':GH} {v:Value} {t:TypeId} {n:Nat} {enc:α→Array Value} {xs:List α} (y:Aa h0 h v t n enc xs) {r:Nat} (x:BL v r) (ho:∀b,b≠r→h' b=h b):Aa h0 h' v t n enc xs:=
 y.keep fun b o hb hb'=>by rw [ho b fun e=>by subst e;exact x hb];exact hb'
theorem Cm {s x:TypeId} {o1 o2:Operand} {h0:GH} {v w:Value} {e n bytes:Nat} {enc:α→Array Value} {xs ys:List α} (ht:J4 P s x=some (e,n,bytes)) (h1:AY σ o1=v) (h2:AY σ o2=w)
  (hv:Aa h0 h v e n enc xs) (hw:AO h w n enc ys) (l0:∀r,h r=none→h0 r=none) (hb:(2*(xs.length+ys.length)+512)*bytes≤2 ^ 48) (hfine:∀y ∈ ys,(enc y).toList.all (·.oneCell')=true)
  (k:∀v' h',Aa h0 h' v' e n enc (xs++ys)→Ho h h' v v'→T (putS σ dst v') ds h') :
  Br E ⟨dst,.call ⟨.builtin .append,#[o1,o2],#[s,x]⟩,ty,pos,af,gd⟩ σ ds h T:=
 Wm ht h1 h2 hv hw l0 hb hfine fun v' h' a b c=>k v' h' a ⟨b,c⟩
theorem A3 {h0:GH} {t:TypeId} {x ix:Operand} {n:Nat} {enc:α→Array Value} {xs:List α} {v:Value} {kd:IntKind} {i:Int} (ht:Eg P t=some n) (hs:AO h0 v n enc xs) (hx:AY σ x=v) (hi:AY σ ix=.int kd i) (h0':0≤i) (h1:i<xs.length)
  (k:∀b off,Ac h0 b off n (enc (xs[i.toNat]'(by omega)))→T (putS σ dst (.pointer (some ⟨b,off,none⟩))) ds h):Br E ⟨dst,.indexAddr t x ix,ty,pos,af,gd⟩ σ ds h T:=by
 obtain ⟨a,cap,rfl,_,_,he⟩:=hs;obtain ⟨b,off,rfl,hb⟩:=he i.toNat (by omega);exact AK ht hx hi h0' h1 (k b _ hb)
theorem Aa.built {h h':GH} {r:Nat} {t:TypeId} {n:Nat} {enc:α→Array Value} {xs:List α} {c:Array Value} {m:Nat} (hr:h r=none) (hb:h' r=some (true,.cells c t (0,0))) (hm:xs.length=m) (hml:Nat.ble m 16777216=true) (hn:∀x ∈ xs,(enc x).size=n) (hc:c.toList=DH enc xs) :
  Aa h h' (.slice (some ⟨r,0,none⟩) m m) t n enc xs:=by
 subst hm
 have:=Nat.le_of_ble_eq_true hml
 refine .inr ⟨r,_,c,rfl,hr,hb,?_,Nat.le_refl _,by omega,?_,hn⟩
 ·rw [←EE hn,←hc,Array.length_toList]
 ·rw [hc,←EE hn,List.take_length]
theorem Aq {t:TypeId} {len n:Nat} {z cells:Array Value} {e:TypeId} {parts:Array (Nat×Operand)} (hs:Eh P t=some (n,z,e)) (hl:len*n≤2 ^ 24) (hn:(len*n=0)=False)
  (hf:Instr.fill (fun i=>some (i*n,n)) ((Array.range (len*n)).map (z[·%z.size]!)) (parts.map fun (i,x)=>(i,AY σ x)).toList=some cells)
  (k:∀r h',h r=none→h.Le h'→h' r=some (true,.cells cells e (0,0))→(∀b,b≠r→h' b=h b)→T (putS σ dst (.slice (some ⟨r,0,none⟩) len len)) ds h'):Br E ⟨dst,.buildSlice t len parts,ty,pos,af,gd⟩ σ ds h T:=
 PJ hs hl hn hf fun r hr=>k r _ hr (GH.Le.new hr _ _) (GH.set_same _ _ _ _) fun b hb=>GH.set_ne _ _ _ hb
theorem SE {s x:TypeId} {o1 o2:Operand} {b off dl cap n:Nat} {e:TypeId} {enc:α→Array Value} {ys:List α} {w:Value} {c c':Array Value} (ht:Eg P s=some n) (h1:AY σ o1=.slice (some ⟨b,off,none⟩) dl cap) (h2:AY σ o2=w)
  (hb:h b=some (true,.cells c e (0,0))) (hn:off+dl*n≤c.size) (hw:AO h w n enc ys) (hl:ys.length≤dl) (hfine:∀y ∈ ys,(enc y).toList.all (·.oneCell')=true) (hsz:∀y ∈ ys,(enc y).size=n) (hc:B4 c off (DH enc ys)=c')
  (k:∀h',h' b=some (true,.cells c' e (0,0))→(∀x,x≠b→h' x=h x)→T (putS σ dst (.int .i64 ys.length)) ds h') :
  Br E ⟨dst,.call ⟨.builtin .copy,#[o1,o2],#[s,x]⟩,ty,pos,af,gd⟩ σ ds h T:=
 ok_copy ht h1 h2 hb hn hw hl hfine hsz (k _ (by rw [hc];exact GH.set_same _ _ _ _) fun x hx=>GH.set_ne _ _ _ hx)
theorem NY {t:TypeId} {n:Nat} {z:Array Value} {e:TypeId} (hs:Eh P t=some (n,z,e)) (k:∀r h',h r=none→h.Le h'→h' r=some (true,.cells #[] e (0,0))→(∀b,b≠r→h' b=h b)→T (putS σ dst (.slice (some ⟨r,0,none⟩) 0 0)) ds h') :
  Br E ⟨dst,.buildSlice t 0 #[],ty,pos,af,gd⟩ σ ds h T:=by
 unfold Br execOp;refine F7 ?_;unfold Eh at hs;unfold Instr.buildSlice;cases hu:P.underlying t with
 | none=>rw [hu] at hs;cases hs
 | some d=>
  rw [hu] at hs;cases d <;> first | (cases hs;done) | skip
  rename_i e'
  simp only at hs;cases ht:CZ P e' with
  | none=>rw [ht] at hs;cases hs
  | some x=>
   cases hz:CE P e' with
   | none=>rw [ht,hz] at hs;cases hs
   | some z'=>
    rw [ht,hz] at hs;simp only [Option.some.injEq,Prod.mk.injEq] at hs;obtain ⟨rfl,rfl,rfl⟩:=hs;refine AI _ _ (A0 hu ?_);refine AI _ _ (F9 (by rw [ht];rfl) ?_);rw [Nat.zero_mul,if_neg (by decide)];dsimp only;rw [if_pos rfl];refine AI _ _ (BB ?_);have e0:Instr.fill (fun i=>some (i*x.snd,x.snd)) (Array.map (fun y=>(#[]:Array Value)[y%(#[]:Array Value).size]!) (Array.range 0)) (Array.map (fun y:Nat×Operand=>(y.fst,AY σ y.snd)) #[]).toList=some #[]:=by
     simp [Instr.fill]
    rw [e0];dsimp only;refine AI _ _ ?_;unfold newRow;refine AI _ _ (fun r hr=>?_);exact k r _ hr (GH.Le.new hr _ _) (GH.set_same _ _ _ _) fun b hb=>GH.set_ne _ _ _ hb
end
end Go.Ns
namespace Go.Ns
open Go.Conc
section
variable {P:Program} {E:HI P}
def Hp:Op→Option (List Operand)
 | .move x | .assign x | .box _ x | .unOp _ _ x | .convert _ _ x | .load _ x | .fieldAddr _ x _ | .field _ x _ | .nilCheck x | .extract x _ | .makeInterface _ x | .makeChan _ x | .typeAssert x _ _ _=>some [x]
 | .pick c a b=>some [c,a,b]
 | .alloc _=>some []
 | .build _ ps | .buildSlice _ _ ps=>some (ps.toList.map (·.2))
 | .store _ a x | .binOp _ _ a x _ | .indexAddr _ a x | .index _ a x | .lookup _ a x _ | .makeSlice _ a x=>some [a,x]
 | .makeFunc _ f c=>some (f.toList++c.toList)
 | .makeMap _ r=>some r.toList
 | .slice _ x lo hi mx=>some (x ::(lo.toList++(hi.toList++mx.toList)))
 | .mapUpdate _ m k x=>some [m,k,x]
 | .call c=>some (c.args.toList++match c.callee with | .value f=>[f] | .invoke r _=>[r] | .builtin _=>[])
 | _=>none
theorem NZ {ρ ρ':Operand→Value} {a:Array Operand} (e:∀x ∈ a.toList,ρ x=ρ' x):a.map ρ=a.map ρ':=by
 apply Array.toList_inj.1;rw [Array.toList_map,Array.toList_map];exact List.map_congr_left e
theorem SF {ρ ρ':Operand→Value} {a:Array (Nat×Operand)} (e:∀x ∈ a.toList.map (·.2),ρ x=ρ' x):(a.map fun (i,x)=>(i,ρ x))=a.map fun (i,x)=>(i,ρ' x):=by
 apply Array.toList_inj.1;rw [Array.toList_map,Array.toList_map];exact List.map_congr_left fun x hx=>by
  have:=e x.2 (List.mem_map.2 ⟨x,hx,rfl⟩)
  obtain ⟨i,y⟩:=x;exact congrArg (Prod.mk i) this
theorem WG {ρ ρ':Operand→Value} {a:Option Operand} (e:∀x ∈ a.toList,ρ x=ρ' x):a.map ρ=a.map ρ':=by
 cases a with
 | none=>rfl
 | some x=>simp [e x (by simp)]
theorem LF {ρ ρ':Operand→Value} {o:Oper} {xs:List Operand} (hx:Hp o.op=some xs) (e:∀x ∈ xs,ρ x=ρ' x):execOp ρ o=execOp ρ' o:=by
 obtain ⟨dst,op,ty,pos,af,gd⟩:=o;cases op <;> simp only [Hp,Option.some.injEq,reduceCtorEq] at hx
 case call c=>
  subst hx;have e1:=NZ (a:=c.args) fun x hx=>e x (List.mem_append_left _ hx);simp only [execOp,resolve,e1];cases hc:c.callee with
  | builtin b=>rfl
  | value f=>simp only [];rw [e f (List.mem_append_right _ (by rw [hc];simp))]
  | invoke r m=>simp only [];rw [e r (List.mem_append_right _ (by rw [hc];simp))]
 case makeFunc f a b=>
  subst hx;simp only [execOp];rw [NZ (a:=a) fun x hx=>e x (List.mem_append_left _ hx),NZ (a:=b) fun x hx=>e x (List.mem_append_right _ hx)]
 case slice t x lo hi mx=>
  subst hx;simp only [execOp];rw [e x (by simp),WG (a:=lo) fun y hy=>e y (by simp_all),WG (a:=hi) fun y hy=>e y (by simp_all),WG (a:=mx) fun y hy=>e y (by simp_all)]
 case build t ps=>subst hx;simp only [execOp];rw [SF e]
 case buildSlice t n ps=>subst hx;simp only [execOp];rw [SF e]
 case makeMap t r=>subst hx;simp only [execOp];rw [WG e]
 all_goals
  subst hx;simp only [List.mem_cons,or_false,forall_eq_or_imp,forall_eq,List.not_mem_nil,false_implies,implies_true] at e;simp [execOp,e]
def Hq (xs:List Operand):List Nat:=xs.filterMap fun x=>match x with | .tmp t=>some t | _=>none
theorem Mb {σ σ':Nat→Value} {xs:List Operand} (e:∀t ∈ Hq xs,σ t=σ' t):∀x ∈ xs,AY σ x=AY σ' x:=fun x hx=>by
 cases x with
 | tmp t=>exact e t (List.mem_filterMap.2 ⟨_,hx,rfl⟩)
 | const v=>rfl
 | global g=>rfl
 | func f=>rfl
def J6:Op→Bool
 | .call c=>match c.callee with
  | .builtin b=>b==.len || b==.cap || b==.min || b==.max
  | _=>false
 | .move _ | .assign _ | .nilCheck _ | .pick .. | .build .. | .load .. | .binOp .. | .unOp .. | .convert .. | .makeFunc .. | .fieldAddr .. | .field .. | .indexAddr .. | .index .. | .extract .. | .lookup .. | .slice .. | .makeInterface .. | .typeAssert .. =>true
 | _=>false
theorem Jk {β:Type} {s:Sem β} {f:β→Value} {h:GH} {Q:Next→GH→Prop}:(s.bind fun x=>(Sem.pure (Next.value (f x)):Sem Next)).gh P h Q→(s.bind fun x=>(Sem.pure (Next.value (f x)):Sem Next)).gh P h fun a h'=>Q a h'∧∃v,a=.value v:=by
 induction s generalizing h with
 | pure a=>intro x;exact ⟨x,_,rfl⟩
 | load m a k ih=>rintro ⟨x1,x2,p,c,t,f,v,y1,y2,z⟩;exact ⟨x1,x2,p,c,t,f,v,y1,y2,ih v z⟩
 | store m a v k ih=>rintro ⟨x1,x2,x3,c,t,f,y1,y2,y3,z⟩;exact ⟨x1,x2,x3,c,t,f,y1,y2,y3,ih z⟩
 | new o k ih=>intro x r hr;exact ih r (x r hr)
 | shape r k ih=>rintro ⟨p,c,t,f,y,z⟩;exact ⟨p,c,t,f,y,ih _ z⟩
 | freeze a n k ih=>
  rintro (⟨y,z⟩ | ⟨y,c,t,f,y2,z⟩)
  ·exact .inl ⟨y,ih z⟩
  ·exact .inr ⟨y,c,t,f,y2,ih z⟩
 | frozen a k ih=>rintro ⟨p,c,t,f,y,z⟩;exact ⟨p,c,t,f,y,ih _ z⟩
 | getObj r k ih=>rintro ⟨p,o,y1,y2,y3,z⟩;exact ⟨p,o,y1,y2,y3,ih _ z⟩
 | setObj r o k ih=>rintro ⟨o',y1,y2,y2',y3,z⟩;exact ⟨o',y1,y2,y2',y3,ih z⟩
 | choose q k ih=>rintro ⟨y,z⟩;exact ⟨fun x=>ih _ (y x),fun x t=>ih _ (z x t)⟩
 | sys c k ih=>intro x;exact x.elim
 | program k ih=>intro x;exact ih _ x
 | mark m k ih=>rintro ⟨y,z⟩;exact ⟨y,ih z⟩
 | halt x=>intro y;exact y.elim
def HN (P:Program) (e:Sem Next):Prop:=∀(h:GH) (Q:Next→GH→Prop),e.gh P h Q→e.gh P h fun a h'=>Q a h'∧∃v,a=.value v
theorem HN.bind {β:Type} {s:Sem β} {f:β→Sem Next} (hf:∀a,HN P (f a)):HN P (s.bind f):=by
 induction s with
 | pure a=>exact hf a
 | load m a k ih=>rintro h Q ⟨x1,x2,p,c,t,f,v,y1,y2,z⟩;exact ⟨x1,x2,p,c,t,f,v,y1,y2,ih v _ _ z⟩
 | store m a v k ih=>rintro h Q ⟨x1,x2,x3,c,t,f,y1,y2,y3,z⟩;exact ⟨x1,x2,x3,c,t,f,y1,y2,y3,ih _ _ z⟩
 | new o k ih=>intro h Q x r hr;exact ih r _ _ (x r hr)
 | shape r k ih=>rintro h Q ⟨p,c,t,f,y,z⟩;exact ⟨p,c,t,f,y,ih _ _ _ z⟩
 | freeze a n k ih=>
  rintro h Q (⟨y,z⟩ | ⟨y,c,t,f,y2,z⟩)
  ·exact .inl ⟨y,ih _ _ z⟩
  ·exact .inr ⟨y,c,t,f,y2,ih _ _ z⟩
 | frozen a k ih=>rintro h Q ⟨p,c,t,f,y,z⟩;exact ⟨p,c,t,f,y,ih _ _ _ z⟩
 | getObj r k ih=>rintro h Q ⟨p,o,y1,y2,y3,z⟩;exact ⟨p,o,y1,y2,y3,ih _ _ _ z⟩
 | setObj r o k ih=>rintro h Q ⟨o',y1,y2,y2',y3,z⟩;exact ⟨o',y1,y2,y2',y3,ih _ _ z⟩
 | choose q k ih=>rintro h Q ⟨y,z⟩;exact ⟨fun x=>ih _ _ _ (y x),fun x t=>ih _ _ _ (z x t)⟩
 | sys c k ih=>intro h Q x;exact x.elim
 | program k ih=>intro h Q x;exact ih _ _ _ x
 | mark m k ih=>rintro h Q ⟨y,z⟩;exact ⟨y,ih _ _ z⟩
 | halt x=>intro h Q y;exact y.elim
theorem HN.value (v:Value):HN P (pure (.value v)):=fun _ _ x=>⟨x,v,rfl⟩
theorem Yn {ρ:Operand→Value} {o:Oper} (hv:J6 o.op=true) {h:GH} {Q:Next→GH→Prop} (x:(execOp ρ o).gh P h Q):(execOp ρ o).gh P h fun a h'=>Q a h'∧∃v,a=.value v:=by
 obtain ⟨dst,op,ty,pos,af,gd⟩:=o;cases op
 case nilCheck a=>
  have hp:HN P (runtimePanic .nilDeref:Sem Next):=fun _ _ y=>by first | exact y.elim | exact HN.bind (fun _=>fun _ _ z=>z.elim) _ _ y
  have key:HN P (execOp ρ ⟨dst,.nilCheck a,ty,pos,af,gd⟩):=by
   unfold execOp;dsimp only;split
   ·exact hp
   ·exact hp
   ·exact hp
   ·split
    ·exact hp
    ·refine HN.bind fun p=>HN.bind fun r=>?_;split
     ·exact HN.bind fun _=>HN.value _
     ·exact HN.value _
    ·exact HN.value _
   ·exact HN.value _
  exact key _ _ x
 case call c=>
  simp only [J6] at hv;have e:∀s:Sem Value,execOp ρ ⟨dst,.call c,ty,pos,af,gd⟩=s.bind (fun x=>Sem.pure (Next.value x))→(execOp ρ ⟨dst,.call c,ty,pos,af,gd⟩).gh P h fun a h'=>Q a h'∧∃v,a=.value v:=fun s q=>by
   rw [q] at x ⊢;exact Jk (f:=fun x=>x) x
  cases hc:c.callee with
  | value f=>rw [hc] at hv;cases hv
  | invoke r m=>rw [hc] at hv;cases hv
  | builtin b=>
   rw [hc] at hv;have q:execOp ρ ⟨dst,.call c,ty,pos,af,gd⟩=builtin b c.argTypes ty (c.args.map fun | .const _=>true | _=>false) (c.args.map ρ):=by
    show (resolve ρ c ty).bind _=_;unfold resolve;rw [hc];rfl
   cases b <;> first | (simp at hv;done) | exact e _ q
 all_goals first | (simp [J6] at hv;done) | skip
 all_goals first | exact Jk (s:=Sem.pure _) (f:=fun _=>_) x | exact Jk (f:=fun x=>x) x | exact Jk (β:=Bool) x
theorem GH.Le.get {h h':GH} (l:h.Le h') {b:Nat} {x:Bool×Obj} (hb:h b=some x):h' b=some x:=l.keep (p:=x.1) (o:=x.2) hb rfl
theorem GH.Le.of {h h':GH} (x:∀b y,h b=some y→h' b=some y):h.Le h':=fun b p o hb=>⟨o,x b _ hb,.inl rfl⟩
def Wn (h' h2:GH):GH:=fun b=>match h' b with
 | some x=>some x
 | none=>h2 b
theorem Py {h h2:GH} (l:h.Le h2):Wn h h2=h2:=funext fun b=>by
 unfold Wn;split
 ·rename_i x hb;exact (l.get hb).symm
 ·rfl
theorem GH.Le.set2 {h h2:GH} (l:h.Le h2) (r:Nat) (p:Bool) (o:Obj):(h.set r p o).Le (h2.set r p o):=.of fun b y hb=>by
 by_cases e:b=r
 ·subst e;rw [GH.set_same] at hb ⊢;exact hb
 ·rw [GH.set_ne h p o e] at hb;rw [GH.set_ne h2 p o e];exact l.get hb
def SG (h h':GH):Prop:=∀b,(∃x,h b=some x)→∃x,h' b=some x
theorem LG {h h' h2:GH} {r:Nat} {p:Bool} {o:Obj} (d:SG (h.set r p o) h'):Wn h' (h2.set r p o)=Wn h' h2:=funext fun b=>by
 unfold Wn;by_cases e:b=r
 ·subst e;obtain ⟨x,hx⟩:=d b ⟨_,GH.set_same h b p o⟩;rw [hx]
 ·rw [GH.set_ne h2 p o e]
theorem SG.set {h h':GH} {r:Nat} {p:Bool} {o:Obj} (d:SG (h.set r p o) h'):SG h h':=fun b ⟨x,hx⟩=>by
 by_cases e:b=r
 ·subst e;exact d b ⟨_,GH.set_same h b p o⟩
 ·exact d b ⟨x,by rw [GH.set_ne h p o e];exact hx⟩
theorem gh_over {α:Type} (e:Sem α) {Q:α→GH→Prop}:∀{h h2:GH},h.Le h2→e.gh P h Q→e.gh P h2 fun a h3=>∃h',SG h h'∧Q a h'∧h3=Wn h' h2:=by
 induction e with
 | pure a=>intro h h2 l x;exact ⟨h,fun _ y=>y,x,(Py l).symm⟩
 | load m a k ih=>rintro h h2 l ⟨x1,x2,p,c,t,f,v,y1,y2,z⟩;exact ⟨x1,x2,p,c,t,f,v,l.get y1,y2,ih v l z⟩
 | store m a v k ih=>
  rintro h h2 l ⟨x1,x2,x3,c,t,f,y1,y2,y3,z⟩;exact ⟨x1,x2,x3,c,t,f,l.get y1,y2,y3,E6 _ (fun _ _ ⟨h',d,q,r⟩=>⟨h',d.set,q,r.trans (LG d)⟩) _ (ih (l.set2 _ _ _) z)⟩
 | new o k ih=>
  intro h h2 l x r hr;have hr0:h r=none:=by
   cases hb:h r with
   | none=>rfl
   | some y=>rw [l.get hb] at hr;cases hr
  exact E6 _ (fun _ _ ⟨h',d,q,r⟩=>⟨h',d.set,q,r.trans (LG d)⟩) _ (ih r (l.set2 _ _ _) (x r hr0))
 | shape r k ih=>rintro h h2 l ⟨p,c,t,f,y,z⟩;exact ⟨p,c,t,f,l.get y,ih _ l z⟩
 | freeze a n k ih=>
  rintro h h2 l (⟨y,z⟩ | ⟨y,c,t,f,y2,z⟩)
  ·exact .inl ⟨y,ih l z⟩
  ·exact .inr ⟨y,c,t,f,l.get y2,E6 _ (fun _ _ ⟨h',d,q,r⟩=>⟨h',d.set,q,r.trans (LG d)⟩) _ (ih (l.set2 _ _ _) z)⟩
 | frozen a k ih=>rintro h h2 l ⟨p,c,t,f,y,z⟩;exact ⟨p,c,t,f,l.get y,ih _ l z⟩
 | getObj r k ih=>rintro h h2 l ⟨p,o,y1,y2,y3,z⟩;exact ⟨p,o,l.get y1,y2,y3,ih _ l z⟩
 | setObj r o k ih=>
  rintro h h2 l ⟨o',y1,y2,y2',y3,z⟩;exact ⟨o',l.get y1,y2,y2',y3,E6 _ (fun _ _ ⟨h',d,q,r⟩=>⟨h',d.set,q,r.trans (LG d)⟩) _ (ih (l.set2 _ _ _) z)⟩
 | choose q k ih=>rintro h h2 l ⟨y,z⟩;exact ⟨fun x=>ih _ l (y x),fun x t=>ih _ l (z x t)⟩
 | sys c k ih=>intro h h2 l x;exact x.elim
 | program k ih=>intro h h2 l x;exact ih _ l x
 | mark m k ih=>rintro h h2 l ⟨y,z⟩;exact ⟨y,ih l z⟩
 | halt x=>intro h h2 l y;exact y.elim
def WH (E:HI P) (o:Oper) (σ:Nat→Value) (ds:List Deferred) (h:GH) (v:Value):Prop:=Br E o σ ds h fun σ' ds' h'=>σ'=putS σ o.dst v∧ds'=ds∧h'=h
theorem WH.move {o:Oper} {xs:List Operand} {σ σ2:Nat→Value} {ds:List Deferred} {h h2:GH} {v:Value} (hv:J6 o.op=true) (hx:Hp o.op=some xs) (e:∀t ∈ Hq xs,σ t=σ2 t) (l:h.Le h2)
  (y:WH E o σ ds h v):WH E o σ2 ds h2 v:=by
 unfold WH Br at y ⊢;rw [←LF hx (Mb e)];refine E6 _ ?_ _ (gh_over _ l (Yn hv y));rintro a h3 ⟨h',_,⟨q,v',rfl⟩,rfl⟩;obtain ⟨q1,_,rfl⟩:=q;refine ⟨?_,rfl,Py l⟩;cases hd:o.dst with
 | none=>rfl
 | some d=>
  have:=congrFun q1 d
  simp only [hd,putS,upd_same] at this;rw [this]
theorem Br.move {o:Oper} {xs:List Operand} {σ σ2:Nat→Value} {ds:List Deferred} {h:GH} {T T2:(Nat→Value)→List Deferred→GH→Prop} (hx:Hp o.op=some xs) (e:∀t ∈ Hq xs,σ t=σ2 t)
  (ht:∀x ds' h',T (putS σ o.dst x) ds' h'→T2 (putS σ2 o.dst x) ds' h') (y:Br E o σ ds h T):Br E o σ2 ds h T2:=by
 unfold Br at y ⊢;rw [←LF hx (Mb e)];refine E6 _ (fun nx h' q=>?_) _ y;cases nx <;> first | exact ht _ _ _ q | exact Ah.mono q fun v h'' r=>ht _ _ _ r | exact CH.mono q fun v h'' r=>ht _ _ _ r | exact q
inductive Kd where
 | p | r | e | w | a
 deriving DecidableEq
def Gd (l:List Oper) (o:Oper) (σ:Nat→Value) (b:Bool):Prop:=match o.guard with
 | none=>b=true
 | some (g,w)=>∃og d is,l[g]? =some og∧og.dst=some d∧σ d=.bool is∧b=(is==w)
theorem Gd.iff {l:List Oper} {o:Oper} {σ:Nat→Value} {b:Bool} (x:Gd l o σ b):C6 l o σ↔b=true:=by
 unfold Gd at x;unfold C6;cases hg:o.guard with
 | none=>rw [hg] at x;simp only at x;simp [x]
 | some y=>
  obtain ⟨g,w⟩:=y;rw [hg] at x;obtain ⟨og,d,is,h1,h2,h3,rfl⟩:=x;simp only [h1,h2,h3];simp
def Gw (fl:Bool) (h hx:GH):Prop:=h.Le hx∧(fl=false→hx=h)
theorem Gw.refl (fl:Bool) (h:GH):Gw fl h h:=⟨GH.Le.refl h,fun _=>rfl⟩
def zOf (P:Program) (t:TypeId):Array Value:=(CE P t).getD #[]
def TD (E:HI P) (l:List Oper) (n:Nat) (fl:Bool) (hs:GH) (ds:List Deferred) (F:(Nat→Value)→GH→Prop):List (Kd×Nat)→(Nat→Value)→GH→Prop
 | [],σ,h=>∀hx,Gw fl h hx→F σ hx
 | (kd,k) ::π,σ,h=>∃o b,l[k]? =some o∧Gd l o σ b∧(b=false→TD E l n fl hs ds F π (putS σ o.dst undef) h)∧(b=true→match kd with
  | .p=>∃v,(∀hx,WH E o σ ds hx v)∧TD E l n fl hs ds F π (putS σ o.dst v) h
  | .r=>∃v,WH E o σ ds h v∧TD E l n fl hs ds F π (putS σ o.dst v) h
  | .e=>∀hx,Gw fl h hx→Br E o σ ds hx fun σ' ds' h'=>ds'=ds∧∃v,σ'=putS σ o.dst v∧hx.Le h'∧TD E l n fl hs ds F π (putS σ o.dst v) h'
  | .w=>∀hx,Gw fl h hx→Br E o σ ds hx fun σ' ds' h'=>ds'=ds∧∃v,σ'=putS σ o.dst v∧TD E l n fl hs ds F π (putS σ o.dst v) h'
  | .a=>∀t r hx,o.op=.alloc t→h.Le hx→hs r=none→hx r=some (true,.cells (zOf P t) t (0,0))→TD E l n fl hs ds F π (putS σ o.dst (.pointer (some ⟨r,0,none⟩))) hx)
def Hz (l:List Oper) (n:Nat) (cl seen:List Nat) (t:Nat):Bool:= !(Dm l n).contains t || seen.any fun j=>cl.contains j && match l[j]? with
 | some oj=>oj.dst==some t
 | none=>false
def Q4 (P:Program):Op→Bool
 | .alloc t=>(CE P t).isSome
 | _=>false
def G0 (P:Program) (l:List Oper) (n:Nat) (cls:List (List Nat)) (fl:Bool):List (Kd×Nat)→List Nat→List Nat→List Nat→Bool→Bool
 | [],seen,_,_,_=>(List.range n).all seen.contains
 | (kd,k) ::π,seen,effs,rds,wr=>match l[k]? with
  | none=>false
  | some o=>(match Hp o.op with
    | none=>false
    | some xs=>Nat.blt k n && !seen.contains k && (Hq xs).all (Hz l n (cls.getD k []) seen)) &&
   (match o.guard with
    | none=>true
    | some (g,_)=>seen.contains g && (cls.getD k []).contains g) &&
   (match kd with
    | .p=>J6 o.op && effs.all (cls.getD k []).contains && G0 P l n cls fl π (k ::seen) effs rds wr
    | .r=>J6 o.op && effs.all (cls.getD k []).contains && G0 P l n cls fl π (k ::seen) effs (k ::rds) wr
    | .e=>effs.all (cls.getD k []).contains && G0 P l n cls fl π (k ::seen) (k ::effs) rds wr
    | .w=>effs.all (cls.getD k []).contains && rds.all (cls.getD k []).contains && G0 P l n cls fl π (k ::seen) (k ::effs) rds true
    | .a=>fl && !wr && Q4 P o.op && o.dst.isSome && o.guard.isNone && G0 P l n cls fl π (k ::seen) (k ::effs) rds wr)
structure PF (E:HI P) (l:List Oper) (n:Nat) (cls:List (List Nat)) (ds:List Deferred) (seen rds:List Nat) (σr:Nat→Value) (h':GH) (k:Nat) (o:Oper) (xs:List Operand) (b:Bool) (v:Value):Prop where
 at':l[k]? =some o
 op:Hp o.op=some xs
 val:J6 o.op=true
 fix:∀t ∈ Hq xs,Hz l n (cls.getD k []) seen t=true
 gfix:∀g w,o.guard=some (g,w)→g ∈ seen∧g ∈ cls.getD k []
 gd:Gd l o σr b
 vop:b=true→WH E o σr ds h' v∧(k ∈ rds∨∀hx,WH E o σr ds hx v)
 is:∀d,o.dst=some d→σr d=if b=true then v else undef
structure Lq (E:HI P) (l:List Oper) (n:Nat) (cls:List (List Nat)) (fl:Bool) (hs:GH) (ds:List Deferred) (F:(Nat→Value)→GH→Prop) (seen effs rds:List Nat) (wr:Bool) (π:List (Kd×Nat)) (σr:Nat→Value) (hr:GH)
  (D:Nat→Bool) (σ':Nat→Value) (h':GH):Prop where
 td:TD E l n fl hs ds F π σr hr
 ok:G0 P l n cls fl π seen effs rds wr=true
 gw:Gw fl hr h'
 base:∀t,(Dm l n).contains t=false→σ' t=σr t
 lt:∀k ∈ seen,k<n
 eff:∀k ∈ effs,D k=true
 rest:∀kd k,(kd,k) ∈ π→kd≠.a→D k=false
 done:∀k ∈ seen,D k=true→∀o d,l[k]? =some o→o.dst=some d→σ' d=σr d
 pend:∀k ∈ seen,D k=false→∃o xs b v,PF E l n cls ds seen rds σr h' k o xs b v
 flo:∀k,(Kd.a,k) ∈ π→D k=true→∀o t d,l[k]? =some o→o.op=.alloc t→o.dst=some d→∃r,σ' d=.pointer (some ⟨r,0,none⟩)∧hs r=none∧h' r=some (true,.cells (zOf P t) t (0,0))
 pre:wr=false→hs.Le h'
 clos:∀k,k<n→D k=true→∀q ∈ cls.getD k [],D q=true
theorem Mc {l:List Oper} {n:Nat} {cl seen:List Nat} {k t:Nat} (x:Hz l n cl seen t=true):Hz l n cl (k ::seen) t=true:=by
 unfold Hz at x ⊢;rw [Bool.or_eq_true] at x ⊢;rcases x with x | x
 ·exact .inl x
 ·exact .inr (by rw [List.any_cons,x];simp)
theorem Pz {l:List Oper} {n:Nat} {cl seen:List Nat} {k t d:Nat} {o:Oper} (nd:(Dm l n).Nodup) (hlt:∀k ∈ seen,k<n) (hk:k<n) (hs:k ∉ seen) (ho:l[k]? =some o) (hd:o.dst=some d) (x:Hz l n cl seen t=true):t≠d:=by
 intro e;subst e;unfold Hz at x;rw [Bool.or_eq_true] at x;rcases x with x | x
 ·have:t ∈ Dm l n:=by
   simp only [Dm,List.mem_filterMap];refine ⟨o,?_,hd⟩
   have:(l.take n)[k]? =some o:=by rw [List.getElem?_take];simp [hk,ho]
   exact List.mem_of_getElem? this
  simp [this] at x
 ·rw [List.any_eq_true] at x;obtain ⟨j,hj,y⟩:=x;rw [Bool.and_eq_true] at y;cases hoj:l[j]? with
  | none=>rw [hoj] at y;simp at y
  | some oj=>
   rw [hoj] at y;have y2:oj.dst=some t:=by simpa using y.2
   exact FY nd hk (hlt j hj) (fun e=>hs (e▸hj)) ho hoj hd y2 rfl
theorem EI {σ:Nat→Value} {o:Oper} {v:Value} {t:Nat} (h:∀d,o.dst=some d→t≠d):putS σ o.dst v t=σ t:=by
 cases hd:o.dst with
 | none=>rfl
 | some d=>exact upd_ne σ v (KU (h d hd))
theorem Jl {l:List Oper} {n k t:Nat} {o:Oper} (hk:k<n) (ho:l[k]? =some o) (ht:(Dm l n).contains t=false):∀d,o.dst=some d→t≠d:=fun d hd e=>by
 subst e;rw [NR hk ho hd] at ht;cases ht
section
variable {l:List Oper} {n:Nat} {cls:List (List Nat)} {fl:Bool} {hs:GH} {ds:List Deferred} {F:(Nat→Value)→GH→Prop} {seen effs rds:List Nat} {wr:Bool} {π:List (Kd×Nat)} {σr σ':Nat→Value} {hr h':GH} {D:Nat→Bool}
theorem Gd.put {o ok:Oper} {k:Nat} {b:Bool} {v:Value} (nd:(Dm l n).Nodup) (hlt:∀k ∈ seen,k<n) (hk:k<n) (hks:k ∉ seen) (hok:l[k]? =some ok) (hg:∀g w,o.guard=some (g,w)→g ∈ seen) (x:Gd l o σr b):Gd l o (putS σr ok.dst v) b:=by
 unfold Gd at x ⊢;cases hgd:o.guard with
 | none=>rw [hgd] at x;exact x
 | some y=>
  obtain ⟨g,w⟩:=y;rw [hgd] at x;obtain ⟨og,d,is,h1,h2,h3,h4⟩:=x;have hgs:=hg g w hgd;exact ⟨og,d,is,h1,h2,by rw [EI fun d' hd'=>FY nd hk (hlt g hgs) (fun e=>hks (e▸hgs)) hok h1 hd' h2];exact h3,h4⟩
theorem PF.put {k j:Nat} {o ok:Oper} {xs:List Operand} {b:Bool} {v w:Value} (nd:(Dm l n).Nodup) (hlt:∀k ∈ seen,k<n) (hk:k<n) (hks:k ∉ seen) (hok:l[k]? =some ok) (hj:j ∈ seen) (l2:hr.Le h')
  (x:PF E l n cls ds seen rds σr hr j o xs b v):PF E l n cls ds (k ::seen) rds (putS σr ok.dst w) h' j o xs b v where
 at':=x.at'
 op:=x.op
 val:=x.val
 fix:=fun t ht=>Mc (x.fix t ht)
 gfix:=fun g w' hg=>⟨List.mem_cons_of_mem _ (x.gfix g w' hg).1,(x.gfix g w' hg).2⟩
 gd:=x.gd.put nd hlt hk hks hok fun g w' hg=>(x.gfix g w' hg).1
 vop:=fun hb=>by
  have e:∀t ∈ Hq xs,σr t=putS σr ok.dst w t:=fun t ht=>(EI fun d hd=>Pz nd hlt hk hks hok hd (x.fix t ht)).symm;obtain ⟨y1,y2⟩:=x.vop hb;exact ⟨y1.move x.val x.op e l2,y2.imp id fun y hx=>(y hx).move x.val x.op e (GH.Le.refl _)⟩
 is:=fun d hd=>by rw [EI fun d' hd'=>FY nd hk (hlt j hj) (fun e=>hks (e▸hj)) hok x.at' hd' hd];exact x.is d hd
theorem PF.more {j:Nat} {o:Oper} {xs:List Operand} {b:Bool} {v:Value} {k:Nat} (x:PF E l n cls ds seen rds σr h' j o xs b v):PF E l n cls ds seen (k ::rds) σr h' j o xs b v:=
 { x with vop:=fun hb=>⟨(x.vop hb).1,(x.vop hb).2.imp (List.mem_cons_of_mem _) id⟩ }
def Yo (P:Program) (l:List Oper) (n:Nat) (cls:List (List Nat)) (fl:Bool) (π:List (Kd×Nat)) (seen effs rds:List Nat) (wr:Bool) (k:Nat) (o:Oper):Kd→Prop
 | .p=>J6 o.op=true∧(∀q ∈ effs,q ∈ cls.getD k [])∧G0 P l n cls fl π (k ::seen) effs rds wr=true
 | .r=>J6 o.op=true∧(∀q ∈ effs,q ∈ cls.getD k [])∧G0 P l n cls fl π (k ::seen) effs (k ::rds) wr=true
 | .e=>(∀q ∈ effs,q ∈ cls.getD k [])∧G0 P l n cls fl π (k ::seen) (k ::effs) rds wr=true
 | .w=>(∀q ∈ effs,q ∈ cls.getD k [])∧(∀q ∈ rds,q ∈ cls.getD k [])∧G0 P l n cls fl π (k ::seen) (k ::effs) rds true=true
 | .a=>fl=true∧wr=false∧Q4 P o.op=true∧o.dst.isSome=true∧o.guard=none∧G0 P l n cls fl π (k ::seen) (k ::effs) rds wr=true
theorem GB {kd:Kd} {k:Nat} (x:G0 P l n cls fl ((kd,k) ::π) seen effs rds wr=true) :
  ∃o xs,l[k]? =some o∧Hp o.op=some xs∧k<n∧k ∉ seen∧(∀t ∈ Hq xs,Hz l n (cls.getD k []) seen t=true)∧(∀g w,o.guard=some (g,w)→g ∈ seen∧g ∈ cls.getD k [])∧
  Yo P l n cls fl π seen effs rds wr k o kd:=by
 unfold G0 at x;cases ho:l[k]? with
 | none=>rw [ho] at x;cases x
 | some o=>
  rw [ho] at x;simp only [Bool.and_eq_true] at x;obtain ⟨⟨x1,x2⟩,x3⟩:=x;cases hx:Hp o.op with
  | none=>rw [hx] at x1;cases x1
  | some xs=>
   rw [hx] at x1;simp only [Bool.and_eq_true,Bool.not_eq_true',List.all_eq_true] at x1;obtain ⟨⟨y1,y2⟩,y3⟩:=x1;refine ⟨o,xs,rfl,hx,Nat.blt_eq▸y1,(fun hm=>by rw [List.contains_iff_mem.2 hm] at y2;cases y2),y3,fun g w hg=>?_,?_⟩
   ·rw [hg] at x2;simp only [Bool.and_eq_true] at x2;exact ⟨List.contains_iff_mem.1 x2.1,List.contains_iff_mem.1 x2.2⟩
   ·cases kd <;> unfold Yo <;> simp only [Bool.and_eq_true,List.all_eq_true,List.contains_iff_mem,Bool.not_eq_true',Option.isNone_iff_eq_none] at x3 ⊢
    ·exact ⟨x3.1.1,x3.1.2,x3.2⟩
    ·exact ⟨x3.1.1,x3.1.2,x3.2⟩
    ·exact x3
    ·exact ⟨x3.1.1,x3.1.2,x3.2⟩
    ·exact ⟨x3.1.1.1.1.1,x3.1.1.1.1.2,x3.1.1.1.2,x3.1.1.2,x3.1.2,x3.2⟩
theorem IC {kd:Kd} {k:Nat} (x:G0 P l n cls fl ((kd,k) ::π) seen effs rds wr=true):∃effs' rds' wr',G0 P l n cls fl π (k ::seen) effs' rds' wr'=true∧(∀q ∈ effs,q ∈ effs')∧(kd=.e∨kd=.w∨kd=.a→k ∈ effs'):=by
 obtain ⟨o,xs,_,_,_,_,_,_,y⟩:=GB x;cases kd with
 | p=>exact ⟨_,_,_,y.2.2,fun _ q=>q,fun e=>by rcases e with e | e | e <;> cases e⟩
 | r=>exact ⟨_,_,_,y.2.2,fun _ q=>q,fun e=>by rcases e with e | e | e <;> cases e⟩
 | e=>exact ⟨_,_,_,y.2,fun _ q=>List.mem_cons_of_mem _ q,fun _=>List.mem_cons_self⟩
 | w=>exact ⟨_,_,_,y.2.2,fun _ q=>List.mem_cons_of_mem _ q,fun _=>List.mem_cons_self⟩
 | a=>exact ⟨_,_,_,y.2.2.2.2.2,fun _ q=>List.mem_cons_of_mem _ q,fun _=>List.mem_cons_self⟩
theorem FH:∀{π:List (Kd×Nat)} {seen effs rds:List Nat} {wr:Bool},G0 P l n cls fl π seen effs rds wr=true→∀kd k,(kd,k) ∈ π→k ∉ seen∧k<n
 | [],_,_,_,_,_,kd,k,h=>by cases h
 | (kd',k') ::π,seen,effs,rds,wr,x,kd,k,h=>by
  obtain ⟨o,xs,_,_,h1,h2,_⟩:=GB x;rcases List.mem_cons.1 h with e | h
  ·cases e;exact ⟨h2,h1⟩
  ·obtain ⟨effs',rds',wr',y,_⟩:=IC x
   have:=FH y kd k h
   exact ⟨fun q=>this.1 (List.mem_cons_of_mem _ q),this.2⟩
theorem Na:∀{π:List (Kd×Nat)} {seen effs rds:List Nat} {wr:Bool},G0 P l n cls fl π seen effs rds wr=true→∀i,i<n→i ∈ seen∨∃kd,(kd,i) ∈ π
 | [],seen,_,_,_,x,i,hi=>by
  unfold G0 at x;exact .inl (List.contains_iff_mem.1 (List.all_eq_true.1 x i (List.mem_range.2 hi)))
 | (kd',k') ::π,seen,effs,rds,wr,x,i,hi=>by
  obtain ⟨effs',rds',wr',y,_⟩:=IC x;rcases Na y i hi with h | ⟨kd,h⟩
  ·rcases List.mem_cons.1 h with e | h
   ·exact .inr ⟨kd',e▸List.mem_cons_self⟩
   ·exact .inl h
  ·exact .inr ⟨kd,List.mem_cons_of_mem _ h⟩
theorem SH:∀{π:List (Kd×Nat)} {seen effs rds:List Nat} {wr:Bool},G0 P l n cls fl π seen effs rds wr=true→∀kd k,(kd,k) ∈ π→kd≠.a→∀q ∈ effs,q ∈ cls.getD k []
 | [],_,_,_,_,_,kd,k,h=>by cases h
 | (kd',k') ::π,seen,effs,rds,wr,x,kd,k,h=>by
  intro hne q hq;rcases List.mem_cons.1 h with e | h
  ·cases e;obtain ⟨o,xs,_,_,_,_,_,_,y⟩:=GB x;cases kd' with
   | p=>exact y.2.1 q hq
   | r=>exact y.2.1 q hq
   | e=>exact y.1 q hq
   | w=>exact y.1 q hq
   | a=>exact absurd rfl hne
  ·obtain ⟨effs',rds',wr',y,z,_⟩:=IC x;exact SH y kd k h hne q (z q hq)
theorem Fb:∀{π:List (Kd×Nat)} {seen effs rds:List Nat} {wr:Bool},G0 P l n cls fl π seen effs rds wr=true→∀k,(Kd.a,k) ∈ π→fl=true∧wr=false∧k<n∧∃o,l[k]? =some o∧Q4 P o.op=true∧o.dst.isSome=true∧o.guard=none
 | [],_,_,_,_,_,k,h=>by cases h
 | (kd',k') ::π,seen,effs,rds,wr,x,k,h=>by
  obtain ⟨o,xs,ho,hx,h1,h2,h3,h4,hh⟩:=GB x;rcases List.mem_cons.1 h with e | h6
  ·cases e;exact ⟨hh.1,hh.2.1,h1,o,ho,hh.2.2.1,hh.2.2.2.1,hh.2.2.2.2.1⟩
  ·cases kd' with
   | p=>exact Fb hh.2.2 k h6
   | r=>exact Fb hh.2.2 k h6
   | e=>exact Fb hh.2 k h6
   | w=>have:=(Fb hh.2.2 k h6).2.1;cases this
   | a=>exact Fb hh.2.2.2.2.2 k h6
theorem Lx {k:Nat}:Hk D k k=true:=by simp [Hk]
theorem EJ {k j:Nat} (h:j≠k):Hk D k j=D j:=by unfold Hk;rw [if_neg (fun e=>h e.symm)]
theorem G1 {k j:Nat} (h:D j=true):Hk D k j=true:=by unfold Hk;split <;> simp [h]
theorem Lq.agree (x:Lq E l n cls fl hs ds F seen effs rds wr π σr hr D σ' h') {cl:List Nat} (hcl:∀q ∈ cl,D q=true) {t:Nat} (y:Hz l n cl seen t=true):σr t=σ' t:=by
 unfold Hz at y;rw [Bool.or_eq_true] at y;rcases y with y | y
 ·exact (x.base t (by simpa using y)).symm
 ·rw [List.any_eq_true] at y;obtain ⟨j,hj,z⟩:=y;rw [Bool.and_eq_true] at z;cases hoj:l[j]? with
  | none=>rw [hoj] at z;simp at z
  | some oj=>
   rw [hoj] at z;exact (x.done j hj (hcl j (List.contains_iff_mem.1 z.1)) oj t hoj (by simpa using z.2)).symm
theorem Lq.guard (x:Lq E l n cls fl hs ds F seen effs rds wr π σr hr D σ' h') {cl:List Nat} (hcl:∀q ∈ cl,D q=true) {o:Oper} {b:Bool} (hg:∀g w,o.guard=some (g,w)→g ∈ seen∧g ∈ cl) (y:Gd l o σr b):Gd l o σ' b:=by
 unfold Gd at y ⊢;cases hgd:o.guard with
 | none=>rw [hgd] at y;exact y
 | some z=>
  obtain ⟨g,w⟩:=z;rw [hgd] at y;obtain ⟨og,d,is,h1,h2,h3,h4⟩:=y;exact ⟨og,d,is,h1,h2,by rw [x.done g (hg g w hgd).1 (hcl g (hg g w hgd).2) og d h1 h2];exact h3,h4⟩
theorem Lq.unfoldV {kd:Kd} {k:Nat} (nd:(Dm l n).Nodup) (hkd:kd=.p∨kd=.r) (x:Lq E l n cls fl hs ds F seen effs rds wr ((kd,k) ::π) σr hr D σ' h') :
  ∃rds' σr',Lq E l n cls fl hs ds F (k ::seen) effs rds' wr π σr' hr D σ' h':=by
 obtain ⟨o,xs,ho,hx,hkn,hks,hfix,hg,hh⟩:=GB x.ok;obtain ⟨o2,b,ho2,hgd,hF,hT⟩:=x.td;obtain rfl:o2=o:=Option.some.inj (ho2.symm.trans ho);have hkD:D k=false:=x.rest kd k List.mem_cons_self (by rintro rfl;rcases hkd with e | e <;> cases e);have hval:J6 o2.op=true:=by rcases hkd with rfl | rfl <;> exact hh.1
 have key:∀(v:Value) (rds':List Nat),(rds'=rds∨rds'=k ::rds)→G0 P l n cls fl π (k ::seen) effs rds' wr=true→TD E l n fl hs ds F π (putS σr o2.dst (if b=true then v else undef)) hr→
   (b=true→WH E o2 σr ds hr v∧(k ∈ rds'∨∀hx,WH E o2 σr ds hx v))→Lq E l n cls fl hs ds F (k ::seen) effs rds' wr π (putS σr o2.dst (if b=true then v else undef)) hr D σ' h':=by
  intro v rds' hrds ok' td' hv;refine ⟨td',ok',x.gw,fun t ht=>?_,fun j hj=>?_,x.eff,fun kd' j hj hne=>x.rest kd' j (List.mem_cons_of_mem _ hj) hne,fun j hj hDj o' d ho' hd=>?_,fun j hj hDj=>?_,fun j hj=>x.flo j (List.mem_cons_of_mem _ hj),x.pre,x.clos⟩
  ·rw [EI (Jl hkn ho ht)];exact x.base t ht
  ·rcases List.mem_cons.1 hj with rfl | hj
   ·exact hkn
   ·exact x.lt j hj
  ·rcases List.mem_cons.1 hj with rfl | hj
   ·rw [hkD] at hDj;cases hDj
   ·rw [EI fun d' hd'=>FY nd hkn (x.lt j hj) (fun e=>hks (e▸hj)) ho ho' hd' hd];exact x.done j hj hDj o' d ho' hd
  ·rcases List.mem_cons.1 hj with rfl | hj
   ·refine ⟨o2,xs,b,v,ho,hx,hval,fun t ht=>Mc (hfix t ht),fun g w hgg=>⟨List.mem_cons_of_mem _ (hg g w hgg).1,(hg g w hgg).2⟩,hgd.put nd x.lt hkn hks ho fun g w hgg=>(hg g w hgg).1,fun hb=>?_,fun d hd=>?_⟩
    ·have e:∀t ∈ Hq xs,σr t=putS σr o2.dst (if b=true then v else undef) t:=fun t ht=>(EI fun d hd=>Pz nd x.lt hkn hks ho hd (hfix t ht)).symm;obtain ⟨y1,y2⟩:=hv hb;exact ⟨y1.move hval hx e x.gw.1,y2.imp id fun y hx'=>(y hx').move hval hx e (GH.Le.refl _)⟩
    ·rw [hd];exact upd_same _ _ _
   ·obtain ⟨o',xs',b',v',pf⟩:=x.pend j hj hDj
    have:=pf.put (w:=if b=true then v else undef) nd x.lt hkn hks ho hj (GH.Le.refl _)
    rcases hrds with rfl | rfl
    ·exact ⟨o',xs',b',v',this⟩
    ·exact ⟨o',xs',b',v',this.more⟩
 cases b with
 | false=>
  rcases hkd with rfl | rfl
  ·exact ⟨_,_,key undef _ (.inl rfl) hh.2.2 (hF rfl) (fun e=>by cases e)⟩
  ·exact ⟨_,_,key undef _ (.inr rfl) hh.2.2 (hF rfl) (fun e=>by cases e)⟩
 | true=>
  rcases hkd with rfl | rfl
  ·obtain ⟨v,h1,h2⟩:=hT rfl;exact ⟨_,_,key v _ (.inl rfl) hh.2.2 h2 (fun _=>⟨h1 _,.inr h1⟩)⟩
  ·obtain ⟨v,h1,h2⟩:=hT rfl;exact ⟨_,_,key v _ (.inr rfl) hh.2.2 h2 (fun _=>⟨h1,.inl List.mem_cons_self⟩)⟩
theorem Lq.unfoldA {k:Nat} (nd:(Dm l n).Nodup) (hD:D k=true) (x:Lq E l n cls fl hs ds F seen effs rds wr ((Kd.a,k) ::π) σr hr D σ' h') :
  ∃σr',Lq E l n cls fl hs ds F (k ::seen) (k ::effs) rds wr π σr' h' D σ' h':=by
 obtain ⟨o,xs,ho,hx,hkn,hks,hfix,hg,hh⟩:=GB x.ok;obtain ⟨o2,b,ho2,hgd,hF,hT⟩:=x.td;obtain rfl:o2=o:=Option.some.inj (ho2.symm.trans ho);obtain ⟨hfl,hwr,hal,hds,hgn,ok'⟩:=hh;obtain rfl:b=true:=by unfold Gd at hgd;rw [hgn] at hgd;exact hgd
 obtain ⟨t,hop⟩:∃t,o2.op=.alloc t:=by
  cases hq:o2.op <;> rw [hq] at hal <;> first | exact ⟨_,rfl⟩ | cases hal
 obtain ⟨d,hd⟩:=Option.isSome_iff_exists.1 hds;obtain ⟨r,h1,h2,h3⟩:=x.flo k List.mem_cons_self hD o2 t d ho hop hd;refine ⟨putS σr o2.dst (.pointer (some ⟨r,0,none⟩)),hT rfl t r h' hop x.gw.1 h2 h3,ok',Gw.refl _ _,fun t ht=>?_,fun j hj=>?_,fun j hj=>?_,fun kd' j hj hne=>x.rest kd' j (List.mem_cons_of_mem _ hj) hne,fun j hj hDj o' d' ho' hd'=>?_,fun j hj hDj=>?_,
  fun j hj=>x.flo j (List.mem_cons_of_mem _ hj),x.pre,x.clos⟩
 ·rw [EI (Jl hkn ho ht)];exact x.base t ht
 ·rcases List.mem_cons.1 hj with rfl | hj
  ·exact hkn
  ·exact x.lt j hj
 ·rcases List.mem_cons.1 hj with rfl | hj
  ·exact hD
  ·exact x.eff j hj
 ·rcases List.mem_cons.1 hj with rfl | hj
  ·obtain rfl:o'=o2:=Option.some.inj (ho'.symm.trans ho);obtain rfl:d'=d:=Option.some.inj (hd'.symm.trans hd);rw [h1,hd];exact (upd_same _ _ _).symm
  ·rw [EI fun e he=>FY nd hkn (x.lt j hj) (fun e=>hks (e▸hj)) ho ho' he hd'];exact x.done j hj hDj o' d' ho' hd'
 ·rcases List.mem_cons.1 hj with rfl | hj
  ·rw [hD] at hDj;cases hDj
  ·obtain ⟨o',xs',b',v',pf⟩:=x.pend j hj hDj;exact ⟨o',xs',b',v',pf.put nd x.lt hkn hks ho hj (GH.Le.refl _)⟩
theorem Lq.ran {kd:Kd} {k:Nat} {o:Oper} {xs:List Operand} {v:Value} {hr2 h2:GH} {wr':Bool} (nd:(Dm l n).Nodup) (ho:l[k]? =some o) (hkn:k<n) (hks:k ∉ seen) (hcl:∀q ∈ cls.getD k [],D q=true)
  (x:Lq E l n cls fl hs ds F seen effs rds wr ((kd,k) ::π) σr hr D σ' h') (td:TD E l n fl hs ds F π (putS σr o.dst v) hr2) (ok':G0 P l n cls fl π (k ::seen) (k ::effs) rds wr'=true) (gw:Gw fl hr2 h2)
  (how:(wr'=wr∧h'.Le h2)∨(wr'=true∧∀q ∈ rds,D q=true)) :
  Lq E l n cls fl hs ds F (k ::seen) (k ::effs) rds wr' π (putS σr o.dst v) hr2 (Hk D k) (putS σ' o.dst v) h2:=by
 refine ⟨td,ok',gw,fun t ht=>?_,fun j hj=>?_,fun j hj=>?_,fun kd' j hj hne=>?_,fun j hj hDj o' d' ho' hd'=>?_,fun j hj hDj=>?_,fun j hj hDj o' t d' ho' hop hd'=>?_,fun hw=>?_,fun j hjn hDj q hq=>?_⟩
 ·rw [EI (Jl hkn ho ht),EI (Jl hkn ho ht)];exact x.base t ht
 ·rcases List.mem_cons.1 hj with rfl | hj
  ·exact hkn
  ·exact x.lt j hj
 ·rcases List.mem_cons.1 hj with rfl | hj
  ·exact Lx
  ·exact G1 (x.eff j hj)
 ·have hnew:=(FH ok' kd' j hj).1;rw [EJ fun e=>hnew (by rw [e];exact List.mem_cons_self)];exact x.rest kd' j (List.mem_cons_of_mem _ hj) hne
 ·rcases List.mem_cons.1 hj with rfl | hj
  ·obtain rfl:o'=o:=Option.some.inj (ho'.symm.trans ho);rw [hd'];exact (upd_same _ _ _).trans (upd_same _ _ _).symm
  ·have hjk:j≠k:=fun e=>hks (e▸hj);rw [EJ hjk] at hDj;have hne:∀e,o.dst=some e→d'≠e:=fun e he=>FY nd hkn (x.lt j hj) (fun e=>hjk e.symm) ho ho' he hd';rw [EI hne,EI hne];exact x.done j hj hDj o' d' ho' hd'
 ·rcases List.mem_cons.1 hj with rfl | hj
  ·rw [Lx] at hDj;cases hDj
  ·have hjk:j≠k:=fun e=>hks (e▸hj);rw [EJ hjk] at hDj;obtain ⟨o',xs',b',v',pf⟩:=x.pend j hj hDj;rcases how with ⟨_,l2⟩ | ⟨_,hrd⟩
   ·exact ⟨o',xs',b',v',pf.put nd x.lt hkn hks ho hj l2⟩
   ·have pf2:PF E l n cls ds seen rds σr h2 j o' xs' b' v':=⟨pf.at',pf.op,pf.val,pf.fix,pf.gfix,pf.gd,fun hb=>(pf.vop hb).2.elim (fun hm=>by rw [hrd j hm] at hDj;cases hDj) fun hall=>⟨hall h2,.inr hall⟩,pf.is⟩;exact ⟨o',xs',b',v',pf2.put nd x.lt hkn hks ho hj (GH.Le.refl _)⟩
 ·have hnew:=(FH ok' _ j hj);have hjk:j≠k:=fun e=>hnew.1 (by rw [e];exact List.mem_cons_self);rw [EJ hjk] at hDj;obtain ⟨r,h1,h3,h4⟩:=x.flo j (List.mem_cons_of_mem _ hj) hDj o' t d' ho' hop hd';rcases how with ⟨_,l2⟩ | ⟨hw,_⟩
  ·exact ⟨r,by rw [EI fun e he=>FY nd hkn hnew.2 (fun e=>hjk e.symm) ho ho' he hd'];exact h1,h3,l2.get h4⟩
  ·have:=(Fb ok' j hj).2.1;rw [hw] at this;cases this
 ·rcases how with ⟨e,l2⟩ | ⟨e,_⟩
  ·exact (x.pre (e▸hw)).trans l2
  ·rw [e] at hw;cases hw
 ·by_cases e:j=k
  ·subst e;exact G1 (hcl q hq)
  ·rw [EJ e] at hDj;exact G1 (x.clos j hjn hDj q hq)
def TdAt (E:HI P) (l:List Oper) (n:Nat) (cls:List (List Nat)) (fl:Bool) (hs:GH) (ds:List Deferred) (F:(Nat→Value)→GH→Prop) (D:Nat→Bool) (σ':Nat→Value) (h':GH):Prop:=
 ∃seen effs rds wr π σr hr,Lq E l n cls fl hs ds F seen effs rds wr π σr hr D σ' h'
abbrev RunK (E:HI P) (l:List Oper) (n:Nat) (cls:List (List Nat)) (fl:Bool) (hs:GH) (ds:List Deferred) (F:(Nat→Value)→GH→Prop) (D:Nat→Bool) (σ':Nat→Value) (h':GH) (k:Nat) (o:Oper):Prop:=
 (C6 l o σ'→Br E o σ' ds h' fun σ'' ds'' h''=>ds''=ds∧TdAt E l n cls fl hs ds F (Hk D k) σ'' h'')∧(¬C6 l o σ'→TdAt E l n cls fl hs ds F (Hk D k) (putS σ' o.dst undef) h')
theorem Lq.runV {k:Nat} {o:Oper} (nd:(Dm l n).Nodup) (ho:l[k]? =some o) (hks:k ∈ seen) (hkD:D k=false) (hcl:∀q ∈ cls.getD k [],D q=true) (x:Lq E l n cls fl hs ds F seen effs rds wr π σr hr D σ' h') :
  RunK E l n cls fl hs ds F D σ' h' k o:=by
 obtain ⟨o2,xs,b,v,pf⟩:=x.pend k hks hkD;obtain rfl:o2=o:=Option.some.inj (pf.at'.symm.trans ho);have hkn:=x.lt k hks;have hgi:=(x.guard hcl pf.gfix pf.gd).iff;have key:Lq E l n cls fl hs ds F seen effs rds wr π σr hr (Hk D k) (putS σ' o2.dst (if b=true then v else undef)) h':=by
  refine ⟨x.td,x.ok,x.gw,fun t ht=>?_,x.lt,fun j hj=>G1 (x.eff j hj),fun kd' j hj hne=>?_,fun j hj hDj o' d' ho' hd'=>?_,fun j hj hDj=>?_,fun j hj hDj o' t d' ho' hop hd'=>?_,x.pre,fun j hjn hDj q hq=>?_⟩
  ·rw [EI (Jl hkn ho ht)];exact x.base t ht
  ·have hnew:=(FH x.ok kd' j hj).1;rw [EJ fun (e:j=k)=>hnew (by rw [e];exact hks)];exact x.rest kd' j hj hne
  ·by_cases hjk:j=k
   ·subst hjk;obtain rfl:o'=o2:=Option.some.inj (ho'.symm.trans ho);rw [pf.is d' hd',hd'];exact upd_same _ _ _
   ·rw [EJ hjk] at hDj;rw [EI fun e he=>FY nd hkn (x.lt j hj) (fun e=>hjk e.symm) ho ho' he hd'];exact x.done j hj hDj o' d' ho' hd'
  ·by_cases hjk:j=k
   ·subst hjk;rw [Lx] at hDj;cases hDj
   ·rw [EJ hjk] at hDj;exact x.pend j hj hDj
  ·have hnew:=FH x.ok _ j hj;have hjk:j≠k:=fun e=>hnew.1 (by rw [e];exact hks);rw [EJ hjk] at hDj;obtain ⟨r,h1,h3⟩:=x.flo j hj hDj o' t d' ho' hop hd';exact ⟨r,by rw [EI fun e he=>FY nd hkn hnew.2 (fun e=>hjk e.symm) ho ho' he hd'];exact h1,h3⟩
  ·by_cases e:j=k
   ·subst e;exact G1 (hcl q hq)
   ·rw [EJ e] at hDj;exact G1 (x.clos j hjn hDj q hq)
 refine ⟨fun hG=>?_,fun hG=>?_⟩
 ·obtain rfl:=hgi.1 hG;have y:=(pf.vop rfl).1.move pf.val pf.op (fun t ht=>x.agree hcl (pf.fix t ht)) (GH.Le.refl _);refine Br.move pf.op (fun _ _=>rfl) (fun z ds' h'' q=>?_) y;obtain ⟨q1,rfl,rfl⟩:=q;exact ⟨rfl,_,_,_,_,_,_,_,by rw [q1];exact key⟩
 ·cases b with
  | true=>exact absurd (hgi.2 rfl) hG
  | false=>exact ⟨_,_,_,_,_,_,_,key⟩
theorem Lq.runE {kd:Kd} {k:Nat} {o:Oper} (nd:(Dm l n).Nodup) (hkd:kd=.e∨kd=.w) (ho:l[k]? =some o) (hcl:∀q ∈ cls.getD k [],D q=true) (x:Lq E l n cls fl hs ds F seen effs rds wr ((kd,k) ::π) σr hr D σ' h') :
  RunK E l n cls fl hs ds F D σ' h' k o:=by
 obtain ⟨o1,xs,ho1,hx,hkn,hks,hfix,hg,hh⟩:=GB x.ok;obtain rfl:o1=o:=Option.some.inj (ho1.symm.trans ho);obtain ⟨o2,b,ho2,hgd,hF,hT⟩:=x.td;obtain rfl:o2=o1:=Option.some.inj (ho2.symm.trans ho);have hgi:=(x.guard hcl hg hgd).iff;refine ⟨fun hG=>?_,fun hG=>?_⟩
 ·obtain rfl:=hgi.1 hG;rcases hkd with rfl | rfl
  ·refine (hT rfl h' x.gw).move hx (fun t ht=>x.agree hcl (hfix t ht)) fun z ds' h'' q=>?_;obtain ⟨rfl,v,hv,l2,td⟩:=q;refine ⟨rfl,?_⟩;have e:putS σ' o2.dst z=putS σ' o2.dst v:=by
    cases hd:o2.dst with
    | none=>rfl
    | some d=>
     have:=congrFun hv d
     simp only [hd,putS,upd_same] at this;rw [this]
   rw [e];exact ⟨_,_,_,_,_,_,_,x.ran (xs:=xs) nd ho hkn hks hcl td hh.2 (Gw.refl _ _) (.inl ⟨rfl,l2⟩)⟩
  ·refine (hT rfl h' x.gw).move hx (fun t ht=>x.agree hcl (hfix t ht)) fun z ds' h'' q=>?_;obtain ⟨rfl,v,hv,td⟩:=q;refine ⟨rfl,?_⟩;have e:putS σ' o2.dst z=putS σ' o2.dst v:=by
    cases hd:o2.dst with
    | none=>rfl
    | some d=>
     have:=congrFun hv d
     simp only [hd,putS,upd_same] at this;rw [this]
   rw [e];exact ⟨_,_,_,_,_,_,_,x.ran (xs:=xs) nd ho hkn hks hcl td hh.2.2 (Gw.refl _ _) (.inr ⟨rfl,fun q hq=>hcl q (hh.2.1 q hq)⟩)⟩
 ·cases b with
  | true=>exact absurd (hgi.2 rfl) hG
  | false=>
   rcases hkd with rfl | rfl
   ·exact ⟨_,_,_,_,_,_,_,x.ran (xs:=xs) nd ho hkn hks hcl (hF rfl) hh.2 x.gw (.inl ⟨rfl,GH.Le.refl _⟩)⟩
   ·exact ⟨_,_,_,_,_,_,_,x.ran (xs:=xs) nd ho hkn hks hcl (hF rfl) hh.2.2 x.gw (.inr ⟨rfl,fun q hq=>hcl q (hh.2.1 q hq)⟩)⟩
theorem Lq.runA {k:Nat} {o:Oper} (nd:(Dm l n).Nodup) (hk:(Kd.a,k) ∈ π) (hkD:D k=false) (ho:l[k]? =some o) (hcl:∀q ∈ cls.getD k [],D q=true) (x:Lq E l n cls fl hs ds F seen effs rds wr π σr hr D σ' h') :
  RunK E l n cls fl hs ds F D σ' h' k o:=by
 obtain ⟨hfl,hwr,hkn,o2,ho2,hal,hds,hgn⟩:=Fb x.ok k hk;obtain rfl:o2=o:=Option.some.inj (ho2.symm.trans ho);have hks:=(FH x.ok _ k hk).1;obtain ⟨t,hop⟩:∃t,o2.op=.alloc t:=by
  cases hq:o2.op <;> rw [hq] at hal <;> first | exact ⟨_,rfl⟩ | cases hal
 have hz:CE P t=some (zOf P t):=by
  rw [hop] at hal;obtain ⟨z,hz⟩:=Option.isSome_iff_exists.1 (show (CE P t).isSome=true from hal);unfold zOf;rw [hz];rfl
 refine ⟨fun _=>?_,fun hG=>absurd (by unfold C6;rw [hgn];trivial) hG⟩;obtain ⟨dst,op,ty,pos,af,gd⟩:=o2;simp only at hop hds hgn;subst hop;obtain ⟨d,rfl⟩:=Option.isSome_iff_exists.1 hds;refine An hz fun r h2 hr0 l2 hnb hoth=>⟨rfl,seen,effs,rds,wr,π,σr,hr,x.td,x.ok,⟨x.gw.1.trans l2,fun e=>by rw [hfl] at e;cases e⟩,fun t' ht=>?_,x.lt,fun j hj=>G1 (x.eff j hj),fun kd' j hj hne=>?_,fun j hj hDj o' d' ho' hd'=>?_,fun j hj hDj=>?_,fun j hj hDj o' t' d' ho' hop' hd'=>?_,fun hw=>(x.pre hw).trans l2,fun j hjn hDj q hq=>?_⟩
 ·rw [EI (Jl hkn ho ht)];exact x.base t' ht
 ·by_cases e:j=k
  ·subst e;refine absurd (x.rest kd' j hj hne) fun _=>?_;exact hne (by
    have:∀{π:List (Kd×Nat)} {seen effs rds:List Nat} {wr:Bool},G0 P l n cls fl π seen effs rds wr=true→(Kd.a,j) ∈ π→(kd',j) ∈ π→kd'=.a:=by
     intro π
     induction π with
     | nil=>intro _ _ _ _ _ h;cases h
     | cons y π ih=>
      intro seen effs rds wr ok h1 h2;obtain ⟨kd2,k2⟩:=y;obtain ⟨e',r',w',ok2,_⟩:=IC ok;rcases List.mem_cons.1 h1 with e1 | h3 <;> rcases List.mem_cons.1 h2 with e2 | h4
      ·cases e1;cases e2;rfl
      ·cases e1;exact absurd List.mem_cons_self (FH ok2 _ _ h4).1
      ·cases e2;exact absurd List.mem_cons_self (FH ok2 _ _ h3).1
      ·exact ih ok2 h3 h4
    exact this x.ok hk hj)
  ·rw [EJ e];exact x.rest kd' j hj hne
 ·have hjk:j≠k:=fun e=>hks (e▸hj);rw [EJ hjk] at hDj;rw [EI fun e he=>FY nd hkn (x.lt j hj) (fun e=>hjk e.symm) ho ho' he hd'];exact x.done j hj hDj o' d' ho' hd'
 ·have hjk:j≠k:=fun e=>hks (e▸hj);rw [EJ hjk] at hDj;obtain ⟨o',xs',b',v',pf⟩:=x.pend j hj hDj;exact ⟨o',xs',b',v',pf.at',pf.op,pf.val,pf.fix,pf.gfix,pf.gd,fun hb=>⟨(pf.vop hb).1.move pf.val pf.op (fun _ _=>rfl) l2,(pf.vop hb).2⟩,pf.is⟩
 ·by_cases e:j=k
  ·subst e;cases ho'.symm.trans ho;cases hd';cases hop';have hb0:hs r=none:=by
    cases hb:hs r with
    | none=>rfl
    | some y=>rw [(x.pre hwr).get hb] at hr0;cases hr0
   exact ⟨r,upd_same _ _ _,hb0,hnb⟩
  ·rw [EJ e] at hDj;have hnew:=FH x.ok _ j hj;obtain ⟨r',h1,h3,h4⟩:=x.flo j hj hDj o' t' d' ho' hop' hd';exact ⟨r',by rw [EI fun e' he=>FY nd hkn hnew.2 (fun q=>e q.symm) ho ho' he hd'];exact h1,h3,l2.get h4⟩
 ·by_cases e:j=k
  ·subst e;exact G1 (hcl q hq)
  ·rw [EJ e] at hDj;exact G1 (x.clos j hjn hDj q hq)
theorem Lq.reach {kd:Kd} {i:Nat} (nd:(Dm l n).Nodup) (hne:kd≠.a) (hcl:∀q ∈ cls.getD i [],D q=true):∀{π:List (Kd×Nat)} {seen effs rds:List Nat} {wr:Bool} {σr:Nat→Value} {hr:GH},
  Lq E l n cls fl hs ds F seen effs rds wr π σr hr D σ' h'→(kd,i) ∈ π→∃seen effs rds wr π' σr hr,Lq E l n cls fl hs ds F seen effs rds wr ((kd,i) ::π') σr hr D σ' h':=by
 intro π
 induction π with
 | nil=>intro _ _ _ _ _ _ _ h;cases h
 | cons y π ih=>
  intro seen effs rds wr σr hr x hm;obtain ⟨kd2,k2⟩:=y;rcases List.mem_cons.1 hm with e | hm2
  ·cases e;exact ⟨_,_,_,_,_,_,_,x⟩
  ·have hv:kd2=.p∨kd2=.r→∃seen effs rds wr π' σr hr,Lq E l n cls fl hs ds F seen effs rds wr ((kd,i) ::π') σr hr D σ' h':=fun hk=>by
    obtain ⟨rds',σr',x'⟩:=x.unfoldV nd hk;exact ih x' hm2
   have heff:kd2=.e∨kd2=.w∨kd2=.a→D k2=true:=fun hk=>by
    obtain ⟨e',r',w',ok2,_,z⟩:=IC x.ok;exact hcl _ (SH ok2 kd i hm2 hne k2 (z hk))
   cases kd2 with
   | p=>exact hv (.inl rfl)
   | r=>exact hv (.inr rfl)
   | e=>have:=x.rest _ _ List.mem_cons_self (fun e=>by cases e);rw [heff (.inl rfl)] at this;cases this
   | w=>have:=x.rest _ _ List.mem_cons_self (fun e=>by cases e);rw [heff (.inr (.inl rfl))] at this;cases this
   | a=>
    obtain ⟨σr',x'⟩:=x.unfoldA nd (heff (.inr (.inr rfl)));exact ih x' hm2
theorem Lq.ends (nd:(Dm l n).Nodup) (hall:∀i,i<n→D i=true):∀{π:List (Kd×Nat)} {seen effs rds:List Nat} {wr:Bool} {σr:Nat→Value} {hr:GH},
  Lq E l n cls fl hs ds F seen effs rds wr π σr hr D σ' h'→F σ' h':=by
 intro π
 induction π with
 | nil=>
  intro seen effs rds wr σr hr x;have e:σ'=σr:=funext fun t=>by
   cases hc:(Dm l n).contains t with
   | false=>exact x.base t hc
   | true=>
    rw [List.contains_iff_mem] at hc;simp only [Dm,List.mem_filterMap] at hc;obtain ⟨o,ho,hd⟩:=hc;obtain ⟨k,hk⟩:=List.mem_iff_getElem?.1 ho;have hkn:k<n:=by
     have:=(List.getElem?_eq_some_iff.1 hk).1
     simp at this;omega
    have hok:l[k]? =some o:=by rw [List.getElem?_take] at hk;simpa [hkn] using hk
    rcases Na x.ok k hkn with h | ⟨_,h⟩
    ·exact x.done k h (hall k hkn) o t hok hd
    ·cases h
  rw [e];exact x.td h' x.gw
 | cons y π ih=>
  intro seen effs rds wr σr hr x;obtain ⟨kd,k⟩:=y;have hk:=(FH x.ok kd k List.mem_cons_self).2;by_cases hne:kd=.a
  ·subst hne;obtain ⟨σr',x'⟩:=x.unfoldA nd (hall k hk);exact ih x'
  ·have:=x.rest kd k List.mem_cons_self hne
   rw [hall k hk] at this;cases this
end
def Q5 (c:List Nat) (k:List Nat→Bool):Bool:=match c with
 | []=>k []
 | x ::xs=>Q5 xs fun xs'=>k (x ::xs')
theorem P0:∀(c:List Nat) (k:List Nat→Bool),Q5 c k=k c
 | [],_=>rfl
 | x ::xs,k=>by unfold Q5;rw [P0 xs]
def Q6 (cls:List (List Nat)) (k:List (List Nat)→Bool):Bool:=match cls with
 | []=>k []
 | c ::cs=>Q6 cs fun cs'=>k (c ::cs')
theorem P1:∀(cls:List (List Nat)) (k:List (List Nat)→Bool),Q6 cls k=k cls
 | [],_=>rfl
 | c ::cs,k=>by unfold Q6;exact P1 cs _
def SI (l:List Oper):List Oper→Nat→List (List Nat)→(List (List Nat)→Bool)→Bool
 | [],_,acc,c=>Q6 acc.reverse c
 | o ::os,k,acc,c=>Q5 ((List.range k).filter fun j=>Hm o j || (List.range k).any fun e=>Hm o e && (acc.getD (k-1-e) []).contains j) fun x=>SI l os (k+1) (x ::acc) c
theorem KY {l:List Oper} {c:List (List Nat)→Bool}:∀{os:List Oper} {k:Nat} {acc:List (List Nat)},SI l os k acc c=true→∃cls,c cls=true
 | [],k,acc,h=>⟨acc.reverse,(P1 acc.reverse c).symm.trans h⟩
 | o ::os,k,acc,h=>by unfold SI at h;rw [P0] at h;exact KY h
def WI (P:Program) (N:Nat) (l:List Oper) (n:Nat) (cls:List (List Nat)) (fl:Bool) (π:List (Kd×Nat)):Bool:=FQ N l n cls && G0 P l n cls fl π [] [] [] false
theorem tr_td {F:(Nat→Value)→GH→Prop} {id:Nat} {l:List Oper} {σ:Nat→Value} {ds:List Deferred} {h:GH} {Q:Post} (n:Nat) (cls:List (List Nat)) (fl:Bool) (π:List (Kd×Nat)) (hm:P.follows .mixedOrders=true)
  (ok:WI P E.N l n cls fl π=true) (x:TD E l n fl h ds F π σ h) (y:∀σ' h',F σ' h'→ER E l.toArray (l.drop n) σ' ds h' Q):Tr E (.region id l.toArray true) σ ds h Q:=by
 unfold WI at ok;rw [Bool.and_eq_true] at ok;obtain ⟨ok1,ok2⟩:=ok;have nd:(Dm l n).Nodup:=by
  have:=ok1
  unfold FQ at this;simp only [Bool.and_eq_true] at this;exact of_decide_eq_true this.1.2
 refine NS n cls (TdAt E l n cls fl h ds F) hm ok1 ?_ ?_ ?_
 ·exact ⟨[],[],[],false,π,σ,h,x,ok2,Gw.refl _ _,fun _ _=>rfl,(fun _ hk=>by cases hk),(fun _ hk=>by cases hk),(fun _ _ _ _=>rfl),(fun _ hk=>by cases hk),(fun _ hk=>by cases hk),(fun _ _ hD=>by cases hD),(fun _=>GH.Le.refl _),(fun _ _ hD=>by cases hD)⟩
 ·rintro D σ' h' i o ⟨seen,effs,rds,wr,π',σr,hr,z0⟩ hin hiD ho hcl hgl;rcases Na z0.ok i hin with hs | ⟨kd,hk⟩
  ·exact z0.runV nd ho hs hiD hcl
  ·by_cases hne:kd=.a
   ·subst hne;exact z0.runA nd hk hiD ho hcl
   ·obtain ⟨seen,effs,rds,wr,π'',σr,hr,z⟩:=z0.reach nd hne hcl hk;cases kd with
    | p=>
     obtain ⟨rds',σr',z'⟩:=z.unfoldV nd (.inl rfl);exact z'.runV nd ho List.mem_cons_self hiD hcl
    | r=>
     obtain ⟨rds',σr',z'⟩:=z.unfoldV nd (.inr rfl);exact z'.runV nd ho List.mem_cons_self hiD hcl
    | e=>exact z.runE nd (.inl rfl) ho hcl
    | w=>exact z.runE nd (.inr rfl) ho hcl
    | a=>exact absurd rfl hne
 ·rintro D σ' h' ⟨seen,effs,rds,wr,π',σr,hr,z0⟩ hall;exact y _ _ (z0.ends nd hall)
abbrev LoIs (σ:Nat→Value) (o:Option Operand) (lo d:Nat):Prop:=match o with
 | none=>lo=d
 | some o=>∃kd,AY σ o=.int kd lo
def T9 (m:Nat):Kd×Nat:=(match m%5 with | 0=>.p | 1=>.r | 2=>.e | 3=>.w | _=>.a,m / 5)
def dK:List Nat→List (Kd×Nat)
 | []=>[]
 | m ::l=>T9 m ::dK l
theorem BS {id:Nat} {l:List Oper} {σ:Nat→Value} {ds:List Deferred} {h:GH} {Q:Post} (n:Nat) (fl:Bool) (π:List Nat) (hm:P.follows .mixedOrders=true)
  (ok:SI l (l.take n) 0 [] (fun cls=>WI P E.N l n cls fl (dK π))=true) (x:TD E l n fl h ds (fun σ' h'=>ER E l.toArray (l.drop n) σ' ds h' Q) (dK π) σ h):Tr E (.region id l.toArray true) σ ds h Q:=
 let ⟨cls,h1⟩:=KY ok
 tr_td n cls fl (dK π) hm h1 x fun _ _ y=>y
theorem Fv {id:Nat} {l:List Oper} {σ:Nat→Value} {ds:List Deferred} {h:GH} {Q:Post} (F:(Nat→Value)→GH→Prop) (n:Nat) (fl:Bool) (π:List Nat) (hm:P.follows .mixedOrders=true)
  (ok:SI l (l.take n) 0 [] (fun cls=>WI P E.N l n cls fl (dK π))=true) (x:TD E l n fl h ds F (dK π) σ h) (y:∀σ' h',F σ' h'→ER E l.toArray (l.drop n) σ' ds h' Q):Tr E (.region id l.toArray true) σ ds h Q:=
 let ⟨cls,h1⟩:=KY ok
 tr_td n cls fl (dK π) hm h1 x y
section
variable {l:List Oper} {n:Nat} {fl:Bool} {hs:GH} {ds:List Deferred} {F:(Nat→Value)→GH→Prop} {π:List Nat} {σ:Nat→Value} {h:GH} {m k g d:Nat} {dst:Option Nat} {op:Op} {ty:TypeId} {pos:String} {af:Array Edge} {v:Value} {w is:Bool} {og:Oper}
theorem vz {α β γ:Type} {a:α} {b:β} {c:γ}:a=a∧b=b∧c=c:=⟨rfl,rfl,rfl⟩
theorem tP (hk:T9 m=(.p,k)) (ho:l[k]? =some ⟨dst,op,ty,pos,af,none⟩) (x:∀hx,WH E ⟨dst,op,ty,pos,af,none⟩ σ ds hx v) (y:TD E l n fl hs ds F (dK π) (putS σ dst v) h):TD E l n fl hs ds F (dK (m ::π)) σ h:=by
 unfold dK;rw [hk];exact ⟨_,true,ho,rfl,fun e=>(by cases e),fun _=>⟨v,x,y⟩⟩
theorem tR (hk:T9 m=(.r,k)) (ho:l[k]? =some ⟨dst,op,ty,pos,af,none⟩) (x:WH E ⟨dst,op,ty,pos,af,none⟩ σ ds h v) (y:TD E l n fl hs ds F (dK π) (putS σ dst v) h):TD E l n fl hs ds F (dK (m ::π)) σ h:=by
 unfold dK;rw [hk];exact ⟨_,true,ho,rfl,fun e=>(by cases e),fun _=>⟨v,x,y⟩⟩
theorem tE (hk:T9 m=(.e,k)) (ho:l[k]? =some ⟨dst,op,ty,pos,af,none⟩)
  (x:Br E ⟨dst,op,ty,pos,af,none⟩ σ ds h fun σ' ds' h'=>ds'=ds∧∃v,σ'=putS σ dst v∧h.Le h'∧TD E l n false hs ds F (dK π) (putS σ dst v) h'):TD E l n false hs ds F (dK (m ::π)) σ h:=by
 unfold dK;rw [hk];exact ⟨_,true,ho,rfl,fun e=>(by cases e),fun _ hx hg=>by rw [hg.2 rfl];exact x⟩
theorem H0 (hk:T9 m=(.e,k)) (ho:l[k]? =some ⟨dst,op,ty,pos,af,none⟩)
  (x:∀hx,h.Le hx→Br E ⟨dst,op,ty,pos,af,none⟩ σ ds hx fun σ' ds' h'=>ds'=ds∧∃v,σ'=putS σ dst v∧hx.Le h'∧TD E l n true hs ds F (dK π) (putS σ dst v) h'):TD E l n true hs ds F (dK (m ::π)) σ h:=by
 unfold dK;rw [hk];exact ⟨_,true,ho,rfl,fun e=>(by cases e),fun _ hx hg=>x hx hg.1⟩
theorem tW (hk:T9 m=(.w,k)) (ho:l[k]? =some ⟨dst,op,ty,pos,af,none⟩)
  (x:Br E ⟨dst,op,ty,pos,af,none⟩ σ ds h fun σ' ds' h'=>ds'=ds∧∃v,σ'=putS σ dst v∧TD E l n false hs ds F (dK π) (putS σ dst v) h'):TD E l n false hs ds F (dK (m ::π)) σ h:=by
 unfold dK;rw [hk];exact ⟨_,true,ho,rfl,fun e=>(by cases e),fun _ hx hg=>by rw [hg.2 rfl];exact x⟩
theorem WJ (hk:T9 m=(.w,k)) (ho:l[k]? =some ⟨dst,op,ty,pos,af,none⟩)
  (x:∀hx,h.Le hx→Br E ⟨dst,op,ty,pos,af,none⟩ σ ds hx fun σ' ds' h'=>ds'=ds∧∃v,σ'=putS σ dst v∧TD E l n true hs ds F (dK π) (putS σ dst v) h'):TD E l n true hs ds F (dK (m ::π)) σ h:=by
 unfold dK;rw [hk];exact ⟨_,true,ho,rfl,fun e=>(by cases e),fun _ hx hg=>x hx hg.1⟩
theorem tA {t:TypeId} {z:Array Value} (hk:T9 m=(.a,k)) (ho:l[k]? =some ⟨dst,.alloc t,ty,pos,af,none⟩) (hz:CE P t=some z)
  (x:∀r hx,h.Le hx→hs r=none→hx r=some (true,.cells z t (0,0))→TD E l n true hs ds F (dK π) (putS σ dst (.pointer (some ⟨r,0,none⟩))) hx):TD E l n true hs ds F (dK (m ::π)) σ h:=by
 unfold dK;rw [hk];refine ⟨_,true,ho,rfl,fun e=>(by cases e),fun _ t' r hx e l2 hr hb=>?_⟩;cases e;exact x r hx l2 hr (by rw [hb];unfold zOf;rw [hz];rfl)
theorem Q7 (h1:l[g]? =some og) (h2:og.dst=some d) (h3:σ d=.bool w):Gd l ⟨dst,op,ty,pos,af,some (g,w)⟩ σ true:=⟨og,d,w,h1,h2,h3,by cases w <;> rfl⟩
theorem tPg (hk:T9 m=(.p,k)) (ho:l[k]? =some ⟨dst,op,ty,pos,af,some (g,w)⟩) (h1:l[g]? =some og) (h2:og.dst=some d) (h3:σ d=.bool w) (x:∀hx,WH E ⟨dst,op,ty,pos,af,some (g,w)⟩ σ ds hx v)
  (y:TD E l n fl hs ds F (dK π) (putS σ dst v) h):TD E l n fl hs ds F (dK (m ::π)) σ h:=by
 unfold dK;rw [hk];exact ⟨_,true,ho,Q7 h1 h2 h3,fun e=>(by cases e),fun _=>⟨v,x,y⟩⟩
theorem CC (hk:T9 m=(.r,k)) (ho:l[k]? =some ⟨dst,op,ty,pos,af,some (g,w)⟩) (h1:l[g]? =some og) (h2:og.dst=some d) (h3:σ d=.bool w) (x:WH E ⟨dst,op,ty,pos,af,some (g,w)⟩ σ ds h v)
  (y:TD E l n fl hs ds F (dK π) (putS σ dst v) h):TD E l n fl hs ds F (dK (m ::π)) σ h:=by
 unfold dK;rw [hk];exact ⟨_,true,ho,Q7 h1 h2 h3,fun e=>(by cases e),fun _=>⟨v,x,y⟩⟩
theorem Nc (hk:T9 m=(.e,k)) (ho:l[k]? =some ⟨dst,op,ty,pos,af,some (g,w)⟩) (h1:l[g]? =some og) (h2:og.dst=some d) (h3:σ d=.bool w)
  (x:Br E ⟨dst,op,ty,pos,af,some (g,w)⟩ σ ds h fun σ' ds' h'=>ds'=ds∧∃v,σ'=putS σ dst v∧h.Le h'∧TD E l n false hs ds F (dK π) (putS σ dst v) h'):TD E l n false hs ds F (dK (m ::π)) σ h:=by
 unfold dK;rw [hk];exact ⟨_,true,ho,Q7 h1 h2 h3,fun e=>(by cases e),fun _ hx hg=>by rw [hg.2 rfl];exact x⟩
theorem tS {kd:Kd} (hk:T9 m=(kd,k)) (ho:l[k]? =some ⟨dst,op,ty,pos,af,some (g,w)⟩) (h1:l[g]? =some og) (h2:og.dst=some d) (h3:σ d=.bool is) (hne:(is==w)=false)
  (y:TD E l n fl hs ds F (dK π) (putS σ dst undef) h):TD E l n fl hs ds F (dK (m ::π)) σ h:=by
 unfold dK;rw [hk];exact ⟨_,false,ho,⟨og,d,is,h1,h2,h3,hne.symm⟩,fun _=>y,fun e=>(by cases e)⟩
theorem tN (x:F σ h):TD E l n false hs ds F (dK []) σ h:=fun hx hg=>by rw [hg.2 rfl];exact x
theorem WK (x:∀hx,h.Le hx→F σ hx):TD E l n true hs ds F (dK []) σ h:=fun hx hg=>x hx hg.1
section
variable {α:Type} {enc:α→Array Value} {xs:List α} {h0:GH} {t:TypeId} {a ix:Operand} {z:Nat} {sv:Value} {kd:IntKind} {i:Int}
theorem tI (hk:T9 m=(.p,k)) (ho:l[k]? =some ⟨dst,.indexAddr t a ix,ty,pos,af,none⟩) (ht:Eg P t=some z) (hs':AO h0 sv z enc xs) (hx:AY σ a=sv) (hi:AY σ ix=.int kd i) (h0':0≤i) (h1:i<xs.length)
  (y:∀b off,Ac h0 b off z (enc (xs[i.toNat]'(by omega)))→TD E l n fl hs ds F (dK π) (putS σ dst (.pointer (some ⟨b,off,none⟩))) h):TD E l n fl hs ds F (dK (m ::π)) σ h:=by
 obtain ⟨p,cap,rfl,_,_,he⟩:=hs';obtain ⟨b,off,rfl,hb⟩:=he i.toNat (by omega);exact tP hk ho (fun _=>AK ht hx hi h0' h1 vz) (y b _ hb)
theorem tSl {olo ohi:Option Operand} (lo hi:Nat) (hk:T9 m=(.p,k)) (ho:l[k]? =some ⟨dst,.slice t a olo ohi none,ty,pos,af,none⟩) (ht:Eg P t=some z) (hs':AO h0 sv z enc xs) (hx:AY σ a=sv)
  (hlo:LoIs σ olo lo 0) (hhi:LoIs σ ohi hi xs.length) (h1:lo≤hi) (h2:hi≤xs.length)
  (y:∀v',AO h0 v' z enc ((xs.take hi).drop lo)→TD E l n fl hs ds F (dK π) (putS σ dst v') h):TD E l n fl hs ds F (dK (m ::π)) σ h:=by
 have h3:=hs';obtain ⟨p,cap,rfl,hc,_,_⟩:=hs';exact tP hk ho (fun _=>Lw lo hi ht hc hx hlo hhi h1 h2 vz) (y _ (h3.part h1 h2))
theorem tIg (hk:T9 m=(.p,k)) (ho:l[k]? =some ⟨dst,.indexAddr t a ix,ty,pos,af,some (g,w)⟩) (h1':l[g]? =some og) (h2':og.dst=some d) (h3':σ d=.bool w) (ht:Eg P t=some z) (hs':AO h0 sv z enc xs) (hx:AY σ a=sv) (hi:AY σ ix=.int kd i) (h0':0≤i) (h1:i<xs.length)
  (y:∀b off,Ac h0 b off z (enc (xs[i.toNat]'(by omega)))→TD E l n fl hs ds F (dK π) (putS σ dst (.pointer (some ⟨b,off,none⟩))) h):TD E l n fl hs ds F (dK (m ::π)) σ h:=by
 obtain ⟨p,cap,rfl,_,_,he⟩:=hs';obtain ⟨b,off,rfl,hb⟩:=he i.toNat (by omega);exact tPg hk ho h1' h2' h3' (fun _=>AK ht hx hi h0' h1 vz) (y b _ hb)
end
theorem eT {h':GH} {π':List (Kd×Nat)} (l2:h.Le h') (y:TD E l n fl hs ds F π' (putS σ dst v) h'):ds=ds∧∃v',putS σ dst v=putS σ dst v'∧h.Le h'∧TD E l n fl hs ds F π' (putS σ dst v') h':=⟨rfl,v,rfl,l2,y⟩
theorem wT {h':GH} {π':List (Kd×Nat)} (y:TD E l n fl hs ds F π' (putS σ dst v) h'):ds=ds∧∃v',putS σ dst v=putS σ dst v'∧TD E l n fl hs ds F π' (putS σ dst v') h':=⟨rfl,v,rfl,y⟩
end
theorem DC {X:Prop} {p:Prop} [Decidable p] (a:p→X) (b:¬p→X):X:=if h:p then a h else b h
theorem SJ {X:Prop} {b:Bool} (x:b=true→X) (y:b=false→X):X:=by cases b with
 | true=>exact x rfl
 | false=>exact y rfl
end
end Go.Ns
namespace Go.Ns
def eI (i:Int):Array Value:=#[.int .i64 i]
def eB (i:Int):Array Value:=#[.int .u8 i]
def eH (i:Int):Array Value:=#[.int .u16 i]
structure Good where
 name:ByteArray
 cost:Int
 pack:Int
 low:Int
 high:Int
structure AC where
 kind:Int
 good:Int
 day:Int
 low:Int
 high:Int
structure AH where
 good:Int
 day:Int
 low:Int
 high:Int
def BT (x:Good):Array Value:=#[.string x.name,.int .i64 x.cost,.int .i64 x.pack,.int .i64 x.low,.int .i64 x.high]
def BN (x:AC):Array Value:=#[.int .i64 x.kind,.int .i64 x.good,.int .i64 x.day,.int .i64 x.low,.int .i64 x.high]
def BD (x:AH):Array Value:=#[.int .i64 x.good,.int .i64 x.day,.int .i64 x.low,.int .i64 x.high]
structure AW where
 first:Nat→Int
 many:Nat→Int
 lies:Nat→Bool
def AW.zero:AW:=⟨fun _=>0,fun _=>0,fun _=>false⟩
def Ap (p:AW):Array Value:=#[.int .i64 (p.first 0),.int .i64 (p.first 1),.int .i64 (p.first 2),.int .i64 (p.many 0),.int .i64 (p.many 1),.int .i64 (p.many 2),.int .i64 (p.many 3),.int .i64 (p.many 4),.int .i64 (p.many 5),
 .bool (p.lies 0),.bool (p.lies 1),.bool (p.lies 2),.bool (p.lies 3),.bool (p.lies 4),.bool (p.lies 5)]
def AW.setFirst (p:AW) (i:Nat) (n:Int):AW:={ p with first:=fun k=>if k=i then n else p.first k }
def AW.setMany (p:AW) (i:Nat) (n:Int):AW:={ p with many:=fun k=>if k=i then n else p.many k }
def AW.setLie (p:AW) (i:Nat) (b:Bool):AW:={ p with lies:=fun k=>if k=i then b else p.lies k }
theorem SK {p:AW} {i:Nat} (h:i<3):(Ap p)[i*1]? =some (.int .i64 (p.first i)):=by
 match i,h with
 | 0,_=>rfl
 | 1,_=>rfl
 | 2,_=>rfl
theorem Nd {p:AW} {i:Nat} (h:i<6):(Ap p)[3+i*1]? =some (.int .i64 (p.many i)):=by
 match i,h with
 | 0,_=>rfl
 | 1,_=>rfl
 | 2,_=>rfl
 | 3,_=>rfl
 | 4,_=>rfl
 | 5,_=>rfl
theorem KZ {p:AW} {i:Nat} (h:i<6):(Ap p)[9+i*1]? =some (.bool (p.lies i)):=by
 match i,h with
 | 0,_=>rfl
 | 1,_=>rfl
 | 2,_=>rfl
 | 3,_=>rfl
 | 4,_=>rfl
 | 5,_=>rfl
theorem SL {p:AW} {i:Nat} (h:i<6):(if false=true then some (Value.agg ((#[.bool (p.lies 0),.bool (p.lies 1),.bool (p.lies 2),.bool (p.lies 3),.bool (p.lies 4),.bool (p.lies 5)]:Array Value).extract (i*1) (i*1+1))) else (#[.bool (p.lies 0),.bool (p.lies 1),.bool (p.lies 2),.bool (p.lies 3),.bool (p.lies 4),.bool (p.lies 5)]:Array Value)[i*1]?)=some (.bool (p.lies i)):=by
 match i,h with
 | 0,_=>rfl
 | 1,_=>rfl
 | 2,_=>rfl
 | 3,_=>rfl
 | 4,_=>rfl
 | 5,_=>rfl
theorem Nf {p:AW} {i:Nat} {n:Int} (h:i<3):B4 (Ap p) (i*1) [.int .i64 n]=Ap (p.setFirst i n):=by
 match i,h with
 | 0,_=>rfl
 | 1,_=>rfl
 | 2,_=>rfl
theorem I6 {p:AW} {i:Nat} {n:Int} (h:i<3):B4 (Ap p) (0+i*1) [.int .i64 n]=Ap (p.setFirst i n):=by rw [Nat.zero_add];exact Nf h
theorem J7 {p:AW} {i:Nat} {n:Int} (h:i<6):B4 (Ap p) (3+i*1) [.int .i64 n]=Ap (p.setMany i n):=by
 match i,h with
 | 0,_=>rfl
 | 1,_=>rfl
 | 2,_=>rfl
 | 3,_=>rfl
 | 4,_=>rfl
 | 5,_=>rfl
theorem Ii {p:AW} {i:Nat} {b:Bool} (h:i<6):B4 (Ap p) (9+i*1) [.bool b]=Ap (p.setLie i b):=by
 match i,h with
 | 0,_=>rfl
 | 1,_=>rfl
 | 2,_=>rfl
 | 3,_=>rfl
 | 4,_=>rfl
 | 5,_=>rfl
theorem LH {p:AW} {i:Nat} (h:i<3):(Ap p)[0+i*1]? =some (.int .i64 (p.first i)):=by rw [Nat.zero_add];exact SK h
def Aw (p:AW):Nat→Nat
 | 0=>0
 | k+1=>Aw p k+if p.lies k then 1 else 0
theorem Ng (p:AW):∀k,Aw p k≤k
 | 0=>Nat.le_refl _
 | k+1=>by have:=Ng p k;unfold Aw;split <;> omega
def Bz (p:AW) (i:Nat):Int:=if p.lies i then 0 else p.many i
def Good.z:Good:=⟨⟨#[]⟩,0,0,0,0⟩
def AC.z:AC:=⟨0,0,0,0,0⟩
def AH.z:AH:=⟨0,0,0,0⟩
theorem Cj {α:Type} {xs:List α} {i:Nat} (d:α) (hi:i<xs.length):xs.getD i d=xs[i]'hi:=by
 simp [List.getD_eq_getElem?_getD,List.getElem?_eq_getElem hi]
theorem Ac.getD {α:Type} {h:GH} {b off n:Nat} {enc:α→Array Value} {xs:List α} {i:Nat} {hi:i<xs.length} (d:α) (x:Ac h b off n (enc (xs[i]'hi))):Ac h b off n (enc (xs.getD i d)):=by
 rw [Cj d hi];exact x
theorem GC {α:Type} {a:List α} {k:Nat} (d:α) (ha:k<a.length):a.take (k+1)=a.take k++[a.getD k d]:=by
 rw [List.take_succ_eq_append_getElem ha,Cj d ha]
theorem Nh {α:Type} {a b:List α} {k:Nat} (d:α) (h:a.take k=b.take k) (ha:k<a.length) (hb:k<b.length) (e:a.getD k d=b.getD k d):a.take (k+1)=b.take (k+1):=by
 rw [GC d ha,GC d hb,h,e]
theorem Q8 {a b:List Int} {k:Nat} (h:a.take k=b.take k) (hk:k≤a.length) (hk':¬(k:Int)<a.length) (hl:(a.length:Int)=b.length):a=b:=by
 have h1:k=a.length:=by omega
 have h2:b.length=a.length:=by omega
 rw [h1,List.take_length,←h2,List.take_length] at h;exact h
theorem ne_len {α:Type} {a b:List α} (h:¬(a.length:Int)=b.length):¬a=b:=fun e=>h (by rw [e])
theorem ne_getD {α:Type} {a b:List α} {k:Nat} {d:α} (e:¬a.getD k d=b.getD k d):¬a=b:=fun h=>e (by rw [h])
theorem has_hit {a:List Int} {k:Nat} {n:Int} (hk:(k:Int)<a.length) (e:a.getD k 0=n):n ∈ a:=by
 have hk':k<a.length:=by omega
 rw [Cj 0 hk'] at e;exact e▸List.getElem_mem hk'
theorem Yp {a:List Int} {k:Nat} {n:Int} (hk:(k:Int)<a.length) (h:¬n ∈ a.take k) (e:¬a.getD k 0=n):¬n ∈ a.take (k+1):=by
 rw [GC 0 (by omega)];simp only [List.mem_append,List.mem_singleton,not_or];exact ⟨h,fun q=>e q.symm⟩
theorem has_end {a:List Int} {k:Nat} {n:Int} (hk:¬(k:Int)<a.length) (h:¬n ∈ a.take k):¬n ∈ a:=by
 rwa [List.take_of_length_le (by omega)] at h
def FI (c:Int):Prop:=97≤c∧c≤122
def FR (c:Int):Prop:=48≤c∧c≤57
instance (c:Int):Decidable (FI c):=inferInstanceAs (Decidable (_∧_))
instance (c:Int):Decidable (FR c):=inferInstanceAs (Decidable (_∧_))
def ET (d m:Int):Int:=if¬(1≤d∧d≤99)∨¬(0≤m∧m≤2) then 1 else 0
def idxOf {α:Type} (p:α→Bool):List α→Int
 | []=> -1
 | x ::l=>if p x then 0 else if idxOf p l<0 then-1 else idxOf p l+1
theorem Ni {α:Type} (p:α→Bool):∀l:List α,-1≤idxOf p l
 | []=>by simp [idxOf]
 | x ::l=>by have:=Ni p l;unfold idxOf;split <;> (try split) <;> omega
theorem ID {α:Type} (p:α→Bool):∀l:List α,(0≤idxOf p l)↔l.any p=true
 | []=>by simp [idxOf]
 | x ::l=>by
  have:=ID p l
  have h2:=Ni p l;unfold idxOf;cases hp:p x with
  | true=>simp [hp]
  | false=>
   simp only [Bool.false_eq_true,if_false,List.any_cons,hp,Bool.false_or];rw [←this];split <;> omega
theorem Ly {α:Type} {p:α→Bool} {l:List α} {k:Nat} {d:α} (hk:(k:Int)<l.length) (h:(l.take k).any p=false) (e:p (l.getD k d)=true):idxOf p l=k:=by
 induction l generalizing k with
 | nil=>simp at hk;omega
 | cons x l ih=>
  unfold idxOf;cases k with
  | zero=>simp at e;simp [e]
  | succ k=>
   simp only [List.take_succ_cons,List.any_cons,Bool.or_eq_false_iff] at h;rw [h.1]
   have:=ih (k:=k) (by simp at hk;omega) h.2 (by simpa using e)
   rw [this];simp only [Bool.false_eq_true,if_false];rw [if_neg (by omega)];omega
theorem Ka {α:Type} {p:α→Bool} {l:List α} {k:Nat} (hk:¬(k:Int)<l.length) (h:(l.take k).any p=false):idxOf p l= -1:=by
 rw [List.take_of_length_le (by omega)] at h
 have:=ID p l
 have h2:=Ni p l;rw [h] at this;simp at this;omega
theorem LI {α:Type} {p:α→Bool} {l:List α} {k:Nat} {d:α} (hk:(k:Int)<l.length) (h:(l.take k).any p=false) (e:p (l.getD k d)=false):(l.take (k+1)).any p=false:=by
 rw [GC d (by omega),List.any_append,h];simp only [Bool.false_or,List.any_cons,List.any_nil,Bool.or_false,e]
theorem Cd {α:Type} {l:List α} {k:Nat} {d:α} (hk:k<l.length):l.getD k d ∈ l:=by
 rw [Cj d hk];exact List.getElem_mem hk
def BG (l:List Int) (m:Int):Int:=if¬(l.length:Int)=m then 2 else if l.any (fun x=>decide (¬(0≤x∧x≤99))) then 1 else 0
def Do (f:Nat→Int):Nat→Nat→Int
 | _,0=>0
 | i,n+1=>if f i=0 then Do f (i+1) n else f i
theorem Nj {f:Nat→Int} {c:Int}:∀{n i k:Nat},(∀j,i≤j→j<i+k→f j=0)→k<n→f (i+k)=c→c≠0→Do f i n=c
 | 0,i,k,_,hk,_,_=>by omega
 | n+1,i,0,_,_,e,hc=>by unfold Do;rw [Nat.add_zero] at e;rw [e,if_neg hc]
 | n+1,i,k+1,h,hk,e,hc=>by
  unfold Do;rw [if_pos (h i (Nat.le_refl _) (by omega))];exact Nj (k:=k) (fun j h1 h2=>h j (by omega) (by omega)) (by omega) (by rw [←e];congr 1;omega) hc
theorem Eu {f:Nat→Int}:∀{n i:Nat},(∀j,i≤j→j<i+n→f j=0)→Do f i n=0
 | 0,_,_=>rfl
 | n+1,i,h=>by
  unfold Do;rw [if_pos (h i (Nat.le_refl _) (by omega))];exact Eu fun j h1 h2=>h j (by omega) (by omega)
theorem Dq {f:Nat→Int} {k:Nat} (h:∀j,j<k→f j=0) (e:f k=0):∀j,j<k+1→f j=0:=fun j hj=>by
 rcases Nat.lt_or_ge j k with q | q
 ·exact h j q
 ·rw [show j=k by omega];exact e
theorem Bd {f:Nat→Int} {c:Int} {n k:Nat} (h:∀j,j<k→f j=0) (hk:k<n) (e:f k=c) (hc:c≠0):Do f 0 n=c:=
 Nj (i:=0) (k:=k) (fun j _ hj=>h j (by omega)) hk (by rw [Nat.zero_add];exact e) hc
theorem Ck {f:Nat→Int} {n k:Nat} (h:∀j,j<k→f j=0) (hk:n≤k):Do f 0 n=0:=Eu fun j _ hj=>h j (by omega)
def H1 (s:ByteArray) (k:Nat):Int:=if¬FI ((bytesOf s).getD k 0)∧(k=0∨¬FR ((bytesOf s).getD k 0)) then 1 else 0
def Dx (s:ByteArray):Bool:=decide (Do (H1 s) 0 s.size=0) && decide (1≤(s.size:Int)∧(s.size:Int)≤10)
def FC (l h:Int):Prop:=((0≤l∧l≤h)∧h≤99)∧h-l<3
instance (l h:Int):Decidable (FC l h):=inferInstanceAs (Decidable (_∧_))
def Fc (gs:List Good) (k:Nat):Int:=
 if Dx (gs.getD k Good.z).name=false then 4
 else if (gs.take k).any (fun x=>x.name.toList==(gs.getD k Good.z).name.toList) then 5
 else if (¬(0≤(gs.getD k Good.z).cost∧(gs.getD k Good.z).cost≤999)∨¬(1≤(gs.getD k Good.z).pack∧(gs.getD k Good.z).pack≤20))∨¬FC (gs.getD k Good.z).low (gs.getD k Good.z).high then 1 else 0
def Bg (gs:List Good):Int:=if¬(1≤(gs.length:Int)∧(gs.length:Int)≤3) then 2 else Do (Fc gs) 0 gs.length
def Du (ms:List AC) (k:Nat):Int:=if k=0 then 0 else (ms.getD (k-1) AC.z).day
def DZ (d:Int) (gs:List Good) (ms:List AC) (k:Nat):Int:=
 if¬(0≤(ms.getD k AC.z).kind∧(ms.getD k AC.z).kind≤4) then 1
 else if¬(0≤(ms.getD k AC.z).good∧(ms.getD k AC.z).good≤(gs.length:Int)-1) then 6
 else if¬(1≤(ms.getD k AC.z).day∧(ms.getD k AC.z).day≤d) then 1
 else if (ms.getD k AC.z).day<Du ms k then 7
 else if¬FC (ms.getD k AC.z).low (ms.getD k AC.z).high then 1 else 0
def BW (d:Int) (gs:List Good) (ms:List AC):Int:=if (6:Int)<ms.length then 2 else Do (DZ d gs ms) 0 ms.length
def Ei (d:Int) (gs:List Good) (cs:List AH) (k:Nat):Int:=
 if¬(0≤(cs.getD k AH.z).good∧(cs.getD k AH.z).good≤(gs.length:Int)-1) then 6
 else if¬(0≤(cs.getD k AH.z).day∧(cs.getD k AH.z).day≤d)∨¬((0≤(cs.getD k AH.z).low∧(cs.getD k AH.z).low≤(cs.getD k AH.z).high)∧(cs.getD k AH.z).high≤999) then 1 else 0
def CN (d:Int) (gs:List Good) (cs:List AH):Int:=if (4:Int)<cs.length then 2 else Do (Ei d gs cs) 0 cs.length
theorem J8 (s:ByteArray) (k:Nat):0≤(bytesOf s).getD k 0∧(bytesOf s).getD k 0≤255:=by
 by_cases h:k<(bytesOf s).length
 ·rw [Cj 0 h];have h2:k<s.data.toList.length:=by rw [Cv] at h;rw [Array.length_toList];exact h
  have e:(bytesOf s)[k]'h=((s.data.toList[k]'h2).toNat:Int):=List.getElem_map _;rw [e]
  have:=(s.data.toList[k]'h2).toNat_lt
  omega
 ·simp only [List.getD_eq_getElem?_getD];rw [List.getElem?_eq_none (by omega)];decide
theorem Nk {s:ByteArray} {k:Nat} (h:∀j,j<k→H1 s j=0) (hk:k<s.size) (e:H1 s k=1):Dx s=false:=by
 unfold Dx;rw [Bd h hk e (by decide)];simp
theorem Nm {s:ByteArray} {k:Nat} (h:∀j,j<k→H1 s j=0) (hk:s.size≤k):Dx s=decide (1≤(s.size:Int)∧(s.size:Int)≤10):=by
 unfold Dx;rw [Ck h hk];simp
theorem rd_at0 {P:Program} {h:GH} {t:TypeId} {b n m o:Nat} {vs:Array Value} {v:Value} (ht:CZ P t=some (false,m)) (x:Ac h b 0 n vs) (hv:vs[o]? =some v):Rd P h t b o v:=by
 have:=B8 (o:=o) ht x hv
 rwa [Nat.zero_add] at this
def D3 (d m:Int) (gs:List Good) (ms:List AC) (cs:List AH):Nat→Int
 | 0=>ET d m
 | 1=>Bg gs
 | 2=>BW d gs ms
 | _=>CN d gs cs
def Av (d m:Int) (gs:List Good) (ms:List AC) (cs:List AH):Int:=Do (D3 d m gs ms cs) 0 4
def signed (k:Nat) (n:Int):Int:=if k=0∨k=4 then n else-n
theorem LJ {k:Nat} {n:Int} (h:0≤n∧n≤99): -99≤signed k n∧signed k n≤99:=by unfold signed;split <;> omega
def Bp (p:AW):Prop:=(∀i,0≤p.first i∧p.first i≤99)∧∀i,0≤p.many i∧p.many i≤99
theorem G2 {p:AW} (h:Bp p) (i:Nat):0≤Bz p i∧Bz p i≤99:=by
 unfold Bz;have:=h.2 i;split <;> omega
def Fo (ms:List AC) (p:AW) (g:Int) (k:Nat) (n:Int):Int:=if (ms.getD k AC.z).good=g then n+signed (ms.getD k AC.z).kind.toNat (Bz p k) else n
def Ej (ms:List AC) (k:Nat) (low n:Int):Int:=if (k:Int)+1=ms.length∨(ms.getD k AC.z).day<(ms.getD (k+1) AC.z).day then min low n else low
def Ce (ms:List AC) (p:AW) (g dy:Int):Nat→Nat→Int→Int→Int×Int
 | 0,_,n,low=>(n,low)
 | f+1,k,n,low=>if dy<(ms.getD k AC.z).day then (n,low) else Ce ms p g dy f (k+1) (Fo ms p g k n) (Ej ms k low (Fo ms p g k n))
def AM (ms:List AC) (p:AW) (g dy:Int):Int×Int:=Ce ms p g dy ms.length 0 (p.first g.toNat) (p.first g.toNat)
theorem EY {ms:List AC} {p:AW} {g dy:Int} {k:Nat} {n low:Int} (hk:k<ms.length) (hd:¬dy<(ms.getD k AC.z).day) :
  Ce ms p g dy (ms.length-k) k n low=Ce ms p g dy (ms.length-(k+1)) (k+1) (Fo ms p g k n) (Ej ms k low (Fo ms p g k n)):=by
 rw [show ms.length-k=(ms.length-(k+1))+1 by omega]
 conv=>lhs;unfold Ce
 rw [if_neg hd]
theorem PL {ms:List AC} {p:AW} {g dy:Int} {k:Nat} {n low:Int} (hk:k<ms.length) (hd:dy<(ms.getD k AC.z).day):Ce ms p g dy (ms.length-k) k n low=(n,low):=by
 rw [show ms.length-k=(ms.length-(k+1))+1 by omega]
 conv=>lhs;unfold Ce
 rw [if_pos hd]
theorem Q9 {ms:List AC} {p:AW} {g dy:Int} {k:Nat} {n low:Int} (hk:¬(k:Int)<ms.length):Ce ms p g dy (ms.length-k) k n low=(n,low):=by
 rw [show ms.length-k=0 by omega];rfl
def A7 (d:Int) (ng:Nat) (ms:List AC) (cs:List AH) (p:AW):Bool:=
 decide (∀j,j<ng→¬(AM ms p (j:Int) d).2<0) && !(cs.any fun x=>decide (¬(x.low≤(AM ms p x.good x.day).1∧(AM ms p x.good x.day).1≤x.high)))
theorem UA {d:Int} {ng:Nat} {ms:List AC} {cs:List AH} {p:AW} {k:Nat} (hk:k<ng) (h:(AM ms p (k:Int) d).2<0):A7 d ng ms cs p=false:=by
 unfold A7;rw [decide_eq_false (fun q=>q k hk h)];rfl
theorem SM {d:Int} {ng:Nat} {ms:List AC} {cs:List AH} {p:AW} {k:Nat} (hk:ng≤k) (h:∀j,j<k→¬(AM ms p (j:Int) d).2<0) :
  A7 d ng ms cs p= !(cs.any fun x=>decide (¬(x.low≤(AM ms p x.good x.day).1∧(AM ms p x.good x.day).1≤x.high))):=by
 unfold A7;rw [decide_eq_true (fun j hj=>h j (by omega))];rfl
theorem Jm {q:Nat→Prop} {k:Nat} (h:∀j,j<k→q j) (e:q k):∀j,j<k+1→q j:=fun j hj=>by
 rcases Nat.lt_or_ge j k with r | r
 ·exact h j r
 ·rw [show j=k by omega];exact e
def AW.setFirsts (p:AW) (l:List Int):AW:={ p with first:=fun k=>if k<l.length then l.getD k 0 else p.first k }
def AW.setManys (p:AW) (l:List Int):AW:={ p with many:=fun k=>if k<l.length then l.getD k 0 else p.many k }
theorem M0 {p:AW} {l:List Int} (h:l.length≤3):B4 (Ap p) 0 (DH eI l)=Ap (p.setFirsts l):=by
 match l,h with
 | [],_=>rfl
 | [_],_=>rfl
 | [_,_],_=>rfl
 | [_,_,_],_=>rfl
 | _ ::_ ::_ ::_ ::_,h=>simp at h
theorem Nn {p:AW} {l:List Int} (h:l.length≤6):B4 (Ap p) 3 (DH eI l)=Ap (p.setManys l):=by
 match l,h with
 | [],_=>rfl
 | [_],_=>rfl
 | [_,_],_=>rfl
 | [_,_,_],_=>rfl
 | [_,_,_,_],_=>rfl
 | [_,_,_,_,_],_=>rfl
 | [_,_,_,_,_,_],_=>rfl
 | _ ::_ ::_ ::_ ::_ ::_ ::_ ::_,h=>simp at h
end Go.Ns
namespace Go.Ns
open Go.Conc
def B6 (lo:Int) (k:Nat):List Int:=(List.range k).map fun (j:Nat)=>lo+(j:Int)
def Gr (lo hi:Int):List Int:=B6 lo (hi-lo+1).toNat
theorem Md (lo:Int) (k:Nat):B6 lo (k+1)=B6 lo k++[lo+(k:Int)]:=by
 simp [B6,List.range_succ]
theorem UB {lo n:Int} {k:Nat}:n ∈ B6 lo k↔lo≤n∧n<lo+k:=by
 simp only [B6,List.mem_map,List.mem_range];constructor
 ·rintro ⟨j,hj,rfl⟩;omega
 ·rintro ⟨h1,h2⟩;exact ⟨(n-lo).toNat,by omega,by omega⟩
theorem HB {lo hi n:Int}:n ∈ Gr lo hi↔lo≤n∧n≤hi:=by
 unfold Gr;rw [UB];omega
theorem UC {β:Type} {f:Int→List β} {lo hi:Int} {k:Nat} (h:¬lo+(k:Int)≤hi) (hk:(k:Int)≤hi-lo+1∨k=0):(B6 lo k).flatMap f=(Gr lo hi).flatMap f:=by
 unfold Gr;congr 2;omega
theorem JH {β:Type} {f:Int→List β} {lo:Int} {k:Nat}:(B6 lo (k+1)).flatMap f=(B6 lo k).flatMap f++f (lo+k):=by
 rw [Md,List.flatMap_append];simp
def AW.setMove (p:AW) (i:Nat) (n:Int) (b:Bool):AW:=(p.setMany i n).setLie i b
theorem M1 (p:AW) (i:Nat) (n n':Int) (b b':Bool):(p.setMove i n b).setMove i n' b'=p.setMove i n' b':=by
 unfold AW.setMove AW.setMany AW.setLie;congr 1 <;> funext k <;> simp only [] <;> split <;> rfl
theorem HO (p:AW) (i:Nat) (n:Int) (b b':Bool):(p.setMove i n b).setLie i b'=p.setMove i n b':=by
 unfold AW.setMove AW.setMany AW.setLie;congr 1;funext k;simp only [];split <;> rfl
theorem LK (p:AW) (i:Nat) (n n':Int):(p.setFirst i n).setFirst i n'=p.setFirst i n':=by
 unfold AW.setFirst;congr 1;funext k;simp only [];split <;> rfl
theorem Bp.zero:Bp AW.zero:=⟨fun _=>⟨Int.le_refl 0,(by decide:(0:Int)≤99)⟩,fun _=>⟨Int.le_refl 0,(by decide:(0:Int)≤99)⟩⟩
theorem Bp.setFirst {p:AW} (h:Bp p) {i:Nat} {n:Int} (hn:0≤n∧n≤99):Bp (p.setFirst i n):=
 ⟨fun k=>by unfold AW.setFirst;simp only [];split;exact hn;exact h.1 k,h.2⟩
theorem Bp.setMany {p:AW} (h:Bp p) {i:Nat} {n:Int} (hn:0≤n∧n≤99):Bp (p.setMany i n):=
 ⟨h.1,fun k=>by unfold AW.setMany;simp only [];split;exact hn;exact h.2 k⟩
theorem Bp.setMove {p:AW} (h:Bp p) {i:Nat} {n:Int} {b:Bool} (hn:0≤n∧n≤99):Bp (p.setMove i n b):=h.setMany hn
def Cw (ms:List AC) (i:Int):Bool:=decide ((0≤i∧i≤(ms.length:Int)-1)∧(ms.getD i.toNat AC.z).kind=0)
def A9 (ag:AW→Bool) (ms:List AC) (most:Int):Nat→Nat→AW→List AW
 | 0,_,p=>if ag p then [p] else []
 | f+1,i,p=>(Gr (ms.getD i AC.z).low (ms.getD i AC.z).high).flatMap fun n=>
   A9 ag ms most f (i+1) (p.setMove i n false)++
    if Cw ms i && decide ((Aw (p.setMove i n false) 6:Int)<most) then A9 ag ms most f (i+1) (p.setMove i n true) else []
def BU (ag:AW→Bool) (gs:List Good) (ms:List AC) (most:Int):Nat→Nat→AW→List AW
 | 0,_,p=>A9 ag ms most ms.length 0 p
 | f+1,i,p=>(Gr (gs.getD i Good.z).low (gs.getD i Good.z).high).flatMap fun n=>BU ag gs ms most f (i+1) (p.setFirst i n)
def AV (d:Int) (gs:List Good) (ms:List AC) (cs:List AH) (most:Int):List AW:=BU (A7 d gs.length ms cs) gs ms most gs.length 0 AW.zero
def Bq (ag:AW→Bool) (ms:List AC) (most:Int) (f i:Nat) (p:AW) (n:Int):List AW:=
 A9 ag ms most f (i+1) (p.setMove i n false)++
  if Cw ms i && decide ((Aw (p.setMove i n false) 6:Int)<most) then A9 ag ms most f (i+1) (p.setMove i n true) else []
theorem Cx (ag:AW→Bool) (ms:List AC) (most:Int) (f i:Nat) (p:AW) :
  A9 ag ms most (f+1) i p=(Gr (ms.getD i AC.z).low (ms.getD i AC.z).high).flatMap (Bq ag ms most f i p):=rfl
theorem Da (ag:AW→Bool) (gs:List Good) (ms:List AC) (most:Int) (f i:Nat) (p:AW) :
  BU ag gs ms most (f+1) i p=(Gr (gs.getD i Good.z).low (gs.getD i Good.z).high).flatMap (fun n=>BU ag gs ms most f (i+1) (p.setFirst i n)):=rfl
def Bn (X:Nat→Prop) (h h':GH):Prop:=∀b p o,h b=some (p,o)→¬X b→∃o',h' b=some (p,o')∧(o'=o∨(KL o=true∧KL o'=true))
theorem Bn.refl (X:Nat→Prop) (h:GH):Bn X h h:=fun _ _ o x _=>⟨o,x,.inl rfl⟩
theorem GH.Le.keepX {h h':GH} (l:h.Le h') (X:Nat→Prop):Bn X h h':=fun b p o x _=>l b p o x
theorem Bn.trans {X X1:Nat→Prop} {a b c:GH} (x:Bn X a b) (hX:∀r,X1 r→X r∨a r=none) (y:Bn X1 b c):Bn X a c:=fun r p o hr hn=>by
 obtain ⟨o1,h1,h2⟩:=x r p o hr hn;obtain ⟨o2,h3,h4⟩:=y r p o1 h1 fun q=>(hX r q).elim hn fun e=>by rw [e] at hr;cases hr
 refine ⟨o2,h3,?_⟩;rcases h2 with rfl | h2
 ·exact h4
 ·rcases h4 with rfl | h4
  ·exact .inr h2
  ·exact .inr ⟨h2.1,h4.2⟩
theorem Bn.box {X:Nat→Prop} {h h':GH} (x:Bn X h h') {b:Nat} {p:Bool} {o:Obj} (hb:h b=some (p,o)) (hX:¬X b) (ho:KL o=false):h' b=some (p,o):=by
 obtain ⟨o',h1,rfl | ⟨h2,_⟩⟩:=x b p o hb hX
 ·exact h1
 ·rw [ho] at h2;cases h2
theorem Bn.store {X:Nat→Prop} {h h1 h2:GH} (x:Bn X h h1) {r:Nat} (hr:h r=none) (ho:∀b,b≠r→h2 b=h1 b):Bn X h h2:=fun b p o hb hn=>by
 rw [ho b fun e=>by subst e;rw [hr] at hb;cases hb];exact x b p o hb hn
structure Ij {α:Type} (hB:GH) (I:List α→(Nat→Prop)→GH→Prop):Prop where
 dom:∀pre X h b,I pre X h→X b→∃p o,h b=some (p,o)∧KL o=false
 stable:∀pre X h h',I pre X h→(∀b,X b→h' b=h b)→hB.Le h'→I pre X h'
theorem Ij.le {α:Type} {hB:GH} {I:List α→(Nat→Prop)→GH→Prop} (P:Ij hB I) {pre:List α} {X:Nat→Prop} {h h':GH} (x:I pre X h) (l:h.Le h') (lB:hB.Le h'):I pre X h':=
 P.stable pre X h h' x (fun b hb=>by
  obtain ⟨p,o,h1,h2⟩:=P.dom pre X h b x hb;rw [l.keep h1 h2,h1]) lB
theorem Ij.store {α:Type} {hB:GH} {I:List α→(Nat→Prop)→GH→Prop} (P:Ij hB I) {pre:List α} {X:Nat→Prop} {h h':GH} (x:I pre X h) {r:Nat} (hr:¬X r) (ho:∀b,b≠r→h' b=h b) (lB:hB.Le h'):I pre X h':=
 P.stable pre X h h' x (fun b hb=>ho b fun e=>hr (e▸hb)) lB
theorem Ij.off {α:Type} {hB:GH} {I:List α→(Nat→Prop)→GH→Prop} (P:Ij hB I) {pre:List α} {X:Nat→Prop} {h:GH} (x:I pre X h) {r:Nat} (hr:h r=none):¬X r:=fun q=>by
 obtain ⟨p,o,h1,_⟩:=P.dom pre X h r x q;rw [hr] at h1;cases h1
theorem PM {X X1:Nat→Prop} {h:GH} (hX:∀r,X1 r→X r∨h r=none) {r:Nat} {o:Bool×Obj} (hr:h r=some o) (n:¬X r):¬X1 r:=fun q=>(hX r q).elim n fun e=>by rw [e] at hr;cases hr
def Hl {α:Type} (hB:GH) (I:List α→(Nat→Prop)→GH→Prop) (S:GH→Prop) (pre:List α) (X:Nat→Prop) (h:GH) (l:List α) (v:Value) (h':GH):Prop:=
 ∃ok X',v=.bool ok∧(∀b,X' b→X b∨h b=none)∧Bn X h h'∧hB.Le h'∧(ok=true→I (pre++l) X' h')∧(ok=false→S h')
structure Kb {α:Type} {P:Program} (W:Wk P) (hB:GH) (yv:Value) (enc:α→Array Value) (I:List α→(Nat→Prop)→GH→Prop) (S:GH→Prop) (all:List α):Prop where
 prom:Ij hB I
 one:yv.cells=#[yv]
 call:∀pre p post X h,all=pre++p ::post→I pre X h→hB.Le h→Ct W yv #[.agg (enc p)] h (Hl hB I S pre X h [p])
structure Hj {α:Type} (hB:GH) (I:List α→(Nat→Prop)→GH→Prop) (X0:Nat→Prop) (h:GH) (pre:List α) (X:Nat→Prop) (hc:GH):Prop where
 inv:I pre X hc
 sub:∀b,X b→X0 b∨h b=none
 keep:Bn X0 h hc
 base:hB.Le hc
section
variable {α:Type} {hB:GH} {I:List α→(Nat→Prop)→GH→Prop} {S:GH→Prop} {X0 X X1:Nat→Prop} {h hc h':GH} {pre l:List α}
theorem Hj.start (x:I pre X h) (lB:hB.Le h):Hj hB I X h pre X h:=⟨x,fun _ q=>.inl q,Bn.refl _ _,lB⟩
theorem Hj.le (P:Ij hB I) (y:Hj hB I X0 h pre X hc) (l:hc.Le h'):Hj hB I X0 h pre X h':=
 ⟨P.le y.inv l (y.base.trans l),y.sub,y.keep.trans (fun _ q=>.inl q) (l.keepX X0),y.base.trans l⟩
theorem Hj.store (P:Ij hB I) (y:Hj hB I X0 h pre X hc) {r:Nat} (hr:h r=none) (rB:hB r=none) (hn:¬X r) (ho:∀b,b≠r→h' b=hc b):Hj hB I X0 h pre X h':=
 ⟨P.store y.inv hn ho (y.base.upd rB ho),y.sub,y.keep.store hr ho,y.base.upd rB ho⟩
theorem subX (s:∀b,X b→X0 b∨h b=none) (k:Bn X0 h hc) (s':∀b,X1 b→X b∨hc b=none):∀b,X1 b→X0 b∨h b=none:=fun b q=>by
 rcases s' b q with q | q
 ·exact s b q
 ·by_cases q0:X0 b
  ·exact .inl q0
  ·refine .inr ?_;cases hb:h b with
   | none=>rfl
   | some x=>
    obtain ⟨o',h1,_⟩:=k b x.1 x.2 hb q0;rw [h1] at q;cases q
theorem Hj.call (y:Hj hB I X0 h pre X hc) {v:Value} (r:Hl hB I S pre X hc l v h') :
  ∃ok X',v=.bool ok∧(∀b,X' b→X b∨hc b=none)∧Bn X hc h'∧(ok=true→Hj hB I X0 h (pre++l) X' h')∧(ok=false→∀l',Hl hB I S pre X0 h l' (.bool false) h'):=by
 obtain ⟨ok,X',hv,hs,hk,hl,h1,h2⟩:=r;have kk:Bn X0 h h':=y.keep.trans y.sub hk;have ss:=subX y.sub y.keep hs;exact ⟨ok,X',hv,hs,hk,fun e=>⟨h1 e,ss,kk,hl⟩,fun e l'=>⟨false,X',rfl,ss,kk,hl,(fun x=>by cases x),fun _=>h2 e⟩⟩
theorem Hj.done (y:Hj hB I X0 h (pre++l) X hc):Hl hB I S pre X0 h l (.bool true) hc:=⟨true,X,rfl,y.sub,y.keep,y.base,fun _=>y.inv,fun x=>by cases x⟩
theorem Hj.pass {α:Type} {hB:GH} {I:List α→(Nat→Prop)→GH→Prop} {S:GH→Prop} {X0 X:Nat→Prop} {h hc h':GH} {pre:List α} {l:List α} {v:Value} (y:Hj hB I X0 h pre X hc) (r:Hl hB I S pre X hc l v h'):Hl hB I S pre X0 h l v h':=by
 obtain ⟨ok,X',hv,hs,hk,hl,h1,h2⟩:=r;exact ⟨ok,X',hv,subX y.sub y.keep hs,y.keep.trans y.sub hk,hl,h1,h2⟩
theorem Hl.stopped {pre':List α} {v:Value} (hv:v=.bool false) (r:∀l',Hl hB I S pre X0 h l' (.bool false) h'):Hl hB I S pre' X0 h l v h':=by
 obtain ⟨ok,X',e,hs,hk,hl,_,h2⟩:=r [];cases e;exact ⟨false,X',hv,hs,hk,hl,(fun x=>by cases x),h2⟩
end
def Cy {α:Type} (all pre l:List α):Prop:=∃post,all=pre++l++post
section
variable {α:Type} {all pre a b:List α}
theorem Cy.left (w:Cy all pre (a++b)):Cy all pre a:=by
 obtain ⟨post,h⟩:=w;exact ⟨b++post,by rw [h];simp⟩
theorem Cy.right (w:Cy all pre (a++b)):Cy all (pre++a) b:=by
 obtain ⟨post,h⟩:=w;exact ⟨post,by rw [h];simp⟩
theorem Cy.one {p:α} (w:Cy all pre [p]):∃post,all=pre++p ::post:=by
 obtain ⟨post,h⟩:=w;exact ⟨post,by rw [h];simp⟩
theorem UD (lo:Int) (i j:Nat):B6 lo (i+j)=B6 lo i++B6 (lo+i) j:=by
 unfold B6;rw [List.range_add,List.map_append,List.map_map];congr 1;apply List.map_congr_left;intro x _;simp only [Function.comp];omega
theorem Cy.round {lo hi:Int} {k:Nat} {F:Int→List α} (w:Cy all pre ((Gr lo hi).flatMap F)) (hk:lo+(k:Int)≤hi):Cy all (pre++(B6 lo k).flatMap F) (F (lo+k)):=by
 have e:Gr lo hi=B6 lo k++([lo+(k:Int)]++B6 (lo+((k+1:Nat):Int)) ((hi-lo+1).toNat-(k+1))):=by
  unfold Gr;rw [←List.append_assoc,←Md,←UD];congr 1;omega
 rw [e,List.flatMap_append,List.flatMap_append] at w;have w2:=w.right.left;simpa using w2
theorem Cy.roundEnd {lo hi:Int} {k:Nat} {F:Int→List α} (h:¬lo+(k:Int)≤hi) (hk:(k:Int)≤hi-lo+1∨k=0):(Gr lo hi).flatMap F=(B6 lo k).flatMap F:=(UC h hk).symm
end
section
variable {ag:AW→Bool} {gs:List Good} {ms:List AC} {mo:Int} {f i k:Nat} {p pc:AW} {all pre:List AW} {lo hi x:Int}
theorem SN {b1 b2:Bool} (hpc:∀n b,pc.setMove i n b=p.setMove i n b):∀n b,(((pc.setMany i x).setLie i b1).setLie i b2).setMove i n b=p.setMove i n b:=fun n b=>by
 rw [←hpc,show ((pc.setMany i x).setLie i b1)=pc.setMove i x b1 from rfl,HO,M1]
theorem Yq (hpc:∀n,pc.setFirst i n=p.setFirst i n):∀n,(pc.setFirst i x).setFirst i n=p.setFirst i n:=fun n=>by rw [←hpc,LK]
def SO (ms:List AC) (mo:Int) (i:Nat) (q:AW):Prop:=((0≤(i:Int)∧(i:Int)≤(ms.length:Int)-1)∧(ms.getD ((i:Int)).toNat AC.z).kind=0)∧((Aw q 6:Int)<mo)
instance (ms:List AC) (mo:Int) (i:Nat) (q:AW):Decidable (SO ms mo i q):=inferInstanceAs (Decidable (_∧_))
theorem RA {q:AW}:(Cw ms i && decide ((Aw q 6:Int)<mo))=decide (SO ms mo i q):=by
 unfold Cw SO;rw [←Bool.decide_and];exact decide_eq_decide.2 Iff.rfl
theorem Np {q:AW} {b:Bool}:(q.setLie i b).lies i=b:=by simp [AW.setLie]
theorem SP (hpc:∀n b,pc.setMove i n b=p.setMove i n b) (hC:(((pc.setMany i x).setLie i false).setLie i (decide (SO ms mo i ((pc.setMany i x).setLie i false)))).lies i=true) (hx:x=lo+(k:Int)) :
  pre++(B6 lo (k+1)).flatMap (Bq ag ms mo f i p)=((pre++(B6 lo k).flatMap (Bq ag ms mo f i p))++A9 ag ms mo f (i+1) ((pc.setMany i x).setLie i false))++
   A9 ag ms mo f (i+1) (((pc.setMany i x).setLie i false).setLie i (decide (SO ms mo i ((pc.setMany i x).setLie i false)))):=by
 rw [Np] at hC;rw [hC,show ((pc.setMany i x).setLie i false)=pc.setMove i x false from rfl,HO,hpc,hpc,JH,←hx];rw [show ((pc.setMany i x).setLie i false)=pc.setMove i x false from rfl,hpc] at hC;unfold Bq;rw [RA,hC];simp
theorem SQ (hpc:∀n b,pc.setMove i n b=p.setMove i n b) (hC:(((pc.setMany i x).setLie i false).setLie i (decide (SO ms mo i ((pc.setMany i x).setLie i false)))).lies i=false) (hx:x=lo+(k:Int)) :
  pre++(B6 lo (k+1)).flatMap (Bq ag ms mo f i p)=(pre++(B6 lo k).flatMap (Bq ag ms mo f i p))++A9 ag ms mo f (i+1) ((pc.setMany i x).setLie i false):=by
 rw [Np] at hC;rw [show ((pc.setMany i x).setLie i false)=pc.setMove i x false from rfl,hpc,JH,←hx];rw [show ((pc.setMany i x).setLie i false)=pc.setMove i x false from rfl,hpc] at hC;unfold Bq;rw [RA,hC];simp
theorem UE (hpc:∀n,pc.setFirst i n=p.setFirst i n) (hx:x=lo+(k:Int)) :
  pre++(B6 lo (k+1)).flatMap (fun n=>BU ag gs ms mo f (i+1) (p.setFirst i n))=(pre++(B6 lo k).flatMap (fun n=>BU ag gs ms mo f (i+1) (p.setFirst i n)))++BU ag gs ms mo f (i+1) (pc.setFirst i x):=by
 rw [hpc,JH,←hx];simp
theorem PN (hpc:∀n b,pc.setMove i n b=p.setMove i n b) (hw:Cy all pre (A9 ag ms mo (f+1) i p)) (hx:x=(ms.getD i AC.z).low+(k:Int)) (hk:x≤(ms.getD i AC.z).high) :
  Cy all (pre++(B6 (ms.getD i AC.z).low k).flatMap (Bq ag ms mo f i p)) (A9 ag ms mo f (i+1) ((pc.setMany i x).setLie i false)):=by
 rw [Cx] at hw;have w:=hw.round (k:=k) (by omega);rw [←hx] at w;unfold Bq at w;rw [←hpc] at w;exact w.left
theorem PO (hpc:∀n b,pc.setMove i n b=p.setMove i n b) (hw:Cy all pre (A9 ag ms mo (f+1) i p)) (hC:(((pc.setMany i x).setLie i false).setLie i (decide (SO ms mo i ((pc.setMany i x).setLie i false)))).lies i=true) (hx:x=(ms.getD i AC.z).low+(k:Int)) (hk:x≤(ms.getD i AC.z).high) :
  Cy all ((pre++(B6 (ms.getD i AC.z).low k).flatMap (Bq ag ms mo f i p))++A9 ag ms mo f (i+1) ((pc.setMany i x).setLie i false)) (A9 ag ms mo f (i+1) (((pc.setMany i x).setLie i false).setLie i (decide (SO ms mo i ((pc.setMany i x).setLie i false))))):=by
 rw [Np] at hC;rw [hC,show ((pc.setMany i x).setLie i false)=pc.setMove i x false from rfl,HO,hpc,hpc];rw [show ((pc.setMany i x).setLie i false)=pc.setMove i x false from rfl,hpc] at hC;rw [Cx] at hw;have w:=hw.round (k:=k) (by omega);rw [←hx] at w;have w2:Cy all (pre++(B6 (ms.getD i AC.z).low k).flatMap (Bq ag ms mo f i p)) (A9 ag ms mo f (i+1) (p.setMove i x false)++A9 ag ms mo f (i+1) (p.setMove i x true)):=by
  have e:Bq ag ms mo f i p x=A9 ag ms mo f (i+1) (p.setMove i x false)++A9 ag ms mo f (i+1) (p.setMove i x true):=by
   unfold Bq;rw [RA,hC,if_pos rfl]
  rw [←e];exact w
 exact w2.right
theorem RB (hpc:∀n,pc.setFirst i n=p.setFirst i n) (hw:Cy all pre (BU ag gs ms mo (f+1) i p)) (hx:x=(gs.getD i Good.z).low+(k:Int)) (hk:x≤(gs.getD i Good.z).high) :
  Cy all (pre++(B6 (gs.getD i Good.z).low k).flatMap (fun n=>BU ag gs ms mo f (i+1) (p.setFirst i n))) (BU ag gs ms mo f (i+1) (pc.setFirst i x)):=by
 rw [Da] at hw;have w:=hw.round (k:=k) (by omega);rw [←hx] at w;rw [hpc];exact w
end
def G3 (l:List Int) (k:Nat):Int:=if k=0 then-1 else l.getD (k-1) 0
def I7 (ms:List AC) (l:List Int) (k:Nat):Int:=if¬Cw ms (l.getD k 0)=true then 6 else if l.getD k 0≤G3 l k then 7 else 0
def Dp (p:AW) (l:List Int) (k:Nat):AW:=(l.take k).foldl (fun p i=>p.setLie i.toNat true) p
theorem SR {p:AW} {l:List Int} {k:Nat} (hk:k<l.length):Dp p l (k+1)=(Dp p l k).setLie (l.getD k 0).toNat true:=by
 unfold Dp;rw [GC 0 hk,List.foldl_append];rfl
def Ak (d m:Int) (gs:List Good) (ms:List AC) (cs:List AH) (f y l:List Int):Int:=
 if¬Av d m gs ms cs=0 then Av d m gs ms cs
 else if¬BG f gs.length=0 then BG f gs.length
 else if¬BG y ms.length=0 then BG y ms.length
 else Do (I7 ms l) 0 l.length
def Fd (f y l:List Int):AW:=Dp ((AW.zero.setFirsts f).setManys y) l l.length
theorem Fp {f:Nat→Int}:∀{n i:Nat},Do f i n=0→∀j,i≤j→j<i+n→f j=0
 | 0,i,_,j,h1,h2=>by omega
 | n+1,i,h,j,h1,h2=>by
  unfold Do at h;split at h
  ·rename_i e
   rcases Nat.eq_or_lt_of_le h1 with rfl | h3
   ·exact e
   ·exact Fp h j h3 (by omega)
  ·rename_i e;exact absurd h e
structure BE (d m:Int) (gs:List Good) (ms:List AC) (cs:List AH):Prop where
 days:1≤d∧d≤99
 most:0≤m∧m≤2
 glen:1≤gs.length∧gs.length≤3
 good:∀k,k<gs.length→Fc gs k=0
 mlen:ms.length≤6
 move:∀k,k<ms.length→DZ d gs ms k=0
 clen:cs.length≤4
 count:∀k,k<cs.length→Ei d gs cs k=0
theorem Ik {d m:Int} {gs:List Good} {ms:List AC} {cs:List AH} (h:Av d m gs ms cs=0):BE d m gs ms cs:=by
 have z:=fun j hj=>Fp (f:=D3 d m gs ms cs) h j (Nat.zero_le _) (by omega:j<0+4);have z0:ET d m=0:=z 0 (by decide);have z1:Bg gs=0:=z 1 (by decide);have z2:BW d gs ms=0:=z 2 (by decide);have z3:CN d gs cs=0:=z 3 (by decide);unfold ET at z0;unfold Bg at z1;unfold BW at z2;unfold CN at z3;split at z0 <;> first | (cases z0;done) | skip
 split at z1 <;> first | (cases z1;done) | skip
 split at z2 <;> first | (cases z2;done) | skip
 split at z3 <;> first | (cases z3;done) | skip
 exact ⟨by omega,by omega,by omega,fun k hk=>Fp z1 k (Nat.zero_le _) (by omega),by omega,fun k hk=>Fp z2 k (Nat.zero_le _) (by omega),by omega,fun k hk=>Fp z3 k (Nat.zero_le _) (by omega)⟩
section
variable {d m:Int} {gs:List Good} {ms:List AC} {cs:List AH}
theorem BE.move' (b:BE d m gs ms cs) {k:Nat} (hk:k<ms.length):(0≤(ms.getD k AC.z).kind∧(ms.getD k AC.z).kind≤4)∧(0≤(ms.getD k AC.z).good∧(ms.getD k AC.z).good≤(gs.length:Int)-1)∧
  (1≤(ms.getD k AC.z).day∧(ms.getD k AC.z).day≤d)∧Du ms k≤(ms.getD k AC.z).day∧FC (ms.getD k AC.z).low (ms.getD k AC.z).high:=by
 have z:=b.move k hk;unfold DZ at z;split at z <;> first | (cases z;done) | skip
 split at z <;> first | (cases z;done) | skip
 split at z <;> first | (cases z;done) | skip
 split at z <;> first | (cases z;done) | skip
 split at z <;> first | (cases z;done) | skip
 rename_i a1 a2 a3 a4 a5
 exact ⟨Decidable.not_not.1 a1,Decidable.not_not.1 a2,Decidable.not_not.1 a3,by omega,Decidable.not_not.1 a5⟩
theorem D4 {α:Type} {l:List α} {k:Nat} {z:α} (h:l.length≤k):l.getD k z=z:=by
 simp [List.getD_eq_getElem?_getD,List.getElem?_eq_none h]
theorem BE.kind (b:BE d m gs ms cs):∀k,0≤(ms.getD k AC.z).kind∧(ms.getD k AC.z).kind≤4:=fun k=>by
 by_cases h:k<ms.length
 ·exact (b.move' h).1
 ·rw [D4 (by omega)];decide
theorem BE.few (b:BE d m gs ms cs):∀k,0≤(ms.getD k AC.z).low∧(ms.getD k AC.z).low≤(ms.getD k AC.z).high∧(ms.getD k AC.z).high≤99∧(ms.getD k AC.z).high-(ms.getD k AC.z).low<3:=fun k=>by
 by_cases h:k<ms.length
 ·have:=(b.move' h).2.2.2.2;unfold FC at this;omega
 ·rw [D4 (by omega)];decide
theorem BE.good' (b:BE d m gs ms cs) {k:Nat} (hk:k<gs.length):(0≤(gs.getD k Good.z).cost∧(gs.getD k Good.z).cost≤999)∧(1≤(gs.getD k Good.z).pack∧(gs.getD k Good.z).pack≤20)∧FC (gs.getD k Good.z).low (gs.getD k Good.z).high:=by
 have z:=b.good k hk;unfold Fc at z;split at z <;> first | (cases z;done) | skip
 split at z <;> first | (cases z;done) | skip
 split at z <;> first | (cases z;done) | skip
 rename_i a1 a2 a3
 exact ⟨by omega,by omega,Decidable.byContradiction fun q=>a3 (.inr q)⟩
theorem BE.gfew (b:BE d m gs ms cs):∀k,0≤(gs.getD k Good.z).low∧(gs.getD k Good.z).low≤(gs.getD k Good.z).high∧(gs.getD k Good.z).high≤99∧(gs.getD k Good.z).high-(gs.getD k Good.z).low<3:=fun k=>by
 by_cases h:k<gs.length
 ·have:=(b.good' h).2.2;unfold FC at this;omega
 ·rw [D4 (by omega)];decide
theorem BE.cgood (b:BE d m gs ms cs):∀x ∈ cs,0≤x.good∧x.good<3:=fun x hx=>by
 obtain ⟨k,hk,rfl⟩:=List.getElem_of_mem hx;have z:=b.count k hk;unfold Ei at z;rw [Cj AH.z hk] at z
 have:=b.glen
 split at z <;> first | (cases z;done) | skip
 omega
theorem DU {l:List Int} {n:Int} (h:BG l n=0):(l.length:Int)=n∧∀k,0≤l.getD k 0∧l.getD k 0≤99:=by
 unfold BG at h;split at h <;> first | (cases h;done) | skip
 split at h <;> first | (cases h;done) | skip
 rename_i a1 a2
 refine ⟨Decidable.not_not.1 a1,fun k=>?_⟩;by_cases hk:k<l.length
 ·refine Decidable.byContradiction fun q=>a2 ?_;rw [List.any_eq_true];exact ⟨l.getD k 0,Cd hk,decide_eq_true q⟩
 ·rw [D4 (by omega)];decide
variable {f y l:List Int}
def Ax (d m:Int) (gs:List Good) (ms:List AC) (cs:List AH) (f y l:List Int):AW:=if Ak d m gs ms cs f y l=0 then Fd f y l else AW.zero
theorem RC (h:¬Av d m gs ms cs=0):Ak d m gs ms cs f y l=Av d m gs ms cs:=by unfold Ak;rw [if_pos h]
theorem RD (h:¬¬Av d m gs ms cs=0) (h2:¬BG f gs.length=0):Ak d m gs ms cs f y l=BG f gs.length:=by unfold Ak;rw [if_neg h,if_pos h2]
theorem RE (h:¬¬Av d m gs ms cs=0) (h2:¬¬BG f gs.length=0) (h3:¬BG y ms.length=0):Ak d m gs ms cs f y l=BG y ms.length:=by unfold Ak;rw [if_neg h,if_neg h2,if_pos h3]
theorem G4 (h:¬¬Av d m gs ms cs=0) (h2:¬¬BG f gs.length=0) (h3:¬¬BG y ms.length=0) {c:Int} (h4:Do (I7 ms l) 0 l.length=c):Ak d m gs ms cs f y l=c:=by unfold Ak;rw [if_neg h,if_neg h2,if_neg h3,h4]
theorem HP {c:Int} (e:Ak d m gs ms cs f y l=c) (hc:¬c=0):(.tuple #[.agg (Ap AW.zero),.int .i64 c]:Value)=.tuple #[.agg (Ap (Ax d m gs ms cs f y l)),.int .i64 (Ak d m gs ms cs f y l)]:=by
 unfold Ax;rw [e,if_neg hc]
theorem SS (e:Ak d m gs ms cs f y l=0) {k:Nat} (hk:¬(k:Int)<l.length) (hk':k≤l.length):(.tuple #[.agg (Ap (Dp ((AW.zero.setFirsts f).setManys y) l k)),.int .i64 0]:Value)=.tuple #[.agg (Ap (Ax d m gs ms cs f y l)),.int .i64 (Ak d m gs ms cs f y l)]:=by
 unfold Ax Fd;rw [e,if_pos rfl,show k=l.length by omega]
theorem lieAt_6 {k:Nat} (h:¬((0≤l.getD k 0∧l.getD k 0≤(ms.length:Int)-1)∧(ms.getD (l.getD k 0).toNat AC.z).kind=0)):I7 ms l k=6:=by
 unfold I7 Cw;rw [if_pos (by simpa using h)]
theorem lieAt_7 {k:Nat} (h:¬¬((0≤l.getD k 0∧l.getD k 0≤(ms.length:Int)-1)∧(ms.getD (l.getD k 0).toNat AC.z).kind=0)) (h2:l.getD k 0≤G3 l k):I7 ms l k=7:=by
 unfold I7 Cw;rw [if_neg (by simpa using h),if_pos h2]
theorem lieAt_0 {k:Nat} (h:¬¬((0≤l.getD k 0∧l.getD k 0≤(ms.length:Int)-1)∧(ms.getD (l.getD k 0).toNat AC.z).kind=0)) (h2:¬l.getD k 0≤G3 l k):I7 ms l k=0:=by
 unfold I7 Cw;rw [if_neg (by simpa using h),if_neg h2]
end
theorem GD (p:AW):(Value.agg (Ap p)).cells.size=15:=rfl
theorem GE (p:AW):Value.fine (.agg (Ap p))=true:=rfl
theorem HC (p:AW):0+15≤(Ap p).size:=Nat.le_refl 15
theorem HD (p q:AW):B4 (Ap p) 0 (Value.agg (Ap q)).cells.toList=Ap q:=by
 show B4 (Ap p) 0 (Ap q).toList=Ap q;apply Array.toList_inj.1;rw [ES _ _ _ (Nat.le_refl 15)];show []++(Ap q).toList++[]=_;simp
theorem Db {β:Type} (f:Nat→β) (k:Nat):(List.range (k+1)).map f=(List.range k).map f++[f k]:=by
 rw [List.range_succ,List.map_append];rfl
section
variable {d m:Int} {gs:List Good} {ms:List AC} {cs:List AH} {f y l:List Int}
theorem Bp.lies {p:AW} (h:Bp p) (l:List Int) (k:Nat):Bp (Dp p l k):=by
 unfold Dp;generalize l.take k=t
 induction t generalizing p with
 | nil=>exact h
 | cons x t ih=>exact ih (p:=p.setLie x.toNat true) h
theorem Lz (h:Ak d m gs ms cs f y l=0):BE d m gs ms cs∧Bp (Ax d m gs ms cs f y l):=by
 have h0:=h;unfold Ak at h;split at h <;> first | (rename_i q;exact absurd h q) | skip
 split at h <;> first | (rename_i q;exact absurd h q) | skip
 split at h <;> first | (rename_i q;exact absurd h q) | skip
 rename_i a1 a2 a3
 refine ⟨Ik (Decidable.not_not.1 a1),?_⟩;unfold Ax;rw [if_pos h0];unfold Fd;refine Bp.lies ?_ _ _;have b2:=(DU (Decidable.not_not.1 a2)).2;have b3:=(DU (Decidable.not_not.1 a3)).2;refine ⟨fun i=>?_,fun i=>?_⟩
 ·show 0≤(if i<f.length then f.getD i 0 else 0)∧(if i<f.length then f.getD i 0 else 0)≤99;split
  ·exact b2 i
  ·decide
 ·show 0≤(if i<y.length then y.getD i 0 else 0)∧(if i<y.length then y.getD i 0 else 0)≤99;split
  ·exact b3 i
  ·decide
def CP (d m:Int) (gs:List Good) (ms:List AC) (cs:List AH) (f y l:List Int):List Int:=if Ak d m gs ms cs f y l=0 then (List.range gs.length).map (fun (i:Nat)=>(AM ms (Ax d m gs ms cs f y l) (i:Int) d).1) else []
def DK (d m:Int) (gs:List Good) (ms:List AC) (cs:List AH) (f y l:List Int):List Int:=if Ak d m gs ms cs f y l=0 then (List.range gs.length).map (fun (i:Nat)=>(AM ms (Ax d m gs ms cs f y l) (i:Int) d).2) else []
theorem RF (h:¬Ak d m gs ms cs f y l=0):CP d m gs ms cs f y l=[]:=if_neg h
theorem ST (h:¬Ak d m gs ms cs f y l=0):DK d m gs ms cs f y l=[]:=if_neg h
theorem PP (h:¬¬Ak d m gs ms cs f y l=0) {k:Nat} (hk:k≤gs.length) (hk':¬(k:Int)<gs.length):CP d m gs ms cs f y l=(List.range k).map (fun (i:Nat)=>(AM ms (Ax d m gs ms cs f y l) (i:Int) d).1):=by
 unfold CP;rw [if_pos (Decidable.not_not.1 h),show gs.length=k by omega]
theorem RG (h:¬¬Ak d m gs ms cs f y l=0) {k:Nat} (hk:k≤gs.length) (hk':¬(k:Int)<gs.length):DK d m gs ms cs f y l=(List.range k).map (fun (i:Nat)=>(AM ms (Ax d m gs ms cs f y l) (i:Int) d).2):=by
 unfold DK;rw [if_pos (Decidable.not_not.1 h),show gs.length=k by omega]
end
theorem Nq {α β:Type} {f:α→List β} {c:Nat}:∀{l:List α},(∀x ∈ l,(f x).length≤c)→(l.flatMap f).length≤l.length*c
 | [],_=>by simp
 | x ::l,h=>by
  rw [List.flatMap_cons,List.length_append,List.length_cons,Nat.succ_mul];have h1:=h x (by simp);have h2:=Nq (l:=l) fun y hy=>h y (by simp [hy]);omega
theorem P2 {lo hi:Int} (h:hi-lo<3):(Gr lo hi).length≤3:=by
 unfold Gr B6;rw [List.length_map,List.length_range];omega
theorem H2 {ag:AW→Bool} {ms:List AC} {mo:Int} (hf:∀k,(ms.getD k AC.z).high-(ms.getD k AC.z).low<3):∀f i p,(A9 ag ms mo f i p).length≤6 ^ f
 | 0,_,p=>by unfold A9;split <;> simp
 | f+1,i,p=>by
  rw [Cx];have h1:=Nq (f:=Bq ag ms mo f i p) (c:=2*6 ^ f) (l:=Gr (ms.getD i AC.z).low (ms.getD i AC.z).high) fun n _=>by
   unfold Bq;rw [List.length_append];have a:=H2 (ag:=ag) (mo:=mo) hf f (i+1) (p.setMove i n false);have b:=H2 (ag:=ag) (mo:=mo) hf f (i+1) (p.setMove i n true);split
   ·omega
   ·simp only [List.length_nil];omega
  have h2:=Nat.mul_le_mul_right (2*6 ^ f) (P2 (hf i));rw [Nat.pow_succ];omega
theorem J9 {ag:AW→Bool} {gs:List Good} {ms:List AC} {mo:Int} (hg:∀k,(gs.getD k Good.z).high-(gs.getD k Good.z).low<3) (hf:∀k,(ms.getD k AC.z).high-(ms.getD k AC.z).low<3) :
  ∀f i p,(BU ag gs ms mo f i p).length≤3 ^ f*6 ^ ms.length
 | 0,_,p=>by unfold BU;have:=H2 (ag:=ag) (mo:=mo) hf ms.length 0 p;omega
 | f+1,i,p=>by
  rw [Da];have h1:=Nq (f:=fun n=>BU ag gs ms mo f (i+1) (p.setFirst i n)) (c:=3 ^ f*6 ^ ms.length) (l:=Gr (gs.getD i Good.z).low (gs.getD i Good.z).high) fun n _=>J9 hg hf f (i+1) _;have h2:=Nat.mul_le_mul_right (3 ^ f*6 ^ ms.length) (P2 (hg i));rw [Nat.pow_succ,Nat.mul_comm (3 ^ f) 3,Nat.mul_assoc];omega
theorem EZ {d m:Int} {gs:List Good} {ms:List AC} {cs:List AH} (b:BE d m gs ms cs) (mo:Int):(AV d gs ms cs mo).length≤2000000:=by
 unfold AV;have h:=J9 (ag:=A7 d gs.length ms cs) (mo:=mo) (fun k=>(b.gfew k).2.2.2) (fun k=>(b.few k).2.2.2) gs.length 0 AW.zero;have h1:3 ^ gs.length≤3 ^ 3:=Nat.pow_le_pow_right (by decide) b.glen.2;have h2:6 ^ ms.length≤6 ^ 6:=Nat.pow_le_pow_right (by decide) b.mlen;have h3:=Nat.mul_le_mul h1 h2
 have:3 ^ 3*6 ^ 6≤2000000:=by decide
 omega
theorem pre_len {α:Type} {all pre post:List α} {p:α} (h:all=pre++p ::post) {n:Nat} (hn:all.length≤n):pre.length+1≤n:=by
 rw [h,List.length_append,List.length_cons] at hn;omega
theorem AO.one {α:Type} {h:GH} {v:Value} {n:Nat} {enc:α→Array Value} {xs:List α} (x:AO h v n enc xs):v.cells=#[v]∧v.oneCell'=true:=by
 obtain ⟨a,cap,rfl,_⟩:=x;exact ⟨rfl,rfl⟩
theorem Fw {v:Value} (h:v.cells=#[v]∧v.oneCell'=true):Value.fine v=true:=by unfold Value.fine;rw [h.1];simp [h.2]
theorem Fx {v:Value} (h:v.cells=#[v]∧v.oneCell'=true):v.cells.size=1:=by rw [h.1];rfl
theorem HQ {v:Value} (h:v.cells=#[v]∧v.oneCell'=true) {c c':Array Value} {o:Nat} (e:B4 c o [v]=c'):B4 c o v.cells.toList=c':=by rw [h.1];exact e
end Go.Ns
namespace Go.Ns
open Go.Conc
section
variable {P:Program} {E:HI P} {σ:Nat→Value} {ds:List Deferred} {α:Type}
def Yr (hB:GH) (J:List α→(Nat→Prop)→GH→Prop) (Stop:Code→GH→Prop) (pre:List α) (Y:Nat→Prop) (h:GH) (l:Nat) (lo:Loop):Post:=fun e _ _ h3=>
 h3 l=some (true,.loop { lo with state:=.busy })∧∃Y',(∀b,Y' b→Y b∨h b=none)∧Bn (fun b=>Y b∨b=l) h h3∧hB.Le h3∧match e with
  | .normal=>J pre Y' h3
  | .exit id=>Stop (.exit id) h3
  | .ret=>Stop .ret h3
  | _=>False
def WL (J:List α→(Nat→Prop)→GH→Prop) (l d:Nat) (lo:Loop) (pre:List α) (X:Nat→Prop) (h:GH):Prop:=
 ∃Y,J pre Y h∧(∀b,X b↔Y b∨b=l∨b=d)∧¬Y l∧¬Y d∧h l=some (true,.loop lo)∧h d=some (true,.deferred (some []))
def Ys (Stop:Code→GH→Prop) (l d:Nat) (lo:Loop) (h:GH):Prop:=
 ∃c,Stop c h∧h l=some (true,.loop { lo with state:=.done,pending:=some c })∧h d=some (true,.deferred (some []))
def YEnd (hB:GH) (I:List α→(Nat→Prop)→GH→Prop) (Sp:GH→Prop) (all:List α) (X:Nat→Prop) (h h':GH):Prop:=
 ∃X',(∀b,X' b→X b∨h b=none)∧Bn X h h'∧hB.Le h'∧(I all X' h'∨Sp h')
theorem Hl.final {hB:GH} {I:List α→(Nat→Prop)→GH→Prop} {Sp:GH→Prop} {all:List α} {X:Nat→Prop} {h h':GH} {v:Value} (r:Hl hB I Sp [] X h all v h'):YEnd hB I Sp all X h h':=by
 obtain ⟨ok,X',hv,hs,hk,hl,h1,h2⟩:=r;cases ok with
 | true=>exact ⟨X',hs,hk,hl,.inl (h1 rfl)⟩
 | false=>exact ⟨X',hs,hk,hl,.inr (h2 rfl)⟩
theorem Nr {enc:α→Array Value} {all:List α} {hB hc:GH} {J:List α→(Nat→Prop)→GH→Prop} {Stop:Code→GH→Prop} {Y0:Nat→Prop} {par:Tmp} {f:Operand} {assign body:Code} {Q:Post}
  (hrd:E.rd=none) (hpar:Nat.blt par E.N=true) (hJ:Ij hB J) (hB0:hB.Le hc) (j0:J [] Y0 hc)
  (hS:∀c (h h':GH) l lo,Stop c h→h l=some (true,.loop lo)→(∀b,b≠l→h' b=h b)→Stop c h')
  (src:∀(yv:Value) (I:List α→(Nat→Prop)→GH→Prop) (Sp:GH→Prop) (X:Nat→Prop) (h:GH),Kb E.wk hB yv enc I Sp all→hB.Le h→I [] X h→Ct E.wk (AY σ f) #[yv] h fun _ h'=>YEnd hB I Sp all X h h')
  (round:∀(l d:Nat) (lo:Loop) (pre:List α) (p:α) (post:List α) (Y:Nat→Prop) (h:GH),all=pre++p ::post→J pre Y h→hB.Le h→hB l=none→¬Y l→h l=some (true,.loop lo)→
   Tr ⟨E.wk,E.fn,some l,E.N⟩ assign (upd σ par (.agg (enc p))) [] h fun e σ' ds' h1=>e=.normal∧h1 l=some (true,.loop lo)∧∀h2,h2 l=some (true,.loop { lo with state:=.busy })→(∀b,b≠l→h2 b=h1 b)→
    Tr ⟨E.wk,E.fn,some l,E.N⟩ body σ' ds' h2 (Yr hB J Stop (pre++[p]) Y h l lo))
  (fin:∀(d l:Nat) (h':GH),hB.Le h'→hB d=none→hB l=none→hc d=none→h' d=some (true,.deferred (some []))→
   (∀Y,J all Y h'→(∀b,Y b→b≠d)→Q .normal σ ({ target:=.collected d,args:=#[] } ::ds) h')∧
   (∀c,Stop c h'→match c with
    | .exit id=>Q (.exit id) σ ({ target:=.collected d,args:=#[] } ::ds) h'
    | .ret=>Q .ret σ ({ target:=.collected d,args:=#[] } ::ds) h'
    | _=>False)):Tr E (.rangeFunc f #[par] assign body) σ ds hc Q:=by
 refine Q0 hrd fun t d l hs hd hl hne=>?_;have hl':hB l=none:=hB0.nothing hl;have hd':hB d=none:=hB0.nothing hd;let lo:Loop:={ state:=.ready,pending:=none,fn:=E.fn,tmps:=t,params:=#[par],assign,body,defers:=d };have nYl:¬Y0 l:=hJ.off j0 hl;have nYd:¬Y0 d:=hJ.off j0 hd;have hL1:((hc.set d true (.deferred (some []))).set l true (.loop lo)) l=some (true,.loop lo):=GH.set_same _ _ _ _;have hL2:((hc.set d true (.deferred (some []))).set l true (.loop lo)) d=some (true,.deferred (some [])):=by rw [GH.set_ne _ _ _ (Ne.symm hne)];exact GH.set_same _ _ _ _
 have hL3:∀b,b≠l→b≠d→((hc.set d true (.deferred (some []))).set l true (.loop lo)) b=hc b:=fun b h1 h2=>by rw [GH.set_ne _ _ _ h1,GH.set_ne _ _ _ h2]
 have hLB:hB.Le ((hc.set d true (.deferred (some []))).set l true (.loop lo)):=(hB0.trans (GH.Le.new hd _ _)).trans (GH.Le.new (by rw [GH.set_ne _ _ _ hne];exact hl) _ _);have hI0:WL J l d lo [] (fun b=>Y0 b∨b=l∨b=d) ((hc.set d true (.deferred (some []))).set l true (.loop lo)):=by
  refine ⟨Y0,hJ.stable _ _ hc _ j0 (fun b hb=>hL3 b (fun e=>nYl (e▸hb)) (fun e=>nYd (e▸hb))) hLB,fun b=>Iff.rfl,nYl,nYd,hL1,hL2⟩
 have prom:Ij hB (WL J l d lo):=by
  refine ⟨?_,?_⟩
  ·rintro pre X h b ⟨Y,j,hX,_,_,h1,h2⟩ hb;rcases (hX b).1 hb with h3 | rfl | rfl
   ·exact hJ.dom _ _ _ _ j h3
   ·exact ⟨_,_,h1,rfl⟩
   ·exact ⟨_,_,h2,rfl⟩
  ·rintro pre X h h' ⟨Y,j,hX,n1,n2,h1,h2⟩ same lB;refine ⟨Y,hJ.stable _ _ h h' j (fun b hb=>same b ((hX b).2 (.inl hb))) lB,hX,n1,n2,?_,?_⟩
   ·rw [same l ((hX l).2 (.inr (.inl rfl)))];exact h1
   ·rw [same d ((hX d).2 (.inr (.inr rfl)))];exact h2
 have yk:Kb E.wk hB (.func (.yield l) #[] #[]) enc (WL J l d lo) (Ys Stop l d lo) all:=by
  refine ⟨prom,rfl,?_⟩;rintro pre p post X h hall ⟨Y,j,hX,n1,n2,h1,h2⟩ lB;refine T7 h1 rfl ?_;have ef:(lo.params.zip #[Value.agg (enc p)]).foldl (fun tmps x=>tmps.setIfInBounds x.1 x.2) lo.tmps=t.setIfInBounds par (.agg (enc p)):=by simp [lo]
  rw [ef];show CH E.wk l E.fn (t.setIfInBounds par (.agg (enc p))) assign body h _;have hs':=hs.put hpar (.agg (enc p));refine SC (N:=E.N) hs'.1 ?_;have e0:(fun i=>(t.setIfInBounds par (.agg (enc p))).getD i undef)=upd σ par (.agg (enc p)):=funext hs'.2;rw [e0];refine M8 ?_ (round l d lo pre p post Y h hall j lB hl' n1 h1);rintro e σ' ds' ha ⟨rfl,ha1,hb⟩;refine ⟨rfl,lo,ha1,rfl,?_⟩;refine M8 ?_ (hb _ (GH.set_same _ _ _ _) fun b hb=>GH.set_ne _ _ _ hb);rintro e σ2 ds2 h3 ⟨g1,Y',g2,g3,g4,g5⟩;have hd3:h3 d=some (true,.deferred (some [])):=g3.box h2 (fun q=>q.elim n2 (fun e=>hne e.symm)) rfl;have nl:¬Y' l:=fun q=>(g2 l q).elim n1 fun e=>by rw [h1] at e;cases e
  have nd:¬Y' d:=fun q=>(g2 d q).elim n2 fun e=>by rw [h2] at e;cases e
  have key:∀(lo2:Loop) (ok:Bool),(if ok then J (pre++[p]) Y' (h3.set l true (.loop lo2))∧lo2=lo else Ys Stop l d lo (h3.set l true (.loop lo2)))→Hl hB (WL J l d lo) (Ys Stop l d lo) pre X h [p] (.bool ok) (h3.set l true (.loop lo2)):=by
   intro lo2 ok hok;refine ⟨ok,fun b=>Y' b∨b=l∨b=d,rfl,?_,?_,?_,?_,?_⟩
   ·rintro b (hb | rfl | rfl)
    ·exact (g2 b hb).imp (fun q=>(hX b).2 (.inl q)) id
    ·exact .inl ((hX _).2 (.inr (.inl rfl)))
    ·exact .inl ((hX _).2 (.inr (.inr rfl)))
   ·intro b q o hb hn;have nb:b≠l:=fun e=>hn ((hX b).2 (.inr (.inl e)));rw [GH.set_ne _ _ _ nb];exact g3 b q o hb fun q=>q.elim (fun z=>hn ((hX b).2 (.inl z))) nb
   ·exact g4.upd hl' fun b hb=>GH.set_ne _ _ _ hb
   ·rintro rfl;simp only [if_true] at hok;obtain ⟨hj,rfl⟩:=hok;exact ⟨Y',hj,fun b=>Iff.rfl,nl,nd,GH.set_same _ _ _ _,by rw [GH.set_ne _ _ _ (Ne.symm hne)];exact hd3⟩
   ·rintro rfl;simpa using hok
  have js:∀(lo2:Loop),J (pre++[p]) Y' h3→J (pre++[p]) Y' (h3.set l true (.loop lo2)):=fun lo2 hj=>hJ.store hj nl (fun b hb=>GH.set_ne _ _ _ hb) (g4.upd hl' fun b hb=>GH.set_ne _ _ _ hb);have ss:∀c (lo2:Loop),Stop c h3→Stop c (h3.set l true (.loop lo2)):=fun c lo2 hc=>hS c h3 _ l _ hc g1 fun b hb=>GH.set_ne _ _ _ hb;refine ⟨_,g1,?_⟩;cases e with
  | normal=>exact key _ true (by simp only [if_true];exact ⟨js _ g5,rfl⟩)
  | exit id=>exact key _ false (by simp only [Bool.false_eq_true,if_false];exact ⟨_,ss _ _ g5,GH.set_same _ _ _ _,by rw [GH.set_ne _ _ _ (Ne.symm hne)];exact hd3⟩)
  | ret=>exact key _ false (by simp only [Bool.false_eq_true,if_false];exact ⟨_,ss _ _ g5,GH.set_same _ _ _ _,by rw [GH.set_ne _ _ _ (Ne.symm hne)];exact hd3⟩)
  | goto _=>exact g5.elim
  | panic _=>exact g5.elim
  | outgrown=>exact g5.elim
 refine (src _ _ _ _ _ yk hLB hI0).mono ?_;rintro v h' ⟨X',hs',hk,hl2,hor⟩;rcases hor with ⟨Y,j,hX,n1,n2,h1,h2⟩ | ⟨c,hst,h1,h2⟩
 ·refine ⟨lo,h1,rfl,?_⟩;show Q .normal σ _ _;have hB':=hl2.upd hl' (fun b hb=>GH.set_ne h' true (.loop { lo with state:=.exhausted }) hb);refine (fin d l _ hB' hd' hl' hd (by rw [GH.set_ne _ _ _ (Ne.symm hne)];exact h2)).1 Y (hJ.store j n1 (fun b hb=>GH.set_ne _ _ _ hb) hB') fun b hb e=>n2 (e▸hb)
 ·refine ⟨_,h1,rfl,?_⟩;have hB':=hl2.upd hl' (fun b hb=>GH.set_ne h' true (.loop { { lo with state:=.done,pending:=some c } with state:=.exhausted }) hb)
  have:=(fin d l _ hB' hd' hl' hd (by rw [GH.set_ne _ _ _ (Ne.symm hne)];exact h2)).2 c (hS c h' _ l _ hst h1 fun b hb=>GH.set_ne _ _ _ hb)
  cases c with
  | exit id=>exact this
  | ret=>exact this
  | _=>exact this.elim
structure PI (hB:GH) (X:Nat→Prop) (h hc:GH):Prop where
 keep:Bn X h hc
 base:hB.Le hc
 dom:∀b,X b→∃o,hc b=some o
section
variable {hB h hc h':GH} {X:Nat→Prop}
theorem GH.Le.someOf {h h':GH} (l:h.Le h') {b:Nat} (x:∃o,h b=some o):∃o,h' b=some o:=by
 obtain ⟨o,hb⟩:=x;obtain ⟨o',h1,_⟩:=l b o.1 o.2 hb;exact ⟨_,h1⟩
theorem PI.start (lB:hB.Le h) (d:∀b,X b→∃o,h b=some o):PI hB X h h:=⟨Bn.refl _ _,lB,d⟩
theorem PI.le (r:PI hB X h hc) (l:hc.Le h'):PI hB X h h':=⟨r.keep.trans (fun _ q=>.inl q) (l.keepX X),r.base.trans l,fun b hb=>l.someOf (r.dom b hb)⟩
theorem PI.nothing (r:PI hB X h hc) {q:Nat} (hq:hc q=none):h q=none:=by
 cases hx:h q with
 | none=>rfl
 | some x=>
  by_cases hX:X q
  ·obtain ⟨o,ho⟩:=r.dom q hX;rw [hq] at ho;cases ho
  ·obtain ⟨o',h1,_⟩:=r.keep q x.1 x.2 hx hX;rw [hq] at h1;cases h1
theorem PI.store (r:PI hB X h hc) {q:Nat} (hq:X q∨h q=none) (rB:hB q=none) (ho:∀b,b≠q→h' b=hc b) (hn:∃o,h' q=some o):PI hB X h h':=
 ⟨fun b p o hb hX=>by
   have nb:b≠q:=fun e=>by
    subst e;rcases hq with hq | hq
    ·exact hX hq
    ·rw [hq] at hb;cases hb
   rw [ho b nb];exact r.keep b p o hb hX,
  r.base.upd rB ho,fun b hb=>by
   by_cases e:b=q
   ·subst e;exact hn
   ·rw [ho b e];exact r.dom b hb⟩
theorem Bn.app {v v':Value} (k:Bn X h hc) (g:Ho hc h' v v') (hv:∀b,B9 v=some b→X b):Bn X h h':=fun b p o hb hX=>by
 obtain ⟨o',h1,h2⟩:=k b p o hb hX;exact ⟨o',g.1 b _ h1 fun e=>hX (hv b e),h2⟩
theorem Bn.store' {q:Nat} (k:Bn X h hc) (hq:X q∨h q=none) (ho:∀b,b≠q→h' b=hc b):Bn X h h':=fun b p o hb hX=>by
 have nb:b≠q:=fun e=>by
  subst e;rcases hq with hq | hq
  ·exact hX hq
  ·rw [hq] at hb;cases hb
 rw [ho b nb];exact k b p o hb hX
end
def GH.del (h:GH) (r:Nat):GH:=fun b=>if b=r then none else h b
theorem GH.del_le (h:GH) (r:Nat):(h.del r).Le h:=fun b p o hb=>by
 unfold GH.del at hb;split at hb
 ·cases hb
 ·exact ⟨o,hb,.inl rfl⟩
theorem GH.del_none (h:GH) (r:Nat):h.del r r=none:=if_pos rfl
theorem GH.del_ne {h:GH} {r b:Nat} (e:b≠r):h.del r b=h b:=if_neg e
theorem GH.Le.del {h0 h:GH} (l:h0.Le h) {r:Nat} (hr:h0 r=none):h0.Le (h.del r):=fun b p o hb=>by
 rw [GH.del_ne (GH.ne_of hb hr)];exact l b p o hb
theorem Ac.del {h:GH} {r b off n:Nat} {vs:Array Value} (x:Ac h b off n vs) (e:b≠r):Ac (h.del r) b off n vs:=x.same (GH.del_ne e)
theorem RH {W:Wk P} {x v:Value} {args:Array Value} {h:GH} {R:Value→GH→Prop} (e:x=v) (k:Ct W v args h R):Ct W x args h R:=e▸k
def JCol {α:Type} (hB:GH) (r:Nat) (T t:TypeId) (n:Nat) (enc:α→Array Value) (pre:List α) (Y:Nat→Prop) (h:GH):Prop:=
 ∃w,h r=some (true,.cells #[w] T (0,0))∧Aa hB h w t n enc pre∧BL w r∧hB r=none∧∀b,Y b↔b=r∨B9 w=some b
theorem Aa.cellsAt {α:Type} {h0 h:GH} {v:Value} {t:TypeId} {n:Nat} {enc:α→Array Value} {xs:List α} (x:Aa h0 h v t n enc xs):∀b,B9 v=some b→∃c,h b=some (true,.cells c t (0,0)):=by
 intro b hb;rcases x with ⟨rfl,_⟩ | ⟨b',cap,c,rfl,h1,h2,_⟩
 ·cases hb
 ·simp [B9] at hb;subst hb;exact ⟨_,h2⟩
theorem P3 {α:Type} (hB:GH) (r:Nat) (T t:TypeId) (n:Nat) (enc:α→Array Value):Ij hB (JCol hB r T t n enc):=by
 refine ⟨?_,?_⟩
 ·rintro pre Y h b ⟨w,h1,h2,h3,h0,h4⟩ hb;rcases (h4 b).1 hb with rfl | h5
  ·exact ⟨_,_,h1,rfl⟩
  ·obtain ⟨c,hc⟩:=h2.cellsAt b h5;exact ⟨_,_,hc,rfl⟩
 ·rintro pre Y h h' ⟨w,h1,h2,h3,h0,h4⟩ same lB;refine ⟨w,by rw [same r ((h4 r).2 (.inl rfl))];exact h1,h2.keep fun b o hb ho=>by rw [same b ((h4 b).2 (.inr hb))];exact ho,h3,h0,h4⟩
theorem UF {α:Type} {hB h:GH} {r:Nat} {T t:TypeId} {n:Nat} {enc:α→Array Value} (x:h r=some (true,.cells #[.slice none 0 0] T (0,0))) (h0:hB r=none):JCol hB r T t n enc [] (fun b=>b=r) h:=
 ⟨_,x,Aa.nil _ _ _ _ _,BL.nil,h0,fun _=>⟨.inl,fun q=>q.elim id fun e=>by cases e⟩⟩
theorem Yt {α:Type} {hB h h' ha hb:GH} {r:Nat} {T t:TypeId} {n:Nat} {enc:α→Array Value} {pre:List α} {w w':Value} {Y:Nat→Prop} (hY:∀b,Y b↔b=r∨B9 w=some b) (g:Ho ha hb w w') (hn:∀q,ha q=none→h q=none)
  (x:h' r=some (true,.cells #[w'] T (0,0))) (o:Aa hB h' w' t n enc pre) (f:BL w' r) (h0:hB r=none) :
  ∃Y',(∀b,Y' b→Y b∨h b=none)∧JCol hB r T t n enc pre Y' h':=by
 refine ⟨fun b=>b=r∨B9 w'=some b,?_,w',x,o,f,h0,fun _=>Iff.rfl⟩;rintro b (rfl | hb)
 ·exact .inl ((hY _).2 (.inl rfl))
 ·rcases g.2 with e | ⟨⟨q,e1,e2⟩,_⟩
  ·exact .inl ((hY _).2 (.inr (by rw [←e];exact hb)))
  ·rw [e1] at hb;cases hb;exact .inr (hn _ e2)
theorem L0 {fn:Func} {σ:Nat→Value} {R:Value→GH→Prop} {d:Nat} {ds:List Deferred} {h:GH} (hd:h d=some (true,.deferred (some []))) (x:∀h',(∀b,b≠d→h' b=h b)→Gx P fn σ R ds h') :
  Gx P fn σ R ({ target:=.collected d,args:=#[] } ::ds) h:=⟨d,rfl,_,hd,rfl,x _ fun b hb=>GH.set_ne _ _ _ hb⟩
end
end Go.Ns
namespace Go.Ns
open Go.Conc
section
variable {P:Program} {E:HI P}
abbrev IE:=(Nat→Value)→Value→GH→Prop
def GF (Φ:List IE) (k:Nat):IE:=Φ.getD k fun _ _ _=>True
def Nt (ops:List Oper) (Φ:List IE) (σ:Nat→Value) (h:GH) (j:Nat):Prop:=match ops[j]? with
 | some o=>C6 ops o σ→GF Φ j σ (H9 o σ) h
 | none=>True
def G5 (ops:List Oper) (Φ:List IE) (σ:Nat→Value) (h:GH):List Nat→Prop
 | []=>True
 | j ::l=>Nt ops Φ σ h j∧G5 ops Φ σ h l
theorem G5.get {ops:List Oper} {Φ:List IE} {σ:Nat→Value} {h:GH}:∀{l:List Nat},(∀j ∈ l,Nt ops Φ σ h j)→G5 ops Φ σ h l
 | [],_=>trivial
 | j ::l,x=>⟨x j (by simp),G5.get fun i hi=>x i (by simp [hi])⟩
def RI (l:List Oper) (n:Nat) (cls:List (List Nat)) (Φ:List IE):Prop:=
 ∀k i oi d,k<n→i<n→i≠k→i ∉ cls.getD k []→l[i]? =some oi→oi.dst=some d→∀σ u v h,GF Φ k σ v h→GF Φ k (upd σ d u) v h
def St (R:GH→GH→Prop) (Pre:Nat→GH→Prop) (Φ:List IE) (cl:List Nat) (k:Nat) (h h':GH):Prop:=R h h'∧(∀j,j≠k→∀σ v,GF Φ j σ v h→GF Φ j σ v h')∧∀j,j≠k→j ∉ cl→Pre j h→Pre j h'
def WM (R:GH→GH→Prop) (Pre:Nat→GH→Prop) (E:HI P) (ops:List Oper) (n:Nat) (Φ:List IE) (σ:Nat→Value) (ds:List Deferred) (h:GH) (k:Nat) (o:Oper) (cl:List Nat):Prop:=
 ∀σ' h',R h h'→(∀t,(Dm ops n).contains t=false→σ' t=σ t)→G5 ops Φ σ' h' cl→C6 ops o σ'→Pre k h'→
  Br E o σ' ds h' fun σ'' ds'' h''=>ds''=ds∧St R Pre Φ cl k h' h''∧∃v,σ''=putS σ' o.dst v∧GF Φ k σ'' v h''∧(o.dst=none→v=undef)
def JI (R:GH→GH→Prop) (Pre:Nat→GH→Prop) (E:HI P) (ops:List Oper) (n:Nat) (Φ:List IE) (σ:Nat→Value) (ds:List Deferred) (h:GH) (Q:Post):Nat→Nat→List Oper→List (List Nat)→Prop
 | 0,k,rest,_=>∀σ' h',R h h'→(∀t,(Dm ops n).contains t=false→σ' t=σ t)→G5 ops Φ σ' h' (List.range k)→ER E ops.toArray rest σ' ds h' Q
 | m+1,k,o ::rest,cl ::cls=>WM R Pre E ops n Φ σ ds h k o cl∧JI R Pre E ops n Φ σ ds h Q m (k+1) rest cls
 | _,_,_,_=>False
theorem JI.at {R:GH→GH→Prop} {Pre:Nat→GH→Prop} {ops:List Oper} {n:Nat} {Φ:List IE} {σ:Nat→Value} {ds:List Deferred} {h:GH} {Q:Post}:∀(m k:Nat) (rest:List Oper) (cls:List (List Nat)),
  JI R Pre E ops n Φ σ ds h Q m k rest cls→(∀i o,i<m→rest[i]? =some o→WM R Pre E ops n Φ σ ds h (k+i) o (cls.getD i []))∧
   (∀σ' h',R h h'→(∀t,(Dm ops n).contains t=false→σ' t=σ t)→G5 ops Φ σ' h' (List.range (k+m))→ER E ops.toArray (rest.drop m) σ' ds h' Q)
 | 0,k,rest,cls,x=>⟨fun i o hi=>by omega,x⟩
 | m+1,k,[],cls,x=>by cases cls <;> exact x.elim
 | m+1,k,o ::rest,[],x=>x.elim
 | m+1,k,o ::rest,cl ::cls,x=>by
  obtain ⟨h1,h2⟩:=x;obtain ⟨a,b⟩:=JI.at m (k+1) rest cls h2;refine ⟨fun i o' hi ho=>?_,fun σ' h' hl hb hk=>?_⟩
  ·cases i with
   | zero=>simp at ho;subst ho;exact h1
   | succ i=>have:=a i o' (by omega) (by simpa using ho);rw [show k+(i+1)=k+1+i by omega];simpa using this
  ·rw [List.drop_succ_cons];exact b σ' h' hl hb (by rw [show k+1+m=k+(m+1) by omega];exact hk)
structure SU (R:GH→GH→Prop) (Pre:Nat→GH→Prop) (l:List Oper) (n:Nat) (cls:List (List Nat)) (Φ:List IE) (σ:Nat→Value) (h:GH) (D:Nat→Bool) (σ':Nat→Value) (h':GH):Prop where
 le:R h h'
 base:∀t,(Dm l n).contains t=false→σ' t=σ t
 lt:∀j,D j=true→j<n
 done:∀j,D j=true→Nt l Φ σ' h' j
 clos:∀j,D j=true→∀i ∈ cls.getD j [],D i=true
 grd:∀j o,D j=true→l[j]? =some o→∀g w,o.guard=some (g,w)→D g=true
 pend:∀j,j<n→D j=false→Pre j h'
theorem Yu (R:GH→GH→Prop) {id:Nat} {l:List Oper} {σ:Nat→Value} {ds:List Deferred} {h:GH} {Q:Post} (n:Nat) (cls:List (List Nat)) (Φ:List IE) (Pre:Nat→GH→Prop)
  (hm:P.follows .mixedOrders=true) (ok:FQ E.N l n cls=true) (rr:∀h,R h h) (rt:∀a b c,R a b→R b c→R a c) (p0:∀k,k<n→Pre k h) (ind:RI l n cls Φ)
  (x:JI R Pre E l n Φ σ ds h Q n 0 l cls):Tr E (.region id l.toArray true) σ ds h Q:=by
 obtain ⟨steps,fin⟩:=JI.at n 0 l cls x;simp only [Nat.zero_add] at steps fin;have ok':=ok;unfold FQ at ok';simp only [Bool.and_eq_true] at ok';have nd:(Dm l n).Nodup:=of_decide_eq_true ok'.1.2;refine NS n cls (SU R Pre l n cls Φ σ h) hm ok ⟨rr h,fun _ _=>rfl,fun _ q=>(by cases q),fun _ q=>(by cases q),fun _ q=>(by cases q),fun _ _ q=>(by cases q),fun j hj _=>p0 j hj⟩ (fun D σ' h' i o I hin hiu ho hcl hgl=>?_) fun D σ' h' I hall=>fin σ' h' I.le I.base (G5.get fun j hj=>I.done j (hall j (List.mem_range.1 hj)));have hset:∀j,Hk D i j=if i=j then true else D j:=fun _=>rfl
 have next:∀(σ2:Nat→Value) (h2:GH) (v:Value),σ2=putS σ' o.dst v→St R Pre Φ (cls.getD i []) i h' h2→(C6 l o σ2→GF Φ i σ2 v h2)→(o.dst=none→v=undef)→SU R Pre l n cls Φ σ h (Hk D i) σ2 h2:=by
  rintro σ2 h2 v rfl hle hlaw hun;have hkeep:∀j oj e,j<n→j≠i→l[j]? =some oj→oj.dst=some e→putS σ' o.dst v e=σ' e:=fun j oj e hj hji hoj he=>by
   cases hd:o.dst with
   | none=>rfl
   | some d=>exact upd_ne σ' v (KU (FY nd hin hj (fun x=>hji x.symm) ho hoj hd he))
  refine ⟨rt _ _ _ I.le hle.1,fun u hu=>?_,fun j hjl=>?_,fun j hjl=>?_,fun j hjl q hq'=>?_,fun j oj hjl hoj g w hg=>?_,fun j hj hjl=>?_⟩
  ·rw [←I.base u hu];cases hd:o.dst with
   | none=>rfl
   | some d=>exact upd_ne σ' v (KU fun e=>by rw [e,NR hin ho hd] at hu;cases hu)
  ·rw [hset] at hjl;by_cases hij:i=j
   ·exact hij▸hin
   ·rw [if_neg hij] at hjl;exact I.lt j hjl
  ·rw [hset] at hjl;by_cases hij:i=j
   ·subst hij;unfold Nt;rw [ho];intro hg
    have:H9 o (putS σ' o.dst v)=v:=by
     cases hd:o.dst with
     | none=>rw [hun hd];simp [H9,hd]
     | some d=>simp [H9,hd,putS,upd]
    rw [this];exact hlaw hg
   ·rw [if_neg hij] at hjl;have K:=I.done j hjl;unfold Nt at K ⊢;cases hoj:l[j]? with
    | none=>trivial
    | some oj=>
     rw [hoj] at K;simp only at K ⊢;intro hg;have hg':C6 l oj σ':=hg.congr fun g w og dg hgw hog hdg=>by
      have hgl':=I.grd j oj hjl hoj g w hgw;exact hkeep g og dg (I.lt g hgl') (fun e=>by rw [e,hiu] at hgl';cases hgl') hog hdg
     have hji:i ∉ cls.getD j []:=fun q=>by rw [I.clos j hjl i q] at hiu;cases hiu
     have:=hle.2.1 j (fun e=>hij e.symm) _ _ (K hg')
     have hsv:H9 oj (putS σ' o.dst v)=H9 oj σ':=by
      unfold H9;cases hdj:oj.dst with
      | none=>rfl
      | some e=>exact hkeep j oj e (I.lt j hjl) (fun x=>hij x.symm) hoj hdj
     rw [hsv];cases hd:o.dst with
     | none=>exact this
     | some d=>exact ind j i o d (I.lt j hjl) hin hij hji ho hd σ' v _ h2 this
  ·rw [hset] at hjl ⊢;split
   ·rfl
   ·rename_i hn
    by_cases hij:i=j
    ·subst hij;exact hcl q hq'
    ·rw [if_neg hij] at hjl;exact I.clos j hjl q hq'
  ·rw [hset] at hjl ⊢;split
   ·rfl
   ·by_cases hij:i=j
    ·subst hij;rw [ho] at hoj;cases hoj;exact hgl g w hg
    ·rw [if_neg hij] at hjl;exact I.grd j oj hjl hoj g w hg
  ·rw [hset] at hjl;by_cases hij:i=j
   ·rw [if_pos hij] at hjl;cases hjl
   ·rw [if_neg hij] at hjl;exact hle.2.2 j (fun e=>hij e.symm) (fun q=>by rw [hcl j q] at hjl;cases hjl) (I.pend j hj hjl)
 refine ⟨fun hG=>?_,fun hnG=>?_⟩
 ·exact Br.mono (steps i o hin ho σ' h' I.le I.base (G5.get fun j hj=>I.done j (hcl j hj)) hG (I.pend i hin hiu)) fun σ2 ds2 h2 y=>⟨y.1,by
   obtain ⟨_,hle,v,hσ,hlaw,hun⟩:=y;exact next σ2 h2 v hσ hle (fun _=>hlaw) hun⟩
 ·refine next _ _ undef rfl ⟨rr _,fun _ _ _ _ z=>z,fun _ _ _ z=>z⟩ (fun hg=>?_) fun _=>rfl;refine absurd (hg.congr fun g w og dg hgw hog hdg=>?_) hnG;cases hd:o.dst with
  | none=>rfl
  | some d=>
   have hgi:g≠i:=fun e=>by have:=hgl g w hgw;rw [e,hiu] at this;cases this
   exact upd_ne σ' undef (KU (FY nd hin (I.lt g (hgl g w hgw)) (fun x=>hgi x.symm) ho hog hd hdg))
def D5 (S:Nat→Prop) (h h':GH):Prop:=Bn S h h'∧∀b,(∃o,h b=some o)→∃o,h' b=some o
theorem D5.refl (S:Nat→Prop) (h:GH):D5 S h h:=⟨Bn.refl _ _,fun _ x=>x⟩
theorem D5.trans {S:Nat→Prop} {a b c:GH} (x:D5 S a b) (y:D5 S b c):D5 S a c:=⟨x.1.trans (fun _ q=>.inl q) y.1,fun r q=>y.2 r (x.2 r q)⟩
theorem GH.Le.keepD {h h':GH} (l:h.Le h') (S:Nat→Prop):D5 S h h':=⟨l.keepX S,fun _ ⟨o,ho⟩=>let ⟨o',h1,_⟩:=l _ o.1 o.2 ho;⟨_,h1⟩⟩
theorem D5.nothing {S:Nat→Prop} {h h':GH} (k:D5 S h h') {r:Nat} (hr:h' r=none):h r=none:=by
 cases hx:h r with
 | none=>rfl
 | some x=>obtain ⟨o,ho⟩:=k.2 r ⟨x,hx⟩;rw [ho] at hr;cases hr
theorem D5.grown {α:Type} {S:Nat→Prop} {h0 h h':GH} {v v':Value} {t:TypeId} {n:Nat} {enc:α→Array Value} {xs:List α} (g:Ho h h' v v') (hv:∀b,B9 v=some b→S b) (o:Aa h0 h' v' t n enc xs):D5 S h h':=
 ⟨fun b p o hb hX=>⟨o,g.1 b _ hb fun e=>hX (hv b e),.inl rfl⟩,fun b ⟨x,hx⟩=>by
  rcases g.2 with q | ⟨_,q⟩
  ·by_cases e:B9 v=some b
   ·exact o.inDom b (q.trans e)
   ·exact ⟨_,g.1 b x hx e⟩
  ·exact ⟨_,q b x hx⟩⟩
theorem Aa.baseD {α:Type} {S:Nat→Prop} {h0 h00 h:GH} {v:Value} {t:TypeId} {n:Nat} {enc:α→Array Value} {xs:List α} (x:Aa h0 h v t n enc xs) (k:D5 S h00 h0):Aa h00 h v t n enc xs:=by
 rcases x with x | ⟨b,cap,c,h1,h2,h3,h4⟩
 ·exact .inl x
 ·exact .inr ⟨b,cap,c,h1,k.nothing h2,h3,h4⟩
def D0 (R:GH→GH→Prop):List IE→Prop
 | []=>True
 | φ ::l=>(∀σ v h h',R h h'→φ σ v h→φ σ v h')∧D0 R l
theorem D0.mono {R:GH→GH→Prop}:∀{Φ:List IE},D0 R Φ→∀k σ v h h',R h h'→GF Φ k σ v h→GF Φ k σ v h'
 | [],_,k,σ,v,h,h',_,x=>by cases k <;> exact x
 | φ ::l,ok,0,σ,v,h,h',r,x=>ok.1 σ v h h' r x
 | φ ::l,ok,k+1,σ,v,h,h',r,x=>D0.mono ok.2 k σ v h h' r x
theorem Wo {S:Nat→Prop} {id:Nat} {l:List Oper} {σ:Nat→Value} {ds:List Deferred} {h:GH} {Q:Post} (n:Nat) (cls:List (List Nat)) (Φ:List IE) (Pre:Nat→GH→Prop)
  (hm:P.follows .mixedOrders=true) (ok:FQ E.N l n cls=true) (p0:∀k,k<n→Pre k h) (ind:RI l n cls Φ) (x:JI (D5 S) Pre E l n Φ σ ds h Q n 0 l cls):Tr E (.region id l.toArray true) σ ds h Q:=
 Yu (D5 S) n cls Φ Pre hm ok (fun h=>D5.refl S h) (fun _ _ _ x y=>x.trans y) p0 ind x
section
variable {Pre:Nat→GH→Prop} {Φ:List IE} {S:Nat→Prop} {k:Nat} {cl:List Nat} {h h':GH}
theorem St.same:St (D5 S) Pre Φ cl k h h:=⟨D5.refl _ _,fun _ _ _ _ z=>z,fun _ _ _ z=>z⟩
theorem St.ofLe (l:h.Le h') (m:D0 GH.Le Φ) (pm:∀k h h',GH.Le h h'→Pre k h→Pre k h'):St (D5 S) Pre Φ cl k h h':=⟨l.keepD S,fun j _ σ v z=>m.mono j σ v h h' l z,fun j _ _ z=>pm j h h' l z⟩
end
def P4 (h0:GH) (w v:Value):Prop:=B9 v=B9 w∨∃r,B9 v=some r∧h0 r=none
theorem BL.fromB {h0:GH} {w v:Value} (f:P4 h0 w v) {r:Nat} {o:Bool×Obj} (hr:h0 r=some o) (x:BL w r):BL v r:=fun e=>by
 rcases f with q | ⟨b,q1,q2⟩
 ·exact x (q▸e)
 ·rw [q1] at e;cases e;rw [q2] at hr;cases hr
theorem P4.grown {h0 hk h':GH} {S:Nat→Prop} {w v:Value} (g:Ho hk h' w v) (k:D5 S h0 hk):P4 h0 w v:=by
 rcases g.2 with q | ⟨⟨r,q1,q2⟩,_⟩
 ·exact .inl q
 ·exact .inr ⟨r,q1,k.nothing q2⟩
theorem Aa.apartTy {α β:Type} {h0 h1 h:GH} {v w:Value} {t t':TypeId} {n n':Nat} {enc:α→Array Value} {enc':β→Array Value} {xs:List α} {ys:List β} (x:Aa h0 h v t n enc xs) (y:Aa h1 h w t' n' enc' ys) (ne:t≠t'):Apart v w:=fun b e e'=>by
 rcases x with ⟨rfl,_⟩ | ⟨b1,_,c1,rfl,_,h2,_⟩
 ·cases e
 ·rcases y with ⟨rfl,_⟩ | ⟨b2,_,c2,rfl,_,h3,_⟩
  ·cases e'
  ·simp only [B9,Option.some.injEq] at e e';subst e;subst e';rw [h2] at h3;simp only [Option.some.injEq,Prod.mk.injEq,Obj.cells.injEq] at h3;exact ne h3.2.2.1
theorem Aa.apartNew {α β:Type} {h1 h h2:GH} {v w:Value} {t t':TypeId} {n n':Nat} {enc:α→Array Value} {enc':β→Array Value} {xs:List α} {ys:List β} (x:Aa h1 h2 w t n enc xs) (y:Aa h2 h v t' n' enc' ys):Apart w v:=fun b e e'=>by
 obtain ⟨o,ho⟩:=x.inDom b e;rw [y.fresh b e'] at ho;cases ho
theorem Bn.leBase {S:Nat→Prop} {hb h h':GH} (k:Bn S h h') (l:hb.Le h) (hS:∀b,S b→hb b=none):hb.Le h':=fun b p o hx=>by
 obtain ⟨o1,h1,h2⟩:=l b p o hx;obtain ⟨o2,h3,h4⟩:=k b p o1 h1 fun q=>by rw [hS b q] at hx;cases hx
 refine ⟨o2,h3,?_⟩;rcases h2 with rfl | h2
 ·exact h4
 ·rcases h4 with rfl | h4
  ·exact .inr h2
  ·exact .inr ⟨h2.1,h4.2⟩
theorem Aa.keepD {α:Type} {S:Nat→Prop} {h0 h h':GH} {v:Value} {t:TypeId} {n:Nat} {enc:α→Array Value} {xs:List α} (x:Aa h0 h v t n enc xs) (k:D5 S h h') (hS:∀b,B9 v=some b→¬S b):Aa h0 h' v t n enc xs:=by
 rcases x with x | ⟨b,cap,c,rfl,h2,h3,h4⟩
 ·exact .inl x
 ·exact .inr ⟨b,cap,c,rfl,h2,k.1.box h3 (hS b rfl) rfl,h4⟩
end
end Go.Ns
namespace Go.Ns
open Go.Conc
section
variable {P:Program} {E:HI P} {σ:Nat→Value} {ds:List Deferred} {h:GH} {T:(Nat→Value)→List Deferred→GH→Prop}
variable {dst:Option Nat} {ty:TypeId} {pos:String} {af:Array Edge} {gd:Option (Nat×Bool)}
def RJ:Value→Bool
 | .slice none _ _=>true
 | _=>false
theorem Wp {xt yt:TypeId} {x y:Operand} {a:Option Addr} {l c:Nat} (ht:KP P xt=true) (hx:AY σ x=.slice a l c) (hy:AY σ y=.slice none 0 0) (k:T (putS σ dst (.bool (RJ (.slice a l c)))) ds h) :
  Br E ⟨dst,.binOp .eql xt x y yt,ty,pos,af,gd⟩ σ ds h T:=by
 unfold Br execOp;simp only [hx,hy];refine F7 (AI _ _ ?_);show Sem.gh P (do pure (Value.bool (←Op.equal xt (.slice a l c) (.slice none 0 0))):Sem Value) h _;refine AI _ _ ?_;unfold Op.equal Op.maxDepth;show (Op.equalIn (9999+1) xt (.slice a l c) (.slice none 0 0)).gh P h _;unfold Op.equalIn;unfold KP at ht;cases hu:P.underlying xt with
 | none=>rw [hu] at ht;cases ht
 | some d=>
  rw [hu] at ht;refine AI _ _ (A0 hu ?_);cases d <;> first | (cases ht;done) | skip
  cases a with
  | none=>exact k
  | some a=>exact k
theorem UG {α:Type} {xt yt:TypeId} {x y:Operand} {v:Value} {n:Nat} {enc:α→Array Value} {xs:List α} (ht:KP P xt=true) (s:AO h v n enc xs) (hx:AY σ x=v) (hy:AY σ y=.slice none 0 0) (k:T (putS σ dst (.bool (RJ v))) ds h) :
  Br E ⟨dst,.binOp .eql xt x y yt,ty,pos,af,gd⟩ σ ds h T:=by
 obtain ⟨a,cap,rfl,_⟩:=s;exact Wp ht hx hy k
theorem UH {α:Type} {v:Value} {n:Nat} {enc:α→Array Value} {xs:List α} (s:AO h v n enc xs) (e:RJ v=true):xs=[]:=by
 obtain ⟨a,cap,rfl,_,_,q⟩:=s;cases a with
 | some a=>cases e
 | none=>
  cases xs with
  | nil=>rfl
  | cons x xs=>obtain ⟨b,off,h1,_⟩:=q 0 (by simp);cases h1
theorem Yv {a:Int} {k:Nat} (h:k≤63):a.fdiv (2 ^ (min ((k:Int)).toNat IntKind.i64.bits))=a.fdiv (2 ^ k):=by
 have:min ((k:Int)).toNat IntKind.i64.bits=k:=by
  show min ((k:Int)).toNat 64=k;omega
 rw [this]
theorem Yw {k:Nat} (h:k≤60):IntKind.i64.wrap (1*2 ^ (min ((k:Int)).toNat IntKind.i64.bits))=2 ^ k:=by
 have:min ((k:Int)).toNat IntKind.i64.bits=k:=by
  show min ((k:Int)).toNat 64=k;omega
 rw [this,Int.one_mul];have h1:(2:Int) ^ k≤2 ^ 60:=by
  have:=Nat.pow_le_pow_right (show 0<2 by decide) h
  exact_mod_cast this
 have h2:(0:Int)≤2 ^ k:=by
  have:=Nat.zero_le (2 ^ k)
  exact_mod_cast this
 exact IntWalk.i64_in _ (by omega)
end
theorem Nu {a:Int} (h:0≤a∧a≤65535) (k:Nat):0≤a.fdiv (2 ^ k)∧a.fdiv (2 ^ k)≤65535:=by
 have hp:(0:Int)<2 ^ k:=by
  have:=Nat.pow_pos (n:=k) (show 0<2 by decide)
  exact_mod_cast this
 rw [Int.fdiv_eq_ediv_of_nonneg _ (Int.le_of_lt hp)];refine ⟨Int.ediv_nonneg h.1 (Int.le_of_lt hp),Int.le_trans (Int.ediv_le_self _ h.1) h.2⟩
def FD (mask:Int) (k:Nat):Bool:=decide (mask.fdiv (2 ^ k)%2=1)
def Cz (cs:List AH) (mask:Int) (k:Nat):List AH:=((List.range k).filter (FD mask)).map fun (i:Nat)=>cs.getD i AH.z
def BH (mask:Int) (k:Nat):List Int:=((List.range k).filter (FD mask)).map fun (i:Nat)=>(i:Int)
theorem JJ {p:Nat→Bool} {k:Nat} (h:p k=true):(List.range (k+1)).filter p=(List.range k).filter p++[k]:=by
 rw [List.range_succ,List.filter_append];simp [h]
theorem JK {p:Nat→Bool} {k:Nat} (h:p k=false):(List.range (k+1)).filter p=(List.range k).filter p:=by
 rw [List.range_succ,List.filter_append];simp [h]
theorem pickC_t {cs:List AH} {mask:Int} {k:Nat} (h:mask.fdiv (2 ^ k)%2=1):Cz cs mask (k+1)=Cz cs mask k++[cs.getD k AH.z]:=by
 unfold Cz;rw [JJ (by unfold FD;rw [decide_eq_true h]),List.map_append];rfl
theorem pickC_f {cs:List AH} {mask:Int} {k:Nat} (h:¬mask.fdiv (2 ^ k)%2=1):Cz cs mask (k+1)=Cz cs mask k:=by
 unfold Cz;rw [JK (by unfold FD;rw [decide_eq_false h])]
theorem WN {mask:Int} {k:Nat} (h:mask.fdiv (2 ^ k)%2=1):BH mask (k+1)=BH mask k++[(k:Int)]:=by
 unfold BH;rw [JJ (by unfold FD;rw [decide_eq_true h]),List.map_append];rfl
theorem WO {mask:Int} {k:Nat} (h:¬mask.fdiv (2 ^ k)%2=1):BH mask (k+1)=BH mask k:=by
 unfold BH;rw [JK (by unfold FD;rw [decide_eq_false h])]
theorem P5 (cs:List AH) (mask:Int) (k:Nat):(Cz cs mask k).length≤k:=by
 unfold Cz;rw [List.length_map]
 have:=List.length_filter_le (FD mask) (List.range k)
 rwa [List.length_range] at this
theorem P6 (mask:Int) (k:Nat):(BH mask k).length≤k:=by
 unfold BH;rw [List.length_map]
 have:=List.length_filter_le (FD mask) (List.range k)
 rwa [List.length_range] at this
def M2 (a b:Int):Int:=if a<b then-1 else if b<a then 1 else 0
def Fy (a b:List Int):Nat→Nat→Int
 | 0,_=>if (a.length:Int)<b.length then-1 else 0
 | f+1,k=>if (b.length:Int)≤k then 1 else if¬M2 (a.getD k 0) (b.getD k 0)=0 then M2 (a.getD k 0) (b.getD k 0) else Fy a b f (k+1)
def JB (a b:List Int):Int:=Fy a b a.length 0
theorem JL {a b:List Int} {k:Nat} (hk:¬(k:Int)<a.length):Fy a b (a.length-k) k=if (a.length:Int)<b.length then-1 else 0:=by
 rw [show a.length-k=0 by omega];rfl
theorem GG {a b:List Int} {k:Nat} (hk:k<a.length):Fy a b (a.length-k) k=if (b.length:Int)≤k then 1 else if¬M2 (a.getD k 0) (b.getD k 0)=0 then M2 (a.getD k 0) (b.getD k 0) else Fy a b (a.length-(k+1)) (k+1):=by
 rw [show a.length-k=(a.length-(k+1))+1 by omega];rfl
def FF (a b:List Int):Bool:=decide ((a.length:Int)<b.length) || (decide ((a.length:Int)=b.length) && decide (JB a b<0))
abbrev Sl:=Value×List Int
def Sl.z:Sl:=(.slice none 0 0,[])
def Nv (x:Sl):Array Value:=#[x.1]
def CD (h:GH) (l:List Sl):Prop:=∀k,AO h (l.getD k Sl.z).1 1 eI (l.getD k Sl.z).2
theorem CD.le {h h':GH} {l:List Sl} (x:CD h l) (e:h.Le h'):CD h' l:=fun k=>(x k).le e
theorem CD.nil (h:GH):CD h []:=fun k=>by
 rw [D4 (by simp)];exact AO.nil _ _ _
theorem CD.snoc {h:GH} {l:List Sl} {x:Sl} (a:CD h l) (b:AO h x.1 1 eI x.2):CD h (l++[x]):=fun k=>by
 rcases Nat.lt_trichotomy k l.length with q | q | q
 ·have e:(l++[x]).getD k Sl.z=l.getD k Sl.z:=by simp [List.getD_eq_getElem?_getD,List.getElem?_append_left q]
  rw [e];exact a k
 ·have e:(l++[x]).getD k Sl.z=x:=by subst q;simp [List.getD_eq_getElem?_getD]
  rw [e];exact b
 ·rw [D4 (by simp;omega)];exact AO.nil _ _ _
def D6 (x c:List Int):List Int:=if FF x c then x else c
def GZ (c:List Int) (l:List (List Int)):List Int:=l.foldl (fun c x=>D6 x c) c
def CI (l:List Sl):List (List Int):=l.map (·.2)
theorem Fe {l:List Sl} {k:Nat} (hk:k<l.length):(CI l).getD k []=(l.getD k Sl.z).2:=by
 unfold CI;rw [Cj [] (by simpa using hk),Cj Sl.z hk];simp
theorem Nw {c:List Int} {l:List Sl} {k:Nat} (hk:k<l.length):GZ c ((CI l).take (k+1))=D6 (l.getD k Sl.z).2 (GZ c ((CI l).take k)):=by
 rw [GC [] (by simpa [CI] using hk),Fe hk];unfold GZ;rw [List.foldl_append];rfl
def DI (d:Int) (gs:List Good) (ms:List AC) (cs:List AH) (mo:Int):Bool:= !(AV d gs ms cs mo).isEmpty
theorem RK {d:Int} {gs:List Good} {ms:List AC} {cs:List AH} {mo:Int} (h:AV d gs ms cs mo≠[]):DI d gs ms cs mo=true:=by
 unfold DI;cases hx:AV d gs ms cs mo with
 | nil=>exact absurd hx h
 | cons _ _=>rfl
theorem someB_f {d:Int} {gs:List Good} {ms:List AC} {cs:List AH} {mo:Int} (h:AV d gs ms cs mo=[]):DI d gs ms cs mo=false:=by
 unfold DI;rw [h];rfl
def Yx {α:Type} (hB:GH) (r:Nat) (T:TypeId) (pre:List α) (Y:Nat→Prop) (h:GH):Prop:=pre=[]∧h r=some (true,.cells #[.bool false] T (0,0))∧hB r=none∧∀b,Y b↔b=r
def Yy {α:Type} (r:Nat) (T:TypeId) (all:List α) (c:Code) (h:GH):Prop:=c=.ret∧h r=some (true,.cells #[.bool true] T (0,0))∧all≠[]
theorem Nx {α:Type} (hB:GH) (r:Nat) (T:TypeId):Ij hB (Yx (α:=α) hB r T):=by
 refine ⟨?_,?_⟩
 ·rintro pre Y h b ⟨_,h1,_,h2⟩ hb;rw [h2] at hb;subst hb;exact ⟨_,_,h1,rfl⟩
 ·rintro pre Y h h' ⟨h0,h1,h3,h2⟩ same _;exact ⟨h0,(same r ((h2 r).2 rfl)).trans h1,h3,h2⟩
theorem SV {α:Type} {hB h:GH} {r:Nat} {T:TypeId} (nr:hB r=none) (x:h r=some (true,.cells #[.bool false] T (0,0))):Yx (α:=α) hB r T [] (fun b=>b=r) h:=⟨rfl,x,nr,fun _=>Iff.rfl⟩
theorem RL {α:Type} {r:Nat} {T:TypeId} {all:List α}:∀c (h h':GH) l lo,Yy r T all c h→h l=some (true,.loop lo)→(∀b,b≠l→h' b=h b)→Yy r T all c h':=by
 rintro c h h' l lo ⟨q1,q2,q3⟩ hl ho;exact ⟨q1,(ho _ fun e=>by subst e;rw [q2] at hl;cases hl).trans q2,q3⟩
end Go.Ns
namespace Go.Ns
open Go.Conc
abbrev Key:=Int×Int×Int
def J0 (a:Key):Value:=.agg #[.int .i64 a.1,.int .i64 a.2.1,.int .i64 a.2.2]
def Ee (n:Int):Value:=.int .i64 n
def At (ms:List AC) (pasts:List AW) (r:Nat) (h:GH):Prop:=
 ∃M:Key→Option Int,FB h r J0 Ee M∧∀a v,M a=some v→v=(AM ms (pasts.getD a.1.toNat AW.zero) a.2.1 a.2.2).1
theorem At.same {ms:List AC} {pasts:List AW} {r:Nat} {h h':GH} (x:At ms pasts r h) (e:h' r=h r):At ms pasts r h':=by
 obtain ⟨M,h1,h2⟩:=x;exact ⟨M,h1.le_other e,h2⟩
theorem At.known {ms:List AC} {pasts:List AW} {r:Nat} {h:GH} (x:At ms pasts r h):∃o,h r=some (true,o):=by
 obtain ⟨M,⟨es,clk,h1,_⟩,_⟩:=x;exact ⟨_,h1⟩
structure CY (hB:GH) (ms:List AC) (pasts:List AW) (r:Nat) (h hc:GH):Prop where
 ok:At ms pasts r hc
 keep:Bn (fun b=>b=r) h hc
 base:hB.Le hc
def JC (hB:GH) (ms:List AC) (pasts:List AW) (r:Nat) (h h':GH):Prop:=At ms pasts r h'∧Bn (fun b=>b=r) h h'∧hB.Le h'
section
variable {hB h hc h':GH} {ms:List AC} {pasts:List AW} {r:Nat}
theorem CY.start (x:At ms pasts r h) (l:hB.Le h):CY hB ms pasts r h h:=⟨x,Bn.refl _ _,l⟩
theorem CY.le (y:CY hB ms pasts r h hc) (l:hc.Le h'):CY hB ms pasts r h h':=by
 obtain ⟨o,ho⟩:=y.ok.known;exact ⟨y.ok.same ((l.keep ho rfl).trans ho.symm),y.keep.trans (fun _ q=>.inl q) (l.keepX _),y.base.trans l⟩
theorem CY.store (y:CY hB ms pasts r h hc) {q:Nat} (hq:h q=none) (qB:hB q=none) (hn:q≠r) (ho:∀b,b≠q→h' b=hc b):CY hB ms pasts r h h':=
 ⟨y.ok.same (ho r (Ne.symm hn)),y.keep.store hq ho,y.base.upd qB ho⟩
theorem CY.app {v v':Value} (y:CY hB ms pasts r h hc) (g:Ho hc h' v v') (f:BL v r) (hv:∀b,B9 v=some b→h b=none) (hvB:∀b,B9 v=some b→hB b=none):CY hB ms pasts r h h':=by
 obtain ⟨o,ho⟩:=y.ok.known;refine ⟨y.ok.same ((g.1 r _ ho f).trans ho.symm),fun b p o hb hX=>?_,GH.Le.grown g y.base hvB⟩;obtain ⟨o',h1,h2⟩:=y.keep b p o hb hX;exact ⟨o',g.1 b _ h1 (fun e=>by rw [hv b e] at hb;cases hb),h2⟩
theorem CY.call (y:CY hB ms pasts r h hc) (m:JC hB ms pasts r hc h'):CY hB ms pasts r h h':=⟨m.1,y.keep.trans (fun _ q=>.inl q) m.2.1,m.2.2⟩
theorem CY.ne (y:CY hB ms pasts r h hc) {q:Nat} (hq:hc q=none):q≠r:=fun e=>by
 obtain ⟨o,ho⟩:=y.ok.known;rw [e,ho] at hq;cases hq
theorem CY.res (y:CY hB ms pasts r h hc):JC hB ms pasts r h hc:=⟨y.ok,y.keep,y.base⟩
end
theorem Key.eq_iff (a b:Key):(a.1==b.1 && (a.2.1==b.2.1 && (a.2.2==b.2.2 && true)))=decide (a=b):=by
 obtain ⟨a1,a2,a3⟩:=a;obtain ⟨b1,b2,b3⟩:=b;simp only [Bool.and_true,Prod.mk.injEq];by_cases h1:a1=b1 <;> by_cases h2:a2=b2 <;> by_cases h3:a3=b3 <;> simp [h1,h2,h3]
section
variable {P:Program} {E:HI P} {σ:Nat→Value} {ds:List Deferred} {h:GH} {T:(Nat→Value)→List Deferred→GH→Prop}
variable {dst:Option Nat} {ty:TypeId} {pos:String} {af:Array Edge} {gd:Option (Nat×Bool)}
theorem RM {t kt vt:TypeId} {x ix:Operand} {r d:Nat} {ms:List AC} {pasts:List AW} {i g dy:Int} (ht:J5 P t=some (kt,vt)) (hx:AY σ x=.map (some r)) (hk:AY σ ix=.agg #[.int .i64 i,.int .i64 g,.int .i64 dy]) (hm:At ms pasts r h) (hd:Nat.ble (d+1) 10000=true)
  (hc:∀a,Ym P (d+1) kt (J0 a)=true) (he:∀a b,NU P (d+1) kt (J0 a) (J0 b)=some (a.1==b.1 && (a.2.1==b.2.1 && (a.2.2==b.2.2 && true)))) (hz:(P.info? vt).bind (·.zero)=some (.int .i64 0))
  (k:∀(n:Int) (is:Bool),(is=true→n=(AM ms (pasts.getD i.toNat AW.zero) g dy).1)→T (putS σ dst (.tuple #[.int .i64 n,.bool is])) ds h):Br E ⟨dst,.lookup t x ix true,ty,pos,af,gd⟩ σ ds h T:=by
 obtain ⟨M,h1,h2⟩:=hm;refine Px (a:=(i,g,dy)) (z:=.int .i64 0) ht hx hk h1 hd (hc _) (fun b=>by rw [he,Key.eq_iff]) hz ?_;cases hM:M (i,g,dy) with
 | none=>exact k 0 false (by intro e;cases e)
 | some v=>exact k v true fun _=>h2 _ _ hM
theorem SW {t kt vt:TypeId} {om ok ox:Operand} {r d:Nat} {ms:List AC} {pasts:List AW} {i g dy n:Int} (ht:J5 P t=some (kt,vt)) (hm':AY σ om=.map (some r)) (hk:AY σ ok=.agg #[.int .i64 i,.int .i64 g,.int .i64 dy]) (hv:AY σ ox=.int .i64 n) (hm:At ms pasts r h) (hd:Nat.ble (d+1) 10000=true)
  (hc:∀a,Ym P (d+1) kt (J0 a)=true) (he:∀a b,NU P (d+1) kt (J0 a) (J0 b)=some (a.1==b.1 && (a.2.1==b.2.1 && (a.2.2==b.2.2 && true)))) (hs:∀a,Instr.sameBits 10000 (J0 a) (J0 a)=true) (hn:n=(AM ms (pasts.getD i.toNat AW.zero) g dy).1)
  (k:∀h',At ms pasts r h'→(∀b,b≠r→h' b=h b)→T (putS σ dst undef) ds h'):Br E ⟨dst,.mapUpdate t om ok ox,ty,pos,af,gd⟩ σ ds h T:=by
 obtain ⟨M,h1,h2⟩:=hm;refine LE (a:=(i,g,dy)) (v:=n) (ek:=J0) (ev:=Ee) ht hm' hk hv h1 hd (hc _) (fun b=>by rw [he,Key.eq_iff]) (hs _) fun h' g1 g2=>k h' ⟨_,g1,fun a v hav=>?_⟩ g2;by_cases e:a=(i,g,dy)
 ·subst e;rw [if_pos rfl] at hav;cases hav;exact hn
 ·rw [if_neg e] at hav;exact h2 a v hav
end
section
variable {hB h hc h':GH} {ms:List AC} {pasts:List AW} {r:Nat}
theorem CY.nothing (y:CY hB ms pasts r h hc) {q:Nat} (hq:hc q=none):h q=none:=by
 cases hx:h q with
 | none=>rfl
 | some x=>
  obtain ⟨o',h1,_⟩:=y.keep q x.1 x.2 hx (y.ne hq);rw [h1] at hq;cases hq
theorem At.le (x:At ms pasts r h) (l:h.Le h'):At ms pasts r h':=by
 obtain ⟨o,ho⟩:=x.known;exact x.same ((l.keep ho rfl).trans ho.symm)
theorem At.empty (x:h r=some (true,.map #[] 0)):At ms pasts r h:=⟨fun _=>none,FB.empty x,fun a v e=>by cases e⟩
theorem At.neCells {b:Nat} {p:Bool} {c:Array Value} {t:TypeId} {z:Nat×Nat} (x:At ms pasts r h) (hb:h b=some (p,.cells c t z)):b≠r:=fun e=>by
 obtain ⟨M,⟨es,clk,h1,_⟩,_⟩:=x;rw [e,h1] at hb;cases hb
theorem Aa.keepX {α:Type} {X:Nat→Prop} {h0:GH} {v:Value} {t:TypeId} {n:Nat} {enc:α→Array Value} {xs:List α} (x:Aa h0 h v t n enc xs) (k:Bn X h h') (hS:∀b,B9 v=some b→¬X b):Aa h0 h' v t n enc xs:=by
 rcases x with x | ⟨b,cap,c,rfl,h2,h3,h4⟩
 ·exact .inl x
 ·exact .inr ⟨b,cap,c,rfl,h2,k.box h3 (hS b rfl) rfl,h4⟩
theorem AO.slDel {α:Type} {v:Value} {n:Nat} {enc:α→Array Value} {xs:List α} (x:AO h v n enc xs) {p:Bool} {es:Array MapEntry} {clk:Nat} (hr:h r=some (p,.map es clk)):AO (h.del r) v n enc xs:=by
 obtain ⟨a,cap,hv,hc,hm,he⟩:=x;refine ⟨a,cap,hv,hc,hm,fun i hi=>?_⟩;obtain ⟨b,off,h1,h2⟩:=he i hi;refine ⟨b,off,h1,h2.del fun e=>?_⟩;obtain ⟨p',c,t,f,hb,_⟩:=h2;rw [e,hr] at hb;cases hb
theorem At.slDel {α:Type} (k:At ms pasts r h) {v:Value} {n:Nat} {enc:α→Array Value} {xs:List α} (x:AO h v n enc xs):AO (h.del r) v n enc xs:=by
 obtain ⟨M,⟨es,clk,h1,_⟩,_⟩:=k;exact x.slDel h1
end
section
variable {P:Program} {E:HI P} {σ:Nat→Value} {ds:List Deferred} {h:GH}
end
theorem RN (a:Key):Instr.sameBits 10000 (J0 a) (J0 a)=true:=by
 have hi:∀(n:Nat) (x:Int),Instr.sameBits n (.int .i64 x) (.int .i64 x)=true:=fun n x=>by
  cases n <;> (unfold Instr.sameBits;simp)
 unfold J0;show Instr.sameBits (9999+1) _ _=true;unfold Instr.sameBits;simp only [List.zip_cons_cons,List.zip_nil_left,List.all_cons,List.all_nil,hi];simp
def Ao (d m:Int) (gs:List Good) (ms:List AC) (cs:List AH) (o:List Int):Int:=
 if¬Av d m gs ms cs=0 then Av d m gs ms cs else if¬Do (fun k=>o.getD k 0) 0 o.length=0 then Do (fun k=>o.getD k 0) 0 o.length else if (AV d gs ms cs m).length=0 then 9 else 0
section
variable {d m:Int} {gs:List Good} {ms:List AC} {cs:List AH} {o:List Int}
theorem Ny (h:¬Av d m gs ms cs=0):Ao d m gs ms cs o=Av d m gs ms cs:=by unfold Ao;rw [if_pos h]
theorem Kc (h:¬¬Av d m gs ms cs=0) {k:Nat} (hs:∀j,j<k→o.getD j 0=0) (hk:k<o.length) (h2:¬o.getD k 0=0):Ao d m gs ms cs o=o.getD k 0:=by
 unfold Ao;rw [if_neg h,Bd (f:=fun k=>o.getD k 0) hs hk rfl h2,if_pos h2]
theorem Nz (h:¬¬Av d m gs ms cs=0) {k:Nat} (hs:∀j,j<k→o.getD j 0=0) (hk:o.length≤k) (h2:(AV d gs ms cs m).length=0):Ao d m gs ms cs o=9:=by
 unfold Ao;rw [if_neg h,Ck (f:=fun k=>o.getD k 0) hs hk,if_neg (by simp),if_pos h2]
theorem UI (h:¬¬Av d m gs ms cs=0) {k:Nat} (hs:∀j,j<k→o.getD j 0=0) (hk:o.length≤k) (h2:¬(AV d gs ms cs m).length=0):Ao d m gs ms cs o=0:=by
 unfold Ao;rw [if_neg h,Ck (f:=fun k=>o.getD k 0) hs hk,if_neg (by simp),if_neg h2]
theorem EF (h:Ao d m gs ms cs o=0):BE d m gs ms cs∧(∀k,k<o.length→o.getD k 0=0)∧0<(AV d gs ms cs m).length:=by
 unfold Ao at h;split at h <;> first | (rename_i q;exact absurd h q) | skip
 split at h <;> first | (rename_i q;exact absurd h q) | skip
 split at h <;> first | (cases h;done) | skip
 rename_i a b c
 exact ⟨Ik (Decidable.not_not.1 a),fun k hk=>Fp (Decidable.not_not.1 b) k (Nat.zero_le _) (by omega),by omega⟩
end
end Go.Ns
namespace Go.Ns
open Go.Conc Go.Sort
def Ba (rest:List Value) (d:Array Int):Array Value:=(d.toList.map (fun x=>Value.int .i64 x)++rest).toArray
theorem BQ (rest:List Value) (d:Array Int):(Ba rest d).size=d.size+rest.length:=by simp [Ba]
theorem A1 {rest:List Value} {d:Array Int} {i:Nat} (h:i<d.size):(Ba rest d)[0+i*1]? =some (.int .i64 d[i]!):=by
 have h1:i<(d.toList.map (fun x=>Value.int .i64 x)).length:=by simpa using h
 rw [Nat.zero_add,Nat.mul_one];unfold Ba;rw [List.getElem?_toArray,List.getElem?_append_left h1,List.getElem?_map];simp [h,getElem!_pos]
theorem Bm {rest:List Value} {d:Array Int} {i:Nat} {v:Int} (h:i<d.size):B4 (Ba rest d) (0+i*1) [.int .i64 v]=Ba rest (d.setIfInBounds i v):=by
 rw [Nat.zero_add,Nat.mul_one];show (Ba rest d).setIfInBounds i (.int .i64 v)=_;unfold Ba;apply Array.toList_inj.1;have h1:i<(d.toList.map (fun x=>Value.int .i64 x)).length:=by simpa using h
 rw [Array.toList_setIfInBounds];simp only [];rw [List.set_append_left _ _ h1,Array.toList_setIfInBounds,List.map_set]
structure Au (b:Nat) (h hc:GH):Prop where
 keep:Bn (fun x=>x=b) h hc
 dom:∃o,hc b=some o
section
variable {b:Nat} {h hc h':GH}
theorem Au.start (x:∃o,h b=some o):Au b h h:=⟨Bn.refl _ _,x⟩
theorem Au.le (y:Au b h hc) (l:hc.Le h'):Au b h h':=⟨y.keep.trans (fun _ q=>.inl q) (l.keepX _),l.someOf y.dom⟩
theorem Au.put (y:Au b h hc) (ho:∀x,x≠b→h' x=hc x) (x:∃o,h' b=some o):Au b h h':=⟨y.keep.store' (.inl rfl) ho,x⟩
theorem Au.ne (y:Au b h hc) {q:Nat} (hq:hc q=none):q≠b:=fun e=>by
 obtain ⟨o,ho⟩:=y.dom;rw [e,ho] at hq;cases hq
theorem Au.nothing (y:Au b h hc) {q:Nat} (hq:hc q=none):h q=none:=by
 cases hx:h q with
 | none=>rfl
 | some x=>
  obtain ⟨o',h1,_⟩:=y.keep q x.1 x.2 hx (y.ne hq);rw [h1] at hq;cases hq
theorem Au.store (y:Au b h hc) {q:Nat} (hq:h q=none) (hn:q≠b) (ho:∀x,x≠q→h' x=hc x):Au b h h':=⟨y.keep.store hq ho,by rw [ho b (Ne.symm hn)];exact y.dom⟩
theorem Au.call (y:Au b h hc) (k:Bn (fun x=>x=b) hc h') (x:∃o,h' b=some o):Au b h h':=⟨y.keep.trans (fun _ q=>.inl q) k,x⟩
end
def Ga (d:Array Int) (off:Nat):Array Int:=(d.toList.take off++List.replicate (d.size-off) 0).toArray
theorem PQ (d:Array Int) (off:Nat):(Ga d off).size=d.size:=by simp [Ga];omega
theorem Wq {a j:Nat} {dd:Array Int} (h:(a:Int)<(j:Int)∧dd[j]! <dd[((j:Int)-1).toNat]!) :
  insInner ltInt a j dd=insInner ltInt a (j-1) ((dd.setIfInBounds j dd[((j:Int)-1).toNat]!).setIfInBounds ((j:Int)-1).toNat dd[j]!):=by
 obtain ⟨h1,h2⟩:=h;cases j with
 | zero=>omega
 | succ j=>
  have e:(((j+1:Nat):Int)-1).toNat=j:=by omega
  rw [e] at h2 ⊢
  conv=>lhs;unfold insInner
  rw [if_pos (by unfold ltInt;simp;exact ⟨by omega,h2⟩)];rfl
theorem Yz {a j:Nat} {dd:Array Int} (h:¬((a:Int)<(j:Int)∧dd[j]! <dd[((j:Int)-1).toNat]!)):insInner ltInt a j dd=dd:=by
 cases j with
 | zero=>rfl
 | succ j=>
  have e:(((j+1:Nat):Int)-1).toNat=j:=by omega
  rw [e] at h;unfold insInner;rw [if_neg (by unfold ltInt;simp;intro q;exact Int.not_lt.1 fun r=>h ⟨by omega,r⟩)]
theorem PR {a b i:Nat} {dd:Array Int} (h:i<b):insOuter ltInt a b i dd=insOuter ltInt a b (i+1) (insInner ltInt a i dd):=by
 conv=>lhs;unfold insOuter
 rw [if_pos h]
theorem RO {a b i:Nat} {dd:Array Int} (h:¬(i:Int)<b):insOuter ltInt a b i dd=dd:=by
 unfold insOuter;rw [if_neg (by omega)]
def JM (l:List Int):List Int:=(Go.Sort.sort ltInt l.toArray).toList
theorem Hr {a r:Int} {k:Nat} (h:k≤63) (e:a / 2 ^ k=r):a.fdiv (2 ^ (min ((k:Int)).toNat IntKind.u64.bits))=r:=by
 have:min ((k:Int)).toNat IntKind.u64.bits=k:=by
  show min ((k:Int)).toNat 64=k;omega
 have hp:(0:Int)≤2 ^ k:=by
  have:=Nat.zero_le (2 ^ k)
  exact_mod_cast this
 rw [this,Int.fdiv_eq_ediv_of_nonneg _ hp,e]
section
variable {P:Program} {E:HI P} {σ:Nat→Value} {ds:List Deferred} {h:GH} {T:(Nat→Value)→List Deferred→GH→Prop}
variable {dst:Option Nat} {ty:TypeId} {pos:String} {af:Array Edge} {gd:Option (Nat×Bool)}
end
theorem WP (l:List Int):DH eI l=l.map (fun x=>Value.int .i64 x):=by
 induction l with
 | nil=>rfl
 | cons x l ih=>show (eI x).toList++DH eI l=_;rw [ih];rfl
theorem Aa.row {h0 h:GH} {v:Value} {xs:List Int} (x:Aa h0 h v 3 1 eI xs) (hne:xs≠[]) :
  ∃b cap rest,v=.slice (some ⟨b,0,none⟩) xs.toArray.size cap∧h b=some (true,.cells (Ba rest xs.toArray) 3 (0,0)):=by
 rcases x with ⟨_,e⟩ | ⟨b,cap,c,rfl,h1,h2,h3,h4,h5,h6,h7⟩
 ·exact absurd e hne
 ·refine ⟨b,cap,c.toList.drop xs.length,by simp,?_⟩;have e:c=Ba (c.toList.drop xs.length) xs.toArray:=by
   apply Array.toList_inj.1;unfold Ba;simp only [];rw [←WP,←h6,Nat.mul_one,List.take_append_drop]
  rw [←e];exact h2
theorem Aa.ofRow {h0 h h':GH} {b cap:Nat} {rest:List Value} {xs:List Int} {D:Array Int} (x:Aa h0 h (.slice (some ⟨b,0,none⟩) xs.toArray.size cap) 3 1 eI xs) (hne:xs≠[]) (hD:D.size=xs.length) (hb:h b=some (true,.cells (Ba rest xs.toArray) 3 (0,0))) (hb':h' b=some (true,.cells (Ba rest D) 3 (0,0))) :
  Aa h0 h' (.slice (some ⟨b,0,none⟩) xs.toArray.size cap) 3 1 eI D.toList:=by
 rcases x with ⟨e,_⟩ | ⟨b1,cap1,c,e,h1,h2,h3,h4,h5,h6,h7⟩
 ·cases e
 ·simp only [Value.slice.injEq,Option.some.injEq,Addr.mk.injEq] at e;obtain ⟨⟨rfl,_⟩,_,rfl⟩:=e;rw [hb] at h2;simp only [Option.some.injEq,Prod.mk.injEq,Obj.cells.injEq,true_and,and_true] at h2;subst h2;have hDl:D.toList.length=xs.length:=by rw [Array.length_toList];exact hD
  refine .inr ⟨b,cap,_,by rw [hDl];simp,h1,hb',?_,by omega,by omega,?_,fun y _=>rfl⟩
  ·rw [BQ] at h3 ⊢;rw [hD];simpa using h3
  ·unfold Ba;simp only [Nat.mul_one];rw [WP,←List.length_map (f:=fun x=>Value.int .i64 x),List.take_append_of_le_length (Nat.le_refl _),List.take_length]
theorem Bn.grownSame {h h':GH} {b cap n:Nat} (k:Bn (fun x=>x=b) h h'):Ho h h' (.slice (some ⟨b,0,none⟩) n cap) (.slice (some ⟨b,0,none⟩) n cap):=
 ⟨fun r o hr hn=>(by
  obtain ⟨o',h1,rfl | ⟨h2,_⟩⟩:=k r o.1 o.2 hr (fun e=>hn (by rw [e];rfl))
  ·exact h1
  ·cases h2),.inl rfl⟩
section
variable {P:Program} {E:HI P} {σ:Nat→Value} {ds:List Deferred} {h:GH} {T:(Nat→Value)→List Deferred→GH→Prop}
variable {dst:Option Nat} {ty:TypeId} {pos:String} {af:Array Edge} {gd:Option (Nat×Bool)}
theorem UJ {t:TypeId} {x o:Operand} {b len cap hi:Nat} (ht:Eg P t=some 1) (hc:len≤cap) (hx:AY σ x=.slice (some ⟨b,0,none⟩) len cap) (ho:∃kd,AY σ o=.int kd hi) (h2:hi≤len) (k:T (putS σ dst (.slice (some ⟨b,0,none⟩) hi cap)) ds h) :
  Br E ⟨dst,.slice t x none (some o) none,ty,pos,af,gd⟩ σ ds h T:=by
 refine Lw (olo:=none) (ohi:=some o) 0 hi ht hc hx rfl ho (Nat.zero_le _) h2 ?_;have e:(if cap=0 then (some ⟨b,0,none⟩:Option Addr) else (some ⟨b,0,none⟩:Option Addr).map (·.add (0*1)))=some ⟨b,0,none⟩:=by
  split
  ·rfl
  ·simp [Ic]
 rw [e];exact k
theorem LL {t:TypeId} {x o:Operand} {b len cap lo:Nat} (ht:Eg P t=some 1) (hc:len≤cap) (hx:AY σ x=.slice (some ⟨b,0,none⟩) len cap) (ho:∃kd,AY σ o=.int kd lo) (h2:lo<len) (k:T (putS σ dst (.slice (some ⟨b,lo,none⟩) (len-lo) (cap-lo))) ds h) :
  Br E ⟨dst,.slice t x (some o) none none,ty,pos,af,gd⟩ σ ds h T:=by
 refine Lw (olo:=some o) (ohi:=none) lo len ht hc hx ho rfl (Nat.le_of_lt h2) (Nat.le_refl _) ?_;have e:(if cap=lo then (some ⟨b,0,none⟩:Option Addr) else (some ⟨b,0,none⟩:Option Addr).map (·.add (lo*1)))=some ⟨b,lo,none⟩:=by
  rw [if_neg (by omega)];simp [Ic]
 rw [e];exact k
theorem SX {t e:TypeId} {x:Operand} {b off len cap:Nat} {rest:List Value} {d:Array Int} {z:Nat} (ht:Eh P t=some (1,#[.int .i64 0],e)) (hx:AY σ x=.slice (some ⟨b,off,none⟩) len cap) (hb:h b=some (true,.cells (Ba rest d) z (0,0))) (hn:off+len=d.size) (hl:0<len)
  (k:∀h',h' b=some (true,.cells (Ba rest (Ga d off)) z (0,0))→(∀x,x≠b→h' x=h x)→T (putS σ dst (.tuple #[])) ds h') :
  Br E ⟨dst,.call ⟨.builtin .clear,#[x],#[t]⟩,ty,pos,af,gd⟩ σ ds h T:=by
 refine FX (vs:=#[.slice (some ⟨b,off,none⟩) len cap]) (s:=Builtin.clear_ #[t] ty #[.slice (some ⟨b,off,none⟩) len cap]) (by simp [hx]) (fun _=>rfl) ?_;unfold Eh at ht;cases hu:P.underlying t with
 | none=>rw [hu] at ht;cases ht
 | some dd=>
 rw [hu] at ht;cases dd <;> first | (cases ht;done) | skip
 rename_i el
 simp only at ht;cases hty:CZ P el with
 | none=>rw [hty] at ht;cases ht
 | some g=>
 cases hz:CE P el with
 | none=>rw [hty,hz] at ht;cases ht
 | some z'=>
 rw [hty,hz] at ht;simp only [Option.some.injEq,Prod.mk.injEq] at ht;obtain ⟨_,rfl,rfl⟩:=ht;unfold Builtin.clear_;simp only [List.getElem?_toArray,List.getElem?_cons_zero];refine AI _ _ (A0 hu ?_);obtain ⟨len,rfl⟩:∃m,len=m+1:=⟨len-1,by omega⟩;have hzero:∀{Q:Value→GH→Prop} {h:GH},(∀v,v.cells=#[.int .i64 0]→Q v h)→(zeroValue el).gh P h Q:=fun {Q h} q=>by
  unfold CE at hz;unfold zeroValue;cases hi:P.info? el with
  | none=>rw [hi] at hz;cases hz
  | some i=>
   rw [hi] at hz;simp only [Option.map_eq_some_iff] at hz;obtain ⟨v,hv,e⟩:=hz;refine AI _ _ (C2 hi ?_);rw [hv];exact q v e
 refine AI _ _ (hzero fun vz hvz=>?_);rw [hvz];have hcells:(Builtin.zeroCells #[.int .i64 0] (len+1)).toList=List.replicate (len+1) (.int .i64 0):=by
  unfold Builtin.zeroCells;apply List.ext_getElem
  ·simp
  ·intro i h1 h2;simp [Nat.mod_one]
 rw [hcells];have hsz:d.size=d.toList.length:=by simp
 refine AI _ _ (GS (a:=⟨b,off,none⟩) rfl _ 0 (Ba rest d) h ?_ hb ?_ ?_)
 ·intro y hy;rw [List.eq_of_mem_replicate hy];rfl
 ·rw [BQ,List.length_replicate];show off+0+(len+1)≤_;omega
 ·refine BB (k _ ?_ fun x hx=>GH.set_ne _ _ _ hx);have e:B4 (Ba rest d) (off+0) (List.replicate (len+1) (.int .i64 0))=Ba rest (Ga d off):=by
   apply Array.toList_inj.1;rw [ES _ _ _ (by rw [BQ,List.length_replicate];omega)];unfold Ba Ga;simp only [List.length_replicate,Nat.add_zero,List.map_append,List.map_take,List.map_replicate];have h1:off≤(d.toList.map (fun x=>Value.int .i64 x)).length:=by simp;omega
   rw [List.take_append_of_le_length h1,show d.size-off=len+1 by omega];congr 1;rw [show off+(len+1)=(d.toList.map (fun x=>Value.int .i64 x)).length by simp;omega,List.drop_left]
  rw [←e];exact GH.set_same _ _ _ _
end
def Gt (acc:List Int) (x:Int):List Int:=if acc.getLast? =some x then acc else acc++[x]
def Dc (l:List Int):List Int:=l.foldl Gt []
theorem N0 (acc:List Int) (x:Int):(Gt acc x).getLast? =some x:=by
 unfold Gt;split
 ·assumption
 ·simp
theorem HR {d:Array Int} {j:Nat} (hj:j<d.size):Dc (d.toList.take (j+1))=Gt (Dc (d.toList.take j)) d[j]! :=by
 have e:d.toList.take (j+1)=d.toList.take j++[d[j]!]:=by
  rw [List.take_succ_eq_append_getElem (by simpa using hj)];simp [getElem!_pos,hj]
 rw [e];unfold Dc;rw [List.foldl_append];rfl
theorem UK {d:Array Int} {j:Nat} (hj:j<d.size):(Dc (d.toList.take (j+1))).getLast? =some d[j]! :=by
 rw [HR hj];exact N0 _ _
theorem L3 {rest:List Value} {d:Array Int} {o i:Nat} (h:o+i<d.size):(Ba rest d)[o+i*1]? =some (.int .i64 d[o+i]!):=by
 have:=A1 (rest:=rest) h
 rw [Nat.zero_add,Nat.mul_one] at this;rw [Nat.mul_one];exact this
theorem KA {d:Array Int} {j:Nat} (hj:j<d.size):d.toList.take (j+1)=d.toList.take j++[d[j]!]:=by
 rw [List.take_succ_eq_append_getElem (by simpa using hj)];simp [getElem!_pos,hj]
theorem Il {d:Array Int} {j:Nat} (h1:1≤j) (hj:j≤d.size):(Dc (d.toList.take j)).getLast? =some d[j-1]! :=by
 obtain ⟨i,rfl⟩:∃i,j=i+1:=⟨j-1,by omega⟩;exact UK (by omega)
theorem RP {d:Array Int} {k:Nat} (h1:1≤k) (hk:k<d.size) (h:¬d[k]! =d[((k:Int)-1).toNat]!) (hs:Dc (d.toList.take k)=d.toList.take k):Dc (d.toList.take (k+1))=d.toList.take (k+1):=by
 rw [HR hk,KA hk];unfold Gt;rw [Il h1 (by omega),if_neg (by rw [show ((k:Int)-1).toNat=k-1 by omega] at h;simpa using fun e=>h e.symm),hs]
theorem RQ {d:Array Int} {k:Nat} (h1:1≤k) (hk:k<d.size) (h:d[k]! =d[((k:Int)-1).toNat]!) (hs:Dc (d.toList.take k)=d.toList.take k):d.toList.take k=Dc (d.toList.take (k+1)):=by
 rw [HR hk];unfold Gt;rw [Il h1 (by omega),if_pos (by rw [show ((k:Int)-1).toNat=k-1 by omega] at h;rw [h]),hs]
theorem UL {d dd:Array Int} {k q kk:Nat} (hq:1≤q∧k+q<d.size) (hkk:k≤kk∧kk+1≤k+q) (hsz:dd.size=d.size) (hd:∀j,kk≤j→dd[j]! =d[j]!) (hdd:dd.toList.take kk=Dc (d.toList.take (k+q))) (h:¬dd[k+q]! =dd[k+((q:Int)-1).toNat]!) :
  (dd.setIfInBounds kk dd[k+q]!).toList.take (kk+1)=Dc (d.toList.take (k+(q+1))):=by
 have e1:((q:Int)-1).toNat=q-1:=by omega
 rw [e1,hd _ (by omega),hd _ (by omega)] at h;rw [show k+(q+1)=(k+q)+1 by omega,HR hq.2];unfold Gt;rw [Il (by omega) (by omega),if_neg (by rw [show k+q-1=k+(q-1) by omega];simpa using fun e=>h e.symm),←hdd,hd _ (by omega),Array.toList_setIfInBounds];rw [List.take_succ_eq_append_getElem (by simp;omega),List.take_set_of_le (by omega)];simp
theorem UM {d dd:Array Int} {k q kk:Nat} (hq:1≤q∧k+q<d.size) (hkk:k≤kk∧kk+1≤k+q) (hd:∀j,kk≤j→dd[j]! =d[j]!) (hdd:dd.toList.take kk=Dc (d.toList.take (k+q))) (h:dd[k+q]! =dd[k+((q:Int)-1).toNat]!) :
  dd.toList.take kk=Dc (d.toList.take (k+(q+1))):=by
 have e1:((q:Int)-1).toNat=q-1:=by omega
 rw [e1,hd _ (by omega),hd _ (by omega)] at h;rw [show k+(q+1)=(k+q)+1 by omega,HR hq.2];unfold Gt;rw [Il (by omega) (by omega),if_pos (by rw [show k+q-1=k+(q-1) by omega,h]),hdd]
theorem Wr {d dd:Array Int} {kk:Nat} {x:Int} (hd:∀j,kk≤j→dd[j]! =d[j]!):∀j,kk+1≤j→(dd.setIfInBounds kk x)[j]! =d[j]! :=fun j hj=>by
 rw [←hd j (by omega)];simp only [getElem!_def,Array.getElem?_setIfInBounds_ne (show kk≠j by omega)]
theorem PS {d:Array Int} {k:Nat} (h:k≤d.size):(Ga d k).toList.take k=d.toList.take k:=by
 unfold Ga;simp only [];rw [List.take_append_of_le_length (by simp;omega),List.take_take];simp
theorem SY {d:Array Int} (h:2≤d.size):Dc (d.toList.take 1)=d.toList.take 1:=by
 have e:=KA (d:=d) (j:=0) (by omega);rw [Nat.zero_add] at e;rw [e];rfl
theorem SZ {d:Array Int} {k:Nat} (hs:Dc (d.toList.take k)=d.toList.take k) (h1:k≤d.size) (h2:d.size≤k):d.toList.take d.size=Dc d.toList:=by
 rw [show k=d.toList.length by simp;omega,List.take_length] at hs;rw [hs,←Array.length_toList,List.take_length]
theorem Sa {d:Array Int} (h:d.size<2):d.toList.take d.size=Dc d.toList:=by
 rw [←Array.length_toList,List.take_length]
 have:d.toList.length<2:=by simpa using h
 match hd:d.toList,this with
 | [],_=>rfl
 | [x],_=>rfl
 | _ ::_ ::_,h=>simp at h;omega
theorem JN (l:List Int):JM l=l.mergeSort (fun x y=>decide (x≤y)):=sortInt l
theorem Im (l:List Int):(JM l).length=l.length:=by rw [JN,List.length_mergeSort]
theorem Sb {l:List Int} (h:l≠[]):JM l≠[]:=fun e=>by
 have:=congrArg List.length e
 rw [Im] at this;exact h (List.length_eq_zero_iff.1 this)
end Go.Ns
namespace Go.Ns
open Go.Conc Go.Sort
theorem L5:SWO ltInt:=⟨fun x=>by unfold ltInt;simp,fun x y z=>by unfold ltInt;simp;omega,fun x y z=>by unfold ltInt;simp;omega⟩
theorem Sd {d dd:Array Int} {a b i j:Nat} (h:PermIn a b d dd) (hi:a≤i∧i<b) (hj:a≤j∧j<b) (hb:b≤d.size):PermIn a b d ((dd.setIfInBounds i dd[j]!).setIfInBounds j dd[i]!):=
 permIn_trans _ _ _ a b h (swp_permIn dd a b i j hi.1 hi.2 hj.1 hj.2 (by rw [h.1];exact hb))
theorem Y1 {hi first root:Nat} {dd:Array Int} (h:hi≤2*root+1):siftDown ltInt hi first root dd=dd:=by
 unfold siftDown;rw [dif_pos h]
theorem sift_r {hi first root:Nat} {dd:Array Int} (h:¬hi≤2*root+1) (h1:2*root+1+1<hi) (h1':dd[first+(2*root+1)]! <dd[first+(2*root+1)+1]!) (h2:dd[first+root]! <dd[first+(2*root+1+1)]!) :
  siftDown ltInt hi first root dd=siftDown ltInt hi first (2*root+1+1) (swp dd (first+root) (first+(2*root+1+1))):=by
 have h2':dd[first+root]! <dd[first+(2*root+2)]! :=h2
 conv=>lhs;unfold siftDown
 rw [dif_neg h,if_pos (by unfold ltInt;simpa using ⟨h1,h1'⟩),if_neg (by unfold ltInt;simpa using h2'),dif_pos (by omega)]
theorem sift_r0 {hi first root:Nat} {dd:Array Int} (h:¬hi≤2*root+1) (h1:2*root+1+1<hi) (h1':dd[first+(2*root+1)]! <dd[first+(2*root+1)+1]!) (h2:¬dd[first+root]! <dd[first+(2*root+1+1)]!) :
  siftDown ltInt hi first root dd=dd:=by
 have h2':¬dd[first+root]! <dd[first+(2*root+2)]! :=h2;unfold siftDown;rw [dif_neg h,if_pos (by unfold ltInt;simpa using ⟨h1,h1'⟩),if_pos (by unfold ltInt;simpa using h2')]
theorem sift_l {hi first root:Nat} {dd:Array Int} (h:¬hi≤2*root+1) (h1:¬(2*root+1+1<hi∧dd[first+(2*root+1)]! <dd[first+(2*root+1)+1]!)) (h2:dd[first+root]! <dd[first+(2*root+1)]!) :
  siftDown ltInt hi first root dd=siftDown ltInt hi first (2*root+1) (swp dd (first+root) (first+(2*root+1))):=by
 conv=>lhs;unfold siftDown
 rw [dif_neg h,if_neg (by unfold ltInt;simpa using h1),if_neg (by unfold ltInt;simpa using h2)]
theorem sift_l0 {hi first root:Nat} {dd:Array Int} (h:¬hi≤2*root+1) (h1:¬(2*root+1+1<hi∧dd[first+(2*root+1)]! <dd[first+(2*root+1)+1]!)) (h2:¬dd[first+root]! <dd[first+(2*root+1)]!) :
  siftDown ltInt hi first root dd=dd:=by
 unfold siftDown;rw [dif_neg h,if_neg (by unfold ltInt;simpa using h1),if_pos (by unfold ltInt;simpa using h2)]
theorem L6 (hi first root:Nat) (d:Array Int):(siftDown ltInt hi first root d).size=d.size:=by
 fun_induction siftDown ltInt hi first root d <;> simp_all [swp]
theorem UN {z a k:Nat} {dd:Array Int} (hk:(0:Int)≤(k:Int)-1):heapBuild ltInt (z-a) a k dd=heapBuild ltInt (z-a) a (k-1) (siftDown ltInt ((z:Int)-(a:Int)).toNat a ((k:Int)-1).toNat dd):=by
 obtain ⟨q,rfl⟩:∃q,k=q+1:=⟨k-1,by omega⟩;rw [show ((z:Int)-(a:Int)).toNat=z-a by omega,show (((q+1:Nat):Int)-1).toNat=q by omega];rfl
theorem Ws {z a k:Nat} {dd:Array Int} (hk:¬(0:Int)≤(k:Int)-1):heapBuild ltInt (z-a) a k dd=dd:=by
 obtain rfl:k=0:=by omega
 rfl
theorem UO {a k:Nat} {dd:Array Int} (hk:(0:Int)≤(k:Int)-1):heapPop ltInt a k dd=heapPop ltInt a (k-1) (siftDown ltInt ((k:Int)-1).toNat a (0:Int).toNat ((dd.setIfInBounds a dd[((a:Int)+((k:Int)-1)).toNat]!).setIfInBounds ((a:Int)+((k:Int)-1)).toNat dd[a]!)):=by
 obtain ⟨q,rfl⟩:∃q,k=q+1:=⟨k-1,by omega⟩;rw [show ((a:Int)+(((q+1:Nat):Int)-1)).toNat=a+q by omega,show (((q+1:Nat):Int)-1).toNat=q by omega];rfl
theorem Wt {a k:Nat} {dd:Array Int} (hk:¬(0:Int)≤(k:Int)-1):heapPop ltInt a k dd=dd:=by
 obtain rfl:k=0:=by omega
 rfl
theorem EU {P:Program} {W:Wk P} {f:FuncId} {b cap m n:Nat} {as:List Value} {h:GH} {R:Value→GH→Prop} (e:m=n) (x:Ah W f (Value.slice (some ⟨b,0,none⟩) m cap ::as).toArray h R):Ah W f (Value.slice (some ⟨b,0,none⟩) n cap ::as).toArray h R:=e▸x
def UP (dd:Array Int) (a j i:Nat):Nat:=scanUp (fun x=>ltInt x dd[a]!) dd j i
def Wu (dd:Array Int) (a i j:Nat):Nat:=scanDown (fun x=> !ltInt x dd[a]!) dd i j
def YP (dd:Array Int) (a j i:Nat):Nat:=scanUp (fun x=> !ltInt dd[a]! x) dd j i
def Y3 (dd:Array Int) (a i j:Nat):Nat:=scanDown (fun x=>ltInt dd[a]! x) dd i j
theorem P7 {p:Int→Bool} {dd:Array Int} {j i:Nat} (h1:i≤j) (h2:p dd[i]! =true):scanUp p dd j i=scanUp p dd j (i+1):=by
 conv=>lhs;unfold scanUp
 rw [if_pos (by simp [h1,h2])]
theorem N1 {p:Int→Bool} {dd:Array Int} {j i:Nat} (h:¬(i≤j∧p dd[i]! =true)):scanUp p dd j i=i:=by
 unfold scanUp;rw [if_neg (by simpa using h)]
theorem Me {p:Int→Bool} {dd:Array Int} {i j:Nat} (hi:1≤i) (h1:i≤j) (h2:p dd[j]! =true):scanDown p dd i j=scanDown p dd i (j-1):=by
 obtain ⟨q,rfl⟩:∃q,j=q+1:=⟨j-1,by omega⟩
 conv=>lhs;unfold scanDown
 rw [if_pos (by simp [h1,h2])];rfl
theorem LM {p:Int→Bool} {dd:Array Int} {i j:Nat} (h:¬(i≤j∧p dd[j]! =true)):scanDown p dd i j=j:=by
 cases j with
 | zero=>rfl
 | succ q=>unfold scanDown;rw [if_neg (by simpa using h)]
section
variable {d dd:Array Int} {a z p i j i0 j0:Nat}
theorem Se {J:Int} (h:(i:Int)≤J∧dd[i]! <dd[a]!) (hJ:J=(j:Int)):UP dd a j i=UP dd a j (i+1):=P7 (by omega) (decide_eq_true h.2)
theorem WQ {J:Int} (h:¬((i:Int)≤J∧dd[i]! <dd[a]!)) (hJ:J=(j:Int)):UP dd a j i=i:=N1 fun q=>h ⟨by omega,of_decide_eq_true q.2⟩
theorem Sf (hi:1≤i) (h:(i:Int)≤(j:Int)∧¬dd[j]! <dd[a]!):Wu dd a i j=Wu dd a i (j-1):=Me hi (by omega) (by unfold ltInt;simpa using h.2)
theorem NA (h:¬((i:Int)≤(j:Int)∧¬dd[j]! <dd[a]!)):Wu dd a i j=j:=LM fun q=>h ⟨by omega,by have:=q.2;unfold ltInt at this;simpa using this⟩
theorem Y4 {J:Int} (h:(i:Int)≤J∧¬dd[a]! <dd[i]!) (hJ:J=(j:Int)):YP dd a j i=YP dd a j (i+1):=P7 (by omega) (by unfold ltInt;simpa using h.2)
theorem upE_end {J:Int} (h:¬((i:Int)≤J∧¬dd[a]! <dd[i]!)) (hJ:J=(j:Int)):YP dd a j i=i:=N1 fun q=>h ⟨by omega,by have:=q.2;unfold ltInt at this;simpa using this⟩
theorem Y5 (hi:1≤i) (h:(i:Int)≤(j:Int)∧dd[a]! <dd[j]!):Y3 dd a i j=Y3 dd a i (j-1):=Me hi (by omega) (decide_eq_true h.2)
theorem WR (h:¬((i:Int)≤(j:Int)∧dd[a]! <dd[j]!)):Y3 dd a i j=j:=LM fun q=>h ⟨by omega,of_decide_eq_true q.2⟩
theorem P8 (hu:UP dd a j0 i=UP dd a j0 i0) (hue:UP dd a j0 i=i) (hv:Wu dd a i j=Wu dd a i j0) (hve:Wu dd a i j=j) (h:j<i):partLoop ltInt a i0 j0 dd=(j,dd):=by
 have e1:scanUp (fun x=>ltInt x dd[a]!) dd j0 i0=i:=by rw [←hue,hu];rfl
 have e2:scanDown (fun x=> !ltInt x dd[a]!) dd i j0=j:=by rw [←hve,hv];rfl
 rw [partLoop_eq,e1,e2,if_pos h]
theorem Sg (hu:UP dd a j0 i=UP dd a j0 i0) (hue:UP dd a j0 i=i) (hv:Wu dd a i j=Wu dd a i j0) (hve:Wu dd a i j=j) (h:¬j<i):partLoop ltInt a i0 j0 dd=partLoop ltInt a (i+1) (j-1) (swp dd i j):=by
 have e1:scanUp (fun x=>ltInt x dd[a]!) dd j0 i0=i:=by rw [←hue,hu];rfl
 have e2:scanDown (fun x=> !ltInt x dd[a]!) dd i j0=j:=by rw [←hve,hv];rfl
 rw [partLoop_eq,e1,e2,if_neg h]
theorem Wv (hu:YP dd a j0 i=YP dd a j0 i0) (hue:YP dd a j0 i=i) (hv:Y3 dd a i j=Y3 dd a i j0) (hve:Y3 dd a i j=j) (h:j<i):partEqLoop ltInt a i0 j0 dd=(i,dd):=by
 have e1:scanUp (fun x=> !ltInt dd[a]! x) dd j0 i0=i:=by rw [←hue,hu];rfl
 have e2:scanDown (fun x=>ltInt dd[a]! x) dd i j0=j:=by rw [←hve,hv];rfl
 rw [partEqLoop_eq,e1,e2,if_pos h]
theorem Y6 (hu:YP dd a j0 i=YP dd a j0 i0) (hue:YP dd a j0 i=i) (hv:Y3 dd a i j=Y3 dd a i j0) (hve:Y3 dd a i j=j) (h:¬j<i):partEqLoop ltInt a i0 j0 dd=partEqLoop ltInt a (i+1) (j-1) (swp dd i j):=by
 have e1:scanUp (fun x=> !ltInt dd[a]! x) dd j0 i0=i:=by rw [←hue,hu];rfl
 have e2:scanDown (fun x=>ltInt dd[a]! x) dd i j0=j:=by rw [←hve,hv];rfl
 rw [partEqLoop_eq,e1,e2,if_neg h]
theorem Sh (h:partLoop ltInt a (a+1) (z-1) (swp d a p)=(j,dd)):∃q,partition ltInt d a z p=(j,q,swp dd j a):=by
 have h1:=partition_fst ltInt d a z p;have h2:=partition_arr ltInt d a z p;rw [h] at h1 h2;exact ⟨(partition ltInt d a z p).2.1,Prod.ext h1 (Prod.ext rfl h2)⟩
theorem Ww (h:partEqLoop ltInt a (a+1) (z-1) (swp d a p)=(i,dd)):partitionEqual ltInt d a z p=(i,dd):=h
theorem ijL {J:Int} {c:Int} (h1:¬((i:Int)≤J∧dd[i]! <c)) (hJ:(j:Int)≤J) (h2:¬((i:Int)≤(j:Int)∧¬dd[j]! <c)) (h:¬(j:Int)<(i:Int)):i<j:=by
 by_cases e:i=j
 ·subst e;exact absurd (Decidable.not_not.1 fun q=>h2 ⟨by omega,q⟩) fun q=>h1 ⟨hJ,q⟩
 ·omega
theorem ijE {J:Int} {c:Int} (h1:¬((i:Int)≤J∧¬c<dd[i]!)) (hJ:(j:Int)≤J) (h2:¬((i:Int)≤(j:Int)∧c<dd[j]!)) (h:¬(j:Int)<(i:Int)):i<j:=by
 by_cases e:i=j
 ·subst e;exact absurd (show¬c<dd[i]! from fun q=>h2 ⟨by omega,q⟩) fun q=>h1 ⟨hJ,q⟩
 ·omega
variable {de df:Array Int} {s i2:Nat} {J:Int}
theorem UQ (h:(i:Int)<(z:Int)∧¬dd[i]! <dd[((i:Int)-1).toNat]!):scanSorted ltInt dd z i=scanSorted ltInt dd z (i+1):=by
 rw [show ((i:Int)-1).toNat=i-1 by omega] at h
 conv=>lhs;unfold scanSorted
 rw [if_pos (by unfold ltInt;simp only [Bool.and_eq_true,decide_eq_true_eq,Bool.not_eq_true',decide_eq_false_iff_not];exact ⟨by omega,h.2⟩)]
theorem IF (h:¬((i:Int)<(z:Int)∧¬dd[i]! <dd[((i:Int)-1).toNat]!)):scanSorted ltInt dd z i=i:=by
 rw [show ((i:Int)-1).toNat=i-1 by omega] at h;unfold scanSorted;rw [if_neg (by unfold ltInt;simp only [Bool.and_eq_true,decide_eq_true_eq,Bool.not_eq_true',decide_eq_false_iff_not];exact fun q=>h ⟨by omega,q.2⟩)]
theorem RR (hj:1≤j) (h:dd[j]! <dd[((j:Int)-1).toNat]!):shiftDown ltInt j dd=shiftDown ltInt (j-1) ((dd.setIfInBounds j dd[((j:Int)-1).toNat]!).setIfInBounds ((j:Int)-1).toNat dd[j]!):=by
 obtain ⟨q,rfl⟩:∃q,j=q+1:=⟨j-1,by omega⟩;rw [show (((q+1:Nat):Int)-1).toNat=q by omega] at h ⊢
 conv=>lhs;unfold shiftDown
 rw [if_neg (by unfold ltInt;simpa using h)];rfl
theorem Mf (h:¬(1:Int)≤(j:Int)∨¬dd[j]! <dd[((j:Int)-1).toNat]!):shiftDown ltInt j dd=dd:=by
 cases j with
 | zero=>rfl
 | succ q=>
  rw [show (((q+1:Nat):Int)-1).toNat=q by omega] at h;unfold shiftDown;rw [if_pos (by unfold ltInt;simp only [Bool.not_eq_true',decide_eq_false_iff_not];rcases h with h | h;omega;exact h)]
theorem RS (hj:(j:Int)<(z:Int)) (h1:1≤j) (h:dd[j]! <dd[((j:Int)-1).toNat]!):shiftUp ltInt z j dd=shiftUp ltInt z (j+1) ((dd.setIfInBounds j dd[((j:Int)-1).toNat]!).setIfInBounds ((j:Int)-1).toNat dd[j]!):=by
 rw [show ((j:Int)-1).toNat=j-1 by omega] at h ⊢
 conv=>lhs;unfold shiftUp
 rw [if_pos (by omega),if_neg (by unfold ltInt;simpa using h)];rfl
theorem Mg (h:¬(j:Int)<(z:Int)∨¬dd[j]! <dd[((j:Int)-1).toNat]!):shiftUp ltInt z j dd=dd:=by
 by_cases hj:j<z
 ·rw [show ((j:Int)-1).toNat=j-1 by omega] at h;unfold shiftUp;rw [if_pos hj,if_pos (by unfold ltInt;simp only [Bool.not_eq_true',decide_eq_false_iff_not];rcases h with h | h;omega;exact h)]
 ·unfold shiftUp;rw [if_neg hj]
theorem Wx (he:scanSorted ltInt dd z i=i2) (h:i2=z):partialIns ltInt a z (s+1) i dd=(dd,true):=by
 rw [partialIns_succ,he,if_pos h]
theorem UR (he:scanSorted ltInt dd z i=i2) (h:¬i2=z) (h2:z-a<50):partialIns ltInt a z (s+1) i dd=(dd,false):=by
 rw [partialIns_succ,he,if_neg h,if_pos h2]
theorem L7 (he:scanSorted ltInt dd z i=i2) (h:¬i2=z) (h2:¬z-a<50) (hd:de=if i2-a≥2 then shiftDown ltInt (i2-1) (swp dd i2 (i2-1)) else swp dd i2 (i2-1)) (hf:df=if z-i2≥2 then shiftUp ltInt z (i2+1) de else de) :
  partialIns ltInt a z (s+1) i dd=partialIns ltInt a z s i2 df:=by
 rw [partialIns_succ,he,if_neg h,if_neg h2,hf,hd];rfl
end
section
variable {P:Program} {E:HI P} {σ:Nat→Value} {ds:List Deferred} {h:GH} {T:(Nat→Value)→List Deferred→GH→Prop} {dst:Option Nat} {ty:TypeId} {pos:String} {af:Array Edge} {gd:Option (Nat×Bool)} {xt yt:TypeId} {x y:Operand} {a b:Int}
def J1 (a b:Int):Int:=IntKind.u64.wrap ((BitVec.ofInt 64 a ^^^ BitVec.ofInt 64 b).toNat)
def LN (a b:Int):Int:=IntKind.u64.wrap ((BitVec.ofInt 64 a &&& BitVec.ofInt 64 b).toNat)
def EV (a b:Int):Int:=IntKind.u64.wrap (a*2 ^ (min b.toNat IntKind.u64.bits))
theorem RT (hx:AY σ x=.int .u64 a) (hy:AY σ y=.int .u64 b) (k:T (putS σ dst (.int .u64 (J1 a b))) ds h):Br E ⟨dst,.binOp .xor xt x y yt,ty,pos,af,gd⟩ σ ds h T:=Er hx hy rfl k
theorem ok_andU (hx:AY σ x=.int .u64 a) (hy:AY σ y=.int .u64 b) (k:T (putS σ dst (.int .u64 (LN a b))) ds h):Br E ⟨dst,.binOp .and xt x y yt,ty,pos,af,gd⟩ σ ds h T:=Er hx hy rfl k
theorem RU {ke:IntKind} (hx:AY σ x=.int .u64 a) (hy:AY σ y=.int ke b) (h0:0≤b) (k:T (putS σ dst (.int .u64 (EV a b))) ds h):Br E ⟨dst,.binOp .shl xt x y yt,ty,pos,af,gd⟩ σ ds h T:=T6 hx hy h0 rfl k
theorem ok_subU (hx:AY σ x=.int .u64 a) (hy:AY σ y=.int .u64 b) (hr:0≤a-b∧a-b≤18446744073709551615) (k:T (putS σ dst (.int .u64 (a-b))) ds h):Br E ⟨dst,.binOp .sub xt x y yt,ty,pos,af,gd⟩ σ ds h T:=Er hx hy (by
 show (pure (Value.int .u64 (IntKind.u64.wrap (a-b))):Sem Value)=_;rw [IntWalk.u64_in _ (by omega)]) k
theorem US (hb:0≤b∧b≤9223372036854775807):0≤LN a b∧LN a b≤b:=by
 unfold LN;obtain ⟨n,rfl⟩:=Int.eq_ofNat_of_zero_le hb.1;have e1:(BitVec.ofInt 64 (n:Int)).toNat=n:=by rw [BitVec.toNat_ofInt];omega
 have e2:(BitVec.ofInt 64 a &&& BitVec.ofInt 64 (n:Int)).toNat≤n:=by rw [BitVec.toNat_and,e1];exact Nat.and_le_right
 rw [IntWalk.u64_in _ (by omega)];omega
theorem Y7 {k:Nat} (h:k≤60):EV 1 (k:Int)=2 ^ k:=by
 unfold EV
 have:min ((k:Int)).toNat IntKind.u64.bits=k:=by show min ((k:Int)).toNat 64=k;omega
 rw [this,Int.one_mul];have h1:(2:Int) ^ k≤2 ^ 60:=by
  have:=Nat.pow_le_pow_right (show 0<2 by decide) h
  exact_mod_cast this
 have h2:(0:Int)≤2 ^ k:=by
  have:=Nat.zero_le (2 ^ k)
  exact_mod_cast this
 rw [IntWalk.u64_in _ (by have:(2:Int) ^ 60=1152921504606846976:=rfl;omega)]
def tabOK (s:ByteArray):Bool:=s.size==256 && (List.range 256).all fun i=>(s.get! i).toNat==bitsLen i
theorem Fq {t:TypeId} {x ix:Operand} {s:ByteArray} {kd:IntKind} {i:Int} (ht:NP P t=true) (hx:AY σ x=.string s) (hi:AY σ ix=.int kd i) (h0:0≤i) (h1:i<((256:Nat):Int)) (hs:tabOK s=true)
  (k:T (putS σ dst (.int .u8 (bitsLen i.toNat:Int))) ds h):Br E ⟨dst,.index t x ix,ty,pos,af,gd⟩ σ ds h T:=by
 unfold tabOK at hs;rw [Bool.and_eq_true,List.all_eq_true] at hs;have hz:s.size=256:=by simpa using hs.1
 have e:=hs.2 i.toNat (List.mem_range.2 (by omega));refine Pv ht hx hi h0 (by omega) ?_;have e2:(s[i.toNat]'(by omega)).toNat=bitsLen i.toNat:=by
  rw [←(show (s.get! i.toNat).toNat=bitsLen i.toNat by simpa using e)];have hlt:i.toNat<s.size:=by omega
  congr 1;show s.data[i.toNat]=s.data[i.toNat]!;rw [getElem!_pos s.data i.toNat hlt]
 rw [e2];exact k
theorem Mh {n k:Nat} (h:2 ^ k≤n):bitsLen n=k+bitsLen (n / 2 ^ k):=by
 have hp:0<2 ^ k:=Nat.two_pow_pos k;have h1:∀j,bitsLen n≤j↔k+bitsLen (n / 2 ^ k)≤j:=fun j=>by
  rw [bitsLen_le_iff];constructor
  ·intro q;have hkj:k<j:=(Nat.pow_lt_pow_iff_right (by decide:1<2)).1 (Nat.lt_of_le_of_lt h q)
   have:=(bitsLen_le_iff (n / 2 ^ k) (j-k)).2 ((Nat.div_lt_iff_lt_mul hp).2 (by rw [←Nat.pow_add,show j-k+k=j by omega];exact q))
   omega
  ·intro q;have h2:=(bitsLen_le_iff (n / 2 ^ k) (j-k)).1 (by omega);have h3:=(Nat.div_lt_iff_lt_mul hp).1 h2;rw [←Nat.pow_add,show j-k+k=j by omega] at h3;exact h3
 have a1:=(h1 (bitsLen n)).1 (Nat.le_refl _);have a2:=(h1 (k+bitsLen (n / 2 ^ k))).2 (Nat.le_refl _);omega
theorem Si {n:Int} (h:65536≤n):(bitsLen n.toNat:Int)=16+bitsLen (n / 65536).toNat:=by
 rw [Mh (n:=n.toNat) (k:=16) (by omega),show (n / 65536).toNat=n.toNat / 2 ^ 16 by omega];omega
theorem Tu {n:Int} (h:256≤n):(bitsLen n.toNat:Int)=8+bitsLen (n / 256).toNat:=by
 rw [Mh (n:=n.toNat) (k:=8) (by omega),show (n / 256).toNat=n.toNat / 2 ^ 8 by omega];omega
theorem Dy {n:Nat} (h:n<4294967296):bitsLen n≤32:=(bitsLen_le_iff n 32).2 h
end
section
variable {d dd D D' R:Array Int} {a z a0 z0 p mid:Nat} {ap:Bool}
def Fz (a0 z0:Nat) (d:Array Int) (a z:Nat) (dd:Array Int):Prop:=a≤z∧z≤dd.size∧dd.size=d.size∧Below ltInt a z dd∧∀R,PermIn a z dd R→SortedIn ltInt a z R→PermIn a0 z0 d R∧SortedIn ltInt a0 z0 R
theorem Fz.start (h:a≤z) (hz:z≤d.size) (hB:Below ltInt a z d):Fz a z d a z d:=⟨h,hz,rfl,hB,fun _ x y=>⟨x,y⟩⟩
theorem Fz.perm (r:Fz a0 z0 d a z dd) (x:PermIn a z dd D):Fz a0 z0 d a z D:=
 ⟨r.1,by rw [x.1];exact r.2.1,x.1.trans r.2.2.1,r.2.2.2.1.perm r.2.1 x,fun R y s=>r.2.2.2.2 R (permIn_trans _ _ _ a z x y) s⟩
theorem Fz.done (r:Fz a0 z0 d a z dd) (x:PermIn a z dd D) (s:SortedIn ltInt a z D):PermIn a0 z0 d D∧SortedIn ltInt a0 z0 D:=r.2.2.2.2 D x s
theorem Fz.ins (r:Fz a0 z0 d a z dd):PermIn a0 z0 d (insertionSort ltInt dd a z)∧SortedIn ltInt a0 z0 (insertionSort ltInt dd a z):=
 let x:=insertionSort_holds (lt:=ltInt) L5 dd a z r.1 r.2.1
 r.done x.1 x.2
theorem Fz.heap (r:Fz a0 z0 d a z dd):PermIn a0 z0 d (heapSort ltInt dd a z)∧SortedIn ltInt a0 z0 (heapSort ltInt dd a z):=
 let x:=heapSort_holds (lt:=ltInt) L5 dd a z r.1 r.2.1
 r.done x.1 x.2
theorem Fz.pins (r:Fz a0 z0 d a z dd) (h:a<z) {fl:Bool} (e:partialInsertionSort ltInt dd a z=(D,fl)):Fz a0 z0 d a z D∧(fl=true→PermIn a0 z0 d D∧SortedIn ltInt a0 z0 D):=by
 have x:=partialInsertionSort_holds (lt:=ltInt) L5 dd a z h r.2.1 r.2.2.2.1;rw [e] at x;exact ⟨r.perm x.1,fun q=>r.done x.1 (x.2 q)⟩
theorem Fz.eq (r:Fz a0 z0 d a z dd) (h0:0<a) (hp:a≤p∧p<z) (hl:¬dd[a-1]! <dd[p]!) (e:partitionEqual ltInt dd a z p=(mid,D)):a<mid∧mid≤z∧Fz a0 z0 d mid z D:=by
 obtain ⟨h1,h2,h3,h4,h5⟩:=round_eq L5 (partitionEqual_holds ltInt) h0 hp.1 hp.2 r.2.1 r.2.2.2.1 (decide_eq_false hl) e;exact ⟨h1,h2,h2,by rw [h3];exact r.2.1,h3.trans r.2.2.1,h4,fun R x s=>let y:=h5 R x s;r.2.2.2.2 R y.1 y.2⟩
theorem Fz.eq' (r:Fz a0 z0 d a z dd) (h0:0<a) (hp:a≤p∧p<z) (hl:¬dd[((a:Int)-1).toNat]! <dd[p]!) (e:partitionEqual ltInt dd a z p=(mid,D)):a<mid∧mid≤z∧Fz a0 z0 d mid z D:=
 r.eq h0 hp (by rw [show ((a:Int)-1).toNat=a-1 by omega] at hl;exact hl) e
theorem Fz.part (r:Fz a0 z0 d a z dd) (hp:a≤p∧p<z) (e:∃q,partition ltInt dd a z p=(mid,q,D)):a≤mid∧mid<z∧D.size=d.size∧z≤D.size∧Below ltInt a mid D∧Below ltInt (mid+1) z D∧
  (∀L,PermIn a mid D L→SortedIn ltInt a mid L→Fz a0 z0 d (mid+1) z L)∧(∀L,PermIn (mid+1) z D L→SortedIn ltInt (mid+1) z L→Fz a0 z0 d a mid L):=by
 obtain ⟨q,e⟩:=e;obtain ⟨h1,h2,h3,h4,h5,h6,h7⟩:=round_part L5 (partition_holds ltInt) hp.1 hp.2 r.2.1 r.2.2.2.1 e;have hz:=r.2.1;refine ⟨h1,h2,h3.trans r.2.2.1,by omega,h4,h5,fun L x s=>?_,fun L x s=>?_⟩
 ·obtain ⟨y1,y2⟩:=h6 L x s
  have:=x.1
  exact ⟨by omega,by omega,by rw [x.1,h3];exact r.2.2.1,y1,fun R x2 s2=>let y:=y2 R x2 s2;r.2.2.2.2 R y.1 y.2⟩
 ·obtain ⟨y1,y2⟩:=h7 L x s
  have:=x.1
  exact ⟨h1,by omega,by rw [x.1,h3];exact r.2.2.1,y1,fun R x2 s2=>let y:=y2 R x2 s2;r.2.2.2.2 R y.1 y.2⟩
theorem UT {D:Array Int} {xs:List Int} (x:PermIn 0 xs.length xs.toArray D) (s:SortedIn ltInt 0 xs.length D):D=(JM xs).toArray:=by
 have y:=sorted_unique_holds (lt:=ltInt) L5 (fun x y h1 h2=>by simp only [ltInt,decide_eq_false_iff_not] at h1 h2;omega) xs.toArray D (by simpa using x) (by simpa using s);rw [JN];apply Array.toList_inj.1;rw [y];congr 1;funext a b;unfold ltInt;simp only [Bool.not_eq_eq_eq_not];by_cases h:a≤b
 ·simp [h]
 ·simp [h];omega
theorem Sj {D d:Array Int} (x:PermIn 0 d.size d D∧SortedIn ltInt 0 d.size D):D=(JM d.toList).toArray:=
 UT (xs:=d.toList) (by simpa using x.1) (by simpa using x.2)
end
end Go.Ns
namespace Go.Ns
open Go.Conc
theorem In {ag:AW→Bool} {ms:List AC} {mo:Int} (hf:∀k,0≤(ms.getD k AC.z).low∧(ms.getD k AC.z).high≤99):∀f i p,Bp p→∀q ∈ A9 ag ms mo f i p,Bp q
 | 0,_,p,hp,q,hq=>by
  unfold A9 at hq;split at hq
  ·rw [List.mem_singleton] at hq;subst hq;exact hp
  ·cases hq
 | f+1,i,p,hp,q,hq=>by
  rw [Cx,List.mem_flatMap] at hq;obtain ⟨n,hn,hq⟩:=hq;rw [HB] at hn
  have:=hf i
  unfold Bq at hq;rw [List.mem_append] at hq;rcases hq with hq | hq
  ·exact In hf f (i+1) _ (hp.setMove (by omega)) q hq
  ·split at hq
   ·exact In hf f (i+1) _ (hp.setMove (by omega)) q hq
   ·cases hq
theorem LO {ag:AW→Bool} {gs:List Good} {ms:List AC} {mo:Int} (hg:∀k,0≤(gs.getD k Good.z).low∧(gs.getD k Good.z).high≤99) (hf:∀k,0≤(ms.getD k AC.z).low∧(ms.getD k AC.z).high≤99) :
  ∀f i p,Bp p→∀q ∈ BU ag gs ms mo f i p,Bp q
 | 0,_,p,hp,q,hq=>In hf _ _ p hp q hq
 | f+1,i,p,hp,q,hq=>by
  rw [Da,List.mem_flatMap] at hq;obtain ⟨n,hn,hq⟩:=hq;rw [HB] at hn
  have:=hg i
  exact LO hg hf f (i+1) _ (hp.setFirst (by omega)) q hq
theorem Gb {d m:Int} {gs:List Good} {ms:List AC} {cs:List AH} (b:BE d m gs ms cs) (mo:Int):∀k,Bp ((AV d gs ms cs mo).getD k AW.zero):=fun k=>by
 by_cases h:k<(AV d gs ms cs mo).length
 ·exact LO (fun j=>⟨(b.gfew j).1,(b.gfew j).2.2.1⟩) (fun j=>⟨(b.few j).1,(b.few j).2.2.1⟩) _ _ _ Bp.zero _ (Cd h)
 ·rw [D4 (by omega)];exact Bp.zero
def CJ (n:Nat) (f:Nat→Int):List Int:=Dc (JM ((List.range n).map f))
theorem Io {n:Nat} {f:Nat→Int} (h:0<n):(List.range n).map f≠[]:=by
 intro e
 have:=congrArg List.length e
 simp at this;omega
section
variable (d m:Int) (gs:List Good) (ms:List AC) (cs:List AH)
def F0 (g dy:Int):Int:=Ao d m gs ms cs [if (decide (0≤g∧g≤(gs.length:Int)-1)) then (0:Int) else 6,if (decide (0≤dy∧dy≤d)) then (0:Int) else 1]
def JO (g dy:Int):List Int:=if F0 d m gs ms cs g dy=0 then CJ (AV d gs ms cs m).length (fun (i:Nat)=>(AM ms ((AV d gs ms cs m).getD ((i:Int)).toNat AW.zero) g dy).1) else []
def DV (mv:Int):Int:=Ao d m gs ms cs [if (decide (0≤mv∧mv≤(ms.length:Int)-1)) then (0:Int) else 6]
def FJ (mv:Int):List Int:=if DV d m gs ms cs mv=0 then CJ (AV d gs ms cs m).length (fun (i:Nat)=>Bz ((AV d gs ms cs m).getD ((i:Int)).toNat AW.zero) (mv).toNat) else []
def Ca (mv:Int):Int:=Ao d m gs ms cs [if (decide ((0≤mv∧mv≤(ms.length:Int)-1)∧(ms.getD (mv).toNat AC.z).kind=0)) then (0:Int) else 6]
def HT (ps:List AW) (i:Nat):Nat:=(ps.filter fun p=>p.lies i).length
def Ke (n l:Nat):Int:=if n=0 then 2 else if n=l then 1 else 0
def CA (mv:Int):Int:=if Ca d m gs ms cs mv=0 then Ke (HT (AV d gs ms cs m) (mv).toNat) (AV d gs ms cs m).length else 0
end
theorem N2 {p:Prop} [Decidable p] {c:Int} (hc:c≠0) {o:List Int} (h:∀k,k<(((if decide p then (0:Int) else c) ::o)).length→(((if decide p then (0:Int) else c) ::o)).getD k 0=0):p:=by
 have:=h 0 (by simp)
 by_cases hp:p
 ·exact hp
 ·simp [hp] at this;exact absurd this hc
theorem N3 {x:Int} {o:List Int} (h:∀k,k<(x ::o).length→(x ::o).getD k 0=0):∀k,k<o.length→o.getD k 0=0:=fun k hk=>by
 have:=h (k+1) (by simp;omega)
 simpa using this
theorem Y8 {p q:Prop} [Decidable p] [Decidable q] {c e:Int} (hc:c≠0) (he:e≠0) {o:List Int} (h:∀k,k<(((if decide p then (0:Int) else c) ::(if decide q then (0:Int) else e) ::o)).length→(((if decide p then (0:Int) else c) ::(if decide q then (0:Int) else e) ::o)).getD k 0=0):p∧q:=
 ⟨N2 hc h,N2 he (N3 h)⟩
theorem own_3 {p q r:Prop} [Decidable p] [Decidable q] [Decidable r] {c e f:Int} (hc:c≠0) (he:e≠0) (hf:f≠0) {o:List Int} (h:∀k,k<(((if decide p then (0:Int) else c) ::(if decide q then (0:Int) else e) ::(if decide r then (0:Int) else f) ::o)).length→(((if decide p then (0:Int) else c) ::(if decide q then (0:Int) else e) ::(if decide r then (0:Int) else f) ::o)).getD k 0=0):p∧q∧r:=
 ⟨N2 hc h,Y8 he hf (N3 h)⟩
theorem HU {α:Type} {l:List α} {k:Nat} (z:α) (h:k<l.length):l.take (k+1)=l.take k++[l.getD k z]:=by
 rw [List.take_add_one,List.getElem?_eq_getElem h,List.getD_eq_getElem?_getD,List.getElem?_eq_getElem h];rfl
theorem lies_t {ps:List AW} {k q i:Nat} (hk:k<ps.length) (h:q=HT (ps.take k) i) (e:(ps.getD k AW.zero).lies i=true):q+1=HT (ps.take (k+1)) i:=by
 unfold HT at *;rw [HU AW.zero hk,List.filter_append,List.length_append,←h,List.filter_cons,if_pos e];rfl
theorem lies_f {ps:List AW} {k q i:Nat} (hk:k<ps.length) (h:q=HT (ps.take k) i) (e:(ps.getD k AW.zero).lies i=false):q=HT (ps.take (k+1)) i:=by
 unfold HT at *;rw [HU AW.zero hk,List.filter_append,List.length_append,←h,List.filter_cons,if_neg (by rw [e];decide)];rfl
theorem PT {d m:Int} {gs:List Good} {ms:List AC} {cs:List AH} {mv:Int} (h:¬Ca d m gs ms cs mv=0):CA d m gs ms cs mv=0:=by unfold CA;rw [if_neg h]
theorem Ip {d m:Int} {gs:List Good} {ms:List AC} {cs:List AH} {mv:Int} {k q:Nat} (h:Ca d m gs ms cs mv=0) (hq:q=HT ((AV d gs ms cs m).take k) (mv).toNat) (hk:(AV d gs ms cs m).length≤k):CA d m gs ms cs mv=Ke q (AV d gs ms cs m).length:=by
 unfold CA;rw [if_pos h,hq,List.take_of_length_le hk]
theorem JP {ms:List AC} {p:AW} {g dy:Int} (hp:Bp p):∀(f k:Nat) (n low B:Int),-B≤n∧n≤B→-(B+99*(f:Int))≤(Ce ms p g dy f k n low).1∧(Ce ms p g dy f k n low).1≤B+99*(f:Int)
 | 0,k,n,low,B,h=>by unfold Ce;simpa using h
 | f+1,k,n,low,B,h=>by
  unfold Ce;split
  ·show-(B+99*((f+1:Nat):Int))≤n∧n≤B+99*((f+1:Nat):Int);omega
  ·have:=JP (ms:=ms) (g:=g) (dy:=dy) hp f (k+1) (Fo ms p g k n) (Ej ms k low (Fo ms p g k n)) (B+99) (by
    unfold Fo
    have:=LJ (k:=(ms.getD k AC.z).kind.toNat) (G2 hp k)
    split <;> omega)
   omega
theorem GU {ms:List AC} {p:AW} {g dy:Int} (hp:Bp p) (hm:ms.length≤6): -693≤(AM ms p g dy).1∧(AM ms p g dy).1≤693:=by
 have h0:=hp.1 g.toNat
 have:=JP (ms:=ms) (g:=g) (dy:=dy) hp ms.length 0 (p.first g.toNat) (p.first g.toNat) 99 (by omega)
 unfold AM;omega
theorem I8 {x:Int}:∀(l acc:List Int),x ∈ l.foldl Gt acc→x ∈ acc∨x ∈ l
 | [],acc,h=>.inl h
 | y ::l,acc,h=>by
  rcases I8 l _ h with h | h
  ·unfold Gt at h;split at h
   ·exact .inl h
   ·rcases List.mem_append.1 h with h | h
    ·exact .inl h
    ·rw [List.mem_singleton] at h;exact .inr (by rw [h];exact List.mem_cons_self ..)
  ·exact .inr (List.mem_cons_of_mem _ h)
theorem JQ:∀(l acc:List Int),acc≠[]∨l≠[]→l.foldl Gt acc≠[]
 | [],acc,h=>by
  rcases h with h | h
  ·exact h
  ·exact absurd rfl h
 | y ::l,acc,h=>JQ l _ (.inl fun e=>by
   have:=N0 acc y
   rw [e] at this;cases this)
theorem IG {n:Nat} (f:Nat→Int) (h:0<n):0<(CJ n f).length:=by
 have:CJ n f≠[]:=JQ _ _ (.inr (Sb (Io h)))
 exact List.length_pos_iff.2 this
theorem Jn {n:Nat} {f:Nat→Int} {x:Int} (h:x ∈ CJ n f):∃i,i<n∧f i=x:=by
 rcases I8 _ _ h with h | h
 ·cases h
 ·rw [JN] at h
  have:=List.mem_mergeSort.1 h
  obtain ⟨i,hi,e⟩:=List.mem_map.1 this;exact ⟨i,List.mem_range.1 hi,e⟩
def Bb (l:List Int):Int:=l.getD 0 0
def Cg (l:List Int):Int:=l.getD ((l.length:Int)-1).toNat 0
theorem UU {n:Nat} {f:Nat→Int} {A B:Int} (h:∀i,A≤f i∧f i≤B) (hn:0<n):(A≤Bb (CJ n f)∧Bb (CJ n f)≤B)∧A≤Cg (CJ n f)∧Cg (CJ n f)≤B:=by
 have hp:=IG f hn;have q:∀k,k<(CJ n f).length→A≤(CJ n f).getD k 0∧(CJ n f).getD k 0≤B:=fun k hk=>by
  obtain ⟨i,_,e⟩:=Jn (Cd (d:=0) hk);rw [←e];exact h i
 exact ⟨q 0 hp,q _ (by omega)⟩
def CQ (ms:List AC) (p:AW) (g a b:Int):Nat→Int
 | 0=>0
 | k+1=>CQ ms p g a b k+(if ((ms.getD k AC.z).kind=2∧(ms.getD k AC.z).good=g)∧a≤(ms.getD k AC.z).day∧(ms.getD k AC.z).day≤b then Bz p k else 0)
theorem LP {ms:List AC} {p:AW} {g a b:Int} (hp:Bp p):∀k:Nat,0≤CQ ms p g a b k∧CQ ms p g a b k≤99*(k:Int)
 | 0=>by unfold CQ;omega
 | k+1=>by
  have:=LP (ms:=ms) (g:=g) (a:=a) (b:=b) hp k
  have:=G2 hp k
  unfold CQ;split <;> omega
def CL (gs:List Good) (ms:List AC) (p:AW) (dy:Int):Nat→Int
 | 0=>0
 | k+1=>CL gs ms p dy k+(gs.getD k Good.z).cost*(AM ms p (k:Int) dy).1
theorem GI {a b A B:Int} (ha:0≤a∧a≤A) (hb: -B≤b∧b≤B): -(A*B)≤a*b∧a*b≤A*B:=by
 have hB:0≤B:=by omega
 have e1:a*B≤A*B:=Int.mul_le_mul_of_nonneg_right ha.2 hB;have e2:a*b≤a*B:=Int.mul_le_mul_of_nonneg_left hb.2 ha.1;have e3:a*(-B)≤a*b:=Int.mul_le_mul_of_nonneg_left hb.1 ha.1;rw [Int.mul_neg] at e3;omega
theorem KB {gs:List Good} {ms:List AC} {p:AW} {dy:Int} (hp:Bp p) (hm:ms.length≤6) (hc:∀k,0≤(gs.getD k Good.z).cost∧(gs.getD k Good.z).cost≤999):∀k:Nat,-(692307*(k:Int))≤CL gs ms p dy k∧CL gs ms p dy k≤692307*(k:Int)
 | 0=>by unfold CL;omega
 | k+1=>by
  have:=KB (dy:=dy) hp hm hc k
  have:=GI (hc k) (GU (g:=(k:Int)) (dy:=dy) hp hm)
  unfold CL;omega
theorem BE.costs {d m:Int} {gs:List Good} {ms:List AC} {cs:List AH} (b:BE d m gs ms cs):∀k,0≤(gs.getD k Good.z).cost∧(gs.getD k Good.z).cost≤999:=fun k=>by
 by_cases h:k<gs.length
 ·exact (b.good' h).1
 ·rw [D4 (by omega)];decide
section
variable (d m:Int) (gs:List Good) (ms:List AC) (cs:List AH)
def FK (g a b:Int):Int:=Ao d m gs ms cs [if (decide (0≤g∧g≤(gs.length:Int)-1)) then (0:Int) else 6,if (decide (1≤a∧a≤d)) then (0:Int) else 1,if (decide (a≤b∧b≤d)) then (0:Int) else 1]
def WS (g a b:Int):List Int:=CJ (AV d gs ms cs m).length (fun (i:Nat)=>CQ ms ((AV d gs ms cs m).getD ((i:Int)).toNat AW.zero) g a b ms.length)
def Ff (g a b:Int):Int:=if FK d m gs ms cs g a b=0 then Bb (WS d m gs ms cs g a b) else 0
def Fg (g a b:Int):Int:=if FK d m gs ms cs g a b=0 then Cg (WS d m gs ms cs g a b) else 0
def Ea (dy:Int):Int:=Ao d m gs ms cs [if (decide (0≤dy∧dy≤d)) then (0:Int) else 1]
def Sm (dy:Int):List Int:=CJ (AV d gs ms cs m).length (fun (i:Nat)=>CL gs ms ((AV d gs ms cs m).getD ((i:Int)).toNat AW.zero) dy gs.length)
def EK (dy:Int):Int:=if Ea d m gs ms cs dy=0 then Bb (Sm d m gs ms cs dy) else 0
def EL (dy:Int):Int:=if Ea d m gs ms cs dy=0 then Cg (Sm d m gs ms cs dy) else 0
end
def GJ (d:Int) (ms:List AC) (ps:List AW) (g:Int):List Int:=CJ ps.length (fun (i:Nat)=>(AM ms (ps.getD ((i:Int)).toNat AW.zero) g d).1)
theorem Sn {d:Int} {ms:List AC} {ps:List AW} {g:Int} (hp:∀k,Bp (ps.getD k AW.zero)) (hm:ms.length≤6) (hn:0<ps.length):(-693≤Bb (GJ d ms ps g)∧Bb (GJ d ms ps g)≤693)∧-693≤Cg (GJ d ms ps g)∧Cg (GJ d ms ps g)≤693:=
 UU (fun _=>GU (hp _) hm) hn
section
variable (d m:Int) (gs:List Good) (ms:List AC) (cs:List AH)
def Eb (g r:Int):Int:=Ao d m gs ms cs [if (decide (0≤g∧g≤(gs.length:Int)-1)) then (0:Int) else 6,if (decide (1≤r∧r≤99)) then (0:Int) else 1]
def EM (g r:Int):Int:=if Eb d m gs ms cs g r=0 then (Bb (GJ d ms (AV d gs ms cs m) g)).tdiv r else 0
def EN (g r:Int):Int:=if Eb d m gs ms cs g r=0 then (Cg (GJ d ms (AV d gs ms cs m) g)).tdiv r else 0
end
theorem Aa.offKnown {α:Type} {h0 h:GH} {v:Value} {t:TypeId} {n:Nat} {enc:α→Array Value} {xs:List α} {ms:List AC} {ps:List AW} {r:Nat} (x:Aa h0 h v t n enc xs) (m:At ms ps r h):BL v r:=fun e=>by
 obtain ⟨c',h1⟩:=x.cellsAt r e;exact m.neCells h1 rfl
section
variable (d m:Int) (gs:List Good) (ms:List AC) (cs:List AH)
def Hs (ls:List Int) (r:Int):Int:=Ao d m gs ms cs [BG ls (gs.length:Int),if (decide (0≤r∧r≤99)) then (0:Int) else 1]
def GK (ls:List Int) (r:Int) (k:Nat):Int:=(max 0 ((ls.getD k 0)*r-(Bb (GJ d ms (AV d gs ms cs m) (k:Int))))+(gs.getD k Good.z).pack-1) / ((gs.getD k Good.z).pack)
def Ev (ls:List Int) (r:Int):Nat→Int
 | 0=>0
 | k+1=>Ev ls r k+(GK d m gs ms cs ls r k)*((gs.getD k Good.z).pack)*((gs.getD k Good.z).cost)
def Wy (ls:List Int) (r:Int):List Int:=if Hs d m gs ms cs ls r=0 then (List.range gs.length).map (GK d m gs ms cs ls r) else []
def NB (ls:List Int) (r:Int):Int:=if Hs d m gs ms cs ls r=0 then Ev d m gs ms cs ls r gs.length else 0
end
theorem RV {d m:Int} {gs:List Good} {ms:List AC} {cs:List AH} {ls:List Int} {r:Int} {k:Nat} (hl:0≤ls.getD k 0∧ls.getD k 0≤99) (hr:0≤r∧r≤99) (hp:1≤(gs.getD k Good.z).pack∧(gs.getD k Good.z).pack≤20)
  (hs: -693≤Bb (GJ d ms (AV d gs ms cs m) (k:Int))∧Bb (GJ d ms (AV d gs ms cs m) (k:Int))≤693):(0≤GK d m gs ms cs ls r k∧GK d m gs ms cs ls r k≤10600):=by
 have h1:=GI (a:=ls.getD k 0) (b:=r) (A:=99) (B:=99) hl (by omega);unfold GK;have h0:0≤max 0 ((ls.getD k 0)*r-(Bb (GJ d ms (AV d gs ms cs m) (k:Int))))+(gs.getD k Good.z).pack-1:=by omega
 refine ⟨Int.ediv_nonneg h0 (by omega),Int.le_trans (Int.ediv_le_self _ h0) (by omega)⟩
theorem JR {p a c:Int} (hp:0≤p∧p≤10600) (ha:1≤a∧a≤20) (hc:0≤c∧c≤999):(0≤p*a∧p*a≤212000)∧0≤p*a*c∧p*a*c≤211788000:=by
 have h1:=GI (a:=p) (b:=a) (A:=10600) (B:=20) hp (by omega);have h2:0≤p*a:=Int.mul_nonneg hp.1 (by omega);have h3:=GI (a:=p*a) (b:=c) (A:=212000) (B:=999) (by omega) (by omega);have h4:0≤p*a*c:=Int.mul_nonneg h2 hc.1;omega
theorem So {d m:Int} {gs:List Good} {ms:List AC} {cs:List AH} {ls:List Int} {r:Int} {k:Nat} (hp:0≤GK d m gs ms cs ls r k∧GK d m gs ms cs ls r k≤10600) (ha:1≤(gs.getD k Good.z).pack∧(gs.getD k Good.z).pack≤20) (hc:0≤(gs.getD k Good.z).cost∧(gs.getD k Good.z).cost≤999)
  (h:0≤Ev d m gs ms cs ls r k∧Ev d m gs ms cs ls r k≤211788000*(k:Int)):0≤Ev d m gs ms cs ls r (k+1)∧Ev d m gs ms cs ls r (k+1)≤211788000*((k+1:Nat):Int):=by
 have:=JR hp ha hc
 unfold Ev;omega
theorem Y9 {l:List Int} {n:Int} (h:¬(l.length:Int)=n):(Value.int .i64 2)=.int .i64 (BG l n):=by unfold BG;rw [if_pos h]
theorem ZA {l:List Int} {n:Int} (h:(l.length:Int)=n):(Value.int .i64 (if (!(l.any (fun x=>decide (¬(0≤x∧x≤99))))) then (0:Int) else 1))=.int .i64 (BG l n):=by
 have e:BG l n=if l.any (fun x=>decide (¬(0≤x∧x≤99))) then 1 else 0:=by unfold BG;rw [if_neg (fun q=>q h)]
 rw [e];cases l.any (fun x=>decide (¬(0≤x∧x≤99))) <;> rfl
section
variable {P:Program} {E:HI P} {σ:Nat→Value} {ds:List Deferred} {h:GH} {T:(Nat→Value)→List Deferred→GH→Prop}
variable {dst:Option Nat} {ty:TypeId} {pos:String} {af:Array Edge} {gd:Option (Nat×Bool)}
def ZB (P:Program) (s:TypeId) (f:Nat) (cs:Array Value):Option Value:=match P.underlying s with
 | some (.struct fields)=>match fields[f]? with
  | some fl=>IA P fl.type cs fl.offset
  | none=>none
 | _=>none
theorem Wz {t:TypeId} {x:Operand} {f:Nat} {cs:Array Value} {v:Value} (hx:AY σ x=.agg cs) (hp:ZB P t f cs=some v) (k:T (putS σ dst v) ds h):Br E ⟨dst,.field t x f,ty,pos,af,gd⟩ σ ds h T:=by
 refine Yh (v:=v) ?_ k;rw [hx];unfold ZB at hp;unfold Instr.field;cases hu:P.underlying t with
 | none=>rw [hu] at hp;cases hp
 | some d=>
  rw [hu] at hp;cases d <;> first | (cases hp;done) | skip
  rename_i fields
  refine AI _ _ (A0 hu ?_);simp only at hp ⊢;cases hf:fields[f]? with
  | none=>rw [hf] at hp;cases hp
  | some fl=>
   rw [hf] at hp;simp only at hp ⊢;exact IB hp ⟨rfl,rfl⟩
theorem WT {xt yt:TypeId} {x y:Operand} {a b:Int} (hx:AY σ x=.int .i64 a) (hy:AY σ y=.int .i64 b) (ha: -9223372036854775807≤a) (ha':a≤9223372036854775807) (hb:0<b) (k:T (putS σ dst (.int .i64 (a.tdiv b))) ds h) :
  Br E ⟨dst,.binOp .quo xt x y yt,ty,pos,af,gd⟩ σ ds h T:=Er hx hy (by
 show (if b=0 then _ else (pure (Value.int .i64 (IntKind.i64.wrap (a.tdiv b))):Sem Value))=_;rw [if_neg (by omega)];have h1:(a.tdiv b).natAbs≤a.natAbs:=by rw [Int.natAbs_tdiv];exact Nat.div_le_self _ _
 rw [IntWalk.i64_in _ (by omega)]) k
end
def FL (hB:GH) (ms:List AC) (pasts:List AW) (r:Nat) (h h':GH):Prop:=Bn (fun b=>b=r) h h'∧(At ms pasts r h→At ms pasts r h')∧(hB.Le h→hB.Le h')
section
variable {hB h hc h':GH} {ms:List AC} {pasts:List AW} {r:Nat}
theorem FL.refl (h:GH):FL hB ms pasts r h h:=⟨Bn.refl _ _,id,id⟩
theorem FL.trans (a b c:GH) (x:FL hB ms pasts r a b) (y:FL hB ms pasts r b c):FL hB ms pasts r a c:=⟨x.1.trans (fun _ q=>.inl q) y.1,fun z=>y.2.1 (x.2.1 z),fun z=>y.2.2 (x.2.2 z)⟩
theorem FL.ofRes (m:JC hB ms pasts r h h'):FL hB ms pasts r h h':=⟨m.2.1,fun _=>m.1,fun _=>m.2.2⟩
theorem CY.rel (y:CY hB ms pasts r h hc) (m:FL hB ms pasts r hc h'):CY hB ms pasts r h h':=⟨m.2.1 y.ok,y.keep.trans (fun _ q=>.inl q) m.1,m.2.2 y.base⟩
theorem CY.callDel (y:CY hB ms pasts r h hc) (l:hB.Le (hc.del r)) (m:JC (hc.del r) ms pasts r hc h'):CY hB ms pasts r h h':=⟨m.1,y.keep.trans (fun _ q=>.inl q) m.2.1,l.trans m.2.2⟩
end
section
variable {P:Program} {E:HI P} {σ:Nat→Value} {ds:List Deferred} {h hB:GH} {ms:List AC} {pasts:List AW} {r:Nat}
theorem P9 {id:Nat} {l:List Oper} {Q:Post} (n:Nat) (cls:List (List Nat)) (Φ:List PK) (hm:P.follows .mixedOrders=true) (ok:NQ E.N l n cls=true) (mono:FZ (FL hB ms pasts r) Φ) (x:LD (FL hB ms pasts r) E l n Φ σ ds h Q n 0 l cls) :
  Tr E (.region id l.toArray true) σ ds h Q:=SD FL.refl FL.trans n cls Φ hm ok mono x
end
theorem D5.leOf {h0 h:GH} (k:D5 (fun b=>h0 b=none) h0 h):h0.Le h:=fun b p o hb=>k.1 b p o hb fun (e:h0 b=none)=>by rw [hb] at e;cases e
theorem Aa.offTy {α:Type} {h0 h:GH} {v:Value} {t T:TypeId} {n:Nat} {enc:α→Array Value} {xs:List α} (x:Aa h0 h v t n enc xs) {r:Nat} {p:Bool} {c:Array Value} {f:Nat×Nat} (hr:h r=some (p,.cells c T f)) (ne:t≠T):BL v r:=fun e=>by
 obtain ⟨c',h1⟩:=x.cellsAt r e;rw [h1] at hr;simp only [Option.some.injEq,Prod.mk.injEq,Obj.cells.injEq] at hr;exact ne hr.2.2.1
section
variable {P:Program} {E:HI P} {σ:Nat→Value} {ds:List Deferred} {h:GH} {T:(Nat→Value)→List Deferred→GH→Prop}
variable {dst:Option Nat} {ty:TypeId} {pos:String} {af:Array Edge} {gd:Option (Nat×Bool)}
end
section
variable {h h':GH} {q r:Nat} {M:Int→Option Int}
theorem FB.keepNum (x:FB h q Ee Ee M) (k:Bn (fun b=>b=r) h h') (hq:q≠r):FB h' q Ee Ee M:=by
 obtain ⟨es,clk,h1,y⟩:=x;obtain ⟨o,h2,h3⟩:=k q _ _ h1 hq;rcases h3 with rfl | ⟨h3,_⟩
 ·exact ⟨es,clk,h2,y⟩
 ·cases h3
end
section
variable {P:Program} {E:HI P} {σ:Nat→Value} {ds:List Deferred} {h:GH} {T:(Nat→Value)→List Deferred→GH→Prop}
variable {dst:Option Nat} {ty:TypeId} {pos:String} {af:Array Edge} {gd:Option (Nat×Bool)}
theorem N4 {t kt vt:TypeId} {x ix:Operand} {r d:Nat} {M:Int→Option Int} {a:Int} (ht:J5 P t=some (kt,vt)) (hx:AY σ x=.map (some r)) (hk:AY σ ix=.int .i64 a) (hm:FB h r Ee Ee M) (hd:Nat.ble (d+1) 10000=true)
  (hc:∀a,Ym P (d+1) kt (Ee a)=true) (he:∀a b,NU P (d+1) kt (Ee a) (Ee b)=some (a==b)) (hz:(P.info? vt).bind (·.zero)=some (.int .i64 0))
  (k:T (putS σ dst (.int .i64 ((M a).getD 0))) ds h):Br E ⟨dst,.lookup t x ix false,ty,pos,af,gd⟩ σ ds h T:=by
 refine Px (ek:=Ee) (ev:=Ee) (a:=a) (z:=.int .i64 0) ht hx hk hm hd (hc _) (fun b=>he a b) hz ?_;cases hM:M a <;> (rw [hM] at k;exact k)
theorem W0 {t kt vt:TypeId} {om ok ox:Operand} {r d:Nat} {M:Int→Option Int} {a n:Int} (ht:J5 P t=some (kt,vt)) (hm':AY σ om=.map (some r)) (hk:AY σ ok=.int .i64 a) (hv:AY σ ox=.int .i64 n) (hm:FB h r Ee Ee M) (hd:Nat.ble (d+1) 10000=true)
  (hc:∀a,Ym P (d+1) kt (Ee a)=true) (he:∀a b,NU P (d+1) kt (Ee a) (Ee b)=some (a==b)) (hs:∀a,Instr.sameBits 10000 (Ee a) (Ee a)=true)
  (k:∀h',FB h' r Ee Ee (fun b=>if b=a then some n else M b)→(∀b,b≠r→h' b=h b)→T (putS σ dst undef) ds h'):Br E ⟨dst,.mapUpdate t om ok ox,ty,pos,af,gd⟩ σ ds h T:=
 LE (a:=a) (v:=n) (ek:=Ee) (ev:=Ee) ht hm' hk hv hm hd (hc _) (fun b=>he a b) (hs _) k
end
theorem RW (a:Int):Instr.sameBits 10000 (Ee a) (Ee a)=true:=by
 show Instr.sameBits (9999+1) (Value.int .i64 a) (Value.int .i64 a)=true;unfold Instr.sameBits;simp
def Fr (f:Nat→Int):Nat→Int→Option Int
 | 0=>fun _=>none
 | k+1=>fun b=>if b=f k then some ((Fr f k (f k)).getD 0+1) else Fr f k b
theorem JS (f:Nat→Int):∀(k:Nat) (b:Int),0≤(Fr f k b).getD 0∧(Fr f k b).getD 0≤(k:Int)
 | 0,b=>by simp [Fr]
 | k+1,b=>by
  have h1:=JS f k b;have h2:=JS f k (f k);unfold Fr;split
  ·show 0≤(Fr f k (f k)).getD 0+1∧(Fr f k (f k)).getD 0+1≤((k+1:Nat):Int);omega
  ·omega
def IH (f:Nat→Int):Nat→Int
 | 0=>0
 | k+1=>max (IH f k) ((Fr f (k+1) (f k)).getD 0)
def D7 (w:Nat→Int) (n:Int):Nat→Int×Int
 | 0=>(-1,n)
 | k+1=>if w k<(D7 w n k).2 then ((k:Int),w k) else D7 w n k
section
variable (d m:Int) (gs:List Good) (ms:List AC) (cs:List AH)
def Jo:Int:=Ao d m gs ms cs []
def Gn (g:Nat):Int:=IH (fun i=>(AM ms ((AV d gs ms cs m).getD ((i:Int)).toNat AW.zero) (g:Int) d).1) (AV d gs ms cs m).length
def NC:Int:=if Jo d m gs ms cs=0 then (D7 (Gn d m gs ms cs) ((AV d gs ms cs m).length:Int) gs.length).1 else 0
def LQ:Int:=if Jo d m gs ms cs=0 then (D7 (Gn d m gs ms cs) ((AV d gs ms cs m).length:Int) gs.length).2 else 0
end
end Go.Ns
namespace Go.Ns
open Go.Conc
open Classical in
noncomputable def GH.delS (h:GH) (X:Nat→Prop):GH:=fun b=>if X b then none else h b
section
variable {h h0 h':GH} {X:Nat→Prop}
theorem GH.delS_in {b:Nat} (x:X b):h.delS X b=none:=if_pos x
theorem GH.delS_ne {b:Nat} (x:¬X b):h.delS X b=h b:=if_neg x
theorem GH.delS_le (h:GH) (X:Nat→Prop):(h.delS X).Le h:=fun b p o hb=>by
 by_cases e:X b
 ·rw [GH.delS_in e] at hb;cases hb
 ·rw [GH.delS_ne e] at hb;exact ⟨o,hb,.inl rfl⟩
theorem GH.Le.delS (l:h0.Le h) (hX:∀b,X b→h0 b=none):h0.Le (h.delS X):=fun b p o hb=>by
 have e:¬X b:=fun x=>by rw [hX b x] at hb;cases hb
 rw [GH.delS_ne e];exact l b p o hb
theorem Ac.delS {b off n:Nat} {vs:Array Value} (x:Ac h b off n vs) (e:¬X b):Ac (h.delS X) b off n vs:=x.same (GH.delS_ne e)
theorem Aa.slDelS {α:Type} {v:Value} {t:TypeId} {n:Nat} {enc:α→Array Value} {xs:List α} (x:Aa h0 h v t n enc xs) (f:∀b,B9 v=some b→¬X b):AO (h.delS X) v n enc xs:=
 Aa.sl (h0:=h0) (x.keep fun b o hb ho=>by rw [GH.delS_ne (f b hb)];exact ho)
theorem Aa.rebase {α:Type} {h1:GH} {v:Value} {t:TypeId} {n:Nat} {enc:α→Array Value} {xs:List α} (x:Aa h0 h v t n enc xs) (f:∀b,B9 v=some b→h1 b=none):Aa h1 h v t n enc xs:=by
 rcases x with x | ⟨b,cap,c,rfl,h2,h3⟩
 ·exact .inl x
 ·exact .inr ⟨b,cap,c,rfl,f b rfl,h3⟩
end
def mkD (d:Nat):Deferred:={ target:=.collected d,args:=#[] }
def HV (h0 h:GH) (ds:List Deferred):Prop:=∃l:List Nat,ds=l.map mkD∧l.Nodup∧∀d ∈ l,h0 d=none∧h d=some (true,.deferred (some []))
theorem HV.nil (h0 h:GH):HV h0 h []:=⟨[],rfl,List.nodup_nil,fun _ hd=>by cases hd⟩
theorem HV.le {h0 h h':GH} {ds:List Deferred} (m:HV h0 h ds) (l:h.Le h'):HV h0 h' ds:=by
 obtain ⟨L,e,n,x⟩:=m;exact ⟨L,e,n,fun d hd=>⟨(x d hd).1,l.keep (x d hd).2 rfl⟩⟩
theorem HV.cons {h0 h h':GH} {ds:List Deferred} {d:Nat} (m:HV h0 h ds) (l:h.Le h') (hn:h d=none) (h0n:h0 d=none) (hd:h' d=some (true,.deferred (some []))):HV h0 h' ({ target:=.collected d,args:=#[] } ::ds):=by
 obtain ⟨L,rfl,n,x⟩:=m;refine ⟨d ::L,rfl,List.nodup_cons.2 ⟨fun hm=>?_,n⟩,fun b hb=>?_⟩
 ·rw [(x d hm).2] at hn;cases hn
 ·rcases List.mem_cons.1 hb with rfl | hb
  ·exact ⟨h0n,hd⟩
  ·exact ⟨(x b hb).1,l.keep (x b hb).2 rfl⟩
def SameM (h h':GH):Prop:=∀b,h b≠some (true,.deferred (some []))→h' b=h b
theorem AO.sameM {α:Type} {h h':GH} {v:Value} {n:Nat} {enc:α→Array Value} {xs:List α} (x:AO h v n enc xs) (s:SameM h h'):AO h' v n enc xs:=by
 obtain ⟨a,cap,hv,hc,hm,he⟩:=x;refine ⟨a,cap,hv,hc,hm,fun i hi=>?_⟩;obtain ⟨b,off,h1,h2⟩:=he i hi;refine ⟨b,off,h1,h2.same (s b fun e=>?_)⟩;obtain ⟨p,c,t,z,q,_⟩:=h2;rw [e] at q;cases q
theorem N5 {P:Program} {fn:Func} {σ:Nat→Value} {R:Value→GH→Prop} {h0:GH}:∀{ds:List Deferred} {h:GH},HV h0 h ds→h0.Le h→(∀h',SameM h h'→h0.Le h'→Gx P fn σ R [] h')→Gx P fn σ R ds h:=by
 intro ds h ⟨l,e,n,x⟩ lB k;subst e
 induction l generalizing h with
 | nil=>exact k h (fun _ _=>rfl) lB
 | cons d l ih=>
  have hd:=x d (List.mem_cons_self ..);refine ⟨d,rfl,_,hd.2,rfl,?_⟩;have nd:=List.nodup_cons.1 n;have ho:∀b,b≠d→(h.set d true (.deferred none)) b=h b:=fun b hb=>GH.set_ne _ _ _ hb;refine ih nd.2 (fun b hb=>?_) (lB.upd hd.1 ho) fun h' s l'=>k h' (fun b hb=>?_) l'
  ·have:=x b (List.mem_cons_of_mem _ hb)
   exact ⟨this.1,(ho b fun e=>nd.1 (e▸hb)).trans this.2⟩
  ·have e:b≠d:=fun e=>hb (e▸hd.2);rw [s b (by rw [ho b e];exact hb),ho b e]
theorem N6 {α:Type} {enc:α→Array Value} {n:Nat}:∀{xs:List α},(∀x ∈ xs,(enc x).size=n)→∀(i:Nat) (z:α),i<xs.length→DH enc xs=DH enc (xs.take i)++(enc (xs.getD i z)).toList++DH enc (xs.drop (i+1))
 | [],_,i,z,h=>by simp at h
 | y ::xs,hn,0,z,h=>by simp [DH]
 | y ::xs,hn,i+1,z,h=>by
  have:=N6 (fun x hx=>hn x (List.mem_cons_of_mem _ hx)) i z (by simpa using h)
  show (enc y).toList++DH enc xs=((enc y).toList++DH enc (xs.take i))++(enc (xs.getD i z)).toList++DH enc (xs.drop (i+1));rw [this];simp only [List.append_assoc]
theorem Sr {α:Type} {enc:α→Array Value}:∀{xs:List α} (i:Nat) (x:α),i<xs.length→DH enc (xs.set i x)=DH enc (xs.take i)++(enc x).toList++DH enc (xs.drop (i+1))
 | [],i,x,h=>by simp at h
 | y ::xs,0,x,h=>by simp [DH]
 | y ::xs,i+1,x,h=>by
  have:=Sr (enc:=enc) (xs:=xs) i x (by simpa using h)
  show (enc y).toList++DH enc (xs.set i x)=((enc y).toList++DH enc (xs.take i))++(enc x).toList++DH enc (xs.drop (i+1));rw [this];simp only [List.append_assoc]
theorem Aa.put {α:Type} {h0 h h':GH} {t:TypeId} {n cap b i dl:Nat} {enc:α→Array Value} {xs:List α} {c:Array Value} {vs:List Value} {x':α} (z:α) (x:Aa h0 h (.slice (some ⟨b,0,none⟩) xs.length cap) t n enc xs) (hb:h b=some (true,.cells c t (0,0)))
  (hi:i<xs.length) (hz:dl+vs.length≤n) (heq:B4 (enc (xs.getD i z)) dl vs=enc x') (hb':h' b=some (true,.cells (B4 c (i*n+dl) vs) t (0,0))):Aa h0 h' (.slice (some ⟨b,0,none⟩) xs.length cap) t n enc (xs.set i x'):=by
 rcases x with ⟨e,_⟩ | ⟨b1,cap1,c1,e,f0,f1,f2,f3,f4,f5,f6⟩
 ·cases e
 simp only [Value.slice.injEq,Option.some.injEq,Addr.mk.injEq] at e;obtain ⟨⟨rfl,_⟩,_,rfl⟩:=e;rw [hb] at f1;simp only [Option.some.injEq,Prod.mk.injEq,Obj.cells.injEq,true_and] at f1;obtain ⟨rfl,_⟩:=f1;have hx:(enc (xs.getD i z)).size=n:=f6 _ (Cd hi);have hx':(enc x').size=n:=by rw [←heq,GR];exact hx
 refine .inr ⟨_,_,_,by rw [List.length_set],f0,hb',by rw [GR];exact f2,by rw [List.length_set];exact f3,by rw [List.length_set];exact f4,?_,fun y hy=>?_⟩
 ·rw [List.length_set];have hA:(DH enc (xs.take i)).length=i*n:=by
   rw [EE (n:=n) (fun y hy=>f6 y (List.mem_of_mem_take hy)),List.length_take];congr 1;omega
  have hlen:(DH enc xs).length=xs.length*n:=EE f6;have hmul:i*n+n≤xs.length*n:=by rw [←Nat.succ_mul];exact Nat.mul_le_mul_right n hi
  have hcap:xs.length*n≤c.size:=by rw [f2];exact Nat.mul_le_mul_right n f3
  have hc:c.toList=DH enc xs++c.toList.drop (xs.length*n):=by rw [←f5,List.take_append_drop]
  have hB:(enc x').toList=(enc (xs.getD i z)).toList.take dl++vs++(enc (xs.getD i z)).toList.drop (dl+vs.length):=by rw [←heq,ES _ _ _ (by omega)]
  have hBl:(enc (xs.getD i z)).toList.length=n:=by rw [Array.length_toList];exact hx
  have hC:(DH enc (xs.take i)).length+n+(DH enc (xs.drop (i+1))).length=xs.length*n:=by
   rw [←hlen];conv=>rhs;rw [N6 f6 i z hi]
   rw [List.length_append,List.length_append,hBl]
  rw [ES _ _ _ (by omega),Sr i x' hi,hB,hc,N6 f6 i z hi];generalize enc (xs.getD i z)=B at *;generalize DH enc (xs.take i)=A at *;generalize DH enc (xs.drop (i+1))=C at *;generalize c.toList.drop (xs.length*n)=R at *;have e1:(A++B.toList++C++R).take (i*n+dl)=A++B.toList.take dl:=by
   rw [List.append_assoc,List.append_assoc,←hA,List.take_length_add_append,List.take_append_of_le_length (by omega)]
  have e2:(A++B.toList++C++R).drop (i*n+dl+vs.length)=B.toList.drop (dl+vs.length)++C++R:=by
   rw [List.append_assoc,List.append_assoc,show i*n+dl+vs.length=A.length+(dl+vs.length) by omega,List.drop_length_add_append,List.drop_append_of_le_length (by omega),List.append_assoc]
  rw [e1,e2];have e3:A++B.toList.take dl++vs++(B.toList.drop (dl+vs.length)++C++R)=(A++(B.toList.take dl++vs++B.toList.drop (dl+vs.length))++C)++R:=by simp only [List.append_assoc]
  rw [e3,List.take_left' ?_];simp only [List.length_append,List.length_take,List.length_drop,hBl];omega
 ·rcases List.mem_or_eq_of_mem_set hy with h | rfl
  ·exact f6 y h
  ·exact hx'
theorem Aa.opened {α:Type} {h0 h:GH} {v:Value} {t:TypeId} {n k:Nat} {enc:α→Array Value} {xs:List α} (x:Aa h0 h v t n enc xs) (hk:k<xs.length):∃b cap c,v=.slice (some ⟨b,0,none⟩) xs.length cap∧h b=some (true,.cells c t (0,0)):=by
 rcases x with ⟨_,rfl⟩ | ⟨b,cap,c,h1,_,h2,_⟩
 ·simp at hk
 ·exact ⟨b,cap,c,h1,h2⟩
theorem Aa.room {α:Type} {h0 h:GH} {t:TypeId} {n cap b k:Nat} {enc:α→Array Value} {xs:List α} {c:Array Value} (x:Aa h0 h (.slice (some ⟨b,0,none⟩) xs.length cap) t n enc xs) (hb:h b=some (true,.cells c t (0,0))) (hk:k<xs.length):k*n+n≤c.size:=by
 rcases x with ⟨e,_⟩ | ⟨b1,cap1,c1,e,f0,f1,f2,f3,_⟩
 ·cases e
 simp only [Value.slice.injEq,Option.some.injEq,Addr.mk.injEq] at e;obtain ⟨⟨rfl,_⟩,_,rfl⟩:=e;rw [hb] at f1;simp only [Option.some.injEq,Prod.mk.injEq,Obj.cells.injEq,true_and] at f1;obtain ⟨rfl,_⟩:=f1;rw [f2,←Nat.succ_mul];exact Nat.mul_le_mul_right n (by omega)
def clearAt (ms:List AC) (i:Nat):List AC:=ms.set i { ms.getD i AC.z with low:=0,high:=0 }
def Cs (ms:List AC) (l:List Int):List AC:=l.foldl (fun ms i=>clearAt ms i.toNat) ms
theorem Ss {ms:List AC} {l:List Int} {k:Nat} (hk:k<l.length):Cs ms (l.take (k+1))=clearAt (Cs ms (l.take k)) (l.getD k 0).toNat:=by
 unfold Cs;rw [HU 0 hk,List.foldl_append];rfl
theorem F1 (ms:List AC) (i:Nat):(clearAt ms i).length=ms.length:=by unfold clearAt;rw [List.length_set]
theorem GV (ms:List AC):∀(l:List Int),(Cs ms l).length=ms.length:=by
 intro l;unfold Cs
 induction l generalizing ms with
 | nil=>rfl
 | cons i l ih=>show (l.foldl _ (clearAt ms i.toNat)).length=_;rw [ih,F1]
theorem G6 (ms:List AC) (i k:Nat):(clearAt ms i).getD k AC.z=ms.getD k AC.z∨(clearAt ms i).getD k AC.z={ ms.getD k AC.z with low:=0,high:=0 }:=by
 unfold clearAt;rw [List.getD_eq_getElem?_getD,List.getElem?_set];split
 ·rename_i e
  subst e;split
  ·exact .inr rfl
  ·rename_i h
   refine .inl ?_;rw [List.getD_eq_getElem?_getD,List.getElem?_eq_none (by omega)]
 ·refine .inl ?_;rw [←List.getD_eq_getElem?_getD]
theorem W1 {d:Int} {gs:List Good} {ms:List AC} {k:Nat} (h1:0≤(ms.getD k AC.z).kind∧(ms.getD k AC.z).kind≤4) (h2:0≤(ms.getD k AC.z).good∧(ms.getD k AC.z).good≤(gs.length:Int)-1)
  (h3:1≤(ms.getD k AC.z).day∧(ms.getD k AC.z).day≤d) (h4:Du ms k≤(ms.getD k AC.z).day) (h5:FC (ms.getD k AC.z).low (ms.getD k AC.z).high):DZ d gs ms k=0:=by
 unfold DZ;rw [if_neg (not_not_intro h1),if_neg (not_not_intro h2),if_neg (not_not_intro h3),if_neg (by omega),if_neg (not_not_intro h5)]
theorem BE.clearAt {d m:Int} {gs:List Good} {ms:List AC} {cs:List AH} (b:BE d m gs ms cs) (i:Nat):BE d m gs (clearAt ms i) cs:=by
 refine ⟨b.days,b.most,b.glen,b.good,by rw [F1];exact b.mlen,fun k hk=>?_,b.clen,b.count⟩;rw [F1] at hk;have hd:∀k,((Go.Ns.clearAt ms i).getD k AC.z).day=(ms.getD k AC.z).day:=fun k=>by rcases G6 ms i k with e | e <;> rw [e]
 have hl:Du (Go.Ns.clearAt ms i) k=Du ms k:=by unfold Du;rw [hd]
 obtain ⟨g1,g2,g3,g4,g5⟩:=b.move' hk;refine W1 ?_ ?_ ?_ ?_ ?_
 ·rcases G6 ms i k with e | e <;> rw [e] <;> exact g1
 ·rcases G6 ms i k with e | e <;> rw [e] <;> exact g2
 ·rw [hd];exact g3
 ·rw [hl,hd];exact g4
 ·rcases G6 ms i k with e | e <;> rw [e]
  ·exact g5
  ·show FC 0 0;decide
theorem BE.clear {d m:Int} {gs:List Good} {cs:List AH}:∀{l:List Int} {ms:List AC},BE d m gs ms cs→BE d m gs (Cs ms l) cs
 | [],_,b=>b
 | i ::l,_,b=>BE.clear (l:=l) (b.clearAt i.toNat)
def Ew (ms:List AC) (mask:Int) (k:Nat):Bool:=(List.range k).all fun i=> !FD mask i || Cw ms i
def EW (d:Int) (gs:List Good) (ms:List AC) (cs:List AH) (mask:Nat):Option (List Int):=
 if Ew ms (mask:Int) ms.length=true then
  if AV d gs (Cs ms (BH (mask:Int) ms.length)) cs 0=[] then none else some (BH (mask:Int) ms.length)
 else none
def DD (d:Int) (gs:List Good) (ms:List AC) (cs:List AH) (k:Nat):List (List Int):=(List.range k).filterMap (EW d gs ms cs)
theorem LR {d:Int} {gs:List Good} {ms:List AC} {cs:List AH} {k:Nat} (h:EW d gs ms cs k=none):DD d gs ms cs (k+1)=DD d gs ms cs k:=by
 unfold DD;rw [List.range_succ,List.filterMap_append];simp [h]
theorem RX {d:Int} {gs:List Good} {ms:List AC} {cs:List AH} {k:Nat} {l:List Int} (h:EW d gs ms cs k=some l):DD d gs ms cs (k+1)=DD d gs ms cs k++[l]:=by
 unfold DD;rw [List.range_succ,List.filterMap_append];simp [h]
theorem ZC {n:Nat} (h:n≤6):1≤(2:Int) ^ n∧(2:Int) ^ n≤64:=by
 have:n=0∨n=1∨n=2∨n=3∨n=4∨n=5∨n=6:=by omega
 rcases this with rfl | rfl | rfl | rfl | rfl | rfl | rfl <;> decide
theorem W3 (mask:Int) (n q:Nat):q<(BH mask n).length→0≤(BH mask n).getD q 0∧(BH mask n).getD q 0<(n:Int):=fun hq=>by
 have:=Cd (d:=(0:Int)) hq
 unfold BH at this ⊢;obtain ⟨i,hi,e⟩:=List.mem_map.1 this
 have:=List.mem_range.1 (List.mem_filter.1 hi).1
 rw [←e];omega
theorem PU (ms:List AC) (mask:Int):Ew ms mask 0=true:=rfl
theorem KC {ms:List AC} {mask:Int} {j:Nat} (h:Ew ms mask j=true) (e:mask.fdiv (2 ^ j)%2=0∨Cw ms (j:Int)=true):Ew ms mask (j+1)=true:=by
 unfold Ew at *;rw [List.range_succ,List.all_append,h];rcases e with e | e
 ·have:FD mask j=false:=by unfold FD;rw [decide_eq_false (by omega)]
  simp [this]
 ·simp [e]
theorem UV {d:Int} {gs:List Good} {ms:List AC} {cs:List AH} {k j:Nat} (hj:j<ms.length) (hb:¬(k:Int).fdiv (2 ^ j)%2=0) (hn:¬((0≤(j:Int)∧(j:Int)≤(ms.length:Int)-1)∧(ms.getD ((j:Int)).toNat AC.z).kind=0)):EW d gs ms cs k=none:=by
 unfold EW;rw [if_neg];unfold Ew;rw [List.all_eq_true];intro h
 have:=h j (List.mem_range.2 hj)
 have e1:FD (k:Int) j=true:=by unfold FD;rw [decide_eq_true];omega
 have e2:Cw ms (j:Int)=false:=by unfold Cw;exact decide_eq_false hn
 rw [e1,e2] at this;cases this
theorem ZD {d:Int} {gs:List Good} {ms:List AC} {cs:List AH} {k j q:Nat} (hj:j≤ms.length) (hj':¬(j:Int)<(ms.length:Int)) (ha:Ew ms (k:Int) j=true) (hq:¬(q:Int)<((BH (k:Int) j).length:Int)) (h:AV d gs (Cs ms ((BH (k:Int) j).take q)) cs 0=[]):EW d gs ms cs k=none:=by
 obtain rfl:j=ms.length:=by omega
 rw [List.take_of_length_le (by omega)] at h;unfold EW;rw [if_pos ha,if_pos h]
theorem W4 {d:Int} {gs:List Good} {ms:List AC} {cs:List AH} {k j q:Nat} (hj:j≤ms.length) (hj':¬(j:Int)<(ms.length:Int)) (ha:Ew ms (k:Int) j=true) (hq:¬(q:Int)<((BH (k:Int) j).length:Int)) (h:AV d gs (Cs ms ((BH (k:Int) j).take q)) cs 0≠[]):EW d gs ms cs k=some (BH (k:Int) j):=by
 obtain rfl:j=ms.length:=by omega
 rw [List.take_of_length_le (by omega)] at h;unfold EW;rw [if_pos ha,if_neg h]
theorem N7 {fl:List Sl} {v:Value} {xs:List Int} {l:List (List Int)} (h:CI fl=l):CI (fl++[(v,xs)])=l++[xs]:=by unfold CI at *;rw [List.map_append,h];rfl
theorem CD.drop {h:GH} {l:List Sl} (a:CD h l) (n:Nat):CD h (l.drop n):=fun k=>by
 have:=a (n+k)
 rw [List.getD_eq_getElem?_getD] at this ⊢;rw [List.getElem?_drop];exact this
section
variable (d m:Int) (gs:List Good) (ms:List AC) (cs:List AH)
def C9:Int:=if Av d m gs ms cs=0 then (if (DD d gs ms cs (2 ^ ms.length)).length=0 then 9 else 0) else Av d m gs ms cs
def Ex:List Int:=if C9 d m gs ms cs=0 then GZ ((DD d gs ms cs (2 ^ ms.length)).getD 0 []) ((DD d gs ms cs (2 ^ ms.length)).drop 1) else []
end
section
variable {d m:Int} {gs:List Good} {ms:List AC} {cs:List AH} {fl:List Sl} {k:Nat}
theorem KD (h:¬Av d m gs ms cs=0):C9 d m gs ms cs=Av d m gs ms cs:=by unfold C9;rw [if_neg h]
theorem Iq (h:Av d m gs ms cs=0):C9 d m gs ms cs=if (DD d gs ms cs (2 ^ ms.length)).length=0 then 9 else 0:=by unfold C9;rw [if_pos h]
theorem RY (n:Nat):((2 ^ n:Nat):Int)=(2:Int) ^ n:=by induction n with
 | zero=>rfl
 | succ n ih=>rw [Nat.pow_succ,Int.pow_succ,←ih];rfl
theorem L9 (hk:(k:Int)≤(2:Int) ^ ((ms.length:Int)).toNat) (hk':¬(k:Int)<(2:Int) ^ ((ms.length:Int)).toNat):k=2 ^ ms.length:=by
 have:=RY ms.length
 rw [Int.toNat_natCast] at hk hk';omega
theorem DE (l:List Sl):(CI l).length=l.length:=by unfold CI;simp
theorem UW (h:¬Av d m gs ms cs=0):(.tuple #[.slice none 0 0,.int .i64 (Av d m gs ms cs)]:Value)=.tuple #[.slice none 0 0,.int .i64 (C9 d m gs ms cs)]:=by rw [KD h]
theorem JT (hfl:CI fl=DD d gs ms cs k) (hk:(k:Int)≤(2:Int) ^ ((ms.length:Int)).toNat) (hk':¬(k:Int)<(2:Int) ^ ((ms.length:Int)).toNat) (hb:¬¬Av d m gs ms cs=0) (h0:(fl.length:Int)=0):C9 d m gs ms cs=9:=by
 obtain rfl:=L9 hk hk';rw [Iq (Decidable.not_not.1 hb),←hfl,DE,if_pos (by omega)]
theorem JU (hfl:CI fl=DD d gs ms cs k) (hk:(k:Int)≤(2:Int) ^ ((ms.length:Int)).toNat) (hk':¬(k:Int)<(2:Int) ^ ((ms.length:Int)).toNat) (hb:¬¬Av d m gs ms cs=0) (h0:¬(fl.length:Int)=0):C9 d m gs ms cs=0:=by
 obtain rfl:=L9 hk hk';rw [Iq (Decidable.not_not.1 hb),←hfl,DE,if_neg (by omega)]
theorem UX (h:¬Av d m gs ms cs=0):Ex d m gs ms cs=[]:=by unfold Ex;rw [KD h,if_neg h]
theorem Su (hfl:CI fl=DD d gs ms cs k) (hk:(k:Int)≤(2:Int) ^ ((ms.length:Int)).toNat) (hk':¬(k:Int)<(2:Int) ^ ((ms.length:Int)).toNat) (hb:¬¬Av d m gs ms cs=0) (h0:(fl.length:Int)=0):Ex d m gs ms cs=[]:=by
 unfold Ex;rw [JT hfl hk hk' hb h0,if_neg (by decide)]
theorem W5 (hfl:CI fl=DD d gs ms cs k) (hk:(k:Int)≤(2:Int) ^ ((ms.length:Int)).toNat) (hk':¬(k:Int)<(2:Int) ^ ((ms.length:Int)).toNat) (hb:¬¬Av d m gs ms cs=0) (h0:¬(fl.length:Int)=0):Ex d m gs ms cs=GZ (fl.getD 0 Sl.z).2 (CI (fl.drop 1)):=by
 have e:=L9 hk hk';unfold Ex;rw [JU hfl hk hk' hb h0,if_pos rfl];subst e;rw [←hfl,Fe (by omega)];congr 1;unfold CI;rw [List.map_drop]
end
theorem fl_len {d:Int} {gs:List Good} {ms:List AC} {cs:List AH} {fl:List Sl} {k:Nat} (h:CI fl=DD d gs ms cs k):fl.length≤k:=by
 rw [←DE,h];unfold DD
 have:=List.length_filterMap_le (EW d gs ms cs) (List.range k)
 rw [List.length_range] at this;exact this
theorem Sv {v:Value} (h:v.cells=#[v]):Instr.fill (fun i=>some (i*1,1)) ((Array.range (1*1)).map (#[Value.slice none 0 0][·% #[Value.slice none 0 0].size]!)) [(0,v)]=some #[v]:=by
 have e:((Array.range (1*1)).map (#[Value.slice none 0 0][·% #[Value.slice none 0 0].size]!))=#[Value.slice none 0 0]:=by kernel_rfl
 rw [e];simp [Instr.fill,h]
def JFnd {α:Type} (hB:GH) (r:Nat) (T t:TypeId) (wf:Value) (fl:List Sl) (pre:List α) (Y:Nat→Prop) (h:GH):Prop:=
 pre=[]∧h r=some (true,.cells #[wf] T (0,0))∧Aa hB h wf t 1 Nv fl∧BL wf r∧hB r=none∧∀b,Y b↔b=r∨B9 wf=some b
def SFnd {α:Type} (hB:GH) (r:Nat) (T t:TypeId) (fl:List Sl) (cd:Code) (all:List α) (c:Code) (h:GH):Prop:=
 c=cd∧(∃w,h r=some (true,.cells #[w] T (0,0))∧Aa hB h w t 1 Nv fl∧BL w r)∧all≠[]
theorem QA {α:Type} (hB:GH) (r:Nat) (T t:TypeId) (wf:Value) (fl:List Sl):Ij hB (JFnd (α:=α) hB r T t wf fl):=by
 refine ⟨?_,?_⟩
 ·rintro pre Y h b ⟨_,h1,h2,h3,h0,h4⟩ hb;rcases (h4 b).1 hb with rfl | h5
  ·exact ⟨_,_,h1,rfl⟩
  ·obtain ⟨c,hc⟩:=h2.cellsAt b h5;exact ⟨_,_,hc,rfl⟩
 ·rintro pre Y h h' ⟨e,h1,h2,h3,h0,h4⟩ same lB;exact ⟨e,by rw [same r ((h4 r).2 (.inl rfl))];exact h1,h2.keep fun b o hb ho=>by rw [same b ((h4 b).2 (.inr hb))];exact ho,h3,h0,h4⟩
theorem UY {α:Type} {hK h:GH} {r:Nat} {T t:TypeId} {wf:Value} {fl:List Sl} (x:h r=some (true,.cells #[wf] T (0,0))) (o:Aa hK h wf t 1 Nv fl) (f:BL wf r) :
  JFnd (α:=α) (h.delS fun b=>b=r∨B9 wf=some b) r T t wf fl [] (fun b=>b=r∨B9 wf=some b) h:=
 ⟨rfl,x,o.rebase fun _ q=>GH.delS_in (.inr q),f,GH.delS_in (.inl rfl),fun _=>Iff.rfl⟩
theorem Sw {α:Type} {hB:GH} {r:Nat} {T t:TypeId} {fl:List Sl} {cd:Code} {all:List α}:∀c (h h':GH) l lo,SFnd hB r T t fl cd all c h→h l=some (true,.loop lo)→(∀b,b≠l→h' b=h b)→SFnd hB r T t fl cd all c h':=by
 rintro c h h' l lo ⟨q1,⟨w,q2,q3,q4⟩,q5⟩ hl ho;refine ⟨q1,⟨w,(ho _ fun e=>by subst e;rw [q2] at hl;cases hl).trans q2,q3.keep fun b o hb hbo=>?_,q4⟩,q5⟩;obtain ⟨c,hc⟩:=q3.cellsAt b hb;exact (ho b fun e=>by subst e;rw [hc] at hl;cases hl).trans hbo
end Go.Ns
namespace Go.Ns
open Go.Conc
section
variable {P:Program} {M:Type}
structure PV (P:Program) (M:Type) where
 W:Wk P
 Rep:Nat→M→Value→GH→Prop
 main:Bool
 fn:FuncId
 rd:Option Nat
 N:Nat
def PV.wk (F:PV P M):Option (Fu M)→Wk P
 | none=>F.W
 | some s=>⟨F.main,FA P F.main (IZ P F.Rep F.W.K s F.main),K6 _ _⟩
abbrev PV.env (F:PV P M) (i:Option (Fu M)):HI P:=⟨F.wk i,F.fn,F.rd,F.N⟩
abbrev Sx (M:Type):=Option (Fu M)→Exit→(Nat→Value)→List Deferred→GH→Prop
def K0 (F:PV P M) (c:Code) (i:Option (Fu M)) (σ:Nat→Value) (ds:List Deferred) (h:GH) (Q:Sx M):Prop:=
 ∀(b:Frame) (k:List Item) (cs:List Frame) (L:Option (Fu M)→Lv) (t:Array Value),b.fn=F.fn→b.roundOf=F.rd→(∀i,K3 (F.wk i) b cs (L i))→Bs t F.N σ→
  (∀i e σ' ds' h',Q i e σ' ds' h'→∀t',Bs t' F.N σ'→C8 (F.wk i) (L i) b k cs e t' ds' h')→(F.wk i).K (G (Cp b t ds (.code c ::k)) cs) h
def LS (F:PV P M) (ops:Array Oper) (l:List Oper) (i:Option (Fu M)) (σ:Nat→Value) (ds:List Deferred) (h:GH) (Q:Sx M):Prop:=
 ∀(n:Nat) (b:Frame) (k:List Item) (cs:List Frame) (L:Option (Fu M)→Lv) (t:Array Value),(∀j,l[j]? =ops[n+j]?)→b.fn=F.fn→b.roundOf=F.rd→(∀i,K3 (F.wk i) b cs (L i))→Bs t F.N σ→
  (∀i e σ' ds' h',Q i e σ' ds' h'→∀t',Bs t' F.N σ'→C8 (F.wk i) (L i) b k cs e t' ds' h')→(F.wk i).K (G (Cp b t ds (.inRegion ops (List.range' n l.length) ::k)) cs) h
variable {F:PV P M} {i:Option (Fu M)} {σ:Nat→Value} {ds:List Deferred} {h:GH} {Q:Sx M}
theorem II {c:Code} (x:Tr (F.env i) c σ ds h (Q i)):K0 F c i σ ds h Q:=fun b k cs L t hb hr hl hs hc=>x b k cs (L i) t hb hr (hl i) hs (hc i)
theorem LT {x y:Code} (a:K0 F x i σ ds h (fun i e σ' ds' h'=>match e with | .normal=>K0 F y i σ' ds' h' Q | e=>Q i e σ' ds' h')):K0 F (.seq x y) i σ ds h Q:=by
 intro b k cs L t hb hr hl hs hc;refine Wk.go (Cp b t ds (.code x ::.code y ::k)) (fun w=>by rw [BI];simp [stepG.exec,Cp,G]) ?_;refine a b (.code y ::k) cs L t hb hr hl hs fun i e σ' ds' h' q t' ht'=>?_;cases e with
 | normal=>exact q b k cs L t' hb hr hl ht' hc
 | exit id=>exact C8.push rfl (by simp) (hc _ _ _ _ _ q t' ht')
 | ret=>exact C8.push rfl (by simp) (hc _ _ _ _ _ q t' ht')
 | goto l=>exact C8.push rfl (by simp) (hc _ _ _ _ _ q t' ht')
 | panic l=>exact C8.push rfl (by simp) (hc _ _ _ _ _ q t' ht')
 | outgrown=>exact C8.push rfl (by simp) (hc _ _ _ _ _ q t' ht')
theorem Cl {x y:Code} (a:Tr (F.env i) x σ ds h (fun e σ' ds' h'=>match e with | .normal=>K0 F y i σ' ds' h' Q | e=>Q i e σ' ds' h')):K0 F (.seq x y) i σ ds h Q:=
 LT (II (Q:=fun i e σ' ds' h'=>match e with | .normal=>K0 F y i σ' ds' h' Q | e=>Q i e σ' ds' h') a)
theorem Sy {c:Operand} {x y:Code} {t:Bool} (hc:AY σ c=.bool t) (a:K0 F (if t then x else y) i σ ds h Q):K0 F (.cond c x y) i σ ds h Q:=by
 intro b k cs L tm hb hr hl hs hq;refine Wk.go (Cp b tm ds (.code (if t then x else y) ::k)) (fun w=>?_) (a b k cs L tm hb hr hl hs hq);have he:(Cp b tm ds (.code (.cond c x y) ::k)).eval c=.bool t:=by rw [JE hs];exact hc
 simp only [Cp] at he;rw [BI];simp [stepG.exec,Cp,G,he]
theorem ZE {c:Operand} {x y:Code} (hc:AY σ c=.bool true) (a:K0 F x i σ ds h Q):K0 F (.cond c x y) i σ ds h Q:=Sy hc a
theorem W6 {c:Operand} {x y:Code} (hc:AY σ c=.bool false) (a:K0 F y i σ ds h Q):K0 F (.cond c x y) i σ ds h Q:=Sy hc a
theorem trI_ifb {c:Operand} {x y:Code} {t:Bool} (hc:AY σ c=.bool t) (a:t=true→K0 F x i σ ds h Q) (a':t=false→K0 F y i σ ds h Q):K0 F (.cond c x y) i σ ds h Q:=by
 cases t with
 | true=>exact ZE hc (a rfl)
 | false=>exact W6 hc (a' rfl)
theorem Jp {id:Nat} {c:Code} (a:K0 F c i σ ds h (fun i e σ' ds' h'=>match e with | .normal=>Q i .normal σ' ds' h' | .exit id'=>if id'=id then Q i .normal σ' ds' h' else Q i (.exit id') σ' ds' h' | e=>Q i e σ' ds' h')) :
  K0 F (.block id c) i σ ds h Q:=by
 intro b k cs L t hb hr hl hs hc;refine Wk.go (Cp b t ds (.code c ::.inBlock id ::k)) (fun w=>by rw [BI];simp [stepG.exec,Cp,G]) ?_;refine a b (.inBlock id ::k) cs L t hb hr hl hs fun i e σ' ds' h' q t' ht'=>?_;cases e with
 | normal=>exact Wk.go (Cp b t' ds' k) (fun w=>by rw [BI];simp [stepG.exec,Cp,G]) (hc _ _ _ _ _ q t' ht')
 | exit id'=>
  by_cases hid:id'=id
  ·simp only [hid,if_true] at q
   have:=hc _ _ _ _ _ q t' ht'
   simp only [C8,exitTo,hid,beq_self_eq_true,if_true];exact this
  ·simp only [hid,if_false] at q
   have:=hc _ _ _ _ _ q t' ht'
   have hne:(id==id')=false:=by simp;exact fun h=>hid h.symm
   simp only [C8,exitTo,hne] at this ⊢;exact this
 | ret=>exact hc _ _ _ _ _ q t' ht'
 | goto l=>exact hc _ _ _ _ _ q t' ht'
 | panic l=>exact hc _ _ _ _ _ q t' ht'
 | outgrown=>exact hc _ _ _ _ _ q t' ht'
theorem Sz {c:Code} (I:Nat→Option (Fu M)→(Nat→Value)→List Deferred→GH→Prop) {n:Nat} (i0:I n i σ ds h)
  (round:∀n i σ ds h,I n i σ ds h→K0 F c i σ ds h (fun i e σ' ds' h'=>match e with | .normal=>∃m,m<n∧I m i σ' ds' h' | e=>Q i e σ' ds' h')):K0 F (.loop c) i σ ds h Q:=by
 intro b k cs L t hb hr hl hs hc;refine Wk.go (Cp b t ds (.code c ::.inLoop c ::k)) (fun w=>by rw [BI];simp [stepG.exec,Cp,G]) ?_;have key:∀n i σ ds h t,I n i σ ds h→Bs t F.N σ→(F.wk i).K (G (Cp b t ds (.code c ::.inLoop c ::k)) cs) h:=by
  intro n
  induction n using Nat.strongRecOn with
  | ind n ih=>
   intro i σ ds h t hi hs;refine round n i σ ds h hi b (.inLoop c ::k) cs L t hb hr hl hs fun i e σ' ds' h' q t' ht'=>?_;cases e with
   | normal=>
    obtain ⟨m,hm,hi'⟩:=q;exact Wk.go (Cp b t' ds' (.code c ::.inLoop c ::k)) (fun w=>by rw [BI];simp [stepG.exec,Cp,G]) (ih m hm _ _ _ _ _ hi' ht')
   | exit id=>exact C8.push rfl (by simp) (hc _ _ _ _ _ q t' ht')
   | ret=>exact C8.push rfl (by simp) (hc _ _ _ _ _ q t' ht')
   | goto l=>exact C8.push rfl (by simp) (hc _ _ _ _ _ q t' ht')
   | panic l=>exact C8.push rfl (by simp) (hc _ _ _ _ _ q t' ht')
   | outgrown=>exact C8.push rfl (by simp) (hc _ _ _ _ _ q t' ht')
 exact key n i σ ds h t i0 hs
theorem Kf {id:Nat} {l:List Oper} (a:LS F l.toArray l i σ ds h Q):K0 F (.region id l.toArray false) i σ ds h Q:=by
 intro b k cs L t hb hr hl hs hc;refine Wk.go (Cp b t ds (.inRegion l.toArray (List.range' 0 l.length) ::k)) (fun w=>?_) (a 0 b k cs L t (by simp) hb hr hl hs hc);rw [BI];simp [stepG.exec,Cp,G,List.range_eq_range']
theorem LU {ops:Array Oper} (q:Q i .normal σ ds h):LS F ops [] i σ ds h Q:=by
 intro n b k cs L t hi hb hr hl hs hc;exact Wk.go (Cp b t ds k) (fun w=>by rw [BI];simp [stepG.exec,Cp,G]) (hc _ _ _ _ _ q t hs)
theorem HW {ops:Array Oper} {o:Oper} {l:List Oper} (hg:o.guard=none) (hdf:F.rd=none∨EH o.op=false) (hd:En o.dst F.N=true)
  (x:Br (F.env i) o σ ds h fun σ' ds' h'=>LS F ops l i σ' ds' h' Q):LS F ops (o ::l) i σ ds h Q:=by
 intro n b k cs L t hi hb hr hl hs hc;have ho:ops[n]? =some o:=by simpa using (hi 0).symm
 refine M9 (E:=F.env i) (rest:=List.range' (n+1) l.length) ho (by simp [Region.wanted,hg]) (hr▸hdf) hd hs x fun σ' ds' h' y t' ht'=>?_;exact y (n+1) b k cs L t' (fun j=>by have:=hi (j+1);simpa [Nat.add_assoc,Nat.add_comm 1 j] using this) hb hr hl ht' hc
theorem S0 {main:Bool} {b:Frame} {t:Array Value} {ops:Array Oper} {n:Nat} {rest:List Nat} {k:List Item} {cs:List Frame} {o:Oper} {N:Nat} (hs:Bs t N σ) (ho:ops[n]? =some o) (hw:Region.wanted o (yielded ops t)=true)
  (hdf:b.roundOf=none∨EH o.op=false) (w:World):stepG P main (G (Cp b t ds (.inRegion ops (n ::rest) ::k)) cs) w=stepG.apply P true (Cp b t ds (.inRegion ops (n ::rest) ::k)) cs none (execOp (AY σ) o) w:=by
 have hev:=JE (b:=b) (ds:=ds) (k:=.inRegion ops (n ::rest) ::k) hs;rw [←hev];have hw':((ops[n]?).map (Region.wanted · (yielded ops t))).getD false=true:=by simp [ho,hw]
 rw [BI];unfold stepG.exec;simp only [Cp,hw',↓reduceIte];unfold stepG.oper;simp only [Frame.oper?,ho];rcases hdf with e | e
 ·simp only [e]
 ·cases hq:o.op <;> first | rfl | (rw [hq] at e;cases e;done) | (cases b.roundOf <;> rfl)
theorem WU {main:Bool} {b:Frame} {t:Array Value} {ops:Array Oper} {n:Nat} {rest:List Nat} {k:List Item} {cs:List Frame} {o:Oper} {N:Nat} {w:World} {cc:Array CommCase} {bl:Bool} {sh:CommShape} (hs:Bs t N σ) (ho:ops[n]? =some o) (hw:Region.wanted o (yielded ops t)=true)
  (hdf:b.roundOf=none∨EH o.op=false) (hr:(execOp (AY σ) o).runT P w #[]=(.ok (.comm cc bl sh) w,#[])) :
  stepG P main (G (Cp b t ds (.inRegion ops (n ::rest) ::k)) cs) w=.comm (G (Cp b t ds (.inRegion ops (n ::rest) ::k)) cs) cc bl sh w #[]:=by
 rw [S0 hs ho hw hdf];simp only [stepG.apply,hr,if_true,ite_self,seen_none];rfl
theorem ZF {main:Bool} {b:Frame} {t:Array Value} {ops:Array Oper} {n:Nat} {rest:List Nat} {k:List Item} {cs:List Frame} {o:Oper} {N:Nat} {w:World} {f:Fn} {cap args:Array Value} (hs:Bs t N σ) (ho:ops[n]? =some o) (hw:Region.wanted o (yielded ops t)=true)
  (hdf:b.roundOf=none∨EH o.op=false) (hr:(execOp (AY σ) o).runT P w #[]=(.ok (.spawn { target:=.fn f cap,args:=args }) w,#[])) :
  stepG P main (G (Cp b t ds (.inRegion ops (n ::rest) ::k)) cs) w=.spawn (G ((Cp b t ds (.inRegion ops (n ::rest) ::k)).finish undef) cs) (born P { target:=.fn f cap,args:=args }) w #[]:=by
 rw [S0 hs ho hw hdf];simp only [stepG.apply,hr,if_true,ite_self,seen_none];simp [GStep.after,G,born]
variable {ops:Array Oper} {o:Oper} {l:List Oper}
theorem Kg (hl:l≠[]):LS F ops l (some .never) σ ds h Q:=fun n b k cs L t hi hb hr _ hs hc=>FA.stop rfl
theorem W7 {c:Nat} {m:M} {nx:Fu M} {v z:Value} {hm h1:GH} (hg:o.guard=none) (hdf:EH o.op=false) (hd:En o.dst F.N=true)
  (hr:∀w,(execOp (AY σ) o).runT P w #[]=(.ok (.comm #[scase c v z] true .send) w,#[])) (hsp:GH.Split h h1 hm) (hrep:F.Rep c m v hm) (hnx:¬nx.isDone)
  (x:LS F ops l (some nx) (putS σ o.dst undef) ds h1 Q):LS F ops (o ::l) (some (.send c m nx)) σ ds h Q:=by
 intro n b k cs L t hi hb hrd hl hs hc;have ho:ops[n]? =some o:=by simpa using (hi 0).symm
 refine FA.stop ⟨_,cs,v,z,hm,h1,rfl,⟨fun w f=>?_,hsp,hrep,?_⟩⟩
 ·rw [List.length_cons,List.range'_succ];exact WU hs ho (by simp [Region.wanted,hg]) (.inr hdf) (hr w)
 ·rw [HJ hnx,List.length_cons,List.range'_succ,DM ho];exact x (n+1) b k cs L _ (fun j=>by have:=hi (j+1);simpa [Nat.add_assoc,Nat.add_comm 1 j] using this) hb hrd hl (hs.putS hd undef) hc
theorem QB {c:Nat} {f:Option M→Fu M} {z:Value} {ok:Bool} (hg:o.guard=none) (hdf:EH o.op=false) (hd:En o.dst F.N=true)
  (hr:∀w,(execOp (AY σ) o).runT P w #[]=(.ok (.comm #[rcase c z] true (.recv ok)) w,#[])) (hnx:∀o,¬(f o).isDone)
  (x:∀m v hm,F.Rep c m v hm→h.Compat hm→LS F ops l (some (f (some m))) (putS σ o.dst (recvd ok v true)) ds (h.join hm) Q)
  (y:LS F ops l (some (f none)) (putS σ o.dst (recvd ok z false)) ds h Q):LS F ops (o ::l) (some (.recv c f)) σ ds h Q:=by
 intro n b k cs L t hi hb hrd hl hs hc;have ho:ops[n]? =some o:=by simpa using (hi 0).symm
 refine FA.stop ⟨_,cs,z,ok,rfl,⟨fun w fw=>?_,fun m v hm hrep hcp=>?_,?_⟩⟩
 ·rw [List.length_cons,List.range'_succ];exact WU hs ho (by simp [Region.wanted,hg]) (.inr hdf) (hr w)
 ·show F6 P F.Rep F.W.K (f (some m)) F.main _ _;rw [HJ (hnx _),List.length_cons,List.range'_succ,DM ho];exact x m v hm hrep hcp (n+1) b k cs L _ (fun j=>by have:=hi (j+1);simpa [Nat.add_assoc,Nat.add_comm 1 j] using this) hb hrd hl (hs.putS hd _) hc
 ·show F6 P F.Rep F.W.K (f none) F.main _ _;rw [HJ (hnx _),List.length_cons,List.range'_succ,DM ho];exact y (n+1) b k cs L _ (fun j=>by have:=hi (j+1);simpa [Nat.add_assoc,Nat.add_comm 1 j] using this) hb hrd hl (hs.putS hd _) hc
theorem trLI_go {ch nx:Fu M} {f:Fn} {cap args:Array Value} {hc h1:GH} (hg:o.guard=none) (hdf:EH o.op=false) (hd:En o.dst F.N=true)
  (hr:∀w,(execOp (AY σ) o).runT P w #[]=(.ok (.spawn { target:=.fn f cap,args:=args }) w,#[])) (hsp:GH.Split h h1 hc) (hnx:¬nx.isDone)
  (child:F6 P F.Rep F.W.K ch false (born P { target:=.fn f cap,args:=args }) hc) (x:LS F ops l (some nx) (putS σ o.dst undef) ds h1 Q):LS F ops (o ::l) (some (.spawn ch nx)) σ ds h Q:=by
 intro n b k cs L t hi hb hrd hl hs hq;have ho:ops[n]? =some o:=by simpa using (hi 0).symm
 refine FA.stop ⟨_,cs,(Cp b t ds (.inRegion ops (List.range' n (o ::l).length) ::k)).finish undef,_,hc,h1,rfl,⟨fun w fw=>?_,hsp,?_,child⟩⟩
 ·rw [List.length_cons,List.range'_succ];exact ZF hs ho (by simp [Region.wanted,hg]) (.inr hdf) (hr w)
 ·rw [HJ hnx,List.length_cons,List.range'_succ,DM ho];exact x (n+1) b k cs L _ (fun j=>by have:=hi (j+1);simpa [Nat.add_assoc,Nat.add_comm 1 j] using this) hb hrd hl (hs.putS hd undef) hq
def Kh (tys:Array TypeId) (ty:TypeId) (cs:Array Bool) (c:Nat):Deferred:={ target:=.builtin .close tys ty cs,args:=#[.chan (some c)] }
theorem RZ {f:FuncId} {fn:Func} {args:Array Value} (hf:P.funcs[f]? =some fn) (hc:AR fn=true) (w:World):(callFunc f args).runT P w #[]=(.ok (.enter f args) w,#[]):=by
 unfold AR at hc;simp only [Bool.and_eq_true,Bool.not_eq_true'] at hc;unfold callFunc;show (match P.funcs[f]? with | none=>_ | some fn=>_:Sem Next).runT P w #[]=_;rw [hf];simp only [];rw [if_neg (by rw [hc.1];simp),if_neg (by cases hb:fn.body with | none=>rw [hb] at hc;simp at hc | some c=>simp)];rfl
theorem UZ {tys:Array TypeId} {ty:TypeId} {cs:Array Bool} {ch s r:Nat} {w:World} (hw:w.heap[ch]? =some (.chan 0 #[] false s r false)) :
  (invoke (.builtin .close tys ty cs) #[.chan (some ch)]).runT P w #[]=(.ok (.value (.tuple #[])) { w with heap:=w.heap.setIfInBounds ch (.chan 0 #[] true s r false) },#[⟨.obj ch,false,true⟩,⟨.obj ch,true,true⟩]):=by
 show ((do pure (.value (←Builtin.close_ tys ty #[.chan (some ch)])):Sem Next)).runT P w #[]=_;show Sem.runT P (.getObj ch fun o=>_) w #[]=_;unfold Sem.runT;rw [hw];show Sem.runT P (.setObj ch (.chan 0 #[] true s r false) _) w _=_;unfold Sem.runT;rw [hw];rfl
theorem Ua {fn:FuncId} {ch:Nat}:seen P fn #[⟨.obj ch,false,true⟩,⟨.obj ch,true,true⟩]=#[⟨.obj ch,false,true⟩,⟨.obj ch,true,true⟩]:=by
 rw [seen_def];simp [seenStep]
theorem W8 {fn:Func} {c:Code} {s:Fu M} {ars cap args:Array Value} (hm:F.main=false) (hrd:F.rd=none) (ha:ars++cap=args) (hf:P.funcs[F.fn]? =some fn) (hc:AR fn=true) (hb:fn.body=some c) (hN:F.N=fn.ntmps) (hres:fn.results=#[]) (hsz:args.size≤fn.ntmps) (hs:¬s.isDone)
  (x:K0 F c (some s) (fun i=>args.getD i undef) [] h fun i e σ ds h=>(e=.normal∨e=.ret)∧∃ch tys ty cs,i=some (.close ch .done)∧ds=[Kh tys ty cs ch]):F6 P F.Rep F.W.K s false (born P { target:=.fn (.func F.fn) cap,args:=ars }) h:=by
 let bot:Frame:={ (default:Frame) with fn:=P.funcs.size,defers:=[],mode:=.panicking [goexitEntry] };have hwk:∀s,(F.wk (some s)).K=FA P false (IZ P F.Rep F.W.K s false):=fun s=>by show FA P F.main (IZ P F.Rep F.W.K s F.main)=_;rw [hm]
 rw [HJ hs];refine K6 _ _ _ _ rfl fun w f=>⟨G (Frame.enter P F.fn args .deferred) [bot],w,#[],h,?_,Bl.refl f,?_⟩
 ·subst ha;have hi:(invoke (.fn (.func F.fn) cap) ars).runT P w #[]=(.ok (.enter F.fn (ars++cap)) w,#[]):=RZ hf hc w;show callDeferred P bot [] none { target:=.fn (.func F.fn) cap,args:=ars } w=_;unfold callDeferred;rw [if_neg (by simp)];simp only [hi,seen_none];rfl
 have e0:Frame.enter P F.fn args .deferred=Cp (Frame.enter P F.fn args .deferred) (args++Array.replicate (fn.ntmps-args.size) undef) [] [.code c]:=by simp [Frame.enter,Cp,hf,hb]
 rw [e0,←hwk s];let L:Option (Fu M)→Lv:=fun i j t ds h'=>(j=none∨j=some .ret)∧∃ch tys ty cs,i=some (.close ch .done)∧ds=[Kh tys ty cs ch];have fin:∀ch tys ty cs h' t k,(F.wk (some (.close ch .done))).K (G (Dt (Frame.enter P F.fn args .deferred) t [Kh tys ty cs ch] k) [bot]) h':=by
  intro ch tys ty cs h' t k;rw [hwk];refine FA.stop ⟨_,_,Dt (Frame.enter P F.fn args .deferred) t [] k,[bot],rfl,⟨fun w s r _ hw=>?_,rfl,?_⟩⟩
  ·have hi:=UZ (P:=P) (tys:=tys) (ty:=ty) (cs:=cs) hw;show callDeferred P (Dt (Frame.enter P F.fn args .deferred) t [] k) [bot] none (Kh tys ty cs ch) w=_;unfold callDeferred Kh;rw [if_neg (by simp)];simp only [hi,Ua];rfl
  ·refine ⟨2,.inr ⟨rfl,G bot [],fun w=>?_,.inr ⟨rfl,{ G bot [] with status:=.finished },fun w=>?_,rfl⟩⟩⟩
   ·show unwind P false (Dt (Frame.enter P F.fn args .deferred) t [] k) [bot] none w=_;have hfn:(Dt (Frame.enter P F.fn args .deferred) t [] k).fn=F.fn:=rfl;have hk:(Dt (Frame.enter P F.fn args .deferred) t [] k).kind=.deferred:=rfl;have hmd:(Dt (Frame.enter P F.fn args .deferred) t [] k).mode=.returning:=rfl;have hd:(Dt (Frame.enter P F.fn args .deferred) t [] k).defers=[]:=rfl;have r1:∀t,(results fn t).runT P w #[]=(.ok (.tuple #[]) w,#[]):=fun t=>by
     unfold results;rw [hres];simp only [Array.mapM_empty];rfl
    unfold unwind;simp only [hd,hmd,hfn,hf,r1,GStep.after,doReturn,hk,seen_none];rfl
   ·show unwind P false bot [] none w=_;have hcat:bot.catches P=false:=by
     unfold Frame.catches
     have:P.funcs[bot.fn]? =none:=Array.getElem?_eq_none (Nat.le_refl _)
     rw [this];rfl
    have hd:bot.defers=[]:=rfl;have hmd:bot.mode=.panicking [goexitEntry]:=rfl;unfold unwind;simp only [hd,hmd,hcat];rfl
 refine x (Frame.enter P F.fn args .deferred) [] [bot] L _ rfl hrd.symm (fun i=>⟨?_,?_,?_⟩) ⟨by rw [hN];simp;omega,fun i=>?_⟩ ?_
 ·rintro t ds h' ⟨_,ch,tys,ty,cs,rfl,rfl⟩;exact Wk.go (Dt (Frame.enter P F.fn args .deferred) t _ []) (fun w=>by rw [BI];simp [stepG.exec,Cp,Dt,G,Frame.enter]) (fin ch tys ty cs h' t [])
 ·rintro t ds h' k ⟨_,ch,tys,ty,cs,rfl,rfl⟩;exact Wk.go (Dt (Frame.enter P F.fn args .deferred) t _ (.code .ret ::k)) (fun w=>by rw [BI];simp [stepG.exec,Cp,Dt,G,Frame.enter]) (fin ch tys ty cs h' t _)
 ·rintro id t ds h' k _ ⟨h1 | h1,_⟩ <;> cases h1
 ·by_cases hi:i<args.size
  ·simp [Array.getD_eq_getD_getElem?,Array.getElem?_append_left hi]
  ·simp only [Array.getD_eq_getD_getElem?];rw [Array.getElem?_append_right (by omega),Array.getElem?_eq_none (show args.size≤i by omega),Array.getElem?_replicate];split <;> rfl
 ·rintro i e σ ds h' ⟨he,ch,tys,ty,cs,rfl,rfl⟩ t' ht';rcases he with rfl | rfl
  ·exact Wk.go (Dt (Frame.enter P F.fn args .deferred) t' _ []) (fun w=>by rw [BI];simp [stepG.exec,Cp,Dt,G,Frame.enter]) (fin ch tys ty cs h' t' [])
  ·exact ⟨.inr rfl,ch,tys,ty,cs,rfl,rfl⟩
end
section
variable {P:Program} {M:Type} {Post:Value→World→Prop}
def GH.Same (h h':GH):Prop:=∀b p o,h b=some (p,o)→∃p',h' b=some (p',o)
theorem Hy.flags {g:Goroutine} {h h':GH} {gs:Array Goroutine} {w:World} {q:Nat→Nat} {t:Trace} (B:Hy P g h gs w q t) (s:h'.Same h):Hy P g h' gs w q t:=
 { B with
  fits:=fun b p o hb=>by obtain ⟨p',x⟩:=s b p o hb;exact B.fits b p' o x
  chn:=fun b p o k a hb=>by obtain ⟨p',x⟩:=s b p o hb;exact B.chn b p' o k a x }
theorem D2.flags {g:Goroutine} {h h':GH} (s:h'.Same h) (x:D2 P Post g h'):D2 P Post g h:=fun gs w sl q t B=>x gs w sl q t (B.flags s)
def Ub (c:Nat) (s0:Fu M) (N:Ia M):Prop:=0<N.n∧N.s 0=s0∧(∀j,0<j→j<N.n→N.s j=.done∧N.kn 0 j)∧N.cl c=false
theorem PW {Rep:Nat→M→Value→GH→Prop} {g:Goroutine} {h:GH} {c:Nat} {s0:Fu M} (hc:h c=some (true,.chan 0 #[] false 0 0 false)) (good:∀N:Ia M,Ub c s0 N→I3 (fun x=>x=c) N)
  (d:F6 P Rep (D2 P Post) s0 true g (h.delS fun x=>x=c)):D2 P Post g h:=by
 intro gs w sl q t B;have hsub:(h.delS fun x=>x=c).Same h:=fun b p o hb=>by
  by_cases e:b=c
  ·rw [GH.delS_in (X:=fun x=>x=c) e] at hb;cases hb
  ·rw [GH.delS_ne (X:=fun x=>x=c) e] at hb;exact ⟨p,hb⟩
 have B':=B.flags hsub;let N:Ia M:={ n:=gs.size,s:=fun j=>if j=0 then s0 else .done,kn:=fun i j=>i=0∧0<j,cl:=fun _=>false,ck:=fun _ _=>False };have hpos:0<gs.size:=B.lt;obtain ⟨r0,hsit⟩:=HK (cl:=N.cl) d;have hsits:∀i g',gs[i]? =some g'→Pn P Rep (D2 P Post) (N.s i) N.cl (i==0) g' (only (h.delS fun x=>x=c) i) (if i=0 then r0 else .leave (q i)):=by
  intro i g' hi;rcases Nat.eq_zero_or_pos i with rfl | hp
  ·have:=B.here;rw [hi] at this;cases this
   simpa [N,only] using hsit
  ·have h0:¬i=0:=by omega
   have hq:=B.old i g' hp hi;simp only [N,h0,if_false];exact .leave (q i) rfl hq
 have hparked:∀i (gi:Goroutine) cs sh,gs[i]? =some (parked gi cs sh)→i=0:=fun i gi cs sh hi=>by
  rcases Nat.eq_zero_or_pos i with e | hp
  ·exact e
  ·rcases (B.old i _ hp hi).status with e | e <;> cases e
 refine Yc (used:=fun x=>x=c) (N:=N) (good N ⟨hpos,rfl,fun j hj hjn=>⟨if_neg (by omega),rfl,hj⟩,rfl⟩) (fun i=>if i=0 then r0 else .leave (q i)) gs w sl t (only (h.delS fun x=>x=c))
  ⟨rfl,B'.HS,B'.TI,hsits,?_,?_,?_,?_,?_,?_⟩
 ·rintro c' rfl;exact ⟨0,B.fits _ _ _ hc⟩
 ·rintro c' i rfl hi;unfold only;split
  ·exact GH.delS_in rfl
  ·rfl
 ·rintro c' k a rfl hk hl;exact B.chn _ _ _ k a hc rfl hk hl
 ·intro i j gi gj c' v z sh z' sh' h1 h2;obtain rfl:=hparked i _ _ _ h1;obtain rfl:=hparked j _ _ _ h2;rw [h1] at h2;exact G9 (Option.some.inj h2).symm
 ·rintro i j hi hj ⟨rfl,hjp⟩;refine ⟨if_neg (by omega),fun k a hk _=>B.known k a hk⟩
 ·rintro c' rfl h1;cases h1
def N8 (W:Wk P):Prop:=∃Post:Value→World→Prop,W.K=D2 P Post
variable {F:PV P M} {i:Option (Fu M)} {σ:Nat→Value} {ds:List Deferred} {h:GH} {Q:Sx M}
theorem trI_net {c:Code} {s0:Fu M} {ch:Nat} (hm:F.main=true) (hW:N8 F.W) (hc:h ch=some (true,.chan 0 #[] false 0 0 false)) (hs:¬s0.isDone) (good:∀N:Ia M,Ub ch s0 N→I3 (fun x=>x=ch) N)
  (x:K0 F c (some s0) σ ds (h.delS fun x=>x=ch) Q):K0 F c none σ ds h Q:=by
 intro b k cs L t hb hr hl ht hq
 have:=x b k cs L t hb hr hl ht hq
 obtain ⟨Post,hP⟩:=hW;show F.W.K _ _;rw [hP];refine PW (Rep:=F.Rep) hc good ?_;rw [HJ hs];unfold PV.wk at this;simp only [hm,hP] at this;exact this
theorem trI_out {c:Code} {h0:GH} (hW:N8 F.W) (hs:h0.Same h) (x:K0 F c none σ ds (h0.join h) Q):K0 F c (some .stop) σ ds h Q:=by
 intro b k cs L t hb hr hl ht hq
 have:=x b k cs L t hb hr hl ht hq
 obtain ⟨Post,hP⟩:=hW;refine FA.stop ?_;show F.W.K _ _;have h2:F.W.K _ _:=this;rw [hP] at h2 ⊢;refine h2.flags fun b p o hb=>?_;rcases hj:h0 b with _ | ⟨p0,o0⟩
 ·unfold GH.join at hb;rw [hj] at hb;exact ⟨p,hb⟩
 ·unfold GH.join at hb;rw [hj] at hb;cases hb;exact hs b p o hj
def GH.ro (h:GH):GH:=fun b=>(h b).map fun x=>(false,x.2)
theorem GH.ro_some {h:GH} {b:Nat} {p:Bool} {o:Obj} (hb:h b=some (p,o)):h.ro b=some (false,o):=by unfold GH.ro;rw [hb];rfl
theorem GH.ro_inv {h:GH} {b:Nat} {p:Bool} {o:Obj} (hb:h.ro b=some (p,o)):p=false∧∃p',h b=some (p',o):=by
 unfold GH.ro at hb;cases e:h b with
 | none=>rw [e] at hb;cases hb
 | some x=>rw [e] at hb;obtain ⟨p',o'⟩:=x;cases hb;exact ⟨rfl,p',rfl⟩
theorem GH.split_ro (h:GH):GH.Split h h.ro h.ro where
 left:=fun b p o hb=>by obtain ⟨rfl,p',x⟩:=GH.ro_inv hb;exact ⟨p',x,fun e=>by cases e⟩
 right:=fun b p o hb=>by obtain ⟨rfl,p',x⟩:=GH.ro_inv hb;exact ⟨p',x,fun e=>by cases e⟩
 one:=fun r o x hb=>by cases (GH.ro_inv hb).1
 two:=fun r o x hb=>by cases (GH.ro_inv hb).1
theorem GH.same_ro (h:GH):h.Same h.ro:=fun _ _ _ hb=>⟨false,GH.ro_some hb⟩
theorem GH.Same.trans {a b c:GH} (x:a.Same b) (y:b.Same c):a.Same c:=fun r p o hr=>by obtain ⟨p',z⟩:=x r p o hr;exact y r p' o z
theorem GH.Le.same {a b:GH} (x:a.Le b):a.Same b:=fun r p o hr=>⟨p,x.keep hr rfl⟩
theorem GH.le_join (a b:GH):a.Le (a.join b):=fun r p o hr=>⟨o,by unfold GH.join;rw [hr],.inl rfl⟩
theorem GH.Same.join {a b:GH} (s:a.Same b):b.Same (a.join b):=fun r p o hr=>by
 unfold GH.join;cases e:a r with
 | none=>exact ⟨p,hr⟩
 | some x=>obtain ⟨p0,o0⟩:=x;obtain ⟨p',y⟩:=s r p0 o0 e;rw [hr] at y;cases y;exact ⟨p0,rfl⟩
theorem Ac.flags {h h':GH} (s:h.Same h') {b off n:Nat} {vs:Array Value} (x:Ac h b off n vs):Ac h' b off n vs:=by
 obtain ⟨p,c,t,f,y,z⟩:=x;obtain ⟨p',y'⟩:=s _ _ _ y;exact ⟨p',c,t,f,y',z⟩
theorem AO.flags {α:Type} {h h':GH} (s:h.Same h') {v:Value} {n:Nat} {enc:α→Array Value} {xs:List α} (x:AO h v n enc xs):AO h' v n enc xs:=by
 obtain ⟨a,cap,hv,hc,hm,he⟩:=x;refine ⟨a,cap,hv,hc,hm,fun i hi=>?_⟩;obtain ⟨b,off,h1,h2⟩:=he i hi;exact ⟨b,off,h1,h2.flags s⟩
end
section
variable {M:Type} [DecidableEq M]
def IJ (c:Nat):List M→Fu M
 | []=>.close c .done
 | m ::ms=>.send c m (IJ c ms)
def LV:Option M→Fu M
 | none=>.stop
 | some _=>.never
def Gc (m:M) (nx:Fu M):Option M→Fu M
 | some m'=>if m'=m then nx else .never
 | none=>.never
def JV (c:Nat):List M→Fu M
 | []=>.recv c LV
 | m ::ms=>.recv c (Gc m (JV c ms))
structure TwoN (c k:Nat) (ms:List M) (N:Ia M):Prop where
 n:N.n=k+1
 pos:0<k
 main:N.s 0=JV c ms
 child:N.s k=IJ c ms
 rest:∀j,0<j→j<k→N.s j=.done∧N.kn 0 j
 cl:N.cl c=false
theorem W9 {c k:Nat}:∀{ms:List M} {N:Ia M},TwoN c k ms N→I3 (fun x=>x=c) N:=by
 intro ms
 induction ms with
 | nil=>
  intro N T;have hk:=T.pos;refine .step N (by rw [T.n];omega) ⟨_,.shut (i:=k) (c:=c) (nx:=.done) (by rw [T.n];omega) T.child⟩ (fun i hi=>?_) (fun N' st=>?_)
  ·rcases Nat.eq_zero_or_pos i with rfl | hp
   ·rw [T.main];rfl
   ·rcases Nat.lt_or_ge i k with hl | hl
    ·rw [(T.rest i hp hl).1];show i≠0;omega
    ·obtain rfl:i=k:=by have:=T.n;omega
     rw [T.child];exact ⟨rfl,T.cl⟩
  ·have key:∀i,i<N.n→i=0∨i=k∨N.s i=.done:=fun i hi=>by
    rcases Nat.eq_zero_or_pos i with e | hp
    ·exact .inl e
    ·rcases Nat.lt_or_ge i k with hl | hl
     ·exact .inr (.inr (T.rest i hp hl).1)
     ·exact .inr (.inl (by have:=T.n;omega))
   have hm:N.s 0=.recv c LV:=T.main;have hch:N.s k=.close c .done:=T.child;cases st with
   | hire hi hs=>rcases key _ hi with rfl | rfl | e <;> simp_all
   | meet hi hj hij hs hs'=>rcases key _ hi with rfl | rfl | e <;> simp_all
   | hear hj hs hcl=>
    rcases key _ hj with rfl | rfl | e
    ·rw [hm] at hs;cases hs;rw [T.cl] at hcl;cases hcl
    ·rw [hch] at hs;cases hs
    ·rw [e] at hs;cases hs
   | @shut i c' nx hi hs=>
    rcases key _ hi with rfl | rfl | e
    ·rw [hm] at hs;cases hs
    ·rw [hch] at hs;cases hs;refine .step _ (by show 0<N.n;rw [T.n];omega) ⟨_,.hear (j:=0) (c:=c) (f:=_) (by show 0<N.n;rw [T.n];omega) (by show (if 0=i then _ else N.s 0)=_;rw [if_neg (by omega)];exact hm) (by show (if c=c then true else _)=true;rw [if_pos rfl])⟩ (fun j hj=>?_) (fun N'' st=>?_)
     ·have hj:j<N.n:=hj;show NH _ _ j (if j=i then _ else N.s j);by_cases e:j=i
      ·rw [if_pos e];show j≠0;omega
      ·rw [if_neg e];rcases key j hj with rfl | rfl | e'
       ·rw [hm];rfl
       ·exact absurd rfl e
       ·rw [e'];show j≠0;rintro rfl;rw [hm] at e';cases e'
     ·have hs':∀j,j<N.n→j≠0→(N.shut i c .done).s j=.done:=fun j hj hj0=>by
       show (if j=i then _ else N.s j)=_;by_cases e:j=i
       ·rw [if_pos e]
       ·rw [if_neg e];rcases key j hj with rfl | rfl | e'
        ·exact absurd rfl hj0
        ·exact absurd rfl e
        ·exact e'
      have hs0:(N.shut i c .done).s 0=.recv c LV:=by show (if 0=i then _ else N.s 0)=_;rw [if_neg (by omega)];exact hm
      have key2:∀j,j<N.n→j=0∨(N.shut i c .done).s j=.done:=fun j hj=>(Nat.eq_zero_or_pos j).imp id fun hp=>hs' j hj (by omega);cases st with
      | hire hi hs=>rcases key2 _ hi with rfl | e <;> simp_all
      | meet hi hj hij hs hs'=>rcases key2 _ hi with rfl | e <;> simp_all
      | shut hi hs=>rcases key2 _ hi with rfl | e <;> simp_all
      | @hear j c' f hj hs hcl=>
       rcases key2 _ hj with rfl | e
       ·rw [hs0] at hs;cases hs;refine .stop _ (by show 0<N.n;rw [T.n];omega) (show (if 0=0 then LV none else (N.shut i c .done).s 0)=Fu.stop from rfl) fun j hj hjn=>⟨?_,?_⟩
        ·show (if j=0 then _ else (N.shut i c .done).s j)=_;rw [if_neg (by omega)];exact hs' j hjn (by omega)
        ·simp only [Ia.hear,Ia.shut,if_true];show N.kn 0 j∨N.kn i j∨(j=i∧True);rcases Nat.lt_or_ge j i with hl | hl
         ·exact .inl (T.rest j hj hl).2
         ·have hjn:j<N.n:=hjn;exact .inr (.inr ⟨by have:=T.n;omega,trivial⟩)
       ·rw [e] at hs;cases hs
    ·rw [e] at hs;cases hs
 | cons m ms ih=>
  intro N T;have hk:=T.pos;have hch:N.s k=.send c m (IJ c ms):=T.child;have hm:N.s 0=.recv c (Gc m (JV c ms)):=T.main;have key:∀i,i<N.n→i=0∨i=k∨N.s i=.done:=fun i hi=>by
   rcases Nat.eq_zero_or_pos i with e | hp
   ·exact .inl e
   ·rcases Nat.lt_or_ge i k with hl | hl
    ·exact .inr (.inr (T.rest i hp hl).1)
    ·exact .inr (.inl (by have:=T.n;omega))
  refine .step N (by rw [T.n];omega) ⟨_,.meet (i:=k) (j:=0) (by rw [T.n];omega) (by rw [T.n];omega) (by omega) hch hm⟩ (fun i hi=>?_) (fun N' st=>?_)
  ·rcases key i hi with rfl | rfl | e
   ·rw [hm];rfl
   ·rw [hch];exact ⟨rfl,T.cl⟩
   ·rw [e];show i≠0;rintro rfl;rw [hm] at e;cases e
  ·cases st with
   | hire hi hs=>rcases key _ hi with rfl | rfl | e <;> simp_all
   | shut hi hs=>rcases key _ hi with rfl | rfl | e <;> simp_all
   | hear hj hs hcl=>
    rcases key _ hj with rfl | rfl | e
    ·rw [hm] at hs;cases hs;rw [T.cl] at hcl;cases hcl
    ·rw [hch] at hs;cases hs
    ·rw [e] at hs;cases hs
   | @meet i j c' m' nx f hi hj hij hs hs'=>
    have hi':i=k:=by
     rcases key _ hi with rfl | rfl | e
     ·rw [hm] at hs;cases hs
     ·rfl
     ·rw [e] at hs;cases hs
    have hj':j=0:=by
     rcases key _ hj with rfl | rfl | e
     ·rfl
     ·rw [hch] at hs';cases hs'
     ·rw [e] at hs';cases hs'
    subst hi' hj';rw [hch] at hs;cases hs;rw [hm] at hs';cases hs';refine ih ⟨T.n,hk,?_,?_,fun j hj hjk=>⟨?_,?_⟩,T.cl⟩
    ·show (if 0=i then _ else if 0=0 then _ else N.s 0)=_;rw [if_neg (by omega),if_pos rfl];show (if m=m then _ else _)=_;rw [if_pos rfl]
    ·show (if i=i then _ else _)=_;rw [if_pos rfl]
    ·show (if j=i then _ else if j=0 then _ else N.s j)=_;rw [if_neg (by omega),if_neg (by omega)];exact (T.rest j hj hjk).1
    ·simp only [Ia.meet,or_true,if_true];exact .inr (.inl (T.rest j hj hjk).2)
theorem Uc {c:Nat} {ms:List M} {N:Ia M} (S:Ub c (.spawn (IJ c ms) (JV c ms)) N):I3 (fun x=>x=c) N:=by
 obtain ⟨hn,h0,hr,hcl⟩:=S;have key:∀i,i<N.n→i=0∨N.s i=.done:=fun i hi=>(Nat.eq_zero_or_pos i).imp id fun hp=>(hr i hp hi).1;refine .step N hn ⟨_,.hire hn h0⟩ (fun i hi=>?_) (fun N' st=>?_)
 ·rcases key i hi with rfl | e
  ·rw [h0];trivial
  ·rw [e];show i≠0;rintro rfl;rw [h0] at e;cases e
 ·cases st with
  | meet hi hj hij hs hs'=>rcases key _ hi with rfl | e <;> simp_all
  | shut hi hs=>rcases key _ hi with rfl | e <;> simp_all
  | hear hj hs hcl=>rcases key _ hj with rfl | e <;> simp_all
  | @hire i ch nx hi hs=>
   rcases key _ hi with rfl | e
   ·rw [h0] at hs;cases hs;refine W9 (k:=N.n) (ms:=ms) ⟨rfl,hn,?_,?_,fun j hj hjk=>⟨?_,?_⟩,hcl⟩
    ·show (if 0=N.n then _ else if 0=0 then _ else _)=_;rw [if_neg (by omega),if_pos rfl]
    ·show (if N.n=N.n then _ else _)=_;rw [if_pos rfl]
    ·show (if j=N.n then _ else if j=0 then _ else N.s j)=_;rw [if_neg (by omega),if_neg (by omega)];exact (hr j hj hjk).1
    ·show (if j=N.n then False else if 0=N.n then _ else N.kn 0 j);rw [if_neg (by omega),if_neg (by omega)];exact (hr j hj hjk).2
   ·rw [e] at hs;cases hs
omit [DecidableEq M] in
theorem QC (c:Nat) (ms:List M):¬(IJ c ms).isDone:=by cases ms <;> exact id
theorem QD (c:Nat) (ms:List M):¬(JV c ms).isDone:=by cases ms <;> exact id
end
end Go.Ns
namespace Go.Ns
open Go.Conc
section
variable (d m:Int) (gs:List Good) (ms:List AC) (cs:List AH)
def LW (mask:Nat):Option (List Int):=if DI d gs ms (Cz cs (mask:Int) cs.length) m=true then none else some (BH (mask:Int) cs.length)
def DA (k f:Nat):List (List Int):=(List.range' k f).filterMap (LW d m gs ms cs)
def D9:List (List Int):=DA d m gs ms cs 0 (2 ^ cs.length)
def DW:Int:=if Av d m gs ms cs=0 then (if DI d gs ms cs m=true then 0 else if DI d gs ms (Cz cs 0 cs.length) m=true then 0 else 8) else Av d m gs ms cs
def Ey:List Int:=if Av d m gs ms cs=0∧DI d gs ms cs m=false∧DI d gs ms (Cz cs 0 cs.length) m=true then GZ ((D9 d m gs ms cs).getD 0 []) ((D9 d m gs ms cs).drop 1) else []
end
section
variable {d m:Int} {gs:List Good} {ms:List AC} {cs:List AH}
theorem N9 {k f:Nat} (h:DI d gs ms (Cz cs (k:Int) cs.length) m=true):DA d m gs ms cs k (f+1)=DA d m gs ms cs (k+1) f:=by
 unfold DA LW;rw [List.range'_succ,List.filterMap_cons];simp [h]
theorem OA {k f:Nat} (h:DI d gs ms (Cz cs (k:Int) cs.length) m=false):DA d m gs ms cs k (f+1)=BH (k:Int) cs.length ::DA d m gs ms cs (k+1) f:=by
 unfold DA LW;rw [List.range'_succ,List.filterMap_cons];simp [h]
theorem Ud {n i:Nat} (hn:n≤4) (hi:i<n):FD ((2 ^ n-1:Nat):Int) i=true:=by
 have h:∀n,n≤4→∀i,i<n→FD ((2 ^ n-1:Nat):Int) i=true:=by decide
 exact h n hn i hi
theorem Ue {α:Type} (l:List α) (z:α):(List.range l.length).map (fun i=>l.getD i z)=l:=by
 apply List.ext_getElem
 ·simp
 ·intro i h1 h2;simp [List.getD_eq_getElem?_getD,List.getElem?_eq_getElem h2]
theorem Uf (h:cs.length≤4):Cz cs ((2 ^ cs.length-1:Nat):Int) cs.length=cs:=by
 unfold Cz;rw [List.filter_eq_self.2 fun i hi=>Ud h (List.mem_range.1 hi)];exact Ue cs AH.z
theorem S1 (hcl:cs.length≤4) (h:DI d gs ms cs m=false):D9 d m gs ms cs≠[]:=by
 intro e;unfold D9 DA at e;rw [List.filterMap_eq_nil_iff] at e;have hp:0<2 ^ cs.length:=Nat.pow_pos (by decide)
 have:=e (2 ^ cs.length-1) (List.mem_range'.2 ⟨2 ^ cs.length-1,by omega,by omega⟩)
 unfold LW at this;rw [Uf hcl,if_neg (by rw [h];simp)] at this;cases this
theorem Ra (hcl:cs.length≤4):(D9 d m gs ms cs).length≤16:=by
 unfold D9 DA;refine Nat.le_trans (List.length_filterMap_le _ _) ?_;rw [List.length_range'];exact Nat.pow_le_pow_right (n:=2) (by decide) hcl
theorem PX (h:¬Av d m gs ms cs=0):DW d m gs ms cs=Av d m gs ms cs:=by unfold DW;rw [if_neg h]
theorem Ug (h:¬Av d m gs ms cs=0):Ey d m gs ms cs=[]:=by unfold Ey;rw [if_neg (fun e=>h e.1)]
theorem OB (h:Av d m gs ms cs=0) (h1:DI d gs ms cs m=true):DW d m gs ms cs=0:=by unfold DW;rw [if_pos h,if_pos h1]
theorem S2 (h1:DI d gs ms cs m=true):Ey d m gs ms cs=[]:=by unfold Ey;rw [if_neg (fun e=>by rw [h1] at e;cases e.2.1)]
theorem M3 (h:Av d m gs ms cs=0) (h1:DI d gs ms cs m=false) (h2:DI d gs ms (Cz cs 0 cs.length) m=false):DW d m gs ms cs=8:=by
 unfold DW;rw [if_pos h,if_neg (by rw [h1];simp),if_neg (by rw [h2];simp)]
theorem Rb (h2:DI d gs ms (Cz cs 0 cs.length) m=false):Ey d m gs ms cs=[]:=by unfold Ey;rw [if_neg (fun e=>by rw [h2] at e;cases e.2.2)]
theorem Rc (h:Av d m gs ms cs=0) (h1:DI d gs ms cs m=false) (h2:DI d gs ms (Cz cs 0 cs.length) m=true):DW d m gs ms cs=0:=by
 unfold DW;rw [if_pos h,if_neg (by rw [h1];simp),if_pos h2]
theorem XA {fl:List Sl} (h:Av d m gs ms cs=0) (h1:DI d gs ms cs m=false) (h2:DI d gs ms (Cz cs 0 cs.length) m=true) (hcl:cs.length≤4) (hfl:CI fl=D9 d m gs ms cs) :
  0<fl.length∧Ey d m gs ms cs=GZ (fl.getD 0 Sl.z).2 (CI (fl.drop 1)):=by
 have hne:=S1 (d:=d) (gs:=gs) (ms:=ms) hcl h1;have hpos:0<fl.length:=by
  rw [←DE,hfl];exact List.length_pos_iff.2 hne
 refine ⟨hpos,?_⟩;unfold Ey;rw [if_pos ⟨h,h1,h2⟩,←hfl,Fe hpos];congr 1;unfold CI;rw [List.map_drop]
end
theorem BE.pick {d m:Int} {gs:List Good} {ms:List AC} {cs:List AH} (b:BE d m gs ms cs) (mask:Int):BE d m gs ms (Cz cs mask cs.length):=
 { b with
  clen:=Nat.le_trans (P5 cs mask _) b.clen
  count:=fun k hk=>by
   have hm:=Cd (d:=AH.z) hk;generalize hx:(Cz cs mask cs.length).getD k AH.z=x at hm;unfold Cz at hm;obtain ⟨i,hi,e⟩:=List.mem_map.1 hm;have hi2:=List.mem_range.1 (List.mem_filter.1 hi).1
   have:=b.count i hi2
   unfold Ei at this ⊢;rw [hx,←e];exact this }
theorem CD.flags {h h':GH} {l:List Sl} (s:h.Same h') (a:CD h l):CD h' l:=fun k=>(a k).flags s
def RepL:Nat→List Int→Value→GH→Prop:=fun _ l v hm=>AO hm v 1 eI l
def GH.part (h:GH) (v:Value):GH:=fun b=>if B9 v=some b then h b else none
def GH.rest (h:GH) (v:Value):GH:=fun b=>if B9 v=some b then none else h b
theorem GH.split_part (h:GH) (v:Value):GH.Split h (h.rest v) (h.part v) where
 left:=fun b p o hb=>by
  unfold GH.rest at hb;split at hb
  ·cases hb
  ·exact ⟨p,hb,id⟩
 right:=fun b p o hb=>by
  unfold GH.part at hb;split at hb
  ·exact ⟨p,hb,id⟩
  ·cases hb
 one:=fun r o x h1 h2=>by
  unfold GH.rest at h1;unfold GH.part at h2;split at h1
  ·cases h1
  ·rename_i e;rw [if_neg e] at h2;cases h2
 two:=fun r o x h1 h2=>by
  unfold GH.rest at h2;unfold GH.part at h1;split at h2
  ·cases h2
  ·rename_i e;rw [if_neg e] at h1;cases h1
theorem Aa.part {α:Type} {h0 h:GH} {v:Value} {t:TypeId} {n:Nat} {enc:α→Array Value} {xs:List α} (x:Aa h0 h v t n enc xs):AO (h.part v) v n enc xs:=
 Aa.sl (h0:=h0) (x.keep fun b o hb ho=>by unfold GH.part;rw [if_pos hb];exact ho)
theorem Aa.le_rest {α:Type} {h0 h hb:GH} {v:Value} {t:TypeId} {n:Nat} {enc:α→Array Value} {xs:List α} (x:Aa h0 h v t n enc xs) (l:hb.Le h) (l0:hb.Le h0):hb.Le (h.rest v):=fun b p o hbb=>by
 unfold GH.rest;rw [if_neg]
 ·exact l b p o hbb
 ·intro e;rcases x with ⟨rfl,_⟩ | ⟨b1,cap,c,rfl,f0,_⟩
  ·cases e
  ·have:b1=b:=by simpa [B9] using e
   subst this
   have:=l0.keep hbb rfl
   rw [f0] at this;cases this
theorem AO.join {α:Type} {h hm:GH} {v:Value} {n:Nat} {enc:α→Array Value} {xs:List α} (x:AO hm v n enc xs) (c:h.Compat hm):AO (h.join hm) v n enc xs:=x.flags fun b p o hb=>by
 unfold GH.join;cases e:h b with
 | none=>exact ⟨p,hb⟩
 | some y=>obtain ⟨q,o'⟩:=y;obtain ⟨rfl,rfl,rfl⟩:=c b q o' p o e hb;exact ⟨false,rfl⟩
theorem GH.Compat.le {a h hm:GH} (l:a.Le h) (c:h.Compat hm):a.Compat hm:=fun b p o q o' x y=>c b p o q o' (l.keep x rfl) y
theorem GH.Le.joins {a h hm:GH} (l:a.Le h) (c:h.Compat hm):(a.join hm).Le (h.join hm):=fun b p o hb=>by
 unfold GH.join at hb ⊢;cases e:a b with
 | some x=>rw [e] at hb;cases hb;rw [l.keep e rfl];exact ⟨o,rfl,.inl rfl⟩
 | none=>
  rw [e] at hb;cases e2:h b with
  | none=>exact ⟨o,hb,.inl rfl⟩
  | some y=>obtain ⟨q,o'⟩:=y;obtain ⟨rfl,rfl,rfl⟩:=c b q o' p o e2 hb;exact ⟨_,rfl,.inl rfl⟩
theorem Aa.joins {α:Type} {h0 h hm:GH} {v:Value} {t:TypeId} {n:Nat} {enc:α→Array Value} {xs:List α} (x:Aa h0 h v t n enc xs) (c:h.Compat hm):Aa (h0.join hm) (h.join hm) v t n enc xs:=by
 rcases x with x | ⟨b,cap,cc,rfl,f0,f1,f2⟩
 ·exact .inl x
 ·refine .inr ⟨b,cap,cc,rfl,?_,?_,f2⟩
  ·unfold GH.join;rw [f0];cases e:hm b with
   | none=>rfl
   | some y=>obtain ⟨q,o'⟩:=y;have:=(c b _ _ q o' f1 e).1;cases this
  ·unfold GH.join;rw [f1]
section
variable {P:Program} {M:Type} {F:PV P M} {i i':Option (Fu M)} {σ:Nat→Value} {ds:List Deferred} {h:GH} {Q:Sx M}
theorem trI_ix {c:Code} (e:i=i') (x:K0 F c i' σ ds h Q):K0 F c i σ ds h Q:=e▸x
theorem WV {ops:Array Oper} {l:List Oper} (e:i=i') (x:LS F ops l i' σ ds h Q):LS F ops l i σ ds h Q:=e▸x
theorem XB {c:Code} {Q:Post} (x:K0 F c none σ ds h fun i e σ ds h=>i=none∧Q e σ ds h):Tr ⟨F.W,F.fn,F.rd,F.N⟩ c σ ds h Q:=by
 intro b k cs L t hb hr hl hs hc;refine x b k cs (fun i=>match i with | none=>L | some _=>fun _ _ _ _=>False) t hb hr (fun i=>?_) hs fun i e σ' ds' h' q t' ht'=>?_
 ·cases i with
  | none=>exact hl
  | some s=>exact ⟨fun _ _ _ x=>x.elim,fun _ _ _ _ x=>x.elim,fun _ _ _ _ _ _ x=>x.elim⟩
 ·obtain ⟨rfl,q⟩:=q;exact hc e σ' ds' h' q t' ht'
theorem trI_end {c:Code} {Q:Post} (x:Tr (F.env none) c σ ds h Q):K0 F c none σ ds h fun i e σ ds h=>i=none∧Q e σ ds h:=
 II (M8 (fun _ _ _ _ q=>⟨rfl,q⟩) x)
variable {dst:Option Nat} {ty:TypeId} {pos:String} {af:Array Edge} {gd:Option (Nat×Bool)}
theorem ZG {a x:Operand} {c:Nat} {v:Value} (ha:AY σ a=.chan (some c)) (hx:AY σ x=v) (w:World):(execOp (AY σ) ⟨dst,.send a x,ty,pos,af,gd⟩).runT P w #[]=(.ok (.comm #[scase c v (.tuple #[])] true .send) w,#[]):=by
 subst hx;show (Result.ok (Next.comm #[{ chan:=AY σ a,send:=some (AY σ x),zero:=.tuple #[] }] true .send) w,#[])=_;rw [ha];rfl
theorem ZH {a:Operand} {c:Nat} {t e:TypeId} {d:ChanDir} {ok:Bool} {z:Value} {inf:TypeInfo} (ht:P.underlying t=some (.chan d e)) (hi:P.info? e=some inf) (hz:inf.zero=some z) (ha:AY σ a=.chan (some c)) (w:World) :
  (execOp (AY σ) ⟨dst,.recv t a ok,ty,pos,af,gd⟩).runT P w #[]=(.ok (.comm #[rcase c z] true (.recv ok)) w,#[]):=by
 have h1:(zeroValue e).run P w=.ok z w:=by
  unfold zeroValue typeInfo;simp only [Sem.run_bind,program,hi];simp [Sem.run,hi,hz]
 have h2:(underlying t).run P w=.ok (.chan d e) w:=run_underlying ht w;rw [Sem.runT_eq];unfold execOp;simp [h1,h2,ha,rcase]
theorem QE {a:Operand} {c:Nat} {t e:TypeId} {d:ChanDir} {ok:Bool} {z:Value} (ht:P.underlying t=some (.chan d e)) (hz:(P.info? e).map (·.zero)=some (some z)) (ha:AY σ a=.chan (some c)) (w:World) :
  (execOp (AY σ) ⟨dst,.recv t a ok,ty,pos,af,gd⟩).runT P w #[]=(.ok (.comm #[rcase c z] true (.recv ok)) w,#[]):=by
 obtain ⟨inf,hi,h2⟩:=Option.map_eq_some_iff.1 hz;exact ZH ht hi h2 ha w
theorem run_go {x:Operand} {f:Fn} {cap:Array Value} {tys:Array TypeId} (hx:AY σ x=.func f #[] cap) (w:World):(execOp (AY σ) ⟨dst,.go ⟨.value x,#[],tys⟩,ty,pos,af,gd⟩).runT P w #[]=(.ok (.spawn { target:=.fn f cap,args:=#[] }) w,#[]):=by
 have e:resolve (AY σ) ⟨.value x,#[],tys⟩ ty=(pure { target:=.fn f cap,args:=#[] }:Sem Deferred):=by
  unfold resolve;simp only [hx,Deferred.ofValue];simp
 unfold execOp;simp only [e];rfl
variable {E:HI P} {T:(Nat→Value)→List Deferred→GH→Prop}
theorem S3 {t e:TypeId} {d:ChanDir} {n:Operand} (ht:P.underlying t=some (.chan d e)) (hi0:(P.info? e).isSome=true) (hn:AY σ n=.int .i64 0)
  (k:∀r h',h r=none→h.Le h'→h' r=some (true,.chan 0 #[] false 0 0 false)→(∀b,b≠r→h' b=h b)→T (putS σ dst (.chan (some r))) ds h'):Br E ⟨dst,.makeChan t n,ty,pos,af,gd⟩ σ ds h T:=by
 unfold Br execOp;refine F7 ?_;unfold Instr.makeChan;rw [hn];refine AI _ _ (BB ?_);refine AI _ _ (A0 ht ?_);simp only [];obtain ⟨inf,hi⟩:=Option.isSome_iff_exists.1 hi0;refine AI _ _ (C2 hi ?_);rw [if_neg (by simp [IntKind.max];decide)];refine AI _ _ ?_;exact fun r hr=>k r _ hr (GH.Le.new hr _ _) (GH.set_same _ _ _ _) fun b hb=>GH.set_ne _ _ _ hb
theorem trL_def {ops:Array Oper} {l:List Oper} {o:Oper} {Q:Post} (hg:o.guard=none) (hrd:E.rd=none) (hd:En o.dst E.N=true) (x:Br E o σ ds h fun σ' ds' h'=>ER E ops l σ' ds' h' Q):ER E ops (o ::l) σ ds h Q:=
 YY hg (.inl hrd) hd x
theorem PY {x:Operand} {c:Nat} {tys:Array TypeId} {bs:Array Bool} (hx:AY σ x=.chan (some c)) (hb:(#[x].map fun | .const _=>true | _=>false)=bs) (k:T (putS σ dst undef) (Kh tys ty bs c ::ds) h) :
  Br E ⟨dst,.defer ⟨.builtin .close,#[x],tys⟩,ty,pos,af,gd⟩ σ ds h T:=by
 unfold Br execOp;simp only [];refine AI _ _ ?_;unfold resolve;simp only [];refine BB (BB ?_);have e:(#[x].map (AY σ):Array Value)=#[.chan (some c)]:=by simp [hx]
 rw [e];subst hb;exact k
end
section
variable {d m:Int} {gs:List Good} {ms:List AC} {cs:List AH} {k c:Nat}
theorem Uh (hk:k<2 ^ cs.length) (h:DI d gs ms (Cz cs (k:Int) cs.length) m=true) :
  some (IJ c (DA d m gs ms cs k (2 ^ cs.length-k)))=some (IJ c (DA d m gs ms cs (k+1) (2 ^ cs.length-(k+1)))):=by
 rw [show 2 ^ cs.length-k=(2 ^ cs.length-(k+1))+1 by omega,N9 h]
theorem Ui (hk:k<2 ^ cs.length) (h:DI d gs ms (Cz cs (k:Int) cs.length) m=false) :
  some (IJ c (DA d m gs ms cs k (2 ^ cs.length-k)))=some (.send c (BH (k:Int) cs.length) (IJ c (DA d m gs ms cs (k+1) (2 ^ cs.length-(k+1))))):=by
 rw [show 2 ^ cs.length-k=(2 ^ cs.length-(k+1))+1 by omega,OA h];rfl
theorem XC (hk:2 ^ cs.length≤k):some (IJ c (DA d m gs ms cs k (2 ^ cs.length-k)))=some (.close c .done):=by
 rw [show 2 ^ cs.length-k=0 by omega];rfl
theorem S4 (h:(k:Int)<(2:Int) ^ ((cs.length:Int)).toNat):k<2 ^ cs.length:=by
 have:=RY cs.length
 rw [Int.toNat_natCast] at h;omega
theorem ZI (h:¬(k:Int)<(2:Int) ^ ((cs.length:Int)).toNat):2 ^ cs.length≤k:=by
 have:=RY cs.length
 rw [Int.toNat_natCast] at h;omega
end
end Go.Ns
