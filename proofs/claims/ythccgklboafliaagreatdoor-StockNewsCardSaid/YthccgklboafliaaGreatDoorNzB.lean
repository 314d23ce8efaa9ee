/- Rules and walks, part 2 of 6. No conditions. -/
import Derived.Sort.AssemblyPlain
import Derived.Sort.LotD3
import Derived.Test.YthccgklboafliaaGreatDoorNzA
set_option linter.unusedVariables false
set_option linter.unusedSimpArgs false
set_option linter.unnecessarySimpa false
set_option linter.unusedSectionVars false
namespace Go.Ns
open Go.Conc
section
variable {P:Program} {E:HB P} {O:Nat->Value} {ds:List Deferred} {h:GH} {T:(Nat->Value)->List Deferred->GH->Prop}
variable {dst:Option Nat} {ty:TypeId} {pos:String} {af:Array Edge} {gd:Option (Nat×Bool)}
variable {U:Type}
def Ft(R:GH->GH->Prop):List RF->Prop
 | []=>True
 | φ ::l=>(∀v h h',R h h'->φ v h->φ v h')/\Ft R l
theorem Ft.mono{R:GH->GH->Prop}:∀{Φ:List RF},Ft R Φ->∀k v h h',R h h'->M6 Φ k v h->M6 Φ k v h'
 | [],_,k,v,h,h',_,x=>by cases k <;> exact x
 | φ ::l,ok,0,v,h,h',r,x=>ok.1 v h h' r x
 | φ ::l,ok,k+1,v,h,h',r,x=>Ft.mono ok.2 k v h h' r x
theorem Uf{R:GH->GH->Prop}(rr:∀h,R h h)(rt:∀a b c,R a b->R b c->R a c){id:Nat}{l:List Oper}{Q:Post}(n:Nat)(cls:List (List Nat))(Φ:List RF)
  (hm:P.follows .mixedOrders=true) (ok:PR E.N l n cls=true) (mono:Ft R Φ) (x:M7 R E l n Φ O ds h Q n 0 l cls):Tr E (.region id l.toArray true) O ds h Q:=
 tr_draw R n cls Φ hm ok rr rt mono.mono x
theorem PZ{id:Nat}{l:List Oper}{Q:Post}(n:Nat)(cls:List (List Nat))(Φ:List RF)
  (hm:P.follows .mixedOrders=true) (ok:PR E.N l n cls=true) (mono:Ft GH.Le Φ) (x:M7 GH.Le E l n Φ O ds h Q n 0 l cls):Tr E (.region id l.toArray true) O ds h Q:=
 Uf GH.Le.refl (λ_ _ _=>GH.Le.trans) n cls Φ hm ok mono x
theorem trL_opg{ops:Array Oper}{o:Oper}{l:List Oper}{Q:Post}{j d:Nat}{want:Bool}{oj:Oper}(hg:o.guard=some (j,want))(hj:ops[j]? =some oj)(hjd:oj.dst=some d)(hv:O d=.bool want)(hdj:Nat.blt d E.N=true)
  (hdf:E.rd=none\/Ei o.op=false) (hd:Dj o.dst E.N=true) (x:Bg E o O ds h λσ' ds' h'=>Dp E ops l σ' ds' h' Q):Dp E ops (o ::l) O ds h Q:=S5 hg hj hjd hv hdj hdf hd x
theorem Bj{ops:Array Oper}{o:Oper}{l:List Oper}{Q:Post}{j d:Nat}{want:Bool}{oj:Oper}(hg:o.guard=some (j,want))(hj:ops[j]? =some oj)(hjd:oj.dst=some d)(hv:O d=undef)(hdj:Nat.blt d E.N=true)
  (hd:Dj o.dst E.N=true) (x:Dp E ops l (putS O o.dst undef) ds h Q):Dp E ops (o ::l) O ds h Q:=by
 intro i b k cs L t hi hb hr hl hs hc;have ho:ops[i]? =some o:=by simpa using (hi 0).symm
 have hy:yielded ops t j=none:=by
  have hlt:d<t.size:=by rw [hs.1];exact Nat.blt_eq▸hdj
  have h2:=hs.2 d;rw [hv] at h2;have h3:t[d]? =some undef:=by
   simp only [Array.getD_eq_getD_getElem?,Array.getElem?_eq_getElem hlt,Option.getD_some] at h2;rw [Array.getElem?_eq_getElem hlt,h2]
  simp [yielded,hj,hjd,h3,undef]
 refine Wk.go (C2 b (Zl t o.dst undef) ds (.inRegion ops (List.range' (i+1) l.length) ::k)) (λw=>?_) ?_
 ·have hw':((ops[i]?).map (Region.wanted · (yielded ops t))).getD false=false:=by
   simp only [ho,Option.map_some,Option.getD_some,Region.wanted,hg,hy];cases want <;> rfl
  rw [<-Df ho (rest:=List.range' (i+1) l.length),List.length_cons,List.range'_succ,A9];unfold stepG.exec;simp only [C2,hw',Bool.false_eq_true,↓reduceIte];rfl
 ·exact x (i+1) b k cs L _ (λj=>by have:=hi (j+1);simpa [Nat.add_assoc,Nat.add_comm 1 j] using this) hb hr hl (hs.putS hd undef) hc
theorem BR{ops:Array Oper}{l:List Oper}{Q:Post}{p:Prop}[Decidable p](a:p->Dp E ops l O ds h Q)(a':¬p->Dp E ops l O ds h Q):Dp E ops l O ds h Q:=if h:p then a h else a' h
theorem LB{ops:Array Oper}{l:List Oper}{Q:Post}{b:Bool}(a:b=true->Dp E ops l O ds h Q)(a':b=false->Dp E ops l O ds h Q):Dp E ops l O ds h Q:=by
 cases b with
 | true=>exact a rfl
 | false=>exact a' rfl
theorem Jk{f:Fn}{x1:Operand}{v1:Value}(h1:AQ O x1=v1)(k:T (putS O dst (.func f #[] #[v1])) ds h):Bg E ⟨dst,.makeFunc f #[] #[x1],ty,pos,af,gd⟩ O ds h T:=HC (by simp [h1]) k
theorem GG{f:Fn}{x1 x2:Operand}{v1 v2:Value}(h1:AQ O x1=v1)(h2:AQ O x2=v2)(k:T (putS O dst (.func f #[] #[v1,v2])) ds h):Bg E ⟨dst,.makeFunc f #[] #[x1,x2],ty,pos,af,gd⟩ O ds h T:=HC (by simp [h1,h2]) k
theorem He{f:Fn}{x1 x2 x3:Operand}{v1 v2 v3:Value}(h1:AQ O x1=v1)(h2:AQ O x2=v2)(h3:AQ O x3=v3)(k:T (putS O dst (.func f #[] #[v1,v2,v3])) ds h):Bg E ⟨dst,.makeFunc f #[] #[x1,x2,x3],ty,pos,af,gd⟩ O ds h T:=HC (by simp [h1,h2,h3]) k
theorem TB{f:Fn}{x1 x2 x3 x4:Operand}{v1 v2 v3 v4:Value}(h1:AQ O x1=v1)(h2:AQ O x2=v2)(h3:AQ O x3=v3)(h4:AQ O x4=v4)(k:T (putS O dst (.func f #[] #[v1,v2,v3,v4])) ds h):Bg E ⟨dst,.makeFunc f #[] #[x1,x2,x3,x4],ty,pos,af,gd⟩ O ds h T:=HC (by simp [h1,h2,h3,h4]) k
theorem TC{f:Fn}{x1 x2 x3 x4 x5:Operand}{v1 v2 v3 v4 v5:Value}(h1:AQ O x1=v1)(h2:AQ O x2=v2)(h3:AQ O x3=v3)(h4:AQ O x4=v4)(h5:AQ O x5=v5)(k:T (putS O dst (.func f #[] #[v1,v2,v3,v4,v5])) ds h):Bg E ⟨dst,.makeFunc f #[] #[x1,x2,x3,x4,x5],ty,pos,af,gd⟩ O ds h T:=HC (by simp [h1,h2,h3,h4,h5]) k
theorem Dc{v:Value}{p:Prop}[Decidable p](e:v=.bool (decide p))(g:v=.bool false):¬p:=by
 rw [e] at g;simpa using g
theorem AI.fresh{h0 h:GH}{v:Value}{t:TypeId}{n:Nat}{enc:U->Array Value}{xs:List U}(x:AI h0 h v t n enc xs):∀b,B7 v=some b->h0 b=none:=by
 intro b hb;rcases x with ⟨rfl,_⟩ | ⟨b',cap,c,rfl,h1,_⟩
 ·cases hb
 ·simp [B7] at hb;subst hb;exact h1
theorem AI.inDom{h0 h:GH}{v:Value}{t:TypeId}{n:Nat}{enc:U->Array Value}{xs:List U}(x:AI h0 h v t n enc xs):∀b,B7 v=some b->∃o,h b=some o:=by
 intro b hb;rcases x with ⟨rfl,_⟩ | ⟨b',cap,c,rfl,h1,h2,_⟩
 ·cases hb
 ·simp [B7] at hb;subst hb;exact ⟨_,h2⟩
def A8(v:Value)(b:Nat):Prop:=B7 v≠some b
def Apart(v w:Value):Prop:=∀b,B7 v=some b->B7 w≠some b
theorem Apart.symm{v w:Value}(a:Apart v w):Apart w v:=λb h h'=>a b h' h
theorem A8.nil{b:Nat}:A8 (.slice none 0 0) b:=by intro h;cases h
theorem Apart.nil{w:Value}:Apart (.slice none 0 0) w:=by intro b h;cases h
theorem A8.old{h0 h:GH}{v:Value}{t:TypeId}{n:Nat}{enc:U->Array Value}{xs:List U}(x:AI h0 h v t n enc xs){b:Nat}{o:Bool×Obj}(hb:h0 b=some o):A8 v b:=λe=>by
 rw [x.fresh b e] at hb;cases hb
theorem A8.new{h0 h:GH}{v:Value}{t:TypeId}{n:Nat}{enc:U->Array Value}{xs:List U}(x:AI h0 h v t n enc xs){b:Nat}(hb:h b=none):A8 v b:=λe=>by
 obtain ⟨o,ho⟩:=x.inDom b e;rw [hb] at ho;cases ho
def EV(h h':GH)(v v':Value):Prop:=(∀b o,h b=some o->B7 v≠some b->h' b=some o)/\(B7 v'=B7 v\/((∃r,B7 v'=some r/\h r=none)/\∀b o,h b=some o->h' b=some o))
theorem A8.grown{h h':GH}{v v':Value}(g:EV h h' v v'){b:Nat}{o:Bool×Obj}(hb:h b=some o)(x:A8 v b):A8 v' b:=λe=>by
 rcases g.2 with q | ⟨⟨r,q1,q2⟩,_⟩
 ·exact x (q▸e)
 ·rw [q1] at e;cases e;rw [q2] at hb;cases hb
theorem Apart.grown{h h' h0:GH}{v v' w:Value}(g:EV h h' v v'){t:TypeId}{n:Nat}{enc:U->Array Value}{xs:List U}(y:AI h0 h w t n enc xs)(x:Apart v w):Apart v' w:=λb e e'=>by
 obtain ⟨o,ho⟩:=y.inDom b e';rcases g.2 with q | ⟨⟨r,q1,q2⟩,_⟩
 ·exact x b (q▸e) e'
 ·rw [q1] at e;cases e;rw [q2] at ho;cases ho
theorem AI.grown{h h' h0:GH}{v v' w:Value}(g:EV h h' v v'){t:TypeId}{n:Nat}{enc:U->Array Value}{xs:List U}(y:AI h0 h w t n enc xs)(x:Apart v w):AI h0 h' w t n enc xs:=
 y.keep λb o hb ho=>g.1 b o ho λe=>x b e hb
theorem GH.Le.grown{h1 h h':GH}{v v':Value}(g:EV h h' v v')(l:h1.Le h)(f:∀b,B7 v=some b->h1 b=none):h1.Le h':=λb p o hb=>by
 obtain ⟨o',h2,h3⟩:=l b p o hb;exact ⟨o',g.1 b _ h2 λe=>(by rw [f b e] at hb;cases hb),h3⟩
theorem Bn{h h':GH}{v v':Value}(g:EV h h' v v'){b:Nat}{o:Bool×Obj}(hb:h b=some o)(x:A8 v b):h' b=some o:=g.1 b o hb x
theorem AI.stored{h0 h h':GH}{v:Value}{t:TypeId}{n:Nat}{enc:U->Array Value}{xs:List U}(y:AI h0 h v t n enc xs){r:Nat}(x:A8 v r)(ho:∀b,b≠r->h' b=h b):AI h0 h' v t n enc xs:=
 y.keep λb o hb hb'=>by rw [ho b λe=>by subst e;exact x hb];exact hb'
theorem BL{s x:TypeId}{o1 o2:Operand}{h0:GH}{v w:Value}{e n bytes:Nat}{enc:U->Array Value}{xs ys:List U}(ht:I9 P s x=some (e,n,bytes))(h1:AQ O o1=v)(h2:AQ O o2=w)
  (hv:AI h0 h v e n enc xs) (hw:AE h w n enc ys) (l0:∀r,h r=none->h0 r=none) (hb:(2*(xs.length+ys.length)+512)*bytes<=2 ^ 48) (hfine:∀y ∈ ys,(enc y).toList.all (·.oneCell')=true)
  (k:∀v' h',AI h0 h' v' e n enc (xs++ys)->EV h h' v v'->T (putS O dst v') ds h') :
  Bg E ⟨dst,.call ⟨.builtin .append,#[o1,o2],#[s,x]⟩,ty,pos,af,gd⟩ O ds h T:=
 Zp ht h1 h2 hv hw l0 hb hfine λv' h' a b c=>k v' h' a ⟨b,c⟩
theorem Ar{h0:GH}{t:TypeId}{x ix:Operand}{n:Nat}{enc:U->Array Value}{xs:List U}{v:Value}{kd:IntKind}{i:Int}(ht:Eg P t=some n)(hs:AE h0 v n enc xs)(hx:AQ O x=v)(hi:AQ O ix=.int kd i)(h0':0<=i)(h1:i<xs.length)
  (k:∀b off,AX h0 b off n (enc (xs[i.toNat]' aA))->T (putS O dst (.pointer (some ⟨b,off,none⟩))) ds h):Bg E ⟨dst,.indexAddr t x ix,ty,pos,af,gd⟩ O ds h T:=by
 obtain ⟨a,cap,rfl,_,_,he⟩:=hs;obtain ⟨b,off,rfl,hb⟩:=he i.toNat aA;exact AK ht hx hi h0' h1 (k b _ hb)
theorem AI.built{h h':GH}{r:Nat}{t:TypeId}{n:Nat}{enc:U->Array Value}{xs:List U}{c:Array Value}{m:Nat}(hr:h r=none)(hb:h' r=some (true,.cells c t (0,0)))(hm:xs.length=m)(hml:Nat.ble m 16777216=true)(hn:∀x ∈ xs,(enc x).size=n)(hc:c.toList=Db enc xs) :
  AI h h' (.slice (some ⟨r,0,none⟩) m m) t n enc xs:=by
 subst hm
 have:=Nat.le_of_ble_eq_true hml
 refine .inr ⟨r,_,c,rfl,hr,hb,?_,Nat.le_refl _,aA,?_,hn⟩
 ·rw [<-Eh hn,<-hc,Array.length_toList]
 ·rw [hc,<-Eh hn,List.take_length]
theorem Ab{t:TypeId}{len n:Nat}{z cells:Array Value}{e:TypeId}{parts:Array (Nat×Operand)}(hs:EI P t=some (n,z,e))(hl:len*n<=2 ^ 24)(hn:(len*n=0)=False)
  (hf:Instr.fill (λi=>some (i*n,n)) ((Array.range (len*n)).map (z[·%z.size]!)) (parts.map λ(i,x)=>(i,AQ O x)).toList=some cells)
  (k:∀r h',h r=none->h.Le h'->h' r=some (true,.cells cells e (0,0))->(∀b,b≠r->h' b=h b)->T (putS O dst (.slice (some ⟨r,0,none⟩) len len)) ds h'):Bg E ⟨dst,.buildSlice t len parts,ty,pos,af,gd⟩ O ds h T:=
 RE hs hl hn hf λr hr=>k r _ hr (GH.Le.new hr _ _) (GH.set_same _ _ _ _) λb hb=>GH.set_ne _ _ _ hb
theorem Ug{s x:TypeId}{o1 o2:Operand}{b off dl cap n:Nat}{e:TypeId}{enc:U->Array Value}{ys:List U}{w:Value}{c c':Array Value}(ht:Eg P s=some n)(h1:AQ O o1=.slice (some ⟨b,off,none⟩) dl cap)(h2:AQ O o2=w)
  (hb:h b=some (true,.cells c e (0,0))) (hn:off+dl*n<=c.size) (hw:AE h w n enc ys) (hl:ys.length<=dl) (hfine:∀y ∈ ys,(enc y).toList.all (·.oneCell')=true) (hsz:∀y ∈ ys,(enc y).size=n) (hc:Bz c off (Db enc ys)=c')
  (k:∀h',h' b=some (true,.cells c' e (0,0))->(∀x,x≠b->h' x=h x)->T (putS O dst (.int .i64 ys.length)) ds h') :
  Bg E ⟨dst,.call ⟨.builtin .copy,#[o1,o2],#[s,x]⟩,ty,pos,af,gd⟩ O ds h T:=
 ok_copy ht h1 h2 hb hn hw hl hfine hsz (k _ (by rw [hc];exact GH.set_same _ _ _ _) λx hx=>GH.set_ne _ _ _ hx)
theorem DC{t:TypeId}{n:Nat}{z:Array Value}{e:TypeId}(hs:EI P t=some (n,z,e))(k:∀r h',h r=none->h.Le h'->h' r=some (true,.cells #[] e (0,0))->(∀b,b≠r->h' b=h b)->T (putS O dst (.slice (some ⟨r,0,none⟩) 0 0)) ds h') :
  Bg E ⟨dst,.buildSlice t 0 #[],ty,pos,af,gd⟩ O ds h T:=by
 unfold Bg execOp;refine Gb ?_;unfold EI at hs;unfold Instr.buildSlice;cases hu:P.underlying t with
 | none=>rw [hu] at hs;cases hs
 | some d=>
  rw [hu] at hs;cases d <;> first | (cases hs;done) | skip
  rename_i e'
  simp only at hs;cases ht:Cj P e' with
  | none=>rw [ht] at hs;cases hs
  | some x=>
   cases hz:CS P e' with
   | none=>rw [ht,hz] at hs;cases hs
   | some z'=>
    rw [ht,hz] at hs;simp only [Option.some.injEq,Prod.mk.injEq] at hs;obtain ⟨rfl,rfl,rfl⟩:=hs;refine AL _ _ (Ap hu ?_);refine AL _ _ (Gc (by rw [ht];rfl) ?_);rw [Nat.zero_mul,if_neg aC];dsimp only;rw [if_pos rfl];refine AL _ _ (A6 ?_);have e0:Instr.fill (λi=>some (i*x.snd,x.snd)) (Array.map (λy=>(#[]:Array Value)[y%(#[]:Array Value).size]!) (Array.range 0)) (Array.map (λy:Nat×Operand=>(y.fst,AQ O y.snd)) #[]).toList=some #[]:=by
     simp [Instr.fill]
    rw [e0];dsimp only;refine AL _ _ ?_;unfold newRow;refine AL _ _ (λr hr=>?_);exact k r _ hr (GH.Le.new hr _ _) (GH.set_same _ _ _ _) λb hb=>GH.set_ne _ _ _ hb
end
end Go.Ns
namespace Go.Ns
open Go.Conc
section
variable {P:Program} {E:HB P}
def Hf:Op->Option (List Operand)
 | .move x | .assign x | .box _ x | .unOp _ _ x | .convert _ _ x | .load _ x | .fieldAddr _ x _ | .field _ x _ | .nilCheck x | .extract x _ | .makeInterface _ x | .makeChan _ x | .typeAssert x _ _ _=>some [x]
 | .pick c a b=>some [c,a,b]
 | .alloc _=>some []
 | .build _ ps | .buildSlice _ _ ps=>some (ps.toList.map (·.2))
 | .store _ a x | .binOp _ _ a x _ | .indexAddr _ a x | .index _ a x | .lookup _ a x _ | .makeSlice _ a x=>some [a,x]
 | .makeFunc _ f c=>some (f.toList++c.toList)
 | .makeMap _ r=>some r.toList
 | .slice _ x lo hi mx=>some (x ::(lo.toList++(hi.toList++mx.toList)))
 | .mapUpdate _ m k x=>some [m,k,x]
 | .call c=>some (c.args.toList++match c.callee with | .value f=>[f] | .invoke r _=>[r] | .builtin _=>[])
 | _=>none
theorem Pa{ρ ρ':Operand->Value}{a:Array Operand}(e:∀x ∈ a.toList,ρ x=ρ' x):a.map ρ=a.map ρ':=by
 apply Array.toList_inj.1;rw [Array.toList_map,Array.toList_map];exact List.map_congr_left e
theorem Uh{ρ ρ':Operand->Value}{a:Array (Nat×Operand)}(e:∀x ∈ a.toList.map (·.2),ρ x=ρ' x):(a.map λ(i,x)=>(i,ρ x))=a.map λ(i,x)=>(i,ρ' x):=by
 apply Array.toList_inj.1;rw [Array.toList_map,Array.toList_map];exact List.map_congr_left λx hx=>by
  have:=e x.2 (List.mem_map.2 ⟨x,hx,rfl⟩)
  obtain ⟨i,y⟩:=x;exact congrArg (Prod.mk i) this
theorem ZG{ρ ρ':Operand->Value}{a:Option Operand}(e:∀x ∈ a.toList,ρ x=ρ' x):a.map ρ=a.map ρ':=by
 cases a with
 | none=>rfl
 | some x=>simp [e x aD]
theorem M9{ρ ρ':Operand->Value}{o:Oper}{xs:List Operand}(hx:Hf o.op=some xs)(e:∀x ∈ xs,ρ x=ρ' x):execOp ρ o=execOp ρ' o:=by
 obtain ⟨dst,op,ty,pos,af,gd⟩:=o;cases op <;> simp only [Hf,Option.some.injEq,reduceCtorEq] at hx
 case call c=>
  subst hx;have e1:=Pa (a:=c.args) λx hx=>e x (List.mem_append_left _ hx);simp only [execOp,resolve,e1];cases hc:c.callee with
  | builtin b=>rfl
  | value f=>simp only [];rw [e f (List.mem_append_right _ (by rw [hc];simp))]
  | invoke r m=>simp only [];rw [e r (List.mem_append_right _ (by rw [hc];simp))]
 case makeFunc f a b=>
  subst hx;simp only [execOp];rw [Pa (a:=a) λx hx=>e x (List.mem_append_left _ hx),Pa (a:=b) λx hx=>e x (List.mem_append_right _ hx)]
 case slice t x lo hi mx=>
  subst hx;simp only [execOp];rw [e x aD,ZG (a:=lo) λy hy=>e y aF,ZG (a:=hi) λy hy=>e y aF,ZG (a:=mx) λy hy=>e y aF]
 case build t ps=>subst hx;simp only [execOp];rw [Uh e]
 case buildSlice t n ps=>subst hx;simp only [execOp];rw [Uh e]
 case makeMap t r=>subst hx;simp only [execOp];rw [ZG e]
 all_goals
  subst hx;simp only [List.mem_cons,or_false,forall_eq_or_imp,forall_eq,List.not_mem_nil,false_implies,implies_true] at e;simp [execOp,e]
def G0(xs:List Operand):List Nat:=xs.filterMap λx=>match x with | .tmp t=>some t | _=>none
theorem OV{O σ':Nat->Value}{xs:List Operand}(e:∀t ∈ G0 xs,O t=σ' t):∀x ∈ xs,AQ O x=AQ σ' x:=λx hx=>by
 cases x with
 | tmp t=>exact e t (List.mem_filterMap.2 ⟨_,hx,rfl⟩)
 | const v=>rfl
 | global g=>rfl
 | func f=>rfl
def Li:Op->Bool
 | .call c=>match c.callee with
  | .builtin b=>b==.len || b==.cap || b==.min || b==.max
  | _=>false
 | .move _ | .assign _ | .nilCheck _ | .pick .. | .build .. | .load .. | .binOp .. | .unOp .. | .convert .. | .makeFunc .. | .fieldAddr .. | .field .. | .indexAddr .. | .index .. | .extract .. | .lookup .. | .slice .. | .makeInterface .. | .typeAssert .. =>true
 | _=>false
theorem LC{β:Type}{s:Sem β}{f:β->Value}{h:GH}{Q:Next->GH->Prop}:(s.bind λx=>(Sem.pure (Next.value (f x)):Sem Next)).gh P h Q->(s.bind λx=>(Sem.pure (Next.value (f x)):Sem Next)).gh P h λa h'=>Q a h'/\∃v,a=.value v:=by
 induction s generalizing h with
 | pure a=>intro x;exact ⟨x,_,rfl⟩
 | load m a k ih=>rintro ⟨x1,x2,p,c,t,f,v,y1,y2,z⟩;exact ⟨x1,x2,p,c,t,f,v,y1,y2,ih v z⟩
 | store m a v k ih=>rintro ⟨x1,x2,x3,c,t,f,y1,y2,y3,z⟩;exact ⟨x1,x2,x3,c,t,f,y1,y2,y3,ih z⟩
 | new o k ih=>intro x r hr;exact ih r (x r hr)
 | shape r k ih=>rintro ⟨p,c,t,f,y,z⟩;exact ⟨p,c,t,f,y,ih _ z⟩
 | freeze a n k ih=>
  rintro (⟨y,z⟩ | ⟨y,c,t,f,y2,z⟩)
  ·exact .inl ⟨y,ih z⟩
  ·exact .inr ⟨y,c,t,f,y2,ih z⟩
 | frozen a k ih=>rintro ⟨p,c,t,f,y,z⟩;exact ⟨p,c,t,f,y,ih _ z⟩
 | getObj r k ih=>rintro ⟨p,o,y1,y2,y3,z⟩;exact ⟨p,o,y1,y2,y3,ih _ z⟩
 | setObj r o k ih=>rintro ⟨o',y1,y2,y2',y3,z⟩;exact ⟨o',y1,y2,y2',y3,ih z⟩
 | choose q k ih=>rintro ⟨y,z⟩;exact ⟨λx=>ih _ (y x),λx t=>ih _ (z x t)⟩
 | sys c k ih=>intro x;exact x.elim
 | program k ih=>intro x;exact ih _ x
 | mark m k ih=>rintro ⟨y,z⟩;exact ⟨y,ih z⟩
 | halt x=>intro y;exact y.elim
def H7(P:Program)(e:Sem Next):Prop:=∀(h:GH)(Q:Next->GH->Prop),e.gh P h Q->e.gh P h λa h'=>Q a h'/\∃v,a=.value v
theorem H7.bind{β:Type}{s:Sem β}{f:β->Sem Next}(hf:∀a,H7 P (f a)):H7 P (s.bind f):=by
 induction s with
 | pure a=>exact hf a
 | load m a k ih=>rintro h Q ⟨x1,x2,p,c,t,f,v,y1,y2,z⟩;exact ⟨x1,x2,p,c,t,f,v,y1,y2,ih v _ _ z⟩
 | store m a v k ih=>rintro h Q ⟨x1,x2,x3,c,t,f,y1,y2,y3,z⟩;exact ⟨x1,x2,x3,c,t,f,y1,y2,y3,ih _ _ z⟩
 | new o k ih=>intro h Q x r hr;exact ih r _ _ (x r hr)
 | shape r k ih=>rintro h Q ⟨p,c,t,f,y,z⟩;exact ⟨p,c,t,f,y,ih _ _ _ z⟩
 | freeze a n k ih=>
  rintro h Q (⟨y,z⟩ | ⟨y,c,t,f,y2,z⟩)
  ·exact .inl ⟨y,ih _ _ z⟩
  ·exact .inr ⟨y,c,t,f,y2,ih _ _ z⟩
 | frozen a k ih=>rintro h Q ⟨p,c,t,f,y,z⟩;exact ⟨p,c,t,f,y,ih _ _ _ z⟩
 | getObj r k ih=>rintro h Q ⟨p,o,y1,y2,y3,z⟩;exact ⟨p,o,y1,y2,y3,ih _ _ _ z⟩
 | setObj r o k ih=>rintro h Q ⟨o',y1,y2,y2',y3,z⟩;exact ⟨o',y1,y2,y2',y3,ih _ _ z⟩
 | choose q k ih=>rintro h Q ⟨y,z⟩;exact ⟨λx=>ih _ _ _ (y x),λx t=>ih _ _ _ (z x t)⟩
 | sys c k ih=>intro h Q x;exact x.elim
 | program k ih=>intro h Q x;exact ih _ _ _ x
 | mark m k ih=>rintro h Q ⟨y,z⟩;exact ⟨y,ih _ _ z⟩
 | halt x=>intro h Q y;exact y.elim
theorem H7.value(v:Value):H7 P (pure (.value v)):=λ_ _ x=>⟨x,v,rfl⟩
theorem leaf_val{ρ:Operand->Value}{o:Oper}(hv:Li o.op=true){h:GH}{Q:Next->GH->Prop}(x:(execOp ρ o).gh P h Q):(execOp ρ o).gh P h λa h'=>Q a h'/\∃v,a=.value v:=by
 obtain ⟨dst,op,ty,pos,af,gd⟩:=o;cases op
 case nilCheck a=>
  have hp:H7 P (runtimePanic .nilDeref:Sem Next):=λ_ _ y=>by first | exact y.elim | exact H7.bind (λ_=>λ_ _ z=>z.elim) _ _ y
  have key:H7 P (execOp ρ ⟨dst,.nilCheck a,ty,pos,af,gd⟩):=by
   unfold execOp;dsimp only;split
   ·exact hp
   ·exact hp
   ·exact hp
   ·split
    ·exact hp
    ·refine H7.bind λp=>H7.bind λr=>?_;split
     ·exact H7.bind λ_=>H7.value _
     ·exact H7.value _
    ·exact H7.value _
   ·exact H7.value _
  exact key _ _ x
 case call c=>
  simp only [Li] at hv;have e:∀s:Sem Value,execOp ρ ⟨dst,.call c,ty,pos,af,gd⟩=s.bind (λx=>Sem.pure (Next.value x))->(execOp ρ ⟨dst,.call c,ty,pos,af,gd⟩).gh P h λa h'=>Q a h'/\∃v,a=.value v:=λs q=>by
   rw [q] at x ⊢;exact LC (f:=λx=>x) x
  cases hc:c.callee with
  | value f=>rw [hc] at hv;cases hv
  | invoke r m=>rw [hc] at hv;cases hv
  | builtin b=>
   rw [hc] at hv;have q:execOp ρ ⟨dst,.call c,ty,pos,af,gd⟩=builtin b c.argTypes ty (c.args.map fun | .const _=>true | _=>false) (c.args.map ρ):=by
    show (resolve ρ c ty).bind _=_;unfold resolve;rw [hc];rfl
   cases b <;> first | (simp at hv;done) | exact e _ q
 all_goals first | (simp [Li] at hv;done) | skip
 all_goals first | exact LC (s:=Sem.pure _) (f:=λ_=>_) x | exact LC (f:=λx=>x) x | exact LC (β:=Bool) x
theorem GH.Le.get{h h':GH}(l:h.Le h'){b:Nat}{x:Bool×Obj}(hb:h b=some x):h' b=some x:=l.keep (p:=x.1) (o:=x.2) hb rfl
theorem GH.Le.of{h h':GH}(x:∀b y,h b=some y->h' b=some y):h.Le h':=λb p o hb=>⟨o,x b _ hb,.inl rfl⟩
def Zq(h' h2:GH):GH:=λb=>match h' b with
 | some x=>some x
 | none=>h2 b
theorem Ru{h h2:GH}(l:h.Le h2):Zq h h2=h2:=funext λb=>by
 unfold Zq;split
 ·rename_i x hb;exact (l.get hb).symm
 ·rfl
theorem GH.Le.set2{h h2:GH}(l:h.Le h2)(r:Nat)(p:Bool)(o:Obj):(h.set r p o).Le (h2.set r p o):=.of λb y hb=>by
 by_cases e:b=r
 ·subst e;rw [GH.set_same] at hb ⊢;exact hb
 ·rw [GH.set_ne h p o e] at hb;rw [GH.set_ne h2 p o e];exact l.get hb
def Ui(h h':GH):Prop:=∀b,(∃x,h b=some x)->∃x,h' b=some x
theorem NA{h h' h2:GH}{r:Nat}{p:Bool}{o:Obj}(d:Ui (h.set r p o) h'):Zq h' (h2.set r p o)=Zq h' h2:=funext λb=>by
 unfold Zq;by_cases e:b=r
 ·subst e;obtain ⟨x,hx⟩:=d b ⟨_,GH.set_same h b p o⟩;rw [hx]
 ·rw [GH.set_ne h2 p o e]
theorem Ui.set{h h':GH}{r:Nat}{p:Bool}{o:Obj}(d:Ui (h.set r p o) h'):Ui h h':=λb ⟨x,hx⟩=>by
 by_cases e:b=r
 ·subst e;exact d b ⟨_,GH.set_same h b p o⟩
 ·exact d b ⟨x,by rw [GH.set_ne h p o e];exact hx⟩
theorem gh_over{U:Type}(e:Sem U){Q:U->GH->Prop}:∀{h h2:GH},h.Le h2->e.gh P h Q->e.gh P h2 λa h3=>∃h',Ui h h'/\Q a h'/\h3=Zq h' h2:=by
 induction e with
 | pure a=>intro h h2 l x;exact ⟨h,λ_ y=>y,x,(Ru l).symm⟩
 | load m a k ih=>rintro h h2 l ⟨x1,x2,p,c,t,f,v,y1,y2,z⟩;exact ⟨x1,x2,p,c,t,f,v,l.get y1,y2,ih v l z⟩
 | store m a v k ih=>
  rintro h h2 l ⟨x1,x2,x3,c,t,f,y1,y2,y3,z⟩;exact ⟨x1,x2,x3,c,t,f,l.get y1,y2,y3,FT _ (λ_ _ ⟨h',d,q,r⟩=>⟨h',d.set,q,r.trans (NA d)⟩) _ (ih (l.set2 _ _ _) z)⟩
 | new o k ih=>
  intro h h2 l x r hr;have hr0:h r=none:=by
   cases hb:h r with
   | none=>rfl
   | some y=>rw [l.get hb] at hr;cases hr
  exact FT _ (λ_ _ ⟨h',d,q,r⟩=>⟨h',d.set,q,r.trans (NA d)⟩) _ (ih r (l.set2 _ _ _) (x r hr0))
 | shape r k ih=>rintro h h2 l ⟨p,c,t,f,y,z⟩;exact ⟨p,c,t,f,l.get y,ih _ l z⟩
 | freeze a n k ih=>
  rintro h h2 l (⟨y,z⟩ | ⟨y,c,t,f,y2,z⟩)
  ·exact .inl ⟨y,ih l z⟩
  ·exact .inr ⟨y,c,t,f,l.get y2,FT _ (λ_ _ ⟨h',d,q,r⟩=>⟨h',d.set,q,r.trans (NA d)⟩) _ (ih (l.set2 _ _ _) z)⟩
 | frozen a k ih=>rintro h h2 l ⟨p,c,t,f,y,z⟩;exact ⟨p,c,t,f,l.get y,ih _ l z⟩
 | getObj r k ih=>rintro h h2 l ⟨p,o,y1,y2,y3,z⟩;exact ⟨p,o,l.get y1,y2,y3,ih _ l z⟩
 | setObj r o k ih=>
  rintro h h2 l ⟨o',y1,y2,y2',y3,z⟩;exact ⟨o',l.get y1,y2,y2',y3,FT _ (λ_ _ ⟨h',d,q,r⟩=>⟨h',d.set,q,r.trans (NA d)⟩) _ (ih (l.set2 _ _ _) z)⟩
 | choose q k ih=>rintro h h2 l ⟨y,z⟩;exact ⟨λx=>ih _ l (y x),λx t=>ih _ l (z x t)⟩
 | sys c k ih=>intro h h2 l x;exact x.elim
 | program k ih=>intro h h2 l x;exact ih _ l x
 | mark m k ih=>rintro h h2 l ⟨y,z⟩;exact ⟨y,ih l z⟩
 | halt x=>intro h h2 l y;exact y.elim
def Uj(E:HB P)(o:Oper)(O:Nat->Value)(ds:List Deferred)(h:GH)(v:Value):Prop:=Bg E o O ds h λσ' ds' h'=>σ'=putS O o.dst v/\ds'=ds/\h'=h
theorem Uj.move{o:Oper}{xs:List Operand}{O σ2:Nat->Value}{ds:List Deferred}{h h2:GH}{v:Value}(hv:Li o.op=true)(hx:Hf o.op=some xs)(e:∀t ∈ G0 xs,O t=σ2 t)(l:h.Le h2)
  (y:Uj E o O ds h v):Uj E o σ2 ds h2 v:=by
 unfold Uj Bg at y ⊢;rw [<-M9 hx (OV e)];refine FT _ ?_ _ (gh_over _ l (leaf_val hv y));rintro a h3 ⟨h',_,⟨q,v',rfl⟩,rfl⟩;obtain ⟨q1,_,rfl⟩:=q;refine ⟨?_,rfl,Ru l⟩;cases hd:o.dst with
 | none=>rfl
 | some d=>
  have:=congrFun q1 d
  simp only [hd,putS,upd_same] at this;rw [this]
theorem Bg.move{o:Oper}{xs:List Operand}{O σ2:Nat->Value}{ds:List Deferred}{h:GH}{T T2:(Nat->Value)->List Deferred->GH->Prop}(hx:Hf o.op=some xs)(e:∀t ∈ G0 xs,O t=σ2 t)
  (ht:∀x ds' h',T (putS O o.dst x) ds' h'->T2 (putS σ2 o.dst x) ds' h') (y:Bg E o O ds h T):Bg E o σ2 ds h T2:=by
 unfold Bg at y ⊢;rw [<-M9 hx (OV e)];refine FT _ (λnx h' q=>?_) _ y;cases nx <;> first | exact ht _ _ _ q | exact AY.mono q λv h'' r=>ht _ _ _ r | exact CH.mono q λv h'' r=>ht _ _ _ r | exact q
inductive Kd where
 | p | r | e | w | a | l | b
 deriving DecidableEq
def Kd.fix:Kd->Bool
 | .a | .l | .b=>false
 | _=>true
def Gd(l:List Oper)(o:Oper)(O:Nat->Value)(b:Bool):Prop:=match o.guard with
 | none=>b=true
 | some (g,w)=>∃og d is,l[g]? =some og/\og.dst=some d/\O d=.bool is/\b=(is==w)
theorem Gd.iff{l:List Oper}{o:Oper}{O:Nat->Value}{b:Bool}(x:Gd l o O b):DA l o O↔b=true:=by
 unfold Gd at x;unfold DA;cases hg:o.guard with
 | none=>rw [hg] at x;simp only at x;simp [x]
 | some y=>
  obtain ⟨g,w⟩:=y;rw [hg] at x;obtain ⟨og,d,is,h1,h2,h3,rfl⟩:=x;simp only [h1,h2,h3];simp
def Gw(fl:Bool)(h hx:GH):Prop:=h.Le hx/\(fl=false->hx=h)
theorem Gw.refl(fl:Bool)(h:GH):Gw fl h h:=⟨GH.Le.refl h,λ_=>rfl⟩
def zOf(P:Program)(t:TypeId):Array Value:=(CS P t).getD #[]
def TD(E:HB P)(l:List Oper)(n:Nat)(fl:Bool)(hs:GH)(ds:List Deferred)(Lw:Nat->Value->GH->Prop)(F:(Nat->Value)->GH->Prop):List (Kd×Nat)->(Nat->Value)->GH->Prop
 | [],O,h=>∀hx,Gw fl h hx->F O hx
 | (kd,k) ::V,O,h=>∃o b,l[k]? =some o/\Gd l o O b/\(b=false->TD E l n fl hs ds Lw F V (putS O o.dst undef) h)/\(b=true->match kd with
  | .p=>∃v,(∀hx,Lw n undef hx->Uj E o O ds hx v)/\TD E l n fl hs ds Lw F V (putS O o.dst v) h
  | .r=>∃v,Uj E o O ds h v/\TD E l n fl hs ds Lw F V (putS O o.dst v) h
  | .e=>∀hx,Gw fl h hx->Bg E o O ds hx λσ' ds' h'=>ds'=ds/\∃v,σ'=putS O o.dst v/\hx.Le h'/\TD E l n fl hs ds Lw F V (putS O o.dst v) h'
  | .w=>∀hx,Gw fl h hx->Bg E o O ds hx λσ' ds' h'=>ds'=ds/\∃v,σ'=putS O o.dst v/\Lw n undef h'/\TD E l n fl hs ds Lw F V (putS O o.dst v) h'
  | .a=>∀t r hx,o.op=.alloc t->h.Le hx->hs r=none->hx r=some (true,.cells (zOf P t) t (0,0))->TD E l n fl hs ds Lw F V (putS O o.dst (.pointer (some ⟨r,0,none⟩))) hx
  | .l=>(∀hx,h.Le hx->Bg E o O ds hx λσ' ds' h'=>ds'=ds/\∃v,σ'=putS O o.dst v/\hx.Le h'/\Lw k v h')/\TD E l n fl hs ds Lw F V O h
  | .b=>∀v hx,h.Le hx->Lw k v hx->TD E l n fl hs ds Lw F V (putS O o.dst v) hx)
def H8(l:List Oper)(n:Nat)(cl seen:List Nat)(t:Nat):Bool:= !(Dq l n).contains t || seen.any λj=>cl.contains j && match l[j]? with
 | some oj=>oj.dst==some t
 | none=>false
def TE(P:Program):Op->Bool
 | .alloc t=>(CS P t).isSome
 | _=>false
def GX(P:Program)(l:List Oper)(n:Nat)(cls:List (List Nat))(fl:Bool):List (Kd×Nat)->List Nat->List Nat->List Nat->Bool->Bool
 | [],seen,_,_,_=>(List.range n).all seen.contains
 | (kd,k) ::V,seen,effs,rds,wr=>match l[k]? with
  | none=>false
  | some o=>(match Hf o.op with
    | none=>false
    | some xs=>Nat.blt k n && !seen.contains k && (G0 xs).all (H8 l n (cls.getD k []) seen)) &&
   (match o.guard with
    | none=>true
    | some (g,_)=>seen.contains g && (cls.getD k []).contains g) &&
   (match kd with
    | .p=>Li o.op && effs.all (cls.getD k []).contains && GX P l n cls fl V (k ::seen) effs rds wr
    | .r=>Li o.op && effs.all (cls.getD k []).contains && GX P l n cls fl V (k ::seen) effs (k ::rds) wr
    | .e=>effs.all (cls.getD k []).contains && GX P l n cls fl V (k ::seen) (k ::effs) rds wr
    | .w=>effs.all (cls.getD k []).contains && rds.all (cls.getD k []).contains && GX P l n cls fl V (k ::seen) (k ::effs) rds true
    | .a=>fl && !wr && TE P o.op && o.dst.isSome && o.guard.isNone && GX P l n cls fl V (k ::seen) (k ::effs) rds wr
    | .l=>fl && o.dst.isSome && o.guard.isNone && effs.all (cls.getD k []).contains && GX P l n cls fl V seen effs rds wr
    | .b=>fl && !wr && o.dst.isSome && o.guard.isNone && GX P l n cls fl V (k ::seen) (k ::effs) rds wr)
structure PF(E:HB P)(l:List Oper)(n:Nat)(cls:List (List Nat))(ds:List Deferred)(Lw:Nat->Value->GH->Prop)(seen rds:List Nat)(σr:Nat->Value)(h':GH)(k:Nat)(o:Oper)(xs:List Operand)(b:Bool)(v:Value):Prop where
 at':l[k]? =some o
 op:Hf o.op=some xs
 val:Li o.op=true
 fix:∀t ∈ G0 xs,H8 l n (cls.getD k []) seen t=true
 gfix:∀g w,o.guard=some (g,w)->g ∈ seen/\g ∈ cls.getD k []
 gd:Gd l o σr b
 vop:b=true->Uj E o σr ds h' v/\(k ∈ rds\/∀hx,Lw n undef hx->Uj E o σr ds hx v)
 is:∀d,o.dst=some d->σr d=if b=true then v else undef
def Zs(E:HB P)(l:List Oper)(n:Nat)(cls:List (List Nat))(ds:List Deferred)(Lw:Nat->Value->GH->Prop)(seen:List Nat)(σr:Nat->Value)(h':GH)(k:Nat):Prop:=
 ∃o xs,l[k]? =some o/\Hf o.op=some xs/\(∀t ∈ G0 xs,H8 l n (cls.getD k []) seen t=true)/\
  ∀σ2 hx,(∀t ∈ G0 xs,σr t=σ2 t)->h'.Le hx->Bg E o σ2 ds hx λσ'' ds' h2=>ds'=ds/\∃v,σ''=putS σ2 o.dst v/\hx.Le h2/\Lw k v h2
structure Jl(E:HB P)(l:List Oper)(n:Nat)(cls:List (List Nat))(fl:Bool)(hs:GH)(ds:List Deferred)(Lw:Nat->Value->GH->Prop)(F:(Nat->Value)->GH->Prop)(seen effs rds:List Nat)(wr:Bool)(V:List (Kd×Nat))(σr:Nat->Value)(hr:GH)
  (D:Nat->Bool) (σ':Nat->Value) (h':GH):Prop where
 td:TD E l n fl hs ds Lw F V σr hr
 ok:GX P l n cls fl V seen effs rds wr=true
 gw:Gw fl hr h'
 base:∀t,(Dq l n).contains t=false->σ' t=σr t
 lt:∀k ∈ seen,k<n
 eff:∀k ∈ effs,D k=true
 rest:∀kd k,(kd,k) ∈ V->kd.fix=true->D k=false
 done:∀k ∈ seen,D k=true->∀o d,l[k]? =some o->o.dst=some d->σ' d=σr d
 pend:∀k ∈ seen,D k=false->∃o xs b v,PF E l n cls ds Lw seen rds σr h' k o xs b v
 flo:∀k,(Kd.a,k) ∈ V->D k=true->∀o t d,l[k]? =some o->o.op=.alloc t->o.dst=some d->∃r,σ' d=.pointer (some ⟨r,0,none⟩)/\hs r=none/\h' r=some (true,.cells (zOf P t) t (0,0))
 flb:∀k,(Kd.b,k) ∈ V->D k=false->(Kd.l,k) ∈ V\/Zs E l n cls ds Lw seen σr h' k
 fld:∀k,(Kd.b,k) ∈ V->D k=true->∀o d,l[k]? =some o->o.dst=some d->Lw k (σ' d) h'
 mono:∀k v h1 h2,GH.Le h1 h2->Lw k v h1->Lw k v h2
 frm:Lw n undef h'
 pre:wr=false->hs.Le h'
 clos:∀k,k<n->D k=true->∀q ∈ cls.getD k [],D q=true
theorem KX{l:List Oper}{n:Nat}{cl seen:List Nat}{k t:Nat}(x:H8 l n cl seen t=true):H8 l n cl (k ::seen) t=true:=by
 unfold H8 at x ⊢;rw [Bool.or_eq_true] at x ⊢;rcases x with x | x
 ·exact .inl x
 ·exact .inr (by rw [List.any_cons,x];simp)
theorem Nt{l:List Oper}{n:Nat}{cl seen:List Nat}{k t d:Nat}{o:Oper}(nd:(Dq l n).Nodup)(hlt:∀k ∈ seen,k<n)(hk:k<n)(hs:k ∉ seen)(ho:l[k]? =some o)(hd:o.dst=some d)(x:H8 l n cl seen t=true):t≠d:=by
 intro e;subst e;unfold H8 at x;rw [Bool.or_eq_true] at x;rcases x with x | x
 ·have:t ∈ Dq l n:=by
   simp only [Dq,List.mem_filterMap];refine ⟨o,?_,hd⟩
   have:(l.take n)[k]? =some o:=by rw [List.getElem?_take];simp [hk,ho]
   exact List.mem_of_getElem? this
  simp [this] at x
 ·rw [List.any_eq_true] at x;obtain ⟨j,hj,y⟩:=x;rw [Bool.and_eq_true] at y;cases hoj:l[j]? with
  | none=>rw [hoj] at y;simp at y
  | some oj=>
   rw [hoj] at y;have y2:oj.dst=some t:=by simpa using y.2
   exact EB nd hk (hlt j hj) (λe=>hs (e▸hj)) ho hoj hd y2 rfl
theorem DD{O:Nat->Value}{o:Oper}{v:Value}{t:Nat}(h:∀d,o.dst=some d->t≠d):putS O o.dst v t=O t:=by
 cases hd:o.dst with
 | none=>rfl
 | some d=>exact upd_ne O v (MB (h d hd))
theorem Ib{l:List Oper}{n k t:Nat}{o:Oper}(hk:k<n)(ho:l[k]? =some o)(ht:(Dq l n).contains t=false):∀d,o.dst=some d->t≠d:=λd hd e=>by
 subst e;rw [PT hk ho hd] at ht;cases ht
section
variable {l:List Oper} {n:Nat} {cls:List (List Nat)} {fl:Bool} {hs:GH} {ds:List Deferred} {Lw:Nat->Value->GH->Prop} {F:(Nat->Value)->GH->Prop} {seen effs rds:List Nat} {wr:Bool} {V:List (Kd×Nat)} {σr σ':Nat->Value} {hr h':GH} {D:Nat->Bool}
theorem Gd.put{o ok:Oper}{k:Nat}{b:Bool}{v:Value}(nd:(Dq l n).Nodup)(hlt:∀k ∈ seen,k<n)(hk:k<n)(hks:k ∉ seen)(hok:l[k]? =some ok)(hg:∀g w,o.guard=some (g,w)->g ∈ seen)(x:Gd l o σr b):Gd l o (putS σr ok.dst v) b:=by
 unfold Gd at x ⊢;cases hgd:o.guard with
 | none=>rw [hgd] at x;exact x
 | some y=>
  obtain ⟨g,w⟩:=y;rw [hgd] at x;obtain ⟨og,d,is,h1,h2,h3,h4⟩:=x;have hgs:=hg g w hgd;exact ⟨og,d,is,h1,h2,by rw [DD λd' hd'=>EB nd hk (hlt g hgs) (λe=>hks (e▸hgs)) hok h1 hd' h2];exact h3,h4⟩
theorem PF.put{k j:Nat}{o ok:Oper}{xs:List Operand}{b:Bool}{v w:Value}(nd:(Dq l n).Nodup)(hlt:∀k ∈ seen,k<n)(hk:k<n)(hks:k ∉ seen)(hok:l[k]? =some ok)(hj:j ∈ seen)(l2:hr.Le h')
  (x:PF E l n cls ds Lw seen rds σr hr j o xs b v):PF E l n cls ds Lw (k ::seen) rds (putS σr ok.dst w) h' j o xs b v where
 at':=x.at'
 op:=x.op
 val:=x.val
 fix:=λt ht=>KX (x.fix t ht)
 gfix:=λg w' hg=>⟨List.mem_cons_of_mem _ (x.gfix g w' hg).1,(x.gfix g w' hg).2⟩
 gd:=x.gd.put nd hlt hk hks hok λg w' hg=>(x.gfix g w' hg).1
 vop:=λhb=>by
  have e:∀t ∈ G0 xs,σr t=putS σr ok.dst w t:=λt ht=>(DD λd hd=>Nt nd hlt hk hks hok hd (x.fix t ht)).symm;obtain ⟨y1,y2⟩:=x.vop hb;exact ⟨y1.move x.val x.op e l2,y2.imp id λy hx hf=>(y hx hf).move x.val x.op e (GH.Le.refl _)⟩
 is:=λd hd=>by rw [DD λd' hd'=>EB nd hk (hlt j hj) (λe=>hks (e▸hj)) hok x.at' hd' hd];exact x.is d hd
theorem PF.more{j:Nat}{o:Oper}{xs:List Operand}{b:Bool}{v:Value}{k:Nat}(x:PF E l n cls ds Lw seen rds σr h' j o xs b v):PF E l n cls ds Lw seen (k ::rds) σr h' j o xs b v:=
 { x with vop:=λhb=>⟨(x.vop hb).1,(x.vop hb).2.imp (List.mem_cons_of_mem _) id⟩ }
theorem Zs.put{k j:Nat}{ok:Oper}{w:Value}(nd:(Dq l n).Nodup)(hlt:∀k ∈ seen,k<n)(hk:k<n)(hks:k ∉ seen)(hok:l[k]? =some ok)(x:Zs E l n cls ds Lw seen σr h' j):Zs E l n cls ds Lw (k ::seen) (putS σr ok.dst w) h' j:=by
 obtain ⟨o,xs,h1,h2,h3,h4⟩:=x;exact ⟨o,xs,h1,h2,λt ht=>KX (h3 t ht),λσ2 hx e l2=>h4 σ2 hx (λt ht=>(DD λd hd=>Nt nd hlt hk hks hok hd (h3 t ht)).symm.trans (e t ht)) l2⟩
theorem Zs.le{j:Nat}{h2:GH}(l2:h'.Le h2)(x:Zs E l n cls ds Lw seen σr h' j):Zs E l n cls ds Lw seen σr h2 j:=by
 obtain ⟨o,xs,h1,h3,h4,h5⟩:=x;exact ⟨o,xs,h1,h3,h4,λσ2 hx e l3=>h5 σ2 hx e (l2.trans l3)⟩
theorem GI{kd kd2:Kd}{k j:Nat}(h:(kd2,j) ∈ (kd,k) ::V)(ne:kd2≠kd):(kd2,j) ∈ V:=by
 rcases List.mem_cons.1 h with e | h
 ·cases e;exact absurd rfl ne
 ·exact h
def headOK(P:Program)(l:List Oper)(n:Nat)(cls:List (List Nat))(fl:Bool)(V:List (Kd×Nat))(seen effs rds:List Nat)(wr:Bool)(k:Nat)(o:Oper):Kd->Prop
 | .p=>Li o.op=true/\(∀q ∈ effs,q ∈ cls.getD k [])/\GX P l n cls fl V (k ::seen) effs rds wr=true
 | .r=>Li o.op=true/\(∀q ∈ effs,q ∈ cls.getD k [])/\GX P l n cls fl V (k ::seen) effs (k ::rds) wr=true
 | .e=>(∀q ∈ effs,q ∈ cls.getD k [])/\GX P l n cls fl V (k ::seen) (k ::effs) rds wr=true
 | .w=>(∀q ∈ effs,q ∈ cls.getD k [])/\(∀q ∈ rds,q ∈ cls.getD k [])/\GX P l n cls fl V (k ::seen) (k ::effs) rds true=true
 | .a=>fl=true/\wr=false/\TE P o.op=true/\o.dst.isSome=true/\o.guard=none/\GX P l n cls fl V (k ::seen) (k ::effs) rds wr=true
 | .l=>fl=true/\o.dst.isSome=true/\o.guard=none/\(∀q ∈ effs,q ∈ cls.getD k [])/\GX P l n cls fl V seen effs rds wr=true
 | .b=>fl=true/\wr=false/\o.dst.isSome=true/\o.guard=none/\GX P l n cls fl V (k ::seen) (k ::effs) rds wr=true
theorem FY{kd:Kd}{k:Nat}(x:GX P l n cls fl ((kd,k) ::V) seen effs rds wr=true) :
  ∃o xs,l[k]? =some o/\Hf o.op=some xs/\k<n/\k ∉ seen/\(∀t ∈ G0 xs,H8 l n (cls.getD k []) seen t=true)/\(∀g w,o.guard=some (g,w)->g ∈ seen/\g ∈ cls.getD k [])/\
  headOK P l n cls fl V seen effs rds wr k o kd:=by
 unfold GX at x;cases ho:l[k]? with
 | none=>rw [ho] at x;cases x
 | some o=>
  rw [ho] at x;simp only [Bool.and_eq_true] at x;obtain ⟨⟨x1,x2⟩,x3⟩:=x;cases hx:Hf o.op with
  | none=>rw [hx] at x1;cases x1
  | some xs=>
   rw [hx] at x1;simp only [Bool.and_eq_true,Bool.not_eq_true',List.all_eq_true] at x1;obtain ⟨⟨y1,y2⟩,y3⟩:=x1;refine ⟨o,xs,rfl,hx,Nat.blt_eq▸y1,(λhm=>by rw [List.contains_iff_mem.2 hm] at y2;cases y2),y3,λg w hg=>?_,?_⟩
   ·rw [hg] at x2;simp only [Bool.and_eq_true] at x2;exact ⟨List.contains_iff_mem.1 x2.1,List.contains_iff_mem.1 x2.2⟩
   ·cases kd <;> unfold headOK <;> simp only [Bool.and_eq_true,List.all_eq_true,List.contains_iff_mem,Bool.not_eq_true',Option.isNone_iff_eq_none] at x3 ⊢
    ·exact ⟨x3.1.1,x3.1.2,x3.2⟩
    ·exact ⟨x3.1.1,x3.1.2,x3.2⟩
    ·exact x3
    ·exact ⟨x3.1.1,x3.1.2,x3.2⟩
    ·exact ⟨x3.1.1.1.1.1,x3.1.1.1.1.2,x3.1.1.1.2,x3.1.1.2,x3.1.2,x3.2⟩
    ·exact ⟨x3.1.1.1.1,x3.1.1.1.2,x3.1.1.2,x3.1.2,x3.2⟩
    ·exact ⟨x3.1.1.1.1,x3.1.1.1.2,x3.1.1.2,x3.1.2,x3.2⟩
theorem Hq{kd:Kd}{k:Nat}(x:GX P l n cls fl ((kd,k) ::V) seen effs rds wr=true):∃seen' effs' rds' wr',GX P l n cls fl V seen' effs' rds' wr'=true/\(∀q ∈ seen,q ∈ seen')/\(kd≠.l->seen'=k ::seen)/\(kd=.l->seen'=seen)/\(∀q ∈ effs,q ∈ effs')/\(kd=.e\/kd=.w\/kd=.a\/kd=.b->k ∈ effs'):=by
 obtain ⟨o,xs,_,_,_,_,_,_,y⟩:=FY x;cases kd with
 | p=>exact ⟨_,_,_,_,y.2.2,λ_ q=>List.mem_cons_of_mem _ q,λ_=>rfl,(λe=>by cases e),λ_ q=>q,λe=>by rcases e with e | e | e | e <;> cases e⟩
 | r=>exact ⟨_,_,_,_,y.2.2,λ_ q=>List.mem_cons_of_mem _ q,λ_=>rfl,(λe=>by cases e),λ_ q=>q,λe=>by rcases e with e | e | e | e <;> cases e⟩
 | e=>exact ⟨_,_,_,_,y.2,λ_ q=>List.mem_cons_of_mem _ q,λ_=>rfl,(λe=>by cases e),λ_ q=>List.mem_cons_of_mem _ q,λ_=>List.mem_cons_self⟩
 | w=>exact ⟨_,_,_,_,y.2.2,λ_ q=>List.mem_cons_of_mem _ q,λ_=>rfl,(λe=>by cases e),λ_ q=>List.mem_cons_of_mem _ q,λ_=>List.mem_cons_self⟩
 | a=>exact ⟨_,_,_,_,y.2.2.2.2.2,λ_ q=>List.mem_cons_of_mem _ q,λ_=>rfl,(λe=>by cases e),λ_ q=>List.mem_cons_of_mem _ q,λ_=>List.mem_cons_self⟩
 | l=>exact ⟨_,_,_,_,y.2.2.2.2,λ_ q=>q,(λe=>absurd rfl e),λ_=>rfl,λ_ q=>q,λe=>by rcases e with e | e | e | e <;> cases e⟩
 | b=>exact ⟨_,_,_,_,y.2.2.2.2,λ_ q=>List.mem_cons_of_mem _ q,λ_=>rfl,(λe=>by cases e),λ_ q=>List.mem_cons_of_mem _ q,λ_=>List.mem_cons_self⟩
theorem DQ:∀{V:List (Kd×Nat)}{seen effs rds:List Nat}{wr:Bool},GX P l n cls fl V seen effs rds wr=true->∀kd k,(kd,k) ∈ V->k ∉ seen/\k<n
 | [],_,_,_,_,_,kd,k,h=>by cases h
 | (kd',k') ::V,seen,effs,rds,wr,x,kd,k,h=>by
  obtain ⟨o,xs,_,_,h1,h2,_⟩:=FY x;rcases List.mem_cons.1 h with e | h
  ·cases e;exact ⟨h2,h1⟩
  ·obtain ⟨seen',effs',rds',wr',y,z,_⟩:=Hq x
   have:=DQ y kd k h
   exact ⟨λq=>this.1 (z _ q),this.2⟩
theorem Pb:∀{V:List (Kd×Nat)}{seen effs rds:List Nat}{wr:Bool},GX P l n cls fl V seen effs rds wr=true->∀i,i<n->i ∈ seen\/∃kd,(kd,i) ∈ V/\kd≠.l
 | [],seen,_,_,_,x,i,hi=>by
  unfold GX at x;exact .inl (List.contains_iff_mem.1 (List.all_eq_true.1 x i (List.mem_range.2 hi)))
 | (kd',k') ::V,seen,effs,rds,wr,x,i,hi=>by
  obtain ⟨seen',effs',rds',wr',y,_,z1,z2,_⟩:=Hq x;rcases Pb y i hi with h | ⟨kd,h,hne⟩
  ·by_cases e:kd'=.l
   ·rw [z2 e] at h;exact .inl h
   ·rw [z1 e] at h;rcases List.mem_cons.1 h with rfl | h
    ·exact .inr ⟨kd',List.mem_cons_self,e⟩
    ·exact .inl h
  ·exact .inr ⟨kd,List.mem_cons_of_mem _ h,hne⟩
theorem Pc:∀{V:List (Kd×Nat)}{seen effs rds:List Nat}{wr:Bool},GX P l n cls fl V seen effs rds wr=true->∀kd k,(kd,k) ∈ V->kd≠.a->kd≠.b->∀q ∈ effs,q ∈ cls.getD k []
 | [],_,_,_,_,_,kd,k,h=>by cases h
 | (kd',k') ::V,seen,effs,rds,wr,x,kd,k,h=>by
  intro hne hnb q hq;rcases List.mem_cons.1 h with e | h
  ·cases e;obtain ⟨o,xs,_,_,_,_,_,_,y⟩:=FY x;cases kd' with
   | p=>exact y.2.1 q hq
   | r=>exact y.2.1 q hq
   | e=>exact y.1 q hq
   | w=>exact y.1 q hq
   | a=>exact absurd rfl hne
   | l=>exact y.2.2.2.1 q hq
   | b=>exact absurd rfl hnb
  ·obtain ⟨seen',effs',rds',wr',y,_,_,_,z,_⟩:=Hq x;exact Pc y kd k h hne hnb q (z q hq)
theorem Dg:∀{V:List (Kd×Nat)}{seen effs rds:List Nat}{wr:Bool},GX P l n cls fl V seen effs rds wr=true->∀kd k,(kd,k) ∈ V->kd=.a\/kd=.b->fl=true/\wr=false/\k<n/\∃o,l[k]? =some o/\(kd=.a->TE P o.op=true)/\o.dst.isSome=true/\o.guard=none
 | [],_,_,_,_,_,kd,k,h=>by cases h
 | (kd',k') ::V,seen,effs,rds,wr,x,kd,k,h=>by
  intro hkd;obtain ⟨o,xs,ho,hx,h1,h2,h3,h4,hh⟩:=FY x;rcases List.mem_cons.1 h with e | h6
  ·cases e;rcases hkd with rfl | rfl
   ·exact ⟨hh.1,hh.2.1,h1,o,ho,λ_=>hh.2.2.1,hh.2.2.2.1,hh.2.2.2.2.1⟩
   ·exact ⟨hh.1,hh.2.1,h1,o,ho,(λe=>by cases e),hh.2.2.1,hh.2.2.2.1⟩
  ·cases kd' with
   | p=>exact Dg hh.2.2 kd k h6 hkd
   | r=>exact Dg hh.2.2 kd k h6 hkd
   | e=>exact Dg hh.2 kd k h6 hkd
   | w=>have:=(Dg hh.2.2 kd k h6 hkd).2.1;cases this
   | a=>exact Dg hh.2.2.2.2.2 kd k h6 hkd
   | l=>exact Dg hh.2.2.2.2 kd k h6 hkd
   | b=>exact Dg hh.2.2.2.2 kd k h6 hkd
theorem LD{k:Nat}:IW D k k=true:=by simp [IW]
theorem Cg{k j:Nat}(h:j≠k):IW D k j=D j:=by unfold IW;rw [if_neg (λe=>h e.symm)]
theorem Fo{k j:Nat}(h:D j=true):IW D k j=true:=by unfold IW;split <;> simp [h]
theorem Jl.agree(x:Jl E l n cls fl hs ds Lw F seen effs rds wr V σr hr D σ' h'){cl:List Nat}(hcl:∀q ∈ cl,D q=true){t:Nat}(y:H8 l n cl seen t=true):σr t=σ' t:=by
 unfold H8 at y;rw [Bool.or_eq_true] at y;rcases y with y | y
 ·exact (x.base t (by simpa using y)).symm
 ·rw [List.any_eq_true] at y;obtain ⟨j,hj,z⟩:=y;rw [Bool.and_eq_true] at z;cases hoj:l[j]? with
  | none=>rw [hoj] at z;simp at z
  | some oj=>
   rw [hoj] at z;exact (x.done j hj (hcl j (List.contains_iff_mem.1 z.1)) oj t hoj (by simpa using z.2)).symm
theorem Jl.guard(x:Jl E l n cls fl hs ds Lw F seen effs rds wr V σr hr D σ' h'){cl:List Nat}(hcl:∀q ∈ cl,D q=true){o:Oper}{b:Bool}(hg:∀g w,o.guard=some (g,w)->g ∈ seen/\g ∈ cl)(y:Gd l o σr b):Gd l o σ' b:=by
 unfold Gd at y ⊢;cases hgd:o.guard with
 | none=>rw [hgd] at y;exact y
 | some z=>
  obtain ⟨g,w⟩:=z;rw [hgd] at y;obtain ⟨og,d,is,h1,h2,h3,h4⟩:=y;exact ⟨og,d,is,h1,h2,by rw [x.done g (hg g w hgd).1 (hcl g (hg g w hgd).2) og d h1 h2];exact h3,h4⟩
theorem Jl.unfoldV{kd:Kd}{k:Nat}(nd:(Dq l n).Nodup)(hkd:kd=.p\/kd=.r)(x:Jl E l n cls fl hs ds Lw F seen effs rds wr ((kd,k) ::V) σr hr D σ' h') :
  ∃rds' σr',Jl E l n cls fl hs ds Lw F (k ::seen) effs rds' wr V σr' hr D σ' h':=by
 obtain ⟨o,xs,ho,hx,hkn,hks,hfix,hg,hh⟩:=FY x.ok;obtain ⟨o2,b,ho2,hgd,hF,hT⟩:=x.td;obtain rfl:o2=o:=Option.some.inj (ho2.symm.trans ho);have hkD:D k=false:=x.rest kd k List.mem_cons_self (by rcases hkd with e | e <;> rw [e] <;> rfl);have hval:Li o2.op=true:=by rcases hkd with rfl | rfl <;> exact hh.1
 have key:∀(v:Value)(rds':List Nat),(rds'=rds\/rds'=k ::rds)->GX P l n cls fl V (k ::seen) effs rds' wr=true->TD E l n fl hs ds Lw F V (putS σr o2.dst (if b=true then v else undef)) hr->
   (b=true->Uj E o2 σr ds h' v/\(k ∈ rds'\/∀hx,Lw n undef hx->Uj E o2 σr ds hx v))->Jl E l n cls fl hs ds Lw F (k ::seen) effs rds' wr V (putS σr o2.dst (if b=true then v else undef)) hr D σ' h':=by
  intro v rds' hrds ok' td' hv;refine ⟨td',ok',x.gw,λt ht=>?_,λj hj=>?_,x.eff,λkd' j hj hne=>x.rest kd' j (List.mem_cons_of_mem _ hj) hne,λj hj hDj o' d ho' hd=>?_,λj hj hDj=>?_,λj hj=>x.flo j (List.mem_cons_of_mem _ hj),λj hj hDj=>(x.flb j (List.mem_cons_of_mem _ hj) hDj).imp (λq=>GI q (by rcases hkd with e | e <;> rw [e] <;> decide)) (Zs.put nd x.lt hkn hks ho),λj hj=>x.fld j (List.mem_cons_of_mem _ hj),x.mono,x.frm,x.pre,x.clos⟩
  ·rw [DD (Ib hkn ho ht)];exact x.base t ht
  ·rcases List.mem_cons.1 hj with rfl | hj
   ·exact hkn
   ·exact x.lt j hj
  ·rcases List.mem_cons.1 hj with rfl | hj
   ·rw [hkD] at hDj;cases hDj
   ·rw [DD λd' hd'=>EB nd hkn (x.lt j hj) (λe=>hks (e▸hj)) ho ho' hd' hd];exact x.done j hj hDj o' d ho' hd
  ·rcases List.mem_cons.1 hj with rfl | hj
   ·refine ⟨o2,xs,b,v,ho,hx,hval,λt ht=>KX (hfix t ht),λg w hgg=>⟨List.mem_cons_of_mem _ (hg g w hgg).1,(hg g w hgg).2⟩,hgd.put nd x.lt hkn hks ho λg w hgg=>(hg g w hgg).1,λhb=>?_,λd hd=>?_⟩
    ·have e:∀t ∈ G0 xs,σr t=putS σr o2.dst (if b=true then v else undef) t:=λt ht=>(DD λd hd=>Nt nd x.lt hkn hks ho hd (hfix t ht)).symm;obtain ⟨y1,y2⟩:=hv hb;exact ⟨y1.move hval hx e (GH.Le.refl _),y2.imp id λy hx' hf=>(y hx' hf).move hval hx e (GH.Le.refl _)⟩
    ·rw [hd];exact upd_same _ _ _
   ·obtain ⟨o',xs',b',v',pf⟩:=x.pend j hj hDj
    have:=pf.put (w:=if b=true then v else undef) nd x.lt hkn hks ho hj (GH.Le.refl _)
    rcases hrds with rfl | rfl
    ·exact ⟨o',xs',b',v',this⟩
    ·exact ⟨o',xs',b',v',this.more⟩
 cases b with
 | false=>
  rcases hkd with rfl | rfl
  ·exact ⟨_,_,key undef _ (.inl rfl) hh.2.2 (hF rfl) (λe=>by cases e)⟩
  ·exact ⟨_,_,key undef _ (.inr rfl) hh.2.2 (hF rfl) (λe=>by cases e)⟩
 | true=>
  rcases hkd with rfl | rfl
  ·obtain ⟨v,h1,h2⟩:=hT rfl;exact ⟨_,_,key v _ (.inl rfl) hh.2.2 h2 (λ_=>⟨h1 _ x.frm,.inr h1⟩)⟩
  ·obtain ⟨v,h1,h2⟩:=hT rfl;exact ⟨_,_,key v _ (.inr rfl) hh.2.2 h2 (λ_=>⟨h1.move hval hx (λ_ _=>rfl) x.gw.1,.inl List.mem_cons_self⟩)⟩
theorem Jl.unfoldA{k:Nat}(nd:(Dq l n).Nodup)(hD:D k=true)(x:Jl E l n cls fl hs ds Lw F seen effs rds wr ((Kd.a,k) ::V) σr hr D σ' h') :
  ∃σr',Jl E l n cls fl hs ds Lw F (k ::seen) (k ::effs) rds wr V σr' h' D σ' h':=by
 obtain ⟨o,xs,ho,hx,hkn,hks,hfix,hg,hh⟩:=FY x.ok;obtain ⟨o2,b,ho2,hgd,hF,hT⟩:=x.td;obtain rfl:o2=o:=Option.some.inj (ho2.symm.trans ho);obtain ⟨hfl,hwr,hal,hds,hgn,ok'⟩:=hh;obtain rfl:b=true:=by unfold Gd at hgd;rw [hgn] at hgd;exact hgd
 obtain ⟨t,hop⟩:∃t,o2.op=.alloc t:=by
  cases hq:o2.op <;> rw [hq] at hal <;> first | exact ⟨_,rfl⟩ | cases hal
 obtain ⟨d,hd⟩:=Option.isSome_iff_exists.1 hds;obtain ⟨r,h1,h2,h3⟩:=x.flo k List.mem_cons_self hD o2 t d ho hop hd;refine ⟨putS σr o2.dst (.pointer (some ⟨r,0,none⟩)),hT rfl t r h' hop x.gw.1 h2 h3,ok',Gw.refl _ _,λt ht=>?_,λj hj=>?_,λj hj=>?_,λkd' j hj hne=>x.rest kd' j (List.mem_cons_of_mem _ hj) hne,λj hj hDj o' d' ho' hd'=>?_,λj hj hDj=>?_,
  λj hj=>x.flo j (List.mem_cons_of_mem _ hj),λj hj hDj=>(x.flb j (List.mem_cons_of_mem _ hj) hDj).imp (λq=>GI q aC) (Zs.put nd x.lt hkn hks ho),λj hj=>x.fld j (List.mem_cons_of_mem _ hj),x.mono,x.frm,x.pre,x.clos⟩
 ·rw [DD (Ib hkn ho ht)];exact x.base t ht
 ·rcases List.mem_cons.1 hj with rfl | hj
  ·exact hkn
  ·exact x.lt j hj
 ·rcases List.mem_cons.1 hj with rfl | hj
  ·exact hD
  ·exact x.eff j hj
 ·rcases List.mem_cons.1 hj with rfl | hj
  ·obtain rfl:o'=o2:=Option.some.inj (ho'.symm.trans ho);obtain rfl:d'=d:=Option.some.inj (hd'.symm.trans hd);rw [h1,hd];exact (upd_same _ _ _).symm
  ·rw [DD λe he=>EB nd hkn (x.lt j hj) (λe=>hks (e▸hj)) ho ho' he hd'];exact x.done j hj hDj o' d' ho' hd'
 ·rcases List.mem_cons.1 hj with rfl | hj
  ·rw [hD] at hDj;cases hDj
  ·obtain ⟨o',xs',b',v',pf⟩:=x.pend j hj hDj;exact ⟨o',xs',b',v',pf.put nd x.lt hkn hks ho hj (GH.Le.refl _)⟩
theorem Jl.unfoldB{k:Nat}(nd:(Dq l n).Nodup)(hD:D k=true)(x:Jl E l n cls fl hs ds Lw F seen effs rds wr ((Kd.b,k) ::V) σr hr D σ' h') :
  ∃σr',Jl E l n cls fl hs ds Lw F (k ::seen) (k ::effs) rds wr V σr' h' D σ' h':=by
 obtain ⟨o,xs,ho,hx,hkn,hks,hfix,hg,hh⟩:=FY x.ok;obtain ⟨o2,b,ho2,hgd,hF,hT⟩:=x.td;obtain rfl:o2=o:=Option.some.inj (ho2.symm.trans ho);obtain ⟨hfl,hwr,hds,hgn,ok'⟩:=hh;obtain rfl:b=true:=by unfold Gd at hgd;rw [hgn] at hgd;exact hgd
 obtain ⟨d,hd⟩:=Option.isSome_iff_exists.1 hds;have hL:=x.fld k List.mem_cons_self hD o2 d ho hd;refine ⟨putS σr o2.dst (σ' d),hT rfl (σ' d) h' x.gw.1 hL,ok',Gw.refl _ _,λt ht=>?_,λj hj=>?_,λj hj=>?_,λkd' j hj hne=>x.rest kd' j (List.mem_cons_of_mem _ hj) hne,λj hj hDj o' d' ho' hd'=>?_,λj hj hDj=>?_,
  λj hj=>x.flo j (List.mem_cons_of_mem _ hj),λj hj hDj=>(x.flb j (List.mem_cons_of_mem _ hj) hDj).imp (λq=>GI q aC) (Zs.put nd x.lt hkn hks ho),λj hj=>x.fld j (List.mem_cons_of_mem _ hj),x.mono,x.frm,x.pre,x.clos⟩
 ·rw [DD (Ib hkn ho ht)];exact x.base t ht
 ·rcases List.mem_cons.1 hj with rfl | hj
  ·exact hkn
  ·exact x.lt j hj
 ·rcases List.mem_cons.1 hj with rfl | hj
  ·exact hD
  ·exact x.eff j hj
 ·rcases List.mem_cons.1 hj with rfl | hj
  ·obtain rfl:o'=o2:=Option.some.inj (ho'.symm.trans ho);obtain rfl:d'=d:=Option.some.inj (hd'.symm.trans hd);rw [hd];exact (upd_same _ _ _).symm
  ·rw [DD λe he=>EB nd hkn (x.lt j hj) (λe=>hks (e▸hj)) ho ho' he hd'];exact x.done j hj hDj o' d' ho' hd'
 ·rcases List.mem_cons.1 hj with rfl | hj
  ·rw [hD] at hDj;cases hDj
  ·obtain ⟨o',xs',b',v',pf⟩:=x.pend j hj hDj;exact ⟨o',xs',b',v',pf.put nd x.lt hkn hks ho hj (GH.Le.refl _)⟩
theorem Jl.unfoldL{k:Nat}(x:Jl E l n cls fl hs ds Lw F seen effs rds wr ((Kd.l,k) ::V) σr hr D σ' h') :
  Jl E l n cls fl hs ds Lw F seen effs rds wr V σr hr D σ' h':=by
 obtain ⟨o,xs,ho,hx,hkn,hks,hfix,hg,hh⟩:=FY x.ok;obtain ⟨o2,b,ho2,hgd,hF,hT⟩:=x.td;obtain rfl:o2=o:=Option.some.inj (ho2.symm.trans ho);obtain ⟨hfl,hds,hgn,heff,ok'⟩:=hh;obtain rfl:b=true:=by unfold Gd at hgd;rw [hgn] at hgd;exact hgd
 obtain ⟨d,hd⟩:=Option.isSome_iff_exists.1 hds;obtain ⟨hp,td⟩:=hT rfl;refine ⟨td,ok',x.gw,x.base,x.lt,x.eff,λkd' j hj hne=>x.rest kd' j (List.mem_cons_of_mem _ hj) hne,x.done,x.pend,λj hj=>x.flo j (List.mem_cons_of_mem _ hj),λj hj hDj=>?_,λj hj=>x.fld j (List.mem_cons_of_mem _ hj),x.mono,x.frm,x.pre,x.clos⟩;by_cases e:j=k
 ·subst e;refine .inr ⟨o2,xs,ho,hx,hfix,λσ2 hx2 e l2=>?_⟩;refine Bg.move hx e (λz ds' h2 q=>?_) (hp hx2 (x.gw.1.trans l2));obtain ⟨rfl,v,hv,l3,hL⟩:=q;have hz:z=v:=by
   have:=congrFun hv d
   simp only [hd,putS,upd_same] at this;exact this
  exact ⟨rfl,v,by rw [hz],l3,hL⟩
 ·refine (x.flb j (List.mem_cons_of_mem _ hj) hDj).imp (λq=>?_) id;rcases List.mem_cons.1 q with e2 | q
  ·cases e2;exact absurd rfl e
  ·exact q
theorem Jl.ran{kd:Kd}{k:Nat}{o:Oper}{xs:List Operand}{v:Value}{hr2 h2:GH}{wr':Bool}(nd:(Dq l n).Nodup)(hkl:kd≠.l)(ho:l[k]? =some o)(hkn:k<n)(hks:k ∉ seen)(hcl:∀q ∈ cls.getD k [],D q=true)
  (x:Jl E l n cls fl hs ds Lw F seen effs rds wr ((kd,k) ::V) σr hr D σ' h') (td:TD E l n fl hs ds Lw F V (putS σr o.dst v) hr2) (ok':GX P l n cls fl V (k ::seen) (k ::effs) rds wr'=true) (gw:Gw fl hr2 h2)
  (how:(wr'=wr/\h'.Le h2)\/(wr'=true/\(∀q ∈ rds,D q=true)/\Lw n undef h2)) :
  Jl E l n cls fl hs ds Lw F (k ::seen) (k ::effs) rds wr' V (putS σr o.dst v) hr2 (IW D k) (putS σ' o.dst v) h2:=by
 refine ⟨td,ok',gw,λt ht=>?_,λj hj=>?_,λj hj=>?_,λkd' j hj hne=>?_,λj hj hDj o' d' ho' hd'=>?_,λj hj hDj=>?_,λj hj hDj o' t d' ho' hop hd'=>?_,λj hj hDj=>?_,λj hj hDj o' d' ho' hd'=>?_,x.mono,(by rcases how with ⟨_,l2⟩ | ⟨_,_,hf⟩;exact x.mono _ _ _ _ l2 x.frm;exact hf),λhw=>?_,λj hjn hDj q hq=>?_⟩
 ·rw [DD (Ib hkn ho ht),DD (Ib hkn ho ht)];exact x.base t ht
 ·rcases List.mem_cons.1 hj with rfl | hj
  ·exact hkn
  ·exact x.lt j hj
 ·rcases List.mem_cons.1 hj with rfl | hj
  ·exact LD
  ·exact Fo (x.eff j hj)
 ·have hnew:=(DQ ok' kd' j hj).1;rw [Cg λe=>hnew (by rw [e];exact List.mem_cons_self)];exact x.rest kd' j (List.mem_cons_of_mem _ hj) hne
 ·rcases List.mem_cons.1 hj with rfl | hj
  ·obtain rfl:o'=o:=Option.some.inj (ho'.symm.trans ho);rw [hd'];exact (upd_same _ _ _).trans (upd_same _ _ _).symm
  ·have hjk:j≠k:=λe=>hks (e▸hj);rw [Cg hjk] at hDj;have hne:∀e,o.dst=some e->d'≠e:=λe he=>EB nd hkn (x.lt j hj) (λe=>hjk e.symm) ho ho' he hd';rw [DD hne,DD hne];exact x.done j hj hDj o' d' ho' hd'
 ·rcases List.mem_cons.1 hj with rfl | hj
  ·rw [LD] at hDj;cases hDj
  ·have hjk:j≠k:=λe=>hks (e▸hj);rw [Cg hjk] at hDj;obtain ⟨o',xs',b',v',pf⟩:=x.pend j hj hDj;rcases how with ⟨_,l2⟩ | ⟨_,hrd,hfr⟩
   ·exact ⟨o',xs',b',v',pf.put nd x.lt hkn hks ho hj l2⟩
   ·have pf2:PF E l n cls ds Lw seen rds σr h2 j o' xs' b' v':=⟨pf.at',pf.op,pf.val,pf.fix,pf.gfix,pf.gd,λhb=>(pf.vop hb).2.elim (λhm=>by rw [hrd j hm] at hDj;cases hDj) λhall=>⟨hall h2 hfr,.inr hall⟩,pf.is⟩;exact ⟨o',xs',b',v',pf2.put nd x.lt hkn hks ho hj (GH.Le.refl _)⟩
 ·have hnew:=(DQ ok' _ j hj);have hjk:j≠k:=λe=>hnew.1 (by rw [e];exact List.mem_cons_self);rw [Cg hjk] at hDj;obtain ⟨r,h1,h3,h4⟩:=x.flo j (List.mem_cons_of_mem _ hj) hDj o' t d' ho' hop hd';rcases how with ⟨_,l2⟩ | ⟨hw,_⟩
  ·exact ⟨r,by rw [DD λe he=>EB nd hkn hnew.2 (λe=>hjk e.symm) ho ho' he hd'];exact h1,h3,l2.get h4⟩
  ·have:=(Dg ok' _ j hj (.inl rfl)).2.1;rw [hw] at this;cases this
 ·have hnew:=(DQ ok' _ j hj);have hjk:j≠k:=λe=>hnew.1 (by rw [e];exact List.mem_cons_self);rw [Cg hjk] at hDj;rcases how with ⟨_,l2⟩ | ⟨hw,_⟩
  ·exact (x.flb j (List.mem_cons_of_mem _ hj) hDj).imp (λq=>GI q hkl.symm) λq=>(q.put nd x.lt hkn hks ho).le l2
  ·have:=(Dg ok' _ j hj (.inr rfl)).2.1;rw [hw] at this;cases this
 ·have hnew:=(DQ ok' _ j hj);have hjk:j≠k:=λe=>hnew.1 (by rw [e];exact List.mem_cons_self);rw [Cg hjk] at hDj;rcases how with ⟨_,l2⟩ | ⟨hw,_⟩
  ·rw [DD λe he=>EB nd hkn hnew.2 (λe=>hjk e.symm) ho ho' he hd'];exact x.mono _ _ _ _ l2 (x.fld j (List.mem_cons_of_mem _ hj) hDj o' d' ho' hd')
  ·have:=(Dg ok' _ j hj (.inr rfl)).2.1;rw [hw] at this;cases this
 ·rcases how with ⟨e,l2⟩ | ⟨e,_⟩
  ·exact (x.pre (e▸hw)).trans l2
  ·rw [e] at hw;cases hw
 ·by_cases e:j=k
  ·subst e;exact Fo (hcl q hq)
  ·rw [Cg e] at hDj;exact Fo (x.clos j hjn hDj q hq)
def TdAt(E:HB P)(l:List Oper)(n:Nat)(cls:List (List Nat))(fl:Bool)(hs:GH)(ds:List Deferred)(Lw:Nat->Value->GH->Prop)(F:(Nat->Value)->GH->Prop)(D:Nat->Bool)(σ':Nat->Value)(h':GH):Prop:=
 ∃seen effs rds wr V σr hr,Jl E l n cls fl hs ds Lw F seen effs rds wr V σr hr D σ' h'
abbrev RunK(E:HB P)(l:List Oper)(n:Nat)(cls:List (List Nat))(fl:Bool)(hs:GH)(ds:List Deferred)(Lw:Nat->Value->GH->Prop)(F:(Nat->Value)->GH->Prop)(D:Nat->Bool)(σ':Nat->Value)(h':GH)(k:Nat)(o:Oper):Prop:=
 (DA l o σ'->Bg E o σ' ds h' λσ'' ds'' h''=>ds''=ds/\TdAt E l n cls fl hs ds Lw F (IW D k) σ'' h'')/\(¬DA l o σ'->TdAt E l n cls fl hs ds Lw F (IW D k) (putS σ' o.dst undef) h')
theorem Jl.runV{k:Nat}{o:Oper}(nd:(Dq l n).Nodup)(ho:l[k]? =some o)(hks:k ∈ seen)(hkD:D k=false)(hcl:∀q ∈ cls.getD k [],D q=true)(x:Jl E l n cls fl hs ds Lw F seen effs rds wr V σr hr D σ' h') :
  RunK E l n cls fl hs ds Lw F D σ' h' k o:=by
 obtain ⟨o2,xs,b,v,pf⟩:=x.pend k hks hkD;obtain rfl:o2=o:=Option.some.inj (pf.at'.symm.trans ho);have hkn:=x.lt k hks;have hgi:=(x.guard hcl pf.gfix pf.gd).iff;have key:Jl E l n cls fl hs ds Lw F seen effs rds wr V σr hr (IW D k) (putS σ' o2.dst (if b=true then v else undef)) h':=by
  refine ⟨x.td,x.ok,x.gw,λt ht=>?_,x.lt,λj hj=>Fo (x.eff j hj),λkd' j hj hne=>?_,λj hj hDj o' d' ho' hd'=>?_,λj hj hDj=>?_,λj hj hDj o' t d' ho' hop hd'=>?_,λj hj hDj=>?_,λj hj hDj o' d' ho' hd'=>?_,x.mono,x.frm,x.pre,λj hjn hDj q hq=>?_⟩
  ·rw [DD (Ib hkn ho ht)];exact x.base t ht
  ·have hnew:=(DQ x.ok kd' j hj).1;rw [Cg λ(e:j=k)=>hnew (by rw [e];exact hks)];exact x.rest kd' j hj hne
  ·by_cases hjk:j=k
   ·subst hjk;obtain rfl:o'=o2:=Option.some.inj (ho'.symm.trans ho);rw [pf.is d' hd',hd'];exact upd_same _ _ _
   ·rw [Cg hjk] at hDj;rw [DD λe he=>EB nd hkn (x.lt j hj) (λe=>hjk e.symm) ho ho' he hd'];exact x.done j hj hDj o' d' ho' hd'
  ·by_cases hjk:j=k
   ·subst hjk;rw [LD] at hDj;cases hDj
   ·rw [Cg hjk] at hDj;exact x.pend j hj hDj
  ·have hnew:=DQ x.ok _ j hj;have hjk:j≠k:=λe=>hnew.1 (by rw [e];exact hks);rw [Cg hjk] at hDj;obtain ⟨r,h1,h3⟩:=x.flo j hj hDj o' t d' ho' hop hd';exact ⟨r,by rw [DD λe he=>EB nd hkn hnew.2 (λe=>hjk e.symm) ho ho' he hd'];exact h1,h3⟩
  ·have hnew:=DQ x.ok _ j hj;have hjk:j≠k:=λe=>hnew.1 (by rw [e];exact hks);rw [Cg hjk] at hDj;exact x.flb j hj hDj
  ·have hnew:=DQ x.ok _ j hj;have hjk:j≠k:=λe=>hnew.1 (by rw [e];exact hks);rw [Cg hjk] at hDj;rw [DD λe he=>EB nd hkn hnew.2 (λe=>hjk e.symm) ho ho' he hd'];exact x.fld j hj hDj o' d' ho' hd'
  ·by_cases e:j=k
   ·subst e;exact Fo (hcl q hq)
   ·rw [Cg e] at hDj;exact Fo (x.clos j hjn hDj q hq)
 refine ⟨λhG=>?_,λhG=>?_⟩
 ·obtain rfl:=hgi.1 hG;have y:=(pf.vop rfl).1.move pf.val pf.op (λt ht=>x.agree hcl (pf.fix t ht)) (GH.Le.refl _);refine Bg.move pf.op (λ_ _=>rfl) (λz ds' h'' q=>?_) y;obtain ⟨q1,rfl,rfl⟩:=q;exact ⟨rfl,_,_,_,_,_,_,_,by rw [q1];exact key⟩
 ·cases b with
  | true=>exact absurd (hgi.2 rfl) hG
  | false=>exact ⟨_,_,_,_,_,_,_,key⟩
theorem Jl.runE{kd:Kd}{k:Nat}{o:Oper}(nd:(Dq l n).Nodup)(hkd:kd=.e\/kd=.w)(ho:l[k]? =some o)(hcl:∀q ∈ cls.getD k [],D q=true)(x:Jl E l n cls fl hs ds Lw F seen effs rds wr ((kd,k) ::V) σr hr D σ' h') :
  RunK E l n cls fl hs ds Lw F D σ' h' k o:=by
 obtain ⟨o1,xs,ho1,hx,hkn,hks,hfix,hg,hh⟩:=FY x.ok;obtain rfl:o1=o:=Option.some.inj (ho1.symm.trans ho);obtain ⟨o2,b,ho2,hgd,hF,hT⟩:=x.td;obtain rfl:o2=o1:=Option.some.inj (ho2.symm.trans ho);have hgi:=(x.guard hcl hg hgd).iff;refine ⟨λhG=>?_,λhG=>?_⟩
 ·obtain rfl:=hgi.1 hG;rcases hkd with rfl | rfl
  ·refine (hT rfl h' x.gw).move hx (λt ht=>x.agree hcl (hfix t ht)) λz ds' h'' q=>?_;obtain ⟨rfl,v,hv,l2,td⟩:=q;refine ⟨rfl,?_⟩;have e:putS σ' o2.dst z=putS σ' o2.dst v:=by
    cases hd:o2.dst with
    | none=>rfl
    | some d=>
     have:=congrFun hv d
     simp only [hd,putS,upd_same] at this;rw [this]
   rw [e];exact ⟨_,_,_,_,_,_,_,x.ran (xs:=xs) nd aC ho hkn hks hcl td hh.2 (Gw.refl _ _) (.inl ⟨rfl,l2⟩)⟩
  ·refine (hT rfl h' x.gw).move hx (λt ht=>x.agree hcl (hfix t ht)) λz ds' h'' q=>?_;obtain ⟨rfl,v,hv,hfr,td⟩:=q;refine ⟨rfl,?_⟩;have e:putS σ' o2.dst z=putS σ' o2.dst v:=by
    cases hd:o2.dst with
    | none=>rfl
    | some d=>
     have:=congrFun hv d
     simp only [hd,putS,upd_same] at this;rw [this]
   rw [e];exact ⟨_,_,_,_,_,_,_,x.ran (xs:=xs) nd aC ho hkn hks hcl td hh.2.2 (Gw.refl _ _) (.inr ⟨rfl,λq hq=>hcl q (hh.2.1 q hq),hfr⟩)⟩
 ·cases b with
  | true=>exact absurd (hgi.2 rfl) hG
  | false=>
   rcases hkd with rfl | rfl
   ·exact ⟨_,_,_,_,_,_,_,x.ran (xs:=xs) nd aC ho hkn hks hcl (hF rfl) hh.2 x.gw (.inl ⟨rfl,GH.Le.refl _⟩)⟩
   ·exact ⟨_,_,_,_,_,_,_,x.ran (xs:=xs) nd aC ho hkn hks hcl (hF rfl) hh.2.2 x.gw (.inr ⟨rfl,λq hq=>hcl q (hh.2.1 q hq),x.frm⟩)⟩
theorem Hr:∀{V:List (Kd×Nat)}{seen effs rds:List Nat}{wr:Bool},GX P l n cls fl V seen effs rds wr=true->∀{kd1 kd2:Kd}{j:Nat},(kd1,j) ∈ V->(kd2,j) ∈ V->kd1≠.l->kd2≠.l->kd1=kd2
 | [],_,_,_,_,_,_,_,_,h,_,_,_=>by cases h
 | (kd,k) ::V,seen,effs,rds,wr,x,kd1,kd2,j,h1,h2,n1,n2=>by
  obtain ⟨seen',e',r',w',ok2,_,z,_⟩:=Hq x;rcases List.mem_cons.1 h1 with e1 | h3 <;> rcases List.mem_cons.1 h2 with e2 | h4
  ·cases e1;cases e2;rfl
  ·cases e1;exact absurd (by rw [z n1];exact List.mem_cons_self) (DQ ok2 _ _ h4).1
  ·cases e2;exact absurd (by rw [z n2];exact List.mem_cons_self) (DQ ok2 _ _ h3).1
  ·exact Hr ok2 h3 h4 n1 n2
theorem Jl.runA{k:Nat}{o:Oper}(nd:(Dq l n).Nodup)(hk:(Kd.a,k) ∈ V)(hkD:D k=false)(ho:l[k]? =some o)(hcl:∀q ∈ cls.getD k [],D q=true)(x:Jl E l n cls fl hs ds Lw F seen effs rds wr V σr hr D σ' h') :
  RunK E l n cls fl hs ds Lw F D σ' h' k o:=by
 obtain ⟨hfl,hwr,hkn,o2,ho2,hal0,hds,hgn⟩:=Dg x.ok _ k hk (.inl rfl);have hal:=hal0 rfl;obtain rfl:o2=o:=Option.some.inj (ho2.symm.trans ho);have hks:=(DQ x.ok _ k hk).1;obtain ⟨t,hop⟩:∃t,o2.op=.alloc t:=by
  cases hq:o2.op <;> rw [hq] at hal <;> first | exact ⟨_,rfl⟩ | cases hal
 have hz:CS P t=some (zOf P t):=by
  rw [hop] at hal;obtain ⟨z,hz⟩:=Option.isSome_iff_exists.1 (show (CS P t).isSome=true from hal);unfold zOf;rw [hz];rfl
 refine ⟨λ_=>?_,λhG=>absurd (by unfold DA;rw [hgn];trivial) hG⟩;obtain ⟨dst,op,ty,pos,af,gd⟩:=o2;simp only at hop hds hgn;subst hop;obtain ⟨d,rfl⟩:=Option.isSome_iff_exists.1 hds;refine Ae hz λr h2 hr0 l2 hnb hoth=>⟨rfl,seen,effs,rds,wr,V,σr,hr,x.td,x.ok,⟨x.gw.1.trans l2,λe=>by rw [hfl] at e;cases e⟩,λt' ht=>?_,x.lt,λj hj=>Fo (x.eff j hj),λkd' j hj hne=>?_,λj hj hDj o' d' ho' hd'=>?_,λj hj hDj=>?_,λj hj hDj o' t' d' ho' hop' hd'=>?_,λj hj hDj=>?_,λj hj hDj o' d' ho' hd'=>?_,x.mono,x.mono _ _ _ _ l2 x.frm,λhw=>(x.pre hw).trans l2,λj hjn hDj q hq=>?_⟩
 ·rw [DD (Ib hkn ho ht)];exact x.base t' ht
 ·by_cases e:j=k
  ·subst e;rw [Hr x.ok hj hk (by rintro rfl;cases hne) aC] at hne;cases hne
  ·rw [Cg e];exact x.rest kd' j hj hne
 ·have hjk:j≠k:=λe=>hks (e▸hj);rw [Cg hjk] at hDj;rw [DD λe he=>EB nd hkn (x.lt j hj) (λe=>hjk e.symm) ho ho' he hd'];exact x.done j hj hDj o' d' ho' hd'
 ·have hjk:j≠k:=λe=>hks (e▸hj);rw [Cg hjk] at hDj;obtain ⟨o',xs',b',v',pf⟩:=x.pend j hj hDj;exact ⟨o',xs',b',v',pf.at',pf.op,pf.val,pf.fix,pf.gfix,pf.gd,λhb=>⟨(pf.vop hb).1.move pf.val pf.op (λ_ _=>rfl) l2,(pf.vop hb).2⟩,pf.is⟩
 ·by_cases e:j=k
  ·subst e;cases ho'.symm.trans ho;cases hd';cases hop';have hb0:hs r=none:=by
    cases hb:hs r with
    | none=>rfl
    | some y=>rw [(x.pre hwr).get hb] at hr0;cases hr0
   exact ⟨r,upd_same _ _ _,hb0,hnb⟩
  ·rw [Cg e] at hDj;have hnew:=DQ x.ok _ j hj;obtain ⟨r',h1,h3,h4⟩:=x.flo j hj hDj o' t' d' ho' hop' hd';exact ⟨r',by rw [DD λe' he=>EB nd hkn hnew.2 (λq=>e q.symm) ho ho' he hd'];exact h1,h3,l2.get h4⟩
 ·have e:j≠k:=λe=>by subst e;cases Hr x.ok hj hk aC aC
  rw [Cg e] at hDj;exact (x.flb j hj hDj).imp id (Zs.le l2)
 ·have e:j≠k:=λe=>by subst e;cases Hr x.ok hj hk aC aC
  rw [Cg e] at hDj;have hnew:=DQ x.ok _ j hj;rw [DD λe' he=>EB nd hkn hnew.2 (λq=>e q.symm) ho ho' he hd'];exact x.mono _ _ _ _ l2 (x.fld j hj hDj o' d' ho' hd')
 ·by_cases e:j=k
  ·subst e;exact Fo (hcl q hq)
  ·rw [Cg e] at hDj;exact Fo (x.clos j hjn hDj q hq)
theorem Jl.reachB{k:Nat}(nd:(Dq l n).Nodup)(hkD:D k=false)(hcl:∀q ∈ cls.getD k [],D q=true):∀{V:List (Kd×Nat)}{seen effs rds:List Nat}{wr:Bool} {σr:Nat->Value} {hr:GH},
  Jl E l n cls fl hs ds Lw F seen effs rds wr V σr hr D σ' h'->(Kd.b,k) ∈ V->∃seen effs rds wr π' σr hr,Jl E l n cls fl hs ds Lw F seen effs rds wr π' σr hr D σ' h'/\(Kd.b,k) ∈ π'/\Zs E l n cls ds Lw seen σr h' k:=by
 intro V
 induction V with
 | nil=>intro _ _ _ _ _ _ _ h;cases h
 | cons y V ih=>
  intro seen effs rds wr σr hr x hm;obtain ⟨kd2,k2⟩:=y;rcases x.flb k hm hkD with hl | hp
  ·by_cases hL:kd2=.l
   ·subst hL;exact ih x.unfoldL (GI hm aC)
   ·have hl2:=GI hl (Ne.symm hL);have heff:kd2=.e\/kd2=.w\/kd2=.a\/kd2=.b->D k2=true:=λhk=>by
     obtain ⟨s',e',r',w',ok2,_,_,_,_,z⟩:=Hq x.ok;exact hcl _ (Pc ok2 .l k hl2 aC aC k2 (z hk))
    cases kd2 with
    | p=>obtain ⟨rds',σr',x'⟩:=x.unfoldV nd (.inl rfl);exact ih x' (GI hm aC)
    | r=>obtain ⟨rds',σr',x'⟩:=x.unfoldV nd (.inr rfl);exact ih x' (GI hm aC)
    | e=>have:=x.rest _ _ List.mem_cons_self rfl;rw [heff (.inl rfl)] at this;cases this
    | w=>have:=x.rest _ _ List.mem_cons_self rfl;rw [heff (.inr (.inl rfl))] at this;cases this
    | a=>obtain ⟨σr',x'⟩:=x.unfoldA nd (heff (.inr (.inr (.inl rfl))));exact ih x' (GI hm aC)
    | l=>exact absurd rfl hL
    | b=>
     have hD2:=heff (.inr (.inr (.inr rfl)));obtain ⟨σr',x'⟩:=x.unfoldB nd hD2;rcases List.mem_cons.1 hm with e | hm2
     ·cases e;rw [hkD] at hD2;cases hD2
     ·exact ih x' hm2
  ·exact ⟨_,_,_,_,_,_,_,x,hm,hp⟩
theorem Jl.runB{k:Nat}{o:Oper}(nd:(Dq l n).Nodup)(hk0:(Kd.b,k) ∈ V)(hkD:D k=false)(ho:l[k]? =some o)(hcl:∀q ∈ cls.getD k [],D q=true)(x0:Jl E l n cls fl hs ds Lw F seen effs rds wr V σr hr D σ' h') :
  RunK E l n cls fl hs ds Lw F D σ' h' k o:=by
 obtain ⟨seen,effs,rds,wr,V,σr,hr,x,hk,hp⟩:=x0.reachB nd hkD hcl hk0;obtain ⟨hfl,hwr,hkn,o2,ho2,_,hds,hgn⟩:=Dg x.ok _ k hk (.inr rfl);obtain rfl:o2=o:=Option.some.inj (ho2.symm.trans ho);have hks:=(DQ x.ok _ k hk).1;refine ⟨λ_=>?_,λhG=>absurd (by unfold DA;rw [hgn];trivial) hG⟩;obtain ⟨o3,xs,ho3,hx,hfix,hrun⟩:=hp;obtain rfl:o3=o2:=Option.some.inj (ho3.symm.trans ho);obtain ⟨d,hd⟩:=Option.isSome_iff_exists.1 hds;refine Bg.move hx (λ_ _=>rfl) (λz ds' h2 q=>?_) (hrun σ' h' (λt ht=>x.agree hcl (hfix t ht)) (GH.Le.refl _));obtain ⟨rfl,v,hv,l2,hL⟩:=q;rw [hv];refine ⟨rfl,seen,effs,rds,wr,V,σr,hr,x.td,x.ok,⟨x.gw.1.trans l2,λe=>by rw [hfl] at e;cases e⟩,λt' ht=>?_,x.lt,λj hj=>Fo (x.eff j hj),λkd' j hj hne=>?_,λj hj hDj o' d' ho' hd'=>?_,λj hj hDj=>?_,λj hj hDj o' t' d' ho' hop' hd'=>?_,λj hj hDj=>?_,λj hj hDj o' d' ho' hd'=>?_,x.mono,x.mono _ _ _ _ l2 x.frm,λhw=>(x.pre hw).trans l2,λj hjn hDj q hq=>?_⟩
 ·rw [DD (Ib hkn ho ht)];exact x.base t' ht
 ·by_cases e:j=k
  ·subst e;rw [Hr x.ok hj hk (by rintro rfl;cases hne) aC] at hne;cases hne
  ·rw [Cg e];exact x.rest kd' j hj hne
 ·have hjk:j≠k:=λe=>hks (e▸hj);rw [Cg hjk] at hDj;rw [DD λe he=>EB nd hkn (x.lt j hj) (λe=>hjk e.symm) ho ho' he hd'];exact x.done j hj hDj o' d' ho' hd'
 ·have hjk:j≠k:=λe=>hks (e▸hj);rw [Cg hjk] at hDj;obtain ⟨o',xs',b',v',pf⟩:=x.pend j hj hDj;exact ⟨o',xs',b',v',pf.at',pf.op,pf.val,pf.fix,pf.gfix,pf.gd,λhb=>⟨(pf.vop hb).1.move pf.val pf.op (λ_ _=>rfl) l2,(pf.vop hb).2⟩,pf.is⟩
 ·have e:j≠k:=λe=>by subst e;cases Hr x.ok hj hk aC aC
  rw [Cg e] at hDj;have hnew:=DQ x.ok _ j hj;obtain ⟨r',h1,h3,h4⟩:=x.flo j hj hDj o' t' d' ho' hop' hd';exact ⟨r',by rw [DD λe' he=>EB nd hkn hnew.2 (λq=>e q.symm) ho ho' he hd'];exact h1,h3,l2.get h4⟩
 ·have e:j≠k:=λe=>by subst e;rw [LD] at hDj;cases hDj
  rw [Cg e] at hDj;exact (x.flb j hj hDj).imp id (Zs.le l2)
 ·by_cases e:j=k
  ·subst e;obtain rfl:o'=o3:=Option.some.inj (ho'.symm.trans ho);rw [hd'];rw [show putS σ' (some d') v d'=v from upd_same _ _ _];exact hL
  ·rw [Cg e] at hDj;have hnew:=DQ x.ok _ j hj;rw [DD λe' he=>EB nd hkn hnew.2 (λq=>e q.symm) ho ho' he hd'];exact x.mono _ _ _ _ l2 (x.fld j hj hDj o' d' ho' hd')
 ·by_cases e:j=k
  ·subst e;exact Fo (hcl q hq)
  ·rw [Cg e] at hDj;exact Fo (x.clos j hjn hDj q hq)
theorem Jl.reach{kd:Kd}{i:Nat}(nd:(Dq l n).Nodup)(hne:kd.fix=true)(hcl:∀q ∈ cls.getD i [],D q=true):∀{V:List (Kd×Nat)}{seen effs rds:List Nat}{wr:Bool} {σr:Nat->Value} {hr:GH},
  Jl E l n cls fl hs ds Lw F seen effs rds wr V σr hr D σ' h'->(kd,i) ∈ V->∃seen effs rds wr π' σr hr,Jl E l n cls fl hs ds Lw F seen effs rds wr ((kd,i) ::π') σr hr D σ' h':=by
 intro V
 induction V with
 | nil=>intro _ _ _ _ _ _ _ h;cases h
 | cons y V ih=>
  intro seen effs rds wr σr hr x hm;obtain ⟨kd2,k2⟩:=y;rcases List.mem_cons.1 hm with e | hm2
  ·cases e;exact ⟨_,_,_,_,_,_,_,x⟩
  ·have hv:kd2=.p\/kd2=.r->∃seen effs rds wr π' σr hr,Jl E l n cls fl hs ds Lw F seen effs rds wr ((kd,i) ::π') σr hr D σ' h':=λhk=>by
    obtain ⟨rds',σr',x'⟩:=x.unfoldV nd hk;exact ih x' hm2
   have heff:kd2=.e\/kd2=.w\/kd2=.a\/kd2=.b->D k2=true:=λhk=>by
    obtain ⟨s',e',r',w',ok2,_,_,_,_,z⟩:=Hq x.ok;exact hcl _ (Pc ok2 kd i hm2 (by rintro rfl;cases hne) (by rintro rfl;cases hne) k2 (z hk))
   cases kd2 with
   | p=>exact hv (.inl rfl)
   | r=>exact hv (.inr rfl)
   | e=>have:=x.rest _ _ List.mem_cons_self rfl;rw [heff (.inl rfl)] at this;cases this
   | w=>have:=x.rest _ _ List.mem_cons_self rfl;rw [heff (.inr (.inl rfl))] at this;cases this
   | a=>
    obtain ⟨σr',x'⟩:=x.unfoldA nd (heff (.inr (.inr (.inl rfl))));exact ih x' hm2
   | l=>exact ih x.unfoldL hm2
   | b=>
    obtain ⟨σr',x'⟩:=x.unfoldB nd (heff (.inr (.inr (.inr rfl))));exact ih x' hm2
theorem Jl.ends(nd:(Dq l n).Nodup)(hall:∀i,i<n->D i=true):∀{V:List (Kd×Nat)}{seen effs rds:List Nat}{wr:Bool} {σr:Nat->Value} {hr:GH},
  Jl E l n cls fl hs ds Lw F seen effs rds wr V σr hr D σ' h'->F σ' h':=by
 intro V
 induction V with
 | nil=>
  intro seen effs rds wr σr hr x;have e:σ'=σr:=funext λt=>by
   cases hc:(Dq l n).contains t with
   | false=>exact x.base t hc
   | true=>
    rw [List.contains_iff_mem] at hc;simp only [Dq,List.mem_filterMap] at hc;obtain ⟨o,ho,hd⟩:=hc;obtain ⟨k,hk⟩:=List.mem_iff_getElem?.1 ho;have hkn:k<n:=by
     have:=(List.getElem?_eq_some_iff.1 hk).1
     simp at this;omega
    have hok:l[k]? =some o:=by rw [List.getElem?_take] at hk;simpa [hkn] using hk
    rcases Pb x.ok k hkn with h | ⟨_,h,_⟩
    ·exact x.done k h (hall k hkn) o t hok hd
    ·cases h
  rw [e];exact x.td h' x.gw
 | cons y V ih=>
  intro seen effs rds wr σr hr x;obtain ⟨kd,k⟩:=y;have hk:=(DQ x.ok kd k List.mem_cons_self).2;cases kd with
  | a=>obtain ⟨σr',x'⟩:=x.unfoldA nd (hall k hk);exact ih x'
  | b=>obtain ⟨σr',x'⟩:=x.unfoldB nd (hall k hk);exact ih x'
  | l=>exact ih x.unfoldL
  | p=>have:=x.rest _ k List.mem_cons_self rfl;rw [hall k hk] at this;cases this
  | r=>have:=x.rest _ k List.mem_cons_self rfl;rw [hall k hk] at this;cases this
  | e=>have:=x.rest _ k List.mem_cons_self rfl;rw [hall k hk] at this;cases this
  | w=>have:=x.rest _ k List.mem_cons_self rfl;rw [hall k hk] at this;cases this
end
def TF(c:List Nat)(k:List Nat->Bool):Bool:=match c with
 | []=>k []
 | x ::xs=>TF xs λxs'=>k (x ::xs')
theorem Rv:∀(c:List Nat)(k:List Nat->Bool),TF c k=k c
 | [],_=>rfl
 | x ::xs,k=>by unfold TF;rw [Rv xs]
def TG(cls:List (List Nat))(k:List (List Nat)->Bool):Bool:=match cls with
 | []=>k []
 | c ::cs=>TG cs λcs'=>k (c ::cs')
theorem Rw:∀(cls:List (List Nat))(k:List (List Nat)->Bool),TG cls k=k cls
 | [],_=>rfl
 | c ::cs,k=>by unfold TG;exact Rw cs _
def Rx(l:List Oper):List Oper->Nat->List (List Nat)->(List (List Nat)->Bool)->Bool
 | [],_,acc,c=>TG acc.reverse c
 | o ::os,k,acc,c=>TF ((List.range k).filter λj=>IZ o j || (List.range k).any λe=>IZ o e && (acc.getD (k-1-e) []).contains j) λx=>Rx l os (k+1) (x ::acc) c
theorem Jm{l:List Oper}{c:List (List Nat)->Bool}:∀{os:List Oper}{k:Nat}{acc:List (List Nat)},Rx l os k acc c=true->∃cls,c cls=true
 | [],k,acc,h=>⟨acc.reverse,(Rw acc.reverse c).symm.trans h⟩
 | o ::os,k,acc,h=>by unfold Rx at h;rw [Rv] at h;exact Jm h
def Uk(P:Program)(N:Nat)(l:List Oper)(n:Nat)(cls:List (List Nat))(fl:Bool)(V:List (Kd×Nat)):Bool:=Fm N l n cls && GX P l n cls fl V [] [] [] false && V.all λx=>x.1 !=.b || V.contains (.l,x.2)
theorem tr_td{Lw:Nat->Value->GH->Prop}{F:(Nat->Value)->GH->Prop}{id:Nat}{l:List Oper}{O:Nat->Value}{ds:List Deferred}{h:GH}{Q:Post}(n:Nat)(cls:List (List Nat))(fl:Bool)(V:List (Kd×Nat))(hm:P.follows .mixedOrders=true)
  (hL:∀k v h1 h2,GH.Le h1 h2->Lw k v h1->Lw k v h2) (hF:Lw n undef h) (ok:Uk P E.N l n cls fl V=true) (x:TD E l n fl h ds Lw F V O h) (y:∀σ' h',F σ' h'->Dp E l.toArray (l.drop n) σ' ds h' Q):Tr E (.region id l.toArray true) O ds h Q:=by
 unfold Uk at ok;rw [Bool.and_eq_true,Bool.and_eq_true] at ok;obtain ⟨⟨ok1,ok2⟩,ok3⟩:=ok;have nd:(Dq l n).Nodup:=by
  have:=ok1
  unfold Fm at this;simp only [Bool.and_eq_true] at this;exact of_decide_eq_true this.1.2
 refine PU n cls (TdAt E l n cls fl h ds Lw F) hm ok1 ?_ ?_ ?_
 ·exact ⟨[],[],[],false,V,O,h,x,ok2,Gw.refl _ _,λ_ _=>rfl,(λ_ hk=>by cases hk),(λ_ hk=>by cases hk),(λ_ _ _ _=>rfl),(λ_ hk=>by cases hk),(λ_ hk=>by cases hk),(λ_ _ hD=>by cases hD),(λk hk _=>.inl (by have:=List.all_eq_true.1 ok3 _ hk;simpa using this)),(λ_ _ hD=>by cases hD),hL,hF,(λ_=>GH.Le.refl _),(λ_ _ hD=>by cases hD)⟩
 ·rintro D σ' h' i o ⟨seen,effs,rds,wr,π',σr,hr,z0⟩ hin hiD ho hcl hgl;rcases Pb z0.ok i hin with hs | ⟨kd,hk,hkl⟩
  ·exact z0.runV nd ho hs hiD hcl
  ·by_cases hne:kd.fix=false
   ·cases kd with
    | a=>exact z0.runA nd hk hiD ho hcl
    | b=>exact z0.runB nd hk hiD ho hcl
    | l=>exact absurd rfl hkl
    | p=>cases hne
    | r=>cases hne
    | e=>cases hne
    | w=>cases hne
   ·obtain ⟨seen,effs,rds,wr,π'',σr,hr,z⟩:=z0.reach nd (by simpa using hne) hcl hk;cases kd with
    | p=>
     obtain ⟨rds',σr',z'⟩:=z.unfoldV nd (.inl rfl);exact z'.runV nd ho List.mem_cons_self hiD hcl
    | r=>
     obtain ⟨rds',σr',z'⟩:=z.unfoldV nd (.inr rfl);exact z'.runV nd ho List.mem_cons_self hiD hcl
    | e=>exact z.runE nd (.inl rfl) ho hcl
    | w=>exact z.runE nd (.inr rfl) ho hcl
    | a=>exact absurd rfl hne
    | l=>exact absurd rfl hne
    | b=>exact absurd rfl hne
 ·rintro D σ' h' ⟨seen,effs,rds,wr,π',σr,hr,z0⟩ hall;exact y _ _ (z0.ends nd hall)
abbrev LoIs(O:Nat->Value)(o:Option Operand)(lo d:Nat):Prop:=match o with
 | none=>lo=d
 | some o=>∃kd,AQ O o=.int kd lo
def O3(m:Nat):Kd×Nat:=if 1000<=m then (if m%2=0 then .l else .b,(m-1000) / 2) else (match m%5 with | 0=>.p | 1=>.r | 2=>.e | 3=>.w | _=>.a,m / 5)
def dK:List Nat->List (Kd×Nat)
 | []=>[]
 | m ::l=>O3 m ::dK l
theorem BE{id:Nat}{l:List Oper}{O:Nat->Value}{ds:List Deferred}{h:GH}{Q:Post}(n:Nat)(fl:Bool)(V:List Nat)(hm:P.follows .mixedOrders=true)
  (ok:Rx l (l.take n) 0 [] (λcls=>Uk P E.N l n cls fl (dK V))=true) (x:TD E l n fl h ds (λ_ _ _=>True) (λσ' h'=>Dp E l.toArray (l.drop n) σ' ds h' Q) (dK V) O h):Tr E (.region id l.toArray true) O ds h Q:=
 let ⟨cls,h1⟩:=Jm ok
 tr_td n cls fl (dK V) hm (λ_ _ _ _ _ y=>y) trivial h1 x λ_ _ y=>y
theorem GJ{id:Nat}{l:List Oper}{O:Nat->Value}{ds:List Deferred}{h:GH}{Q:Post}(F:(Nat->Value)->GH->Prop)(n:Nat)(fl:Bool)(V:List Nat)(hm:P.follows .mixedOrders=true)
  (ok:Rx l (l.take n) 0 [] (λcls=>Uk P E.N l n cls fl (dK V))=true) (x:TD E l n fl h ds (λ_ _ _=>True) F (dK V) O h) (y:∀σ' h',F σ' h'->Dp E l.toArray (l.drop n) σ' ds h' Q):Tr E (.region id l.toArray true) O ds h Q:=
 let ⟨cls,h1⟩:=Jm ok
 tr_td n cls fl (dK V) hm (λ_ _ _ _ _ y=>y) trivial h1 x y
theorem tr_tdL{id:Nat}{l:List Oper}{O:Nat->Value}{ds:List Deferred}{h:GH}{Q:Post}(n:Nat)(Lw:Nat->Value->GH->Prop)(hL:∀k v h1 h2,GH.Le h1 h2->Lw k v h1->Lw k v h2)(hF:Lw n undef h)(fl:Bool)(V:List Nat)(hm:P.follows .mixedOrders=true)
  (ok:Rx l (l.take n) 0 [] (λcls=>Uk P E.N l n cls fl (dK V))=true) (x:TD E l n fl h ds Lw (λσ' h'=>Dp E l.toArray (l.drop n) σ' ds h' Q) (dK V) O h):Tr E (.region id l.toArray true) O ds h Q:=
 let ⟨cls,h1⟩:=Jm ok
 tr_td n cls fl (dK V) hm hL hF h1 x λ_ _ y=>y
section
variable {l:List Oper} {n:Nat} {fl:Bool} {hs:GH} {ds:List Deferred} {Lw:Nat->Value->GH->Prop} {F:(Nat->Value)->GH->Prop} {V:List Nat} {O:Nat->Value} {h:GH} {m k g d:Nat} {dst:Option Nat} {op:Op} {ty:TypeId} {pos:String} {af:Array Edge} {v:Value} {w is:Bool} {og:Oper}
theorem vz{U β γ:Type}{a:U}{b:β}{c:γ}:a=a/\b=b/\c=c:=⟨rfl,rfl,rfl⟩
theorem tP(hk:O3 m=(.p,k))(ho:l[k]? =some ⟨dst,op,ty,pos,af,none⟩)(x:∀hx,Uj E ⟨dst,op,ty,pos,af,none⟩ O ds hx v)(y:TD E l n fl hs ds Lw F (dK V) (putS O dst v) h):TD E l n fl hs ds Lw F (dK (m ::V)) O h:=by
 unfold dK;rw [hk];exact ⟨_,true,ho,rfl,λe=>(by cases e),λ_=>⟨v,λhx _=>x hx,y⟩⟩
theorem tR(hk:O3 m=(.r,k))(ho:l[k]? =some ⟨dst,op,ty,pos,af,none⟩)(x:Uj E ⟨dst,op,ty,pos,af,none⟩ O ds h v)(y:TD E l n fl hs ds Lw F (dK V) (putS O dst v) h):TD E l n fl hs ds Lw F (dK (m ::V)) O h:=by
 unfold dK;rw [hk];exact ⟨_,true,ho,rfl,λe=>(by cases e),λ_=>⟨v,x,y⟩⟩
theorem tE(hk:O3 m=(.e,k))(ho:l[k]? =some ⟨dst,op,ty,pos,af,none⟩)
  (x:Bg E ⟨dst,op,ty,pos,af,none⟩ O ds h λσ' ds' h'=>ds'=ds/\∃v,σ'=putS O dst v/\h.Le h'/\TD E l n false hs ds Lw F (dK V) (putS O dst v) h'):TD E l n false hs ds Lw F (dK (m ::V)) O h:=by
 unfold dK;rw [hk];exact ⟨_,true,ho,rfl,λe=>(by cases e),λ_ hx hg=>by rw [hg.2 rfl];exact x⟩
theorem Hs(hk:O3 m=(.e,k))(ho:l[k]? =some ⟨dst,op,ty,pos,af,none⟩)
  (x:∀hx,h.Le hx->Bg E ⟨dst,op,ty,pos,af,none⟩ O ds hx λσ' ds' h'=>ds'=ds/\∃v,σ'=putS O dst v/\hx.Le h'/\TD E l n true hs ds Lw F (dK V) (putS O dst v) h'):TD E l n true hs ds Lw F (dK (m ::V)) O h:=by
 unfold dK;rw [hk];exact ⟨_,true,ho,rfl,λe=>(by cases e),λ_ hx hg=>x hx hg.1⟩
theorem tW(hk:O3 m=(.w,k))(ho:l[k]? =some ⟨dst,op,ty,pos,af,none⟩)
  (x:Bg E ⟨dst,op,ty,pos,af,none⟩ O ds h λσ' ds' h'=>ds'=ds/\∃v,σ'=putS O dst v/\TD E l n false hs ds (λ_ _ _=>True) F (dK V) (putS O dst v) h'):TD E l n false hs ds (λ_ _ _=>True) F (dK (m ::V)) O h:=by
 unfold dK;rw [hk];exact ⟨_,true,ho,rfl,λe=>(by cases e),λ_ hx hg=>by rw [hg.2 rfl];exact x.mono λ_ _ _ q=>⟨q.1,by obtain ⟨v,e,y⟩:=q.2;exact ⟨v,e,trivial,y⟩⟩⟩
theorem ZH(hk:O3 m=(.w,k))(ho:l[k]? =some ⟨dst,op,ty,pos,af,none⟩)
  (x:∀hx,h.Le hx->Bg E ⟨dst,op,ty,pos,af,none⟩ O ds hx λσ' ds' h'=>ds'=ds/\∃v,σ'=putS O dst v/\TD E l n true hs ds (λ_ _ _=>True) F (dK V) (putS O dst v) h'):TD E l n true hs ds (λ_ _ _=>True) F (dK (m ::V)) O h:=by
 unfold dK;rw [hk];exact ⟨_,true,ho,rfl,λe=>(by cases e),λ_ hx hg=>(x hx hg.1).mono λ_ _ _ q=>⟨q.1,by obtain ⟨v,e,y⟩:=q.2;exact ⟨v,e,trivial,y⟩⟩⟩
theorem tWfL(hk:O3 m=(.w,k))(ho:l[k]? =some ⟨dst,op,ty,pos,af,none⟩)
  (x:∀hx,h.Le hx->Bg E ⟨dst,op,ty,pos,af,none⟩ O ds hx λσ' ds' h'=>ds'=ds/\∃v,σ'=putS O dst v/\Lw n undef h'/\TD E l n true hs ds Lw F (dK V) (putS O dst v) h'):TD E l n true hs ds Lw F (dK (m ::V)) O h:=by
 unfold dK;rw [hk];exact ⟨_,true,ho,rfl,λe=>(by cases e),λ_ hx hg=>x hx hg.1⟩
theorem tA{t:TypeId}{z:Array Value}(hk:O3 m=(.a,k))(ho:l[k]? =some ⟨dst,.alloc t,ty,pos,af,none⟩)(hz:CS P t=some z)
  (x:∀r hx,h.Le hx->hs r=none->hx r=some (true,.cells z t (0,0))->TD E l n true hs ds Lw F (dK V) (putS O dst (.pointer (some ⟨r,0,none⟩))) hx):TD E l n true hs ds Lw F (dK (m ::V)) O h:=by
 unfold dK;rw [hk];refine ⟨_,true,ho,rfl,λe=>(by cases e),λ_ t' r hx e l2 hr hb=>?_⟩;cases e;exact x r hx l2 hr (by rw [hb];unfold zOf;rw [hz];rfl)
theorem tL(hk:O3 m=(.l,k))(ho:l[k]? =some ⟨dst,op,ty,pos,af,none⟩)
  (x:∀hx,h.Le hx->Bg E ⟨dst,op,ty,pos,af,none⟩ O ds hx λσ' ds' h'=>ds'=ds/\∃v,σ'=putS O dst v/\hx.Le h'/\Lw k v h') (y:TD E l n fl hs ds Lw F (dK V) O h):TD E l n fl hs ds Lw F (dK (m ::V)) O h:=by
 unfold dK;rw [hk];exact ⟨_,true,ho,rfl,λe=>(by cases e),λ_=>⟨x,y⟩⟩
theorem tB(hk:O3 m=(.b,k))(ho:l[k]? =some ⟨dst,op,ty,pos,af,none⟩)(x:∀v hx,h.Le hx->Lw k v hx->TD E l n fl hs ds Lw F (dK V) (putS O dst v) hx):TD E l n fl hs ds Lw F (dK (m ::V)) O h:=by
 unfold dK;rw [hk];exact ⟨_,true,ho,rfl,λe=>(by cases e),λ_=>x⟩
theorem TH(h1:l[g]? =some og)(h2:og.dst=some d)(h3:O d=.bool w):Gd l ⟨dst,op,ty,pos,af,some (g,w)⟩ O true:=⟨og,d,w,h1,h2,h3,by cases w <;> rfl⟩
theorem tPg(hk:O3 m=(.p,k))(ho:l[k]? =some ⟨dst,op,ty,pos,af,some (g,w)⟩)(h1:l[g]? =some og)(h2:og.dst=some d)(h3:O d=.bool w)(x:∀hx,Uj E ⟨dst,op,ty,pos,af,some (g,w)⟩ O ds hx v)
  (y:TD E l n fl hs ds Lw F (dK V) (putS O dst v) h):TD E l n fl hs ds Lw F (dK (m ::V)) O h:=by
 unfold dK;rw [hk];exact ⟨_,true,ho,TH h1 h2 h3,λe=>(by cases e),λ_=>⟨v,λhx _=>x hx,y⟩⟩
theorem tRg(hk:O3 m=(.r,k))(ho:l[k]? =some ⟨dst,op,ty,pos,af,some (g,w)⟩)(h1:l[g]? =some og)(h2:og.dst=some d)(h3:O d=.bool w)(x:Uj E ⟨dst,op,ty,pos,af,some (g,w)⟩ O ds h v)
  (y:TD E l n fl hs ds Lw F (dK V) (putS O dst v) h):TD E l n fl hs ds Lw F (dK (m ::V)) O h:=by
 unfold dK;rw [hk];exact ⟨_,true,ho,TH h1 h2 h3,λe=>(by cases e),λ_=>⟨v,x,y⟩⟩
theorem TJ(hk:O3 m=(.e,k))(ho:l[k]? =some ⟨dst,op,ty,pos,af,some (g,w)⟩)(h1:l[g]? =some og)(h2:og.dst=some d)(h3:O d=.bool w)
  (x:Bg E ⟨dst,op,ty,pos,af,some (g,w)⟩ O ds h λσ' ds' h'=>ds'=ds/\∃v,σ'=putS O dst v/\h.Le h'/\TD E l n false hs ds Lw F (dK V) (putS O dst v) h'):TD E l n false hs ds Lw F (dK (m ::V)) O h:=by
 unfold dK;rw [hk];exact ⟨_,true,ho,TH h1 h2 h3,λe=>(by cases e),λ_ hx hg=>by rw [hg.2 rfl];exact x⟩
theorem tS{kd:Kd}(hk:O3 m=(kd,k))(ho:l[k]? =some ⟨dst,op,ty,pos,af,some (g,w)⟩)(h1:l[g]? =some og)(h2:og.dst=some d)(h3:O d=.bool is)(hne:(is==w)=false)
  (y:TD E l n fl hs ds Lw F (dK V) (putS O dst undef) h):TD E l n fl hs ds Lw F (dK (m ::V)) O h:=by
 unfold dK;rw [hk];exact ⟨_,false,ho,⟨og,d,is,h1,h2,h3,hne.symm⟩,λ_=>y,λe=>(by cases e)⟩
theorem tN(x:F O h):TD E l n false hs ds Lw F (dK []) O h:=λhx hg=>by rw [hg.2 rfl];exact x
theorem WK(x:∀hx,h.Le hx->F O hx):TD E l n true hs ds Lw F (dK []) O h:=λhx hg=>x hx hg.1
section
variable {U:Type} {enc:U->Array Value} {xs:List U} {h0:GH} {t:TypeId} {a ix:Operand} {z:Nat} {sv:Value} {kd:IntKind} {i:Int}
theorem tI(hk:O3 m=(.p,k))(ho:l[k]? =some ⟨dst,.indexAddr t a ix,ty,pos,af,none⟩)(ht:Eg P t=some z)(hs':AE h0 sv z enc xs)(hx:AQ O a=sv)(hi:AQ O ix=.int kd i)(h0':0<=i)(h1:i<xs.length)
  (y:∀b off,AX h0 b off z (enc (xs[i.toNat]' aA))->TD E l n fl hs ds Lw F (dK V) (putS O dst (.pointer (some ⟨b,off,none⟩))) h):TD E l n fl hs ds Lw F (dK (m ::V)) O h:=by
 obtain ⟨p,cap,rfl,_,_,he⟩:=hs';obtain ⟨b,off,rfl,hb⟩:=he i.toNat aA;exact tP hk ho (λ_=>AK ht hx hi h0' h1 vz) (y b _ hb)
theorem tSl{olo ohi:Option Operand}(lo hi:Nat)(hk:O3 m=(.p,k))(ho:l[k]? =some ⟨dst,.slice t a olo ohi none,ty,pos,af,none⟩)(ht:Eg P t=some z)(hs':AE h0 sv z enc xs)(hx:AQ O a=sv)
  (hlo:LoIs O olo lo 0) (hhi:LoIs O ohi hi xs.length) (h1:lo<=hi) (h2:hi<=xs.length)
  (y:∀v',AE h0 v' z enc ((xs.take hi).drop lo)->TD E l n fl hs ds Lw F (dK V) (putS O dst v') h):TD E l n fl hs ds Lw F (dK (m ::V)) O h:=by
 have h3:=hs';obtain ⟨p,cap,rfl,hc,_,_⟩:=hs';exact tP hk ho (λ_=>Nr lo hi ht hc hx hlo hhi h1 h2 vz) (y _ (h3.part h1 h2))
theorem tIg(hk:O3 m=(.p,k))(ho:l[k]? =some ⟨dst,.indexAddr t a ix,ty,pos,af,some (g,w)⟩)(h1':l[g]? =some og)(h2':og.dst=some d)(h3':O d=.bool w)(ht:Eg P t=some z)(hs':AE h0 sv z enc xs)(hx:AQ O a=sv)(hi:AQ O ix=.int kd i)(h0':0<=i)(h1:i<xs.length)
  (y:∀b off,AX h0 b off z (enc (xs[i.toNat]' aA))->TD E l n fl hs ds Lw F (dK V) (putS O dst (.pointer (some ⟨b,off,none⟩))) h):TD E l n fl hs ds Lw F (dK (m ::V)) O h:=by
 obtain ⟨p,cap,rfl,_,_,he⟩:=hs';obtain ⟨b,off,rfl,hb⟩:=he i.toNat aA;exact tPg hk ho h1' h2' h3' (λ_=>AK ht hx hi h0' h1 vz) (y b _ hb)
end
theorem eT{h':GH}{π':List (Kd×Nat)}(l2:h.Le h')(y:TD E l n fl hs ds Lw F π' (putS O dst v) h'):ds=ds/\∃v',putS O dst v=putS O dst v'/\h.Le h'/\TD E l n fl hs ds Lw F π' (putS O dst v') h':=⟨rfl,v,rfl,l2,y⟩
theorem wTL{h':GH}{π':List (Kd×Nat)}(fr:Lw n undef h')(y:TD E l n fl hs ds Lw F π' (putS O dst v) h'):ds=ds/\∃v',putS O dst v=putS O dst v'/\Lw n undef h'/\TD E l n fl hs ds Lw F π' (putS O dst v') h':=⟨rfl,v,rfl,fr,y⟩
theorem wT{h':GH}{π':List (Kd×Nat)}(y:TD E l n fl hs ds Lw F π' (putS O dst v) h'):ds=ds/\∃v',putS O dst v=putS O dst v'/\TD E l n fl hs ds Lw F π' (putS O dst v') h':=⟨rfl,v,rfl,y⟩
end
theorem DM{X:Prop}{p:Prop}[Decidable p](a:p->X)(b:¬p->X):X:=if h:p then a h else b h
theorem Ul{X:Prop}{b:Bool}(x:b=true->X)(y:b=false->X):X:=by cases b with
 | true=>exact x rfl
 | false=>exact y rfl
end
end Go.Ns
namespace Go.Ns
def eI(i:Int):Array Value:=#[.int .i64 i]
def eB(i:Int):Array Value:=#[.int .u8 i]
structure Good where
 name:ByteArray
 cost:Int
 pack:Int
 low:Int
 high:Int
structure AA where
 kind:Int
 good:Int
 day:Int
 low:Int
 high:Int
structure AF where
 good:Int
 day:Int
 low:Int
 high:Int
def BC(x:Good):Array Value:=#[.string x.name,.int .i64 x.cost,.int .i64 x.pack,.int .i64 x.low,.int .i64 x.high]
def Ao(x:AA):Array Value:=#[.int .i64 x.kind,.int .i64 x.good,.int .i64 x.day,.int .i64 x.low,.int .i64 x.high]
def Ag(x:AF):Array Value:=#[.int .i64 x.good,.int .i64 x.day,.int .i64 x.low,.int .i64 x.high]
structure AV where
 first:Nat->Int
 many:Nat->Int
 lies:Nat->Bool
def AV.zero:AV:=⟨λ_=>0,λ_=>0,λ_=>false⟩
def Av(p:AV):Array Value:=#[.int .i64 (p.first 0),.int .i64 (p.first 1),.int .i64 (p.first 2),.int .i64 (p.many 0),.int .i64 (p.many 1),.int .i64 (p.many 2),.int .i64 (p.many 3),.int .i64 (p.many 4),.int .i64 (p.many 5),
 .bool (p.lies 0),.bool (p.lies 1),.bool (p.lies 2),.bool (p.lies 3),.bool (p.lies 4),.bool (p.lies 5)]
def AV.setFirst(p:AV)(i:Nat)(n:Int):AV:={ p with first:=λk=>if k=i then n else p.first k }
def AV.setMany(p:AV)(i:Nat)(n:Int):AV:={ p with many:=λk=>if k=i then n else p.many k }
def AV.setLie(p:AV)(i:Nat)(b:Bool):AV:={ p with lies:=λk=>if k=i then b else p.lies k }
theorem Um{p:AV}{i:Nat}(h:i<3):(Av p)[i*1]? =some (.int .i64 (p.first i)):=by
 match i,h with
 | 0,_=>rfl
 | 1,_=>rfl
 | 2,_=>rfl
theorem WZ{p:AV}{i:Nat}(h:i<6):(Av p)[3+i*1]? =some (.int .i64 (p.many i)):=by
 match i,h with
 | 0,_=>rfl
 | 1,_=>rfl
 | 2,_=>rfl
 | 3,_=>rfl
 | 4,_=>rfl
 | 5,_=>rfl
theorem ME{p:AV}{i:Nat}(h:i<6):(Av p)[9+i*1]? =some (.bool (p.lies i)):=by
 match i,h with
 | 0,_=>rfl
 | 1,_=>rfl
 | 2,_=>rfl
 | 3,_=>rfl
 | 4,_=>rfl
 | 5,_=>rfl
theorem Un{p:AV}{i:Nat}(h:i<6):(if false=true then some (Value.agg ((#[.bool (p.lies 0),.bool (p.lies 1),.bool (p.lies 2),.bool (p.lies 3),.bool (p.lies 4),.bool (p.lies 5)]:Array Value).extract (i*1) (i*1+1))) else (#[.bool (p.lies 0),.bool (p.lies 1),.bool (p.lies 2),.bool (p.lies 3),.bool (p.lies 4),.bool (p.lies 5)]:Array Value)[i*1]?)=some (.bool (p.lies i)):=by
 match i,h with
 | 0,_=>rfl
 | 1,_=>rfl
 | 2,_=>rfl
 | 3,_=>rfl
 | 4,_=>rfl
 | 5,_=>rfl
theorem Pd{p:AV}{i:Nat}{n:Int}(h:i<3):Bz (Av p) (i*1) [.int .i64 n]=Av (p.setFirst i n):=by
 match i,h with
 | 0,_=>rfl
 | 1,_=>rfl
 | 2,_=>rfl
theorem Ow{p:AV}{i:Nat}{n:Int}(h:i<3):Bz (Av p) (0+i*1) [.int .i64 n]=Av (p.setFirst i n):=by rw [Nat.zero_add];exact Pd h
theorem RG{p:AV}{i:Nat}{n:Int}(h:i<6):Bz (Av p) (3+i*1) [.int .i64 n]=Av (p.setMany i n):=by
 match i,h with
 | 0,_=>rfl
 | 1,_=>rfl
 | 2,_=>rfl
 | 3,_=>rfl
 | 4,_=>rfl
 | 5,_=>rfl
theorem Jn{p:AV}{i:Nat}{b:Bool}(h:i<6):Bz (Av p) (9+i*1) [.bool b]=Av (p.setLie i b):=by
 match i,h with
 | 0,_=>rfl
 | 1,_=>rfl
 | 2,_=>rfl
 | 3,_=>rfl
 | 4,_=>rfl
 | 5,_=>rfl
theorem TK{p:AV}{i:Nat}(h:i<3):(Av p)[0+i*1]? =some (.int .i64 (p.first i)):=by rw [Nat.zero_add];exact Um h
def Aw(p:AV):Nat->Nat
 | 0=>0
 | k+1=>Aw p k+if p.lies k then 1 else 0
theorem Pe(p:AV):∀k,Aw p k<=k
 | 0=>Nat.le_refl _
 | k+1=>by have:=Pe p k;unfold Aw;split <;> omega
def CJ(p:AV)(i:Nat):Int:=if p.lies i then 0 else p.many i
def Good.z:Good:=⟨⟨#[]⟩,0,0,0,0⟩
def AA.z:AA:=⟨0,0,0,0,0⟩
def AF.z:AF:=⟨0,0,0,0⟩
theorem BY{U:Type}{xs:List U}{i:Nat}(d:U)(hi:i<xs.length):xs.getD i d=xs[i]'hi:=by
 simp [List.getD_eq_getElem?_getD,List.getElem?_eq_getElem hi]
theorem AX.getD{U:Type}{h:GH}{b off n:Nat}{enc:U->Array Value}{xs:List U}{i:Nat}{hi:i<xs.length}(d:U)(x:AX h b off n (enc (xs[i]'hi))):AX h b off n (enc (xs.getD i d)):=by
 rw [BY d hi];exact x
theorem CK{U:Type}{a:List U}{k:Nat}(d:U)(ha:k<a.length):a.take (k+1)=a.take k++[a.getD k d]:=by
 rw [List.take_succ_eq_append_getElem ha,BY d ha]
theorem Pf{U:Type}{a b:List U}{k:Nat}(d:U)(h:a.take k=b.take k)(ha:k<a.length)(hb:k<b.length)(e:a.getD k d=b.getD k d):a.take (k+1)=b.take (k+1):=by
 rw [CK d ha,CK d hb,h,e]
theorem TL{a b:List Int}{k:Nat}(h:a.take k=b.take k)(hk:k<=a.length)(hk':¬(k:Int)<a.length)(hl:(a.length:Int)=b.length):a=b:=by
 have h1:k=a.length:=aA
 have h2:b.length=a.length:=aA
 rw [h1,List.take_length,<-h2,List.take_length] at h;exact h
theorem ne_len{U:Type}{a b:List U}(h:¬(a.length:Int)=b.length):¬a=b:=λe=>h (by rw [e])
theorem ne_getD{U:Type}{a b:List U}{k:Nat}{d:U}(e:¬a.getD k d=b.getD k d):¬a=b:=λh=>e (by rw [h])
theorem has_hit{a:List Int}{k:Nat}{n:Int}(hk:(k:Int)<a.length)(e:a.getD k 0=n):n ∈ a:=by
 have hk':k<a.length:=aA
 rw [BY 0 hk'] at e;exact e▸List.getElem_mem hk'
theorem has_next{a:List Int}{k:Nat}{n:Int}(hk:(k:Int)<a.length)(h:¬n ∈ a.take k)(e:¬a.getD k 0=n):¬n ∈ a.take (k+1):=by
 rw [CK 0 aA];simp only [List.mem_append,List.mem_singleton,not_or];exact ⟨h,λq=>e q.symm⟩
theorem has_end{a:List Int}{k:Nat}{n:Int}(hk:¬(k:Int)<a.length)(h:¬n ∈ a.take k):¬n ∈ a:=by
 rwa [List.take_of_length_le aA] at h
def HD(c:Int):Prop:=97<=c/\c<=122
def G1(c:Int):Prop:=48<=c/\c<=57
instance (c:Int):Decidable (HD c):=inferInstanceAs (Decidable (_/\_))
instance (c:Int):Decidable (G1 c):=inferInstanceAs (Decidable (_/\_))
def Ey(d m:Int):Int:=if¬(1<=d/\d<=99)\/¬(0<=m/\m<=2) then 1 else 0
def idxOf{U:Type}(p:U->Bool):List U->Int
 | []=> -1
 | x ::l=>if p x then 0 else if idxOf p l<0 then-1 else idxOf p l+1
theorem Pg{U:Type}(p:U->Bool):∀l:List U,-1<=idxOf p l
 | []=>by simp [idxOf]
 | x ::l=>by have:=Pg p l;unfold idxOf;split <;> (try split) <;> omega
theorem JC{U:Type}(p:U->Bool):∀l:List U,(0<=idxOf p l)↔l.any p=true
 | []=>by simp [idxOf]
 | x ::l=>by
  have:=JC p l
  have h2:=Pg p l;unfold idxOf;cases hp:p x with
  | true=>simp [hp]
  | false=>
   simp only [Bool.false_eq_true,if_false,List.any_cons,hp,Bool.false_or];rw [<-this];split <;> omega
theorem Nu{U:Type}{p:U->Bool}{l:List U}{k:Nat}{d:U}(hk:(k:Int)<l.length)(h:(l.take k).any p=false)(e:p (l.getD k d)=true):idxOf p l=k:=by
 induction l generalizing k with
 | nil=>simp at hk;omega
 | cons x l ih=>
  unfold idxOf;cases k with
  | zero=>simp at e;simp [e]
  | succ k=>
   simp only [List.take_succ_cons,List.any_cons,Bool.or_eq_false_iff] at h;rw [h.1]
   have:=ih (k:=k) (by simp at hk;omega) h.2 (by simpa using e)
   rw [this];simp only [Bool.false_eq_true,if_false];rw [if_neg aA];omega
theorem MF{U:Type}{p:U->Bool}{l:List U}{k:Nat}(hk:¬(k:Int)<l.length)(h:(l.take k).any p=false):idxOf p l= -1:=by
 rw [List.take_of_length_le aA] at h
 have:=JC p l
 have h2:=Pg p l;rw [h] at this;simp at this;omega
theorem NB{U:Type}{p:U->Bool}{l:List U}{k:Nat}{d:U}(hk:(k:Int)<l.length)(h:(l.take k).any p=false)(e:p (l.getD k d)=false):(l.take (k+1)).any p=false:=by
 rw [CK d aA,List.any_append,h];simp only [Bool.false_or,List.any_cons,List.any_nil,Bool.or_false,e]
theorem CV{U:Type}{l:List U}{k:Nat}{d:U}(hk:k<l.length):l.getD k d ∈ l:=by
 rw [BY d hk];exact List.getElem_mem hk
def BF(l:List Int)(m:Int):Int:=if¬(l.length:Int)=m then 2 else if l.any (λx=>decide (¬(0<=x/\x<=99))) then 1 else 0
def EW(f:Nat->Int):Nat->Nat->Int
 | _,0=>0
 | i,n+1=>if f i=0 then EW f (i+1) n else f i
theorem Ph{f:Nat->Int}{c:Int}:∀{n i k:Nat},(∀j,i<=j->j<i+k->f j=0)->k<n->f (i+k)=c->c≠0->EW f i n=c
 | 0,i,k,_,hk,_,_=>aA
 | n+1,i,0,_,_,e,hc=>by unfold EW;rw [Nat.add_zero] at e;rw [e,if_neg hc]
 | n+1,i,k+1,h,hk,e,hc=>by
  unfold EW;rw [if_pos (h i (Nat.le_refl _) aA)];exact Ph (k:=k) (λj h1 h2=>h j aA aA) aA (by rw [<-e];congr 1;omega) hc
theorem Fx{f:Nat->Int}:∀{n i:Nat},(∀j,i<=j->j<i+n->f j=0)->EW f i n=0
 | 0,_,_=>rfl
 | n+1,i,h=>by
  unfold EW;rw [if_pos (h i (Nat.le_refl _) aA)];exact Fx λj h1 h2=>h j aA aA
theorem Dw{f:Nat->Int}{k:Nat}(h:∀j,j<k->f j=0)(e:f k=0):∀j,j<k+1->f j=0:=λj hj=>by
 rcases Nat.lt_or_ge j k with q | q
 ·exact h j q
 ·rw [show j=k by omega];exact e
theorem BZ{f:Nat->Int}{c:Int}{n k:Nat}(h:∀j,j<k->f j=0)(hk:k<n)(e:f k=c)(hc:c≠0):EW f 0 n=c:=
 Ph (i:=0) (k:=k) (λj _ hj=>h j aA) hk (by rw [Nat.zero_add];exact e) hc
theorem Cs{f:Nat->Int}{n k:Nat}(h:∀j,j<k->f j=0)(hk:n<=k):EW f 0 n=0:=Fx λj _ hj=>h j aA
def Is(s:ByteArray)(k:Nat):Int:=if¬HD ((bytesOf s).getD k 0)/\(k=0\/¬G1 ((bytesOf s).getD k 0)) then 1 else 0
def FG(s:ByteArray):Bool:=decide (EW (Is s) 0 s.size=0) && decide (1<=(s.size:Int)/\(s.size:Int)<=10)
def Ha(l h:Int):Prop:=((0<=l/\l<=h)/\h<=99)/\h-l<3
instance (l h:Int):Decidable (Ha l h):=inferInstanceAs (Decidable (_/\_))
def Fu(gs:List Good)(k:Nat):Int:=
 if FG (gs.getD k Good.z).name=false then 4
 else if (gs.take k).any (λx=>x.name.toList==(gs.getD k Good.z).name.toList) then 5
 else if (¬(0<=(gs.getD k Good.z).cost/\(gs.getD k Good.z).cost<=999)\/¬(1<=(gs.getD k Good.z).pack/\(gs.getD k Good.z).pack<=20))\/¬Ha (gs.getD k Good.z).low (gs.getD k Good.z).high then 1 else 0
def Bp(gs:List Good):Int:=if¬(1<=(gs.length:Int)/\(gs.length:Int)<=3) then 2 else EW (Fu gs) 0 gs.length
def Ej(ms:List AA)(k:Nat):Int:=if k=0 then 0 else (ms.getD (k-1) AA.z).day
def Dz(d:Int)(gs:List Good)(ms:List AA)(k:Nat):Int:=
 if¬(0<=(ms.getD k AA.z).kind/\(ms.getD k AA.z).kind<=4) then 1
 else if¬(0<=(ms.getD k AA.z).good/\(ms.getD k AA.z).good<=(gs.length:Int)-1) then 6
 else if¬(1<=(ms.getD k AA.z).day/\(ms.getD k AA.z).day<=d) then 1
 else if (ms.getD k AA.z).day<Ej ms k then 7
 else if¬Ha (ms.getD k AA.z).low (ms.getD k AA.z).high then 1 else 0
def Ba(d:Int)(gs:List Good)(ms:List AA):Int:=if (6:Int)<ms.length then 2 else EW (Dz d gs ms) 0 ms.length
def E9(d:Int)(gs:List Good)(cs:List AF)(k:Nat):Int:=
 if¬(0<=(cs.getD k AF.z).good/\(cs.getD k AF.z).good<=(gs.length:Int)-1) then 6
 else if¬(0<=(cs.getD k AF.z).day/\(cs.getD k AF.z).day<=d)\/¬((0<=(cs.getD k AF.z).low/\(cs.getD k AF.z).low<=(cs.getD k AF.z).high)/\(cs.getD k AF.z).high<=999) then 1 else 0
def Ca(d:Int)(gs:List Good)(cs:List AF):Int:=if (4:Int)<cs.length then 2 else EW (E9 d gs cs) 0 cs.length
theorem Lj(s:ByteArray)(k:Nat):0<=(bytesOf s).getD k 0/\(bytesOf s).getD k 0<=255:=by
 by_cases h:k<(bytesOf s).length
 ·rw [BY 0 h];have h2:k<s.data.toList.length:=by rw [DB] at h;rw [Array.length_toList];exact h
  have e:(bytesOf s)[k]'h=((s.data.toList[k]'h2).toNat:Int):=List.getElem_map _;rw [e]
  have:=(s.data.toList[k]'h2).toNat_lt
  omega
 ·simp only [List.getD_eq_getElem?_getD];rw [List.getElem?_eq_none aA];decide
theorem Pi{s:ByteArray}{k:Nat}(h:∀j,j<k->Is s j=0)(hk:k<s.size)(e:Is s k=1):FG s=false:=by
 unfold FG;rw [BZ h hk e aC];simp
theorem Pj{s:ByteArray}{k:Nat}(h:∀j,j<k->Is s j=0)(hk:s.size<=k):FG s=decide (1<=(s.size:Int)/\(s.size:Int)<=10):=by
 unfold FG;rw [Cs h hk];simp
theorem rd_at0{P:Program}{h:GH}{t:TypeId}{b n m o:Nat}{vs:Array Value}{v:Value}(ht:Cj P t=some (false,m))(x:AX h b 0 n vs)(hv:vs[o]? =some v):Rd P h t b o v:=by
 have:=CB (o:=o) ht x hv
 rwa [Nat.zero_add] at this
def FZ(d m:Int)(gs:List Good)(ms:List AA)(cs:List AF):Nat->Int
 | 0=>Ey d m
 | 1=>Bp gs
 | 2=>Ba d gs ms
 | _=>Ca d gs cs
def AJ(d m:Int)(gs:List Good)(ms:List AA)(cs:List AF):Int:=EW (FZ d m gs ms cs) 0 4
def E5(k:Nat)(n:Int):Int:=if k=0\/k=4 then n else-n
theorem NC{k:Nat}{n:Int}(h:0<=n/\n<=99): -99<=E5 k n/\E5 k n<=99:=by unfold E5;split <;> omega
def B0(p:AV):Prop:=(∀i,0<=p.first i/\p.first i<=99)/\∀i,0<=p.many i/\p.many i<=99
theorem Hg{p:AV}(h:B0 p)(i:Nat):0<=CJ p i/\CJ p i<=99:=by
 unfold CJ;have:=h.2 i;split <;> omega
def Fy(ms:List AA)(p:AV)(g:Int)(k:Nat)(n:Int):Int:=if (ms.getD k AA.z).good=g then n+E5 (ms.getD k AA.z).kind.toNat (CJ p k) else n
def FA(ms:List AA)(k:Nat)(low n:Int):Int:=if (k:Int)+1=ms.length\/(ms.getD k AA.z).day<(ms.getD (k+1) AA.z).day then min low n else low
def Co(ms:List AA)(p:AV)(g dy:Int):Nat->Nat->Int->Int->Int×Int
 | 0,_,n,low=>(n,low)
 | f+1,k,n,low=>if dy<(ms.getD k AA.z).day then (n,low) else Co ms p g dy f (k+1) (Fy ms p g k n) (FA ms k low (Fy ms p g k n))
def AP(ms:List AA)(p:AV)(g dy:Int):Int×Int:=Co ms p g dy ms.length 0 (p.first g.toNat) (p.first g.toNat)
theorem E3{ms:List AA}{p:AV}{g dy:Int}{k:Nat}{n low:Int}(hk:k<ms.length)(hd:¬dy<(ms.getD k AA.z).day) :
  Co ms p g dy (ms.length-k) k n low=Co ms p g dy (ms.length-(k+1)) (k+1) (Fy ms p g k n) (FA ms k low (Fy ms p g k n)):=by
 rw [show ms.length-k=(ms.length-(k+1))+1 by omega]
 conv=>lhs;unfold Co
 rw [if_neg hd]
theorem RH{ms:List AA}{p:AV}{g dy:Int}{k:Nat}{n low:Int}(hk:k<ms.length)(hd:dy<(ms.getD k AA.z).day):Co ms p g dy (ms.length-k) k n low=(n,low):=by
 rw [show ms.length-k=(ms.length-(k+1))+1 by omega]
 conv=>lhs;unfold Co
 rw [if_pos hd]
theorem TM{ms:List AA}{p:AV}{g dy:Int}{k:Nat}{n low:Int}(hk:¬(k:Int)<ms.length):Co ms p g dy (ms.length-k) k n low=(n,low):=by
 rw [show ms.length-k=0 by omega];rfl
def BA(d:Int)(ng:Nat)(ms:List AA)(cs:List AF)(p:AV):Bool:=
 decide (∀j,j<ng->¬(AP ms p (j:Int) d).2<0) && !(cs.any λx=>decide (¬(x.low<=(AP ms p x.good x.day).1/\(AP ms p x.good x.day).1<=x.high)))
theorem Wa{d:Int}{ng:Nat}{ms:List AA}{cs:List AF}{p:AV}{k:Nat}(hk:k<ng)(h:(AP ms p (k:Int) d).2<0):BA d ng ms cs p=false:=by
 unfold BA;rw [decide_eq_false (λq=>q k hk h)];rfl
theorem Uo{d:Int}{ng:Nat}{ms:List AA}{cs:List AF}{p:AV}{k:Nat}(hk:ng<=k)(h:∀j,j<k->¬(AP ms p (j:Int) d).2<0) :
  BA d ng ms cs p= !(cs.any λx=>decide (¬(x.low<=(AP ms p x.good x.day).1/\(AP ms p x.good x.day).1<=x.high))):=by
 unfold BA;rw [decide_eq_true (λj hj=>h j aA)];rfl
theorem LE{q:Nat->Prop}{k:Nat}(h:∀j,j<k->q j)(e:q k):∀j,j<k+1->q j:=λj hj=>by
 rcases Nat.lt_or_ge j k with r | r
 ·exact h j r
 ·rw [show j=k by omega];exact e
def AV.setFirsts(p:AV)(l:List Int):AV:={ p with first:=λk=>if k<l.length then l.getD k 0 else p.first k }
def AV.setManys(p:AV)(l:List Int):AV:={ p with many:=λk=>if k<l.length then l.getD k 0 else p.many k }
theorem Ox{p:AV}{l:List Int}(h:l.length<=3):Bz (Av p) 0 (Db eI l)=Av (p.setFirsts l):=by
 match l,h with
 | [],_=>rfl
 | [_],_=>rfl
 | [_,_],_=>rfl
 | [_,_,_],_=>rfl
 | _ ::_ ::_ ::_ ::_,h=>simp at h
theorem Pm{p:AV}{l:List Int}(h:l.length<=6):Bz (Av p) 3 (Db eI l)=Av (p.setManys l):=by
 match l,h with
 | [],_=>rfl
 | [_],_=>rfl
 | [_,_],_=>rfl
 | [_,_,_],_=>rfl
 | [_,_,_,_],_=>rfl
 | [_,_,_,_,_],_=>rfl
 | [_,_,_,_,_,_],_=>rfl
 | _ ::_ ::_ ::_ ::_ ::_ ::_ ::_,h=>simp at h
end Go.Ns
namespace Go.Ns
open Go.Conc
def B1(lo:Int)(k:Nat):List Int:=(List.range k).map λ(j:Nat)=>lo+(j:Int)
def Ff(lo hi:Int):List Int:=B1 lo (hi-lo+1).toNat
theorem OW(lo:Int)(k:Nat):B1 lo (k+1)=B1 lo k++[lo+(k:Int)]:=by
 simp [B1,List.range_succ]
theorem Wb{lo n:Int}{k:Nat}:n ∈ B1 lo k↔lo<=n/\n<lo+k:=by
 simp only [B1,List.mem_map,List.mem_range];constructor
 ·rintro ⟨j,hj,rfl⟩;omega
 ·rintro ⟨h1,h2⟩;exact ⟨(n-lo).toNat,aA,aA⟩
theorem F0{lo hi n:Int}:n ∈ Ff lo hi↔lo<=n/\n<=hi:=by
 unfold Ff;rw [Wb];omega
theorem Pn{β:Type}{f:Int->List β}{lo hi:Int}{k:Nat}(h:¬lo+(k:Int)<=hi)(hk:(k:Int)<=hi-lo+1\/k=0):(B1 lo k).flatMap f=(Ff lo hi).flatMap f:=by
 unfold Ff;congr 2;omega
theorem Ic{β:Type}{f:Int->List β}{lo:Int}{k:Nat}:(B1 lo (k+1)).flatMap f=(B1 lo k).flatMap f++f (lo+k):=by
 rw [OW,List.flatMap_append];simp
def AV.setMove(p:AV)(i:Nat)(n:Int)(b:Bool):AV:=(p.setMany i n).setLie i b
theorem Oy(p:AV)(i:Nat)(n n':Int)(b b':Bool):(p.setMove i n b).setMove i n' b'=p.setMove i n' b':=by
 unfold AV.setMove AV.setMany AV.setLie;congr 1 <;> funext k <;> simp only [] <;> split <;> rfl
theorem H9(p:AV)(i:Nat)(n:Int)(b b':Bool):(p.setMove i n b).setLie i b'=p.setMove i n b':=by
 unfold AV.setMove AV.setMany AV.setLie;congr 1;funext k;simp only [];split <;> rfl
theorem ND(p:AV)(i:Nat)(n n':Int):(p.setFirst i n).setFirst i n'=p.setFirst i n':=by
 unfold AV.setFirst;congr 1;funext k;simp only [];split <;> rfl
theorem B0.zero:B0 AV.zero:=⟨λ_=>⟨Int.le_refl 0,(aC:(0:Int)<=99)⟩,λ_=>⟨Int.le_refl 0,(aC:(0:Int)<=99)⟩⟩
theorem B0.setFirst{p:AV}(h:B0 p){i:Nat}{n:Int}(hn:0<=n/\n<=99):B0 (p.setFirst i n):=
 ⟨λk=>by unfold AV.setFirst;simp only [];split;exact hn;exact h.1 k,h.2⟩
theorem B0.setMany{p:AV}(h:B0 p){i:Nat}{n:Int}(hn:0<=n/\n<=99):B0 (p.setMany i n):=
 ⟨h.1,λk=>by unfold AV.setMany;simp only [];split;exact hn;exact h.2 k⟩
theorem B0.setMove{p:AV}(h:B0 p){i:Nat}{n:Int}{b:Bool}(hn:0<=n/\n<=99):B0 (p.setMove i n b):=h.setMany hn
def Dd(ms:List AA)(i:Int):Bool:=decide ((0<=i/\i<=(ms.length:Int)-1)/\(ms.getD i.toNat AA.z).kind=0)
def Au(ag:AV->Bool)(ms:List AA)(most:Int):Nat->Nat->AV->List AV
 | 0,_,p=>if ag p then [p] else []
 | f+1,i,p=>(Ff (ms.getD i AA.z).low (ms.getD i AA.z).high).flatMap λn=>
   Au ag ms most f (i+1) (p.setMove i n false)++
    if Dd ms i && decide ((Aw (p.setMove i n false) 6:Int)<most) then Au ag ms most f (i+1) (p.setMove i n true) else []
def BK(ag:AV->Bool)(gs:List Good)(ms:List AA)(most:Int):Nat->Nat->AV->List AV
 | 0,_,p=>Au ag ms most ms.length 0 p
 | f+1,i,p=>(Ff (gs.getD i Good.z).low (gs.getD i Good.z).high).flatMap λn=>BK ag gs ms most f (i+1) (p.setFirst i n)
def AU(d:Int)(gs:List Good)(ms:List AA)(cs:List AF)(most:Int):List AV:=BK (BA d gs.length ms cs) gs ms most gs.length 0 AV.zero
def Bb(ag:AV->Bool)(ms:List AA)(most:Int)(f i:Nat)(p:AV)(n:Int):List AV:=
 Au ag ms most f (i+1) (p.setMove i n false)++
  if Dd ms i && decide ((Aw (p.setMove i n false) 6:Int)<most) then Au ag ms most f (i+1) (p.setMove i n true) else []
theorem Cq(ag:AV->Bool)(ms:List AA)(most:Int)(f i:Nat)(p:AV) :
  Au ag ms most (f+1) i p=(Ff (ms.getD i AA.z).low (ms.getD i AA.z).high).flatMap (Bb ag ms most f i p):=rfl
theorem DE(ag:AV->Bool)(gs:List Good)(ms:List AA)(most:Int)(f i:Nat)(p:AV) :
  BK ag gs ms most (f+1) i p=(Ff (gs.getD i Good.z).low (gs.getD i Good.z).high).flatMap (λn=>BK ag gs ms most f (i+1) (p.setFirst i n)):=rfl
def Bq(X:Nat->Prop)(h h':GH):Prop:=∀b p o,h b=some (p,o)->¬X b->∃o',h' b=some (p,o')/\(o'=o\/(L6 o=true/\L6 o'=true))
theorem Bq.refl(X:Nat->Prop)(h:GH):Bq X h h:=λ_ _ o x _=>⟨o,x,.inl rfl⟩
theorem GH.Le.keepX{h h':GH}(l:h.Le h')(X:Nat->Prop):Bq X h h':=λb p o x _=>l b p o x
theorem Bq.trans{X X1:Nat->Prop}{a b c:GH}(x:Bq X a b)(hX:∀r,X1 r->X r\/a r=none)(y:Bq X1 b c):Bq X a c:=λr p o hr hn=>by
 obtain ⟨o1,h1,h2⟩:=x r p o hr hn;obtain ⟨o2,h3,h4⟩:=y r p o1 h1 λq=>(hX r q).elim hn λe=>by rw [e] at hr;cases hr
 refine ⟨o2,h3,?_⟩;rcases h2 with rfl | h2
 ·exact h4
 ·rcases h4 with rfl | h4
  ·exact .inr h2
  ·exact .inr ⟨h2.1,h4.2⟩
theorem Bq.box{X:Nat->Prop}{h h':GH}(x:Bq X h h'){b:Nat}{p:Bool}{o:Obj}(hb:h b=some (p,o))(hX:¬X b)(ho:L6 o=false):h' b=some (p,o):=by
 obtain ⟨o',h1,rfl | ⟨h2,_⟩⟩:=x b p o hb hX
 ·exact h1
 ·rw [ho] at h2;cases h2
theorem Bq.store{X:Nat->Prop}{h h1 h2:GH}(x:Bq X h h1){r:Nat}(hr:h r=none)(ho:∀b,b≠r->h2 b=h1 b):Bq X h h2:=λb p o hb hn=>by
 rw [ho b λe=>by subst e;rw [hr] at hb;cases hb];exact x b p o hb hn
structure Jo{U:Type}(hB:GH)(I:List U->(Nat->Prop)->GH->Prop):Prop where
 dom:∀pre X h b,I pre X h->X b->∃p o,h b=some (p,o)/\L6 o=false
 stable:∀pre X h h',I pre X h->(∀b,X b->h' b=h b)->hB.Le h'->I pre X h'
theorem Jo.le{U:Type}{hB:GH}{I:List U->(Nat->Prop)->GH->Prop}(P:Jo hB I){pre:List U}{X:Nat->Prop}{h h':GH}(x:I pre X h)(l:h.Le h')(lB:hB.Le h'):I pre X h':=
 P.stable pre X h h' x (λb hb=>by
  obtain ⟨p,o,h1,h2⟩:=P.dom pre X h b x hb;rw [l.keep h1 h2,h1]) lB
theorem Jo.store{U:Type}{hB:GH}{I:List U->(Nat->Prop)->GH->Prop}(P:Jo hB I){pre:List U}{X:Nat->Prop}{h h':GH}(x:I pre X h){r:Nat}(hr:¬X r)(ho:∀b,b≠r->h' b=h b)(lB:hB.Le h'):I pre X h':=
 P.stable pre X h h' x (λb hb=>ho b λe=>hr (e▸hb)) lB
theorem Jo.off{U:Type}{hB:GH}{I:List U->(Nat->Prop)->GH->Prop}(P:Jo hB I){pre:List U}{X:Nat->Prop}{h:GH}(x:I pre X h){r:Nat}(hr:h r=none):¬X r:=λq=>by
 obtain ⟨p,o,h1,_⟩:=P.dom pre X h r x q;rw [hr] at h1;cases h1
theorem RI{X X1:Nat->Prop}{h:GH}(hX:∀r,X1 r->X r\/h r=none){r:Nat}{o:Bool×Obj}(hr:h r=some o)(n:¬X r):¬X1 r:=λq=>(hX r q).elim n λe=>by rw [e] at hr;cases hr
def IX{U:Type}(hB:GH)(I:List U->(Nat->Prop)->GH->Prop)(S:GH->Prop)(pre:List U)(X:Nat->Prop)(h:GH)(l:List U)(v:Value)(h':GH):Prop:=
 ∃ok X',v=.bool ok/\(∀b,X' b->X b\/h b=none)/\Bq X h h'/\hB.Le h'/\(ok=true->I (pre++l) X' h')/\(ok=false->S h')
structure MG{U:Type}{P:Program}(W:Wk P)(hB:GH)(yv:Value)(enc:U->Array Value)(I:List U->(Nat->Prop)->GH->Prop)(S:GH->Prop)(all:List U):Prop where
 prom:Jo hB I
 one:yv.cells=#[yv]
 call:∀pre p post X h,all=pre++p ::post->I pre X h->hB.Le h->Cr W yv #[.agg (enc p)] h (IX hB I S pre X h [p])
structure IU{U:Type}(hB:GH)(I:List U->(Nat->Prop)->GH->Prop)(X0:Nat->Prop)(h:GH)(pre:List U)(X:Nat->Prop)(hc:GH):Prop where
 inv:I pre X hc
 sub:∀b,X b->X0 b\/h b=none
 keep:Bq X0 h hc
 base:hB.Le hc
section
variable {U:Type} {hB:GH} {I:List U->(Nat->Prop)->GH->Prop} {S:GH->Prop} {X0 X X1:Nat->Prop} {h hc h':GH} {pre l:List U}
theorem IU.start(x:I pre X h)(lB:hB.Le h):IU hB I X h pre X h:=⟨x,λ_ q=>.inl q,Bq.refl _ _,lB⟩
theorem IU.le(P:Jo hB I)(y:IU hB I X0 h pre X hc)(l:hc.Le h'):IU hB I X0 h pre X h':=
 ⟨P.le y.inv l (y.base.trans l),y.sub,y.keep.trans (λ_ q=>.inl q) (l.keepX X0),y.base.trans l⟩
theorem IU.store(P:Jo hB I)(y:IU hB I X0 h pre X hc){r:Nat}(hr:h r=none)(rB:hB r=none)(hn:¬X r)(ho:∀b,b≠r->h' b=hc b):IU hB I X0 h pre X h':=
 ⟨P.store y.inv hn ho (y.base.upd rB ho),y.sub,y.keep.store hr ho,y.base.upd rB ho⟩
theorem subX(s:∀b,X b->X0 b\/h b=none)(k:Bq X0 h hc)(s':∀b,X1 b->X b\/hc b=none):∀b,X1 b->X0 b\/h b=none:=λb q=>by
 rcases s' b q with q | q
 ·exact s b q
 ·by_cases q0:X0 b
  ·exact .inl q0
  ·refine .inr ?_;cases hb:h b with
   | none=>rfl
   | some x=>
    obtain ⟨o',h1,_⟩:=k b x.1 x.2 hb q0;rw [h1] at q;cases q
theorem IU.call(y:IU hB I X0 h pre X hc){v:Value}(r:IX hB I S pre X hc l v h') :
  ∃ok X',v=.bool ok/\(∀b,X' b->X b\/hc b=none)/\Bq X hc h'/\(ok=true->IU hB I X0 h (pre++l) X' h')/\(ok=false->∀l',IX hB I S pre X0 h l' (.bool false) h'):=by
 obtain ⟨ok,X',hv,hs,hk,hl,h1,h2⟩:=r;have kk:Bq X0 h h':=y.keep.trans y.sub hk;have ss:=subX y.sub y.keep hs;exact ⟨ok,X',hv,hs,hk,λe=>⟨h1 e,ss,kk,hl⟩,λe l'=>⟨false,X',rfl,ss,kk,hl,(λx=>by cases x),λ_=>h2 e⟩⟩
theorem IU.done(y:IU hB I X0 h (pre++l) X hc):IX hB I S pre X0 h l (.bool true) hc:=⟨true,X,rfl,y.sub,y.keep,y.base,λ_=>y.inv,λx=>by cases x⟩
theorem IU.pass{U:Type}{hB:GH}{I:List U->(Nat->Prop)->GH->Prop}{S:GH->Prop}{X0 X:Nat->Prop}{h hc h':GH}{pre:List U}{l:List U}{v:Value}(y:IU hB I X0 h pre X hc)(r:IX hB I S pre X hc l v h'):IX hB I S pre X0 h l v h':=by
 obtain ⟨ok,X',hv,hs,hk,hl,h1,h2⟩:=r;exact ⟨ok,X',hv,subX y.sub y.keep hs,y.keep.trans y.sub hk,hl,h1,h2⟩
theorem IX.stopped{pre':List U}{v:Value}(hv:v=.bool false)(r:∀l',IX hB I S pre X0 h l' (.bool false) h'):IX hB I S pre' X0 h l v h':=by
 obtain ⟨ok,X',e,hs,hk,hl,_,h2⟩:=r [];cases e;exact ⟨false,X',hv,hs,hk,hl,(λx=>by cases x),h2⟩
end
def DF{U:Type}(all pre l:List U):Prop:=∃post,all=pre++l++post
section
variable {U:Type} {all pre a b:List U}
theorem DF.left(w:DF all pre (a++b)):DF all pre a:=by
 obtain ⟨post,h⟩:=w;exact ⟨b++post,by rw [h];simp⟩
theorem DF.right(w:DF all pre (a++b)):DF all (pre++a) b:=by
 obtain ⟨post,h⟩:=w;exact ⟨post,by rw [h];simp⟩
theorem DF.one{p:U}(w:DF all pre [p]):∃post,all=pre++p ::post:=by
 obtain ⟨post,h⟩:=w;exact ⟨post,by rw [h];simp⟩
theorem Wc(lo:Int)(i j:Nat):B1 lo (i+j)=B1 lo i++B1 (lo+i) j:=by
 unfold B1;rw [List.range_add,List.map_append,List.map_map];congr 1;apply List.map_congr_left;intro x _;simp only [Function.comp];omega
theorem DF.round{lo hi:Int}{k:Nat}{F:Int->List U}(w:DF all pre ((Ff lo hi).flatMap F))(hk:lo+(k:Int)<=hi):DF all (pre++(B1 lo k).flatMap F) (F (lo+k)):=by
 have e:Ff lo hi=B1 lo k++([lo+(k:Int)]++B1 (lo+((k+1:Nat):Int)) ((hi-lo+1).toNat-(k+1))):=by
  unfold Ff;rw [<-List.append_assoc,<-OW,<-Wc];congr 1;omega
 rw [e,List.flatMap_append,List.flatMap_append] at w;have w2:=w.right.left;simpa using w2
theorem DF.roundEnd{lo hi:Int}{k:Nat}{F:Int->List U}(h:¬lo+(k:Int)<=hi)(hk:(k:Int)<=hi-lo+1\/k=0):(Ff lo hi).flatMap F=(B1 lo k).flatMap F:=(Pn h hk).symm
end
section
variable {ag:AV->Bool} {gs:List Good} {ms:List AA} {mo:Int} {f i k:Nat} {p pc:AV} {all pre:List AV} {lo hi x:Int}
theorem Up{b1 b2:Bool}(hpc:∀n b,pc.setMove i n b=p.setMove i n b):∀n b,(((pc.setMany i x).setLie i b1).setLie i b2).setMove i n b=p.setMove i n b:=λn b=>by
 rw [<-hpc,show ((pc.setMany i x).setLie i b1)=pc.setMove i x b1 from rfl,H9,Oy]
theorem goods_pc(hpc:∀n,pc.setFirst i n=p.setFirst i n):∀n,(pc.setFirst i x).setFirst i n=p.setFirst i n:=λn=>by rw [<-hpc,ND]
def Uq(ms:List AA)(mo:Int)(i:Nat)(q:AV):Prop:=((0<=(i:Int)/\(i:Int)<=(ms.length:Int)-1)/\(ms.getD ((i:Int)).toNat AA.z).kind=0)/\((Aw q 6:Int)<mo)
instance (ms:List AA) (mo:Int) (i:Nat) (q:AV):Decidable (Uq ms mo i q):=inferInstanceAs (Decidable (_/\_))
theorem TN{q:AV}:(Dd ms i && decide ((Aw q 6:Int)<mo))=decide (Uq ms mo i q):=by
 unfold Dd Uq;rw [<-Bool.decide_and];exact decide_eq_decide.2 Iff.rfl
theorem Po{q:AV}{b:Bool}:(q.setLie i b).lies i=b:=by simp [AV.setLie]
theorem Ur(hpc:∀n b,pc.setMove i n b=p.setMove i n b)(hC:(((pc.setMany i x).setLie i false).setLie i (decide (Uq ms mo i ((pc.setMany i x).setLie i false)))).lies i=true)(hx:x=lo+(k:Int)) :
  pre++(B1 lo (k+1)).flatMap (Bb ag ms mo f i p)=((pre++(B1 lo k).flatMap (Bb ag ms mo f i p))++Au ag ms mo f (i+1) ((pc.setMany i x).setLie i false))++
   Au ag ms mo f (i+1) (((pc.setMany i x).setLie i false).setLie i (decide (Uq ms mo i ((pc.setMany i x).setLie i false)))):=by
 rw [Po] at hC;rw [hC,show ((pc.setMany i x).setLie i false)=pc.setMove i x false from rfl,H9,hpc,hpc,Ic,<-hx];rw [show ((pc.setMany i x).setLie i false)=pc.setMove i x false from rfl,hpc] at hC;unfold Bb;rw [TN,hC];simp
theorem Us(hpc:∀n b,pc.setMove i n b=p.setMove i n b)(hC:(((pc.setMany i x).setLie i false).setLie i (decide (Uq ms mo i ((pc.setMany i x).setLie i false)))).lies i=false)(hx:x=lo+(k:Int)) :
  pre++(B1 lo (k+1)).flatMap (Bb ag ms mo f i p)=(pre++(B1 lo k).flatMap (Bb ag ms mo f i p))++Au ag ms mo f (i+1) ((pc.setMany i x).setLie i false):=by
 rw [Po] at hC;rw [show ((pc.setMany i x).setLie i false)=pc.setMove i x false from rfl,hpc,Ic,<-hx];rw [show ((pc.setMany i x).setLie i false)=pc.setMove i x false from rfl,hpc] at hC;unfold Bb;rw [TN,hC];simp
theorem Wd(hpc:∀n,pc.setFirst i n=p.setFirst i n)(hx:x=lo+(k:Int)) :
  pre++(B1 lo (k+1)).flatMap (λn=>BK ag gs ms mo f (i+1) (p.setFirst i n))=(pre++(B1 lo k).flatMap (λn=>BK ag gs ms mo f (i+1) (p.setFirst i n)))++BK ag gs ms mo f (i+1) (pc.setFirst i x):=by
 rw [hpc,Ic,<-hx];simp
theorem RJ(hpc:∀n b,pc.setMove i n b=p.setMove i n b)(hw:DF all pre (Au ag ms mo (f+1) i p))(hx:x=(ms.getD i AA.z).low+(k:Int))(hk:x<=(ms.getD i AA.z).high) :
  DF all (pre++(B1 (ms.getD i AA.z).low k).flatMap (Bb ag ms mo f i p)) (Au ag ms mo f (i+1) ((pc.setMany i x).setLie i false)):=by
 rw [Cq] at hw;have w:=hw.round (k:=k) aA;rw [<-hx] at w;unfold Bb at w;rw [<-hpc] at w;exact w.left
theorem RK(hpc:∀n b,pc.setMove i n b=p.setMove i n b)(hw:DF all pre (Au ag ms mo (f+1) i p))(hC:(((pc.setMany i x).setLie i false).setLie i (decide (Uq ms mo i ((pc.setMany i x).setLie i false)))).lies i=true)(hx:x=(ms.getD i AA.z).low+(k:Int))(hk:x<=(ms.getD i AA.z).high) :
  DF all ((pre++(B1 (ms.getD i AA.z).low k).flatMap (Bb ag ms mo f i p))++Au ag ms mo f (i+1) ((pc.setMany i x).setLie i false)) (Au ag ms mo f (i+1) (((pc.setMany i x).setLie i false).setLie i (decide (Uq ms mo i ((pc.setMany i x).setLie i false))))):=by
 rw [Po] at hC;rw [hC,show ((pc.setMany i x).setLie i false)=pc.setMove i x false from rfl,H9,hpc,hpc];rw [show ((pc.setMany i x).setLie i false)=pc.setMove i x false from rfl,hpc] at hC;rw [Cq] at hw;have w:=hw.round (k:=k) aA;rw [<-hx] at w;have w2:DF all (pre++(B1 (ms.getD i AA.z).low k).flatMap (Bb ag ms mo f i p)) (Au ag ms mo f (i+1) (p.setMove i x false)++Au ag ms mo f (i+1) (p.setMove i x true)):=by
  have e:Bb ag ms mo f i p x=Au ag ms mo f (i+1) (p.setMove i x false)++Au ag ms mo f (i+1) (p.setMove i x true):=by
   unfold Bb;rw [TN,hC,if_pos rfl]
  rw [<-e];exact w
 exact w2.right
theorem TO(hpc:∀n,pc.setFirst i n=p.setFirst i n)(hw:DF all pre (BK ag gs ms mo (f+1) i p))(hx:x=(gs.getD i Good.z).low+(k:Int))(hk:x<=(gs.getD i Good.z).high) :
  DF all (pre++(B1 (gs.getD i Good.z).low k).flatMap (λn=>BK ag gs ms mo f (i+1) (p.setFirst i n))) (BK ag gs ms mo f (i+1) (pc.setFirst i x)):=by
 rw [DE] at hw;have w:=hw.round (k:=k) aA;rw [<-hx] at w;rw [hpc];exact w
end
def LF(l:List Int)(k:Nat):Int:=if k=0 then-1 else l.getD (k-1) 0
def NE(ms:List AA)(l:List Int)(k:Nat):Int:=if¬Dd ms (l.getD k 0)=true then 6 else if l.getD k 0<=LF l k then 7 else 0
def Fg(p:AV)(l:List Int)(k:Nat):AV:=(l.take k).foldl (λp i=>p.setLie i.toNat true) p
theorem Ut{p:AV}{l:List Int}{k:Nat}(hk:k<l.length):Fg p l (k+1)=(Fg p l k).setLie (l.getD k 0).toNat true:=by
 unfold Fg;rw [CK 0 hk,List.foldl_append];rfl
def BM(d m:Int)(gs:List Good)(ms:List AA)(cs:List AF)(f y l:List Int):Int:=
 if¬AJ d m gs ms cs=0 then AJ d m gs ms cs
 else if¬BF f gs.length=0 then BF f gs.length
 else if¬BF y ms.length=0 then BF y ms.length
 else EW (NE ms l) 0 l.length
def MH(f y l:List Int):AV:=Fg ((AV.zero.setFirsts f).setManys y) l l.length
theorem F1{f:Nat->Int}:∀{n i:Nat},EW f i n=0->∀j,i<=j->j<i+n->f j=0
 | 0,i,_,j,h1,h2=>aA
 | n+1,i,h,j,h1,h2=>by
  unfold EW at h;split at h
  ·rename_i e
   rcases Nat.eq_or_lt_of_le h1 with rfl | h3
   ·exact e
   ·exact F1 h j h3 aA
  ·rename_i e;exact absurd h e
structure An(d m:Int)(gs:List Good)(ms:List AA)(cs:List AF):Prop where
 days:1<=d/\d<=99
 most:0<=m/\m<=2
 glen:1<=gs.length/\gs.length<=3
 good:∀k,k<gs.length->Fu gs k=0
 mlen:ms.length<=6
 move:∀k,k<ms.length->Dz d gs ms k=0
 clen:cs.length<=4
 count:∀k,k<cs.length->E9 d gs cs k=0
theorem EQ{d m:Int}{gs:List Good}{ms:List AA}{cs:List AF}(h:AJ d m gs ms cs=0):An d m gs ms cs:=by
 have z:=λj hj=>F1 (f:=FZ d m gs ms cs) h j (Nat.zero_le _) (aA:j<0+4);have z0:Ey d m=0:=z 0 aC;have z1:Bp gs=0:=z 1 aC;have z2:Ba d gs ms=0:=z 2 aC;have z3:Ca d gs cs=0:=z 3 aC;unfold Ey at z0;unfold Bp at z1;unfold Ba at z2;unfold Ca at z3;split at z0 <;> first | (cases z0;done) | skip
 split at z1 <;> first | (cases z1;done) | skip
 split at z2 <;> first | (cases z2;done) | skip
 split at z3 <;> first | (cases z3;done) | skip
 exact ⟨aA,aA,aA,λk hk=>F1 z1 k (Nat.zero_le _) aA,aA,λk hk=>F1 z2 k (Nat.zero_le _) aA,aA,λk hk=>F1 z3 k (Nat.zero_le _) aA⟩
section
variable {d m:Int} {gs:List Good} {ms:List AA} {cs:List AF}
theorem An.move'(b:An d m gs ms cs){k:Nat}(hk:k<ms.length):(0<=(ms.getD k AA.z).kind/\(ms.getD k AA.z).kind<=4)/\(0<=(ms.getD k AA.z).good/\(ms.getD k AA.z).good<=(gs.length:Int)-1)/\
  (1<=(ms.getD k AA.z).day/\(ms.getD k AA.z).day<=d)/\Ej ms k<=(ms.getD k AA.z).day/\Ha (ms.getD k AA.z).low (ms.getD k AA.z).high:=by
 have z:=b.move k hk;unfold Dz at z;split at z <;> first | (cases z;done) | skip
 split at z <;> first | (cases z;done) | skip
 split at z <;> first | (cases z;done) | skip
 split at z <;> first | (cases z;done) | skip
 split at z <;> first | (cases z;done) | skip
 rename_i a1 a2 a3 a4 a5
 exact ⟨Decidable.not_not.1 a1,Decidable.not_not.1 a2,Decidable.not_not.1 a3,aA,Decidable.not_not.1 a5⟩
theorem B8{U:Type}{l:List U}{k:Nat}{z:U}(h:l.length<=k):l.getD k z=z:=by
 simp [List.getD_eq_getElem?_getD,List.getElem?_eq_none h]
theorem An.kind(b:An d m gs ms cs):∀k,0<=(ms.getD k AA.z).kind/\(ms.getD k AA.z).kind<=4:=λk=>by
 by_cases h:k<ms.length
 ·exact (b.move' h).1
 ·rw [B8 aA];decide
theorem An.few(b:An d m gs ms cs):∀k,0<=(ms.getD k AA.z).low/\(ms.getD k AA.z).low<=(ms.getD k AA.z).high/\(ms.getD k AA.z).high<=99/\(ms.getD k AA.z).high-(ms.getD k AA.z).low<3:=λk=>by
 by_cases h:k<ms.length
 ·have:=(b.move' h).2.2.2.2;unfold Ha at this;omega
 ·rw [B8 aA];decide
theorem An.good'(b:An d m gs ms cs){k:Nat}(hk:k<gs.length):(0<=(gs.getD k Good.z).cost/\(gs.getD k Good.z).cost<=999)/\(1<=(gs.getD k Good.z).pack/\(gs.getD k Good.z).pack<=20)/\Ha (gs.getD k Good.z).low (gs.getD k Good.z).high:=by
 have z:=b.good k hk;unfold Fu at z;split at z <;> first | (cases z;done) | skip
 split at z <;> first | (cases z;done) | skip
 split at z <;> first | (cases z;done) | skip
 rename_i a1 a2 a3
 exact ⟨aA,aA,Decidable.byContradiction λq=>a3 (.inr q)⟩
theorem An.gfew(b:An d m gs ms cs):∀k,0<=(gs.getD k Good.z).low/\(gs.getD k Good.z).low<=(gs.getD k Good.z).high/\(gs.getD k Good.z).high<=99/\(gs.getD k Good.z).high-(gs.getD k Good.z).low<3:=λk=>by
 by_cases h:k<gs.length
 ·have:=(b.good' h).2.2;unfold Ha at this;omega
 ·rw [B8 aA];decide
theorem An.cgood(b:An d m gs ms cs):∀x ∈ cs,0<=x.good/\x.good<3:=λx hx=>by
 obtain ⟨k,hk,rfl⟩:=List.getElem_of_mem hx;have z:=b.count k hk;unfold E9 at z;rw [BY AF.z hk] at z
 have:=b.glen
 split at z <;> first | (cases z;done) | skip
 omega
theorem HE{l:List Int}{n:Int}(h:BF l n=0):(l.length:Int)=n/\∀k,0<=l.getD k 0/\l.getD k 0<=99:=by
 unfold BF at h;split at h <;> first | (cases h;done) | skip
 split at h <;> first | (cases h;done) | skip
 rename_i a1 a2
 refine ⟨Decidable.not_not.1 a1,λk=>?_⟩;by_cases hk:k<l.length
 ·refine Decidable.byContradiction λq=>a2 ?_;rw [List.any_eq_true];exact ⟨l.getD k 0,CV hk,decide_eq_true q⟩
 ·rw [B8 aA];decide
variable {f y l:List Int}
def Be(d m:Int)(gs:List Good)(ms:List AA)(cs:List AF)(f y l:List Int):AV:=if BM d m gs ms cs f y l=0 then MH f y l else AV.zero
theorem TP(h:¬AJ d m gs ms cs=0):BM d m gs ms cs f y l=AJ d m gs ms cs:=by unfold BM;rw [if_pos h]
theorem TQ(h:¬¬AJ d m gs ms cs=0)(h2:¬BF f gs.length=0):BM d m gs ms cs f y l=BF f gs.length:=by unfold BM;rw [if_neg h,if_pos h2]
theorem TR(h:¬¬AJ d m gs ms cs=0)(h2:¬¬BF f gs.length=0)(h3:¬BF y ms.length=0):BM d m gs ms cs f y l=BF y ms.length:=by unfold BM;rw [if_neg h,if_neg h2,if_pos h3]
theorem Jp(h:¬¬AJ d m gs ms cs=0)(h2:¬¬BF f gs.length=0)(h3:¬¬BF y ms.length=0){c:Int}(h4:EW (NE ms l) 0 l.length=c):BM d m gs ms cs f y l=c:=by unfold BM;rw [if_neg h,if_neg h2,if_neg h3,h4]
theorem IA{c:Int}(e:BM d m gs ms cs f y l=c)(hc:¬c=0):(.tuple #[.agg (Av AV.zero),.int .i64 c]:Value)=.tuple #[.agg (Av (Be d m gs ms cs f y l)),.int .i64 (BM d m gs ms cs f y l)]:=by
 unfold Be;rw [e,if_neg hc]
theorem Uu(e:BM d m gs ms cs f y l=0){k:Nat}(hk:¬(k:Int)<l.length)(hk':k<=l.length):(.tuple #[.agg (Av (Fg ((AV.zero.setFirsts f).setManys y) l k)),.int .i64 0]:Value)=.tuple #[.agg (Av (Be d m gs ms cs f y l)),.int .i64 (BM d m gs ms cs f y l)]:=by
 unfold Be MH;rw [e,if_pos rfl,show k=l.length by omega]
theorem lieAt_6{k:Nat}(h:¬((0<=l.getD k 0/\l.getD k 0<=(ms.length:Int)-1)/\(ms.getD (l.getD k 0).toNat AA.z).kind=0)):NE ms l k=6:=by
 unfold NE Dd;rw [if_pos (by simpa using h)]
theorem lieAt_7{k:Nat}(h:¬¬((0<=l.getD k 0/\l.getD k 0<=(ms.length:Int)-1)/\(ms.getD (l.getD k 0).toNat AA.z).kind=0))(h2:l.getD k 0<=LF l k):NE ms l k=7:=by
 unfold NE Dd;rw [if_neg (by simpa using h),if_pos h2]
theorem lieAt_0{k:Nat}(h:¬¬((0<=l.getD k 0/\l.getD k 0<=(ms.length:Int)-1)/\(ms.getD (l.getD k 0).toNat AA.z).kind=0))(h2:¬l.getD k 0<=LF l k):NE ms l k=0:=by
 unfold NE Dd;rw [if_neg (by simpa using h),if_neg h2]
end
theorem Jq(p:AV):(Value.agg (Av p)).cells.size=15:=rfl
theorem Jr(p:AV):Value.fine (.agg (Av p))=true:=rfl
theorem LG(p:AV):0+15<=(Av p).size:=Nat.le_refl 15
theorem LH(p q:AV):Bz (Av p) 0 (Value.agg (Av q)).cells.toList=Av q:=by
 show Bz (Av p) 0 (Av q).toList=Av q;apply Array.toList_inj.1;rw [Ew _ _ _ (Nat.le_refl 15)];show []++(Av q).toList++[]=_;simp
theorem FH{β:Type}(f:Nat->β)(k:Nat):(List.range (k+1)).map f=(List.range k).map f++[f k]:=by
 rw [List.range_succ,List.map_append];rfl
section
variable {d m:Int} {gs:List Good} {ms:List AA} {cs:List AF} {f y l:List Int}
theorem B0.lies{p:AV}(h:B0 p)(l:List Int)(k:Nat):B0 (Fg p l k):=by
 unfold Fg;generalize l.take k=t
 induction t generalizing p with
 | nil=>exact h
 | cons x t ih=>exact ih (p:=p.setLie x.toNat true) h
theorem Zt(h:BM d m gs ms cs f y l=0):An d m gs ms cs/\B0 (Be d m gs ms cs f y l):=by
 have h0:=h;unfold BM at h;split at h <;> first | (rename_i q;exact absurd h q) | skip
 split at h <;> first | (rename_i q;exact absurd h q) | skip
 split at h <;> first | (rename_i q;exact absurd h q) | skip
 rename_i a1 a2 a3
 refine ⟨EQ (Decidable.not_not.1 a1),?_⟩;unfold Be;rw [if_pos h0];unfold MH;refine B0.lies ?_ _ _;have b2:=(HE (Decidable.not_not.1 a2)).2;have b3:=(HE (Decidable.not_not.1 a3)).2;refine ⟨λi=>?_,λi=>?_⟩
 ·show 0<=(if i<f.length then f.getD i 0 else 0)/\(if i<f.length then f.getD i 0 else 0)<=99;split
  ·exact b2 i
  ·decide
 ·show 0<=(if i<y.length then y.getD i 0 else 0)/\(if i<y.length then y.getD i 0 else 0)<=99;split
  ·exact b3 i
  ·decide
def IB(d m:Int)(gs:List Good)(ms:List AA)(cs:List AF)(f y l:List Int):List Int:=if BM d m gs ms cs f y l=0 then (List.range gs.length).map (λ(i:Nat)=>(AP ms (Be d m gs ms cs f y l) (i:Int) d).1) else []
def Js(d m:Int)(gs:List Good)(ms:List AA)(cs:List AF)(f y l:List Int):List Int:=if BM d m gs ms cs f y l=0 then (List.range gs.length).map (λ(i:Nat)=>(AP ms (Be d m gs ms cs f y l) (i:Int) d).2) else []
theorem TS(h:¬BM d m gs ms cs f y l=0):IB d m gs ms cs f y l=[]:=if_neg h
theorem Uv(h:¬BM d m gs ms cs f y l=0):Js d m gs ms cs f y l=[]:=if_neg h
theorem RL(h:¬¬BM d m gs ms cs f y l=0){k:Nat}(hk:k<=gs.length)(hk':¬(k:Int)<gs.length):IB d m gs ms cs f y l=(List.range k).map (λ(i:Nat)=>(AP ms (Be d m gs ms cs f y l) (i:Int) d).1):=by
 unfold IB;rw [if_pos (Decidable.not_not.1 h),show gs.length=k by omega]
theorem TT(h:¬¬BM d m gs ms cs f y l=0){k:Nat}(hk:k<=gs.length)(hk':¬(k:Int)<gs.length):Js d m gs ms cs f y l=(List.range k).map (λ(i:Nat)=>(AP ms (Be d m gs ms cs f y l) (i:Int) d).2):=by
 unfold Js;rw [if_pos (Decidable.not_not.1 h),show gs.length=k by omega]
end
theorem Pp{U β:Type}{f:U->List β}{c:Nat}:∀{l:List U},(∀x ∈ l,(f x).length<=c)->(l.flatMap f).length<=l.length*c
 | [],_=>aD
 | x ::l,h=>by
  rw [List.flatMap_cons,List.length_append,List.length_cons,Nat.succ_mul];have h1:=h x aD;have h2:=Pp (l:=l) λy hy=>h y (by simp [hy]);omega
theorem R0{lo hi:Int}(h:hi-lo<3):(Ff lo hi).length<=3:=by
 unfold Ff B1;rw [List.length_map,List.length_range];omega
theorem It{ag:AV->Bool}{ms:List AA}{mo:Int}(hf:∀k,(ms.getD k AA.z).high-(ms.getD k AA.z).low<3):∀f i p,(Au ag ms mo f i p).length<=6 ^ f
 | 0,_,p=>by unfold Au;split <;> simp
 | f+1,i,p=>by
  rw [Cq];have h1:=Pp (f:=Bb ag ms mo f i p) (c:=2*6 ^ f) (l:=Ff (ms.getD i AA.z).low (ms.getD i AA.z).high) λn _=>by
   unfold Bb;rw [List.length_append];have a:=It (ag:=ag) (mo:=mo) hf f (i+1) (p.setMove i n false);have b:=It (ag:=ag) (mo:=mo) hf f (i+1) (p.setMove i n true);split
   ·omega
   ·simp only [List.length_nil];omega
  have h2:=Nat.mul_le_mul_right (2*6 ^ f) (R0 (hf i));rw [Nat.pow_succ];omega
theorem Lk{ag:AV->Bool}{gs:List Good}{ms:List AA}{mo:Int}(hg:∀k,(gs.getD k Good.z).high-(gs.getD k Good.z).low<3)(hf:∀k,(ms.getD k AA.z).high-(ms.getD k AA.z).low<3) :
  ∀f i p,(BK ag gs ms mo f i p).length<=3 ^ f*6 ^ ms.length
 | 0,_,p=>by unfold BK;have:=It (ag:=ag) (mo:=mo) hf ms.length 0 p;omega
 | f+1,i,p=>by
  rw [DE];have h1:=Pp (f:=λn=>BK ag gs ms mo f (i+1) (p.setFirst i n)) (c:=3 ^ f*6 ^ ms.length) (l:=Ff (gs.getD i Good.z).low (gs.getD i Good.z).high) λn _=>Lk hg hf f (i+1) _;have h2:=Nat.mul_le_mul_right (3 ^ f*6 ^ ms.length) (R0 (hg i));rw [Nat.pow_succ,Nat.mul_comm (3 ^ f) 3,Nat.mul_assoc];omega
theorem E4{d m:Int}{gs:List Good}{ms:List AA}{cs:List AF}(b:An d m gs ms cs)(mo:Int):(AU d gs ms cs mo).length<=2000000:=by
 unfold AU;have h:=Lk (ag:=BA d gs.length ms cs) (mo:=mo) (λk=>(b.gfew k).2.2.2) (λk=>(b.few k).2.2.2) gs.length 0 AV.zero;have h1:3 ^ gs.length<=3 ^ 3:=Nat.pow_le_pow_right aC b.glen.2;have h2:6 ^ ms.length<=6 ^ 6:=Nat.pow_le_pow_right aC b.mlen;have h3:=Nat.mul_le_mul h1 h2
 have:3 ^ 3*6 ^ 6<=2000000:=aC
 omega
theorem pre_len{U:Type}{all pre post:List U}{p:U}(h:all=pre++p ::post){n:Nat}(hn:all.length<=n):pre.length+1<=n:=by
 rw [h,List.length_append,List.length_cons] at hn;omega
theorem AE.one{U:Type}{h:GH}{v:Value}{n:Nat}{enc:U->Array Value}{xs:List U}(x:AE h v n enc xs):v.cells=#[v]/\v.oneCell'=true:=by
 obtain ⟨a,cap,rfl,_⟩:=x;exact ⟨rfl,rfl⟩
theorem DN{v:Value}(h:v.cells=#[v]/\v.oneCell'=true):Value.fine v=true:=by unfold Value.fine;rw [h.1];simp [h.2]
theorem DO{v:Value}(h:v.cells=#[v]/\v.oneCell'=true):v.cells.size=1:=by rw [h.1];rfl
theorem EC{v:Value}(h:v.cells=#[v]/\v.oneCell'=true){c c':Array Value}{o:Nat}(e:Bz c o [v]=c'):Bz c o v.cells.toList=c':=by rw [h.1];exact e
end Go.Ns
namespace Go.Ns
open Go.Conc
section
variable {P:Program} {E:HB P} {O:Nat->Value} {ds:List Deferred} {U:Type}
def RoundEnd(hB:GH)(J:List U->(Nat->Prop)->GH->Prop)(Stop:Code->GH->Prop)(pre:List U)(Y:Nat->Prop)(h:GH)(l:Nat)(lo:Loop):Post:=λe _ _ h3=>
 h3 l=some (true,.loop { lo with state:=.busy })/\∃Y',(∀b,Y' b->Y b\/h b=none)/\Bq (λb=>Y b\/b=l) h h3/\hB.Le h3/\match e with
  | .normal=>J pre Y' h3
  | .exit id=>Stop (.exit id) h3
  | .ret=>Stop .ret h3
  | _=>False
def ZI(J:List U->(Nat->Prop)->GH->Prop)(l d:Nat)(lo:Loop)(pre:List U)(X:Nat->Prop)(h:GH):Prop:=
 ∃Y,J pre Y h/\(∀b,X b↔Y b\/b=l\/b=d)/\¬Y l/\¬Y d/\h l=some (true,.loop lo)/\h d=some (true,.deferred (some []))
def LoopS(Stop:Code->GH->Prop)(l d:Nat)(lo:Loop)(h:GH):Prop:=
 ∃c,Stop c h/\h l=some (true,.loop { lo with state:=.done,pending:=some c })/\h d=some (true,.deferred (some []))
def YEnd(hB:GH)(I:List U->(Nat->Prop)->GH->Prop)(Sp:GH->Prop)(all:List U)(X:Nat->Prop)(h h':GH):Prop:=
 ∃X',(∀b,X' b->X b\/h b=none)/\Bq X h h'/\hB.Le h'/\(I all X' h'\/Sp h')
theorem IX.final{hB:GH}{I:List U->(Nat->Prop)->GH->Prop}{Sp:GH->Prop}{all:List U}{X:Nat->Prop}{h h':GH}{v:Value}(r:IX hB I Sp [] X h all v h'):YEnd hB I Sp all X h h':=by
 obtain ⟨ok,X',hv,hs,hk,hl,h1,h2⟩:=r;cases ok with
 | true=>exact ⟨X',hs,hk,hl,.inl (h1 rfl)⟩
 | false=>exact ⟨X',hs,hk,hl,.inr (h2 rfl)⟩
theorem Pq{enc:U->Array Value}{all:List U}{hB hc:GH}{J:List U->(Nat->Prop)->GH->Prop}{Stop:Code->GH->Prop}{Y0:Nat->Prop}{par:Tmp}{f:Operand}{assign body:Code}{Q:Post}
  (hrd:E.rd=none) (hpar:Nat.blt par E.N=true) (hJ:Jo hB J) (hB0:hB.Le hc) (j0:J [] Y0 hc)
  (hS:∀c (h h':GH) l lo,Stop c h->h l=some (true,.loop lo)->(∀b,b≠l->h' b=h b)->Stop c h')
  (src:∀(yv:Value)(I:List U->(Nat->Prop)->GH->Prop)(Sp:GH->Prop)(X:Nat->Prop)(h:GH),MG E.wk hB yv enc I Sp all->hB.Le h->I [] X h->Cr E.wk (AQ O f) #[yv] h λ_ h'=>YEnd hB I Sp all X h h')
  (round:∀(l d:Nat)(lo:Loop)(pre:List U)(p:U)(post:List U)(Y:Nat->Prop)(h:GH),all=pre++p ::post->J pre Y h->hB.Le h->hB l=none->¬Y l->h l=some (true,.loop lo)->
   Tr ⟨E.wk,E.fn,some l,E.N⟩ assign (upd O par (.agg (enc p))) [] h λe σ' ds' h1=>e=.normal/\h1 l=some (true,.loop lo)/\∀h2,h2 l=some (true,.loop { lo with state:=.busy })->(∀b,b≠l->h2 b=h1 b)->
    Tr ⟨E.wk,E.fn,some l,E.N⟩ body σ' ds' h2 (RoundEnd hB J Stop (pre++[p]) Y h l lo))
  (fin:∀(d l:Nat)(h':GH),hB.Le h'->hB d=none->hB l=none->hc d=none->h' d=some (true,.deferred (some []))->
   (∀Y,J all Y h'->(∀b,Y b->b≠d)->Q .normal O ({ target:=.collected d,args:=#[] } ::ds) h')/\
   (∀c,Stop c h'->match c with
    | .exit id=>Q (.exit id) O ({ target:=.collected d,args:=#[] } ::ds) h'
    | .ret=>Q .ret O ({ target:=.collected d,args:=#[] } ::ds) h'
    | _=>False)):Tr E (.rangeFunc f #[par] assign body) O ds hc Q:=by
 refine TA hrd λt d l hs hd hl hne=>?_;have hl':hB l=none:=hB0.nothing hl;have hd':hB d=none:=hB0.nothing hd;let lo:Loop:={ state:=.ready,pending:=none,fn:=E.fn,tmps:=t,params:=#[par],assign,body,defers:=d };have nYl:¬Y0 l:=hJ.off j0 hl;have nYd:¬Y0 d:=hJ.off j0 hd;have hL1:((hc.set d true (.deferred (some []))).set l true (.loop lo)) l=some (true,.loop lo):=GH.set_same _ _ _ _;have hL2:((hc.set d true (.deferred (some []))).set l true (.loop lo)) d=some (true,.deferred (some [])):=by rw [GH.set_ne _ _ _ (Ne.symm hne)];exact GH.set_same _ _ _ _
 have hL3:∀b,b≠l->b≠d->((hc.set d true (.deferred (some []))).set l true (.loop lo)) b=hc b:=λb h1 h2=>by rw [GH.set_ne _ _ _ h1,GH.set_ne _ _ _ h2]
 have hLB:hB.Le ((hc.set d true (.deferred (some []))).set l true (.loop lo)):=(hB0.trans (GH.Le.new hd _ _)).trans (GH.Le.new (by rw [GH.set_ne _ _ _ hne];exact hl) _ _);have hI0:ZI J l d lo [] (λb=>Y0 b\/b=l\/b=d) ((hc.set d true (.deferred (some []))).set l true (.loop lo)):=by
  refine ⟨Y0,hJ.stable _ _ hc _ j0 (λb hb=>hL3 b (λe=>nYl (e▸hb)) (λe=>nYd (e▸hb))) hLB,λb=>Iff.rfl,nYl,nYd,hL1,hL2⟩
 have prom:Jo hB (ZI J l d lo):=by
  refine ⟨?_,?_⟩
  ·rintro pre X h b ⟨Y,j,hX,_,_,h1,h2⟩ hb;rcases (hX b).1 hb with h3 | rfl | rfl
   ·exact hJ.dom _ _ _ _ j h3
   ·exact ⟨_,_,h1,rfl⟩
   ·exact ⟨_,_,h2,rfl⟩
  ·rintro pre X h h' ⟨Y,j,hX,n1,n2,h1,h2⟩ same lB;refine ⟨Y,hJ.stable _ _ h h' j (λb hb=>same b ((hX b).2 (.inl hb))) lB,hX,n1,n2,?_,?_⟩
   ·rw [same l ((hX l).2 (.inr (.inl rfl)))];exact h1
   ·rw [same d ((hX d).2 (.inr (.inr rfl)))];exact h2
 have yk:MG E.wk hB (.func (.yield l) #[] #[]) enc (ZI J l d lo) (LoopS Stop l d lo) all:=by
  refine ⟨prom,rfl,?_⟩;rintro pre p post X h hall ⟨Y,j,hX,n1,n2,h1,h2⟩ lB;refine WX h1 rfl ?_;have ef:(lo.params.zip #[Value.agg (enc p)]).foldl (λtmps x=>tmps.setIfInBounds x.1 x.2) lo.tmps=t.setIfInBounds par (.agg (enc p)):=by simp [lo]
  rw [ef];show CH E.wk l E.fn (t.setIfInBounds par (.agg (enc p))) assign body h _;have hs':=hs.put hpar (.agg (enc p));refine Ue (N:=E.N) hs'.1 ?_;have e0:(λi=>(t.setIfInBounds par (.agg (enc p))).getD i undef)=upd O par (.agg (enc p)):=funext hs'.2;rw [e0];refine O1 ?_ (round l d lo pre p post Y h hall j lB hl' n1 h1);rintro e σ' ds' ha ⟨rfl,ha1,hb⟩;refine ⟨rfl,lo,ha1,rfl,?_⟩;refine O1 ?_ (hb _ (GH.set_same _ _ _ _) λb hb=>GH.set_ne _ _ _ hb);rintro e σ2 ds2 h3 ⟨g1,Y',g2,g3,g4,g5⟩;have hd3:h3 d=some (true,.deferred (some [])):=g3.box h2 (λq=>q.elim n2 (λe=>hne e.symm)) rfl;have nl:¬Y' l:=λq=>(g2 l q).elim n1 λe=>by rw [h1] at e;cases e
  have nd:¬Y' d:=λq=>(g2 d q).elim n2 λe=>by rw [h2] at e;cases e
  have key:∀(lo2:Loop)(ok:Bool),(if ok then J (pre++[p]) Y' (h3.set l true (.loop lo2))/\lo2=lo else LoopS Stop l d lo (h3.set l true (.loop lo2)))->IX hB (ZI J l d lo) (LoopS Stop l d lo) pre X h [p] (.bool ok) (h3.set l true (.loop lo2)):=by
   intro lo2 ok hok;refine ⟨ok,λb=>Y' b\/b=l\/b=d,rfl,?_,?_,?_,?_,?_⟩
   ·rintro b (hb | rfl | rfl)
    ·exact (g2 b hb).imp (λq=>(hX b).2 (.inl q)) id
    ·exact .inl ((hX _).2 (.inr (.inl rfl)))
    ·exact .inl ((hX _).2 (.inr (.inr rfl)))
   ·intro b q o hb hn;have nb:b≠l:=λe=>hn ((hX b).2 (.inr (.inl e)));rw [GH.set_ne _ _ _ nb];exact g3 b q o hb λq=>q.elim (λz=>hn ((hX b).2 (.inl z))) nb
   ·exact g4.upd hl' λb hb=>GH.set_ne _ _ _ hb
   ·rintro rfl;simp only [if_true] at hok;obtain ⟨hj,rfl⟩:=hok;exact ⟨Y',hj,λb=>Iff.rfl,nl,nd,GH.set_same _ _ _ _,by rw [GH.set_ne _ _ _ (Ne.symm hne)];exact hd3⟩
   ·rintro rfl;simpa using hok
  have js:∀(lo2:Loop),J (pre++[p]) Y' h3->J (pre++[p]) Y' (h3.set l true (.loop lo2)):=λlo2 hj=>hJ.store hj nl (λb hb=>GH.set_ne _ _ _ hb) (g4.upd hl' λb hb=>GH.set_ne _ _ _ hb);have ss:∀c (lo2:Loop),Stop c h3->Stop c (h3.set l true (.loop lo2)):=λc lo2 hc=>hS c h3 _ l _ hc g1 λb hb=>GH.set_ne _ _ _ hb;refine ⟨_,g1,?_⟩;cases e with
  | normal=>exact key _ true (by simp only [if_true];exact ⟨js _ g5,rfl⟩)
  | exit id=>exact key _ false (by simp only [Bool.false_eq_true,if_false];exact ⟨_,ss _ _ g5,GH.set_same _ _ _ _,by rw [GH.set_ne _ _ _ (Ne.symm hne)];exact hd3⟩)
  | ret=>exact key _ false (by simp only [Bool.false_eq_true,if_false];exact ⟨_,ss _ _ g5,GH.set_same _ _ _ _,by rw [GH.set_ne _ _ _ (Ne.symm hne)];exact hd3⟩)
  | goto _=>exact g5.elim
  | panic _=>exact g5.elim
  | outgrown=>exact g5.elim
 refine (src _ _ _ _ _ yk hLB hI0).mono ?_;rintro v h' ⟨X',hs',hk,hl2,hor⟩;rcases hor with ⟨Y,j,hX,n1,n2,h1,h2⟩ | ⟨c,hst,h1,h2⟩
 ·refine ⟨lo,h1,rfl,?_⟩;show Q .normal O _ _;have hB':=hl2.upd hl' (λb hb=>GH.set_ne h' true (.loop { lo with state:=.exhausted }) hb);refine (fin d l _ hB' hd' hl' hd (by rw [GH.set_ne _ _ _ (Ne.symm hne)];exact h2)).1 Y (hJ.store j n1 (λb hb=>GH.set_ne _ _ _ hb) hB') λb hb e=>n2 (e▸hb)
 ·refine ⟨_,h1,rfl,?_⟩;have hB':=hl2.upd hl' (λb hb=>GH.set_ne h' true (.loop { { lo with state:=.done,pending:=some c } with state:=.exhausted }) hb)
  have:=(fin d l _ hB' hd' hl' hd (by rw [GH.set_ne _ _ _ (Ne.symm hne)];exact h2)).2 c (hS c h' _ l _ hst h1 λb hb=>GH.set_ne _ _ _ hb)
  cases c with
  | exit id=>exact this
  | ret=>exact this
  | _=>exact this.elim
structure RD(hB:GH)(X:Nat->Prop)(h hc:GH):Prop where
 keep:Bq X h hc
 base:hB.Le hc
 dom:∀b,X b->∃o,hc b=some o
section
variable {hB h hc h':GH} {X:Nat->Prop}
theorem GH.Le.someOf{h h':GH}(l:h.Le h'){b:Nat}(x:∃o,h b=some o):∃o,h' b=some o:=by
 obtain ⟨o,hb⟩:=x;obtain ⟨o',h1,_⟩:=l b o.1 o.2 hb;exact ⟨_,h1⟩
theorem RD.start(lB:hB.Le h)(d:∀b,X b->∃o,h b=some o):RD hB X h h:=⟨Bq.refl _ _,lB,d⟩
theorem RD.le(r:RD hB X h hc)(l:hc.Le h'):RD hB X h h':=⟨r.keep.trans (λ_ q=>.inl q) (l.keepX X),r.base.trans l,λb hb=>l.someOf (r.dom b hb)⟩
theorem RD.nothing(r:RD hB X h hc){q:Nat}(hq:hc q=none):h q=none:=by
 cases hx:h q with
 | none=>rfl
 | some x=>
  by_cases hX:X q
  ·obtain ⟨o,ho⟩:=r.dom q hX;rw [hq] at ho;cases ho
  ·obtain ⟨o',h1,_⟩:=r.keep q x.1 x.2 hx hX;rw [hq] at h1;cases h1
theorem RD.store(r:RD hB X h hc){q:Nat}(hq:X q\/h q=none)(rB:hB q=none)(ho:∀b,b≠q->h' b=hc b)(hn:∃o,h' q=some o):RD hB X h h':=
 ⟨λb p o hb hX=>by
   have nb:b≠q:=λe=>by
    subst e;rcases hq with hq | hq
    ·exact hX hq
    ·rw [hq] at hb;cases hb
   rw [ho b nb];exact r.keep b p o hb hX,
  r.base.upd rB ho,λb hb=>by
   by_cases e:b=q
   ·subst e;exact hn
   ·rw [ho b e];exact r.dom b hb⟩
theorem Bq.app{v v':Value}(k:Bq X h hc)(g:EV hc h' v v')(hv:∀b,B7 v=some b->X b):Bq X h h':=λb p o hb hX=>by
 obtain ⟨o',h1,h2⟩:=k b p o hb hX;exact ⟨o',g.1 b _ h1 λe=>hX (hv b e),h2⟩
theorem Bq.store'{q:Nat}(k:Bq X h hc)(hq:X q\/h q=none)(ho:∀b,b≠q->h' b=hc b):Bq X h h':=λb p o hb hX=>by
 have nb:b≠q:=λe=>by
  subst e;rcases hq with hq | hq
  ·exact hX hq
  ·rw [hq] at hb;cases hb
 rw [ho b nb];exact k b p o hb hX
end
def GH.del(h:GH)(r:Nat):GH:=λb=>if b=r then none else h b
theorem GH.del_le(h:GH)(r:Nat):(h.del r).Le h:=λb p o hb=>by
 unfold GH.del at hb;split at hb
 ·cases hb
 ·exact ⟨o,hb,.inl rfl⟩
theorem GH.del_none(h:GH)(r:Nat):h.del r r=none:=if_pos rfl
theorem GH.del_ne{h:GH}{r b:Nat}(e:b≠r):h.del r b=h b:=if_neg e
theorem GH.Le.del{h0 h:GH}(l:h0.Le h){r:Nat}(hr:h0 r=none):h0.Le (h.del r):=λb p o hb=>by
 rw [GH.del_ne (GH.ne_of hb hr)];exact l b p o hb
theorem AX.del{h:GH}{r b off n:Nat}{vs:Array Value}(x:AX h b off n vs)(e:b≠r):AX (h.del r) b off n vs:=x.same (GH.del_ne e)
theorem TU{W:Wk P}{x v:Value}{args:Array Value}{h:GH}{R:Value->GH->Prop}(e:x=v)(k:Cr W v args h R):Cr W x args h R:=e▸k
def JCol{U:Type}(hB:GH)(r:Nat)(T t:TypeId)(n:Nat)(enc:U->Array Value)(pre:List U)(Y:Nat->Prop)(h:GH):Prop:=
 ∃w,h r=some (true,.cells #[w] T (0,0))/\AI hB h w t n enc pre/\A8 w r/\hB r=none/\∀b,Y b↔b=r\/B7 w=some b
theorem AI.cellsAt{U:Type}{h0 h:GH}{v:Value}{t:TypeId}{n:Nat}{enc:U->Array Value}{xs:List U}(x:AI h0 h v t n enc xs):∀b,B7 v=some b->∃c,h b=some (true,.cells c t (0,0)):=by
 intro b hb;rcases x with ⟨rfl,_⟩ | ⟨b',cap,c,rfl,h1,h2,_⟩
 ·cases hb
 ·simp [B7] at hb;subst hb;exact ⟨_,h2⟩
theorem R1{U:Type}(hB:GH)(r:Nat)(T t:TypeId)(n:Nat)(enc:U->Array Value):Jo hB (JCol hB r T t n enc):=by
 refine ⟨?_,?_⟩
 ·rintro pre Y h b ⟨w,h1,h2,h3,h0,h4⟩ hb;rcases (h4 b).1 hb with rfl | h5
  ·exact ⟨_,_,h1,rfl⟩
  ·obtain ⟨c,hc⟩:=h2.cellsAt b h5;exact ⟨_,_,hc,rfl⟩
 ·rintro pre Y h h' ⟨w,h1,h2,h3,h0,h4⟩ same lB;refine ⟨w,by rw [same r ((h4 r).2 (.inl rfl))];exact h1,h2.keep λb o hb ho=>by rw [same b ((h4 b).2 (.inr hb))];exact ho,h3,h0,h4⟩
theorem We{U:Type}{hB h:GH}{r:Nat}{T t:TypeId}{n:Nat}{enc:U->Array Value}(x:h r=some (true,.cells #[.slice none 0 0] T (0,0)))(h0:hB r=none):JCol hB r T t n enc [] (λb=>b=r) h:=
 ⟨_,x,AI.nil _ _ _ _ _,A8.nil,h0,λ_=>⟨.inl,λq=>q.elim id λe=>by cases e⟩⟩
theorem jcol_end{U:Type}{hB h h' ha hb:GH}{r:Nat}{T t:TypeId}{n:Nat}{enc:U->Array Value}{pre:List U}{w w':Value}{Y:Nat->Prop}(hY:∀b,Y b↔b=r\/B7 w=some b)(g:EV ha hb w w')(hn:∀q,ha q=none->h q=none)
  (x:h' r=some (true,.cells #[w'] T (0,0))) (o:AI hB h' w' t n enc pre) (f:A8 w' r) (h0:hB r=none) :
  ∃Y',(∀b,Y' b->Y b\/h b=none)/\JCol hB r T t n enc pre Y' h':=by
 refine ⟨λb=>b=r\/B7 w'=some b,?_,w',x,o,f,h0,λ_=>Iff.rfl⟩;rintro b (rfl | hb)
 ·exact .inl ((hY _).2 (.inl rfl))
 ·rcases g.2 with e | ⟨⟨q,e1,e2⟩,_⟩
  ·exact .inl ((hY _).2 (.inr (by rw [<-e];exact hb)))
  ·rw [e1] at hb;cases hb;exact .inr (hn _ e2)
theorem Nv{fn:Func}{O:Nat->Value}{R:Value->GH->Prop}{d:Nat}{ds:List Deferred}{h:GH}(hd:h d=some (true,.deferred (some [])))(x:∀h',(∀b,b≠d->h' b=h b)->GZ P fn O R ds h') :
  GZ P fn O R ({ target:=.collected d,args:=#[] } ::ds) h:=⟨d,rfl,_,hd,rfl,x _ λb hb=>GH.set_ne _ _ _ hb⟩
end
end Go.Ns
namespace Go.Ns
open Go.Conc
section
variable {P:Program} {E:HB P}
abbrev IC:=(Nat->Value)->Value->GH->Prop
def Gf(Φ:List IC)(k:Nat):IC:=Φ.getD k λ_ _ _=>True
def Pr(ops:List Oper)(Φ:List IC)(O:Nat->Value)(h:GH)(j:Nat):Prop:=match ops[j]? with
 | some o=>DA ops o O->Gf Φ j O (I8 o O) h
 | none=>True
def Hh(ops:List Oper)(Φ:List IC)(O:Nat->Value)(h:GH):List Nat->Prop
 | []=>True
 | j ::l=>Pr ops Φ O h j/\Hh ops Φ O h l
theorem Hh.get{ops:List Oper}{Φ:List IC}{O:Nat->Value}{h:GH}:∀{l:List Nat},(∀j ∈ l,Pr ops Φ O h j)->Hh ops Φ O h l
 | [],_=>trivial
 | j ::l,x=>⟨x j aD,Hh.get λi hi=>x i (by simp [hi])⟩
def TV(l:List Oper)(n:Nat)(cls:List (List Nat))(Φ:List IC):Prop:=
 ∀k i oi d,k<n->i<n->i≠k->i ∉ cls.getD k []->l[i]? =some oi->oi.dst=some d->∀O u v h,Gf Φ k O v h->Gf Φ k (upd O d u) v h
def St(R:GH->GH->Prop)(Pre:Nat->GH->Prop)(Φ:List IC)(cl:List Nat)(k:Nat)(h h':GH):Prop:=R h h'/\(∀j,j≠k->∀O v,Gf Φ j O v h->Gf Φ j O v h')/\∀j,j≠k->j ∉ cl->Pre j h->Pre j h'
def ZJ(R:GH->GH->Prop)(Pre:Nat->GH->Prop)(E:HB P)(ops:List Oper)(n:Nat)(Φ:List IC)(O:Nat->Value)(ds:List Deferred)(h:GH)(k:Nat)(o:Oper)(cl:List Nat):Prop:=
 ∀σ' h',R h h'->(∀t,(Dq ops n).contains t=false->σ' t=O t)->Hh ops Φ σ' h' cl->DA ops o σ'->Pre k h'->
  Bg E o σ' ds h' λσ'' ds'' h''=>ds''=ds/\St R Pre Φ cl k h' h''/\∃v,σ''=putS σ' o.dst v/\Gf Φ k σ'' v h''/\(o.dst=none->v=undef)
def Iu(R:GH->GH->Prop)(Pre:Nat->GH->Prop)(E:HB P)(ops:List Oper)(n:Nat)(Φ:List IC)(O:Nat->Value)(ds:List Deferred)(h:GH)(Q:Post):Nat->Nat->List Oper->List (List Nat)->Prop
 | 0,k,rest,_=>∀σ' h',R h h'->(∀t,(Dq ops n).contains t=false->σ' t=O t)->Hh ops Φ σ' h' (List.range k)->Dp E ops.toArray rest σ' ds h' Q
 | m+1,k,o ::rest,cl ::cls=>ZJ R Pre E ops n Φ O ds h k o cl/\Iu R Pre E ops n Φ O ds h Q m (k+1) rest cls
 | _,_,_,_=>False
theorem Iu.at{R:GH->GH->Prop}{Pre:Nat->GH->Prop}{ops:List Oper}{n:Nat}{Φ:List IC}{O:Nat->Value}{ds:List Deferred}{h:GH}{Q:Post}:∀(m k:Nat)(rest:List Oper)(cls:List (List Nat)),
  Iu R Pre E ops n Φ O ds h Q m k rest cls->(∀i o,i<m->rest[i]? =some o->ZJ R Pre E ops n Φ O ds h (k+i) o (cls.getD i []))/\
   (∀σ' h',R h h'->(∀t,(Dq ops n).contains t=false->σ' t=O t)->Hh ops Φ σ' h' (List.range (k+m))->Dp E ops.toArray (rest.drop m) σ' ds h' Q)
 | 0,k,rest,cls,x=>⟨λi o hi=>aA,x⟩
 | m+1,k,[],cls,x=>by cases cls <;> exact x.elim
 | m+1,k,o ::rest,[],x=>x.elim
 | m+1,k,o ::rest,cl ::cls,x=>by
  obtain ⟨h1,h2⟩:=x;obtain ⟨a,b⟩:=Iu.at m (k+1) rest cls h2;refine ⟨λi o' hi ho=>?_,λσ' h' hl hb hk=>?_⟩
  ·cases i with
   | zero=>simp at ho;subst ho;exact h1
   | succ i=>have:=a i o' aA (by simpa using ho);rw [show k+(i+1)=k+1+i by omega];simpa using this
  ·rw [List.drop_succ_cons];exact b σ' h' hl hb (by rw [show k+1+m=k+(m+1) by omega];exact hk)
structure Uw(R:GH->GH->Prop)(Pre:Nat->GH->Prop)(l:List Oper)(n:Nat)(cls:List (List Nat))(Φ:List IC)(O:Nat->Value)(h:GH)(D:Nat->Bool)(σ':Nat->Value)(h':GH):Prop where
 le:R h h'
 base:∀t,(Dq l n).contains t=false->σ' t=O t
 lt:∀j,D j=true->j<n
 done:∀j,D j=true->Pr l Φ σ' h' j
 clos:∀j,D j=true->∀i ∈ cls.getD j [],D i=true
 grd:∀j o,D j=true->l[j]? =some o->∀g w,o.guard=some (g,w)->D g=true
 pend:∀j,j<n->D j=false->Pre j h'
theorem tr_draw2(R:GH->GH->Prop){id:Nat}{l:List Oper}{O:Nat->Value}{ds:List Deferred}{h:GH}{Q:Post}(n:Nat)(cls:List (List Nat))(Φ:List IC)(Pre:Nat->GH->Prop)
  (hm:P.follows .mixedOrders=true) (ok:Fm E.N l n cls=true) (rr:∀h,R h h) (rt:∀a b c,R a b->R b c->R a c) (p0:∀k,k<n->Pre k h) (ind:TV l n cls Φ)
  (x:Iu R Pre E l n Φ O ds h Q n 0 l cls):Tr E (.region id l.toArray true) O ds h Q:=by
 obtain ⟨steps,fin⟩:=Iu.at n 0 l cls x;simp only [Nat.zero_add] at steps fin;have ok':=ok;unfold Fm at ok';simp only [Bool.and_eq_true] at ok';have nd:(Dq l n).Nodup:=of_decide_eq_true ok'.1.2;refine PU n cls (Uw R Pre l n cls Φ O h) hm ok ⟨rr h,λ_ _=>rfl,λ_ q=>(by cases q),λ_ q=>(by cases q),λ_ q=>(by cases q),λ_ _ q=>(by cases q),λj hj _=>p0 j hj⟩ (λD σ' h' i o I hin hiu ho hcl hgl=>?_) λD σ' h' I hall=>fin σ' h' I.le I.base (Hh.get λj hj=>I.done j (hall j (List.mem_range.1 hj)));have hset:∀j,IW D i j=if i=j then true else D j:=λ_=>rfl
 have next:∀(σ2:Nat->Value) (h2:GH) (v:Value),σ2=putS σ' o.dst v->St R Pre Φ (cls.getD i []) i h' h2->(DA l o σ2->Gf Φ i σ2 v h2)->(o.dst=none->v=undef)->Uw R Pre l n cls Φ O h (IW D i) σ2 h2:=by
  rintro σ2 h2 v rfl hle hlaw hun;have hkeep:∀j oj e,j<n->j≠i->l[j]? =some oj->oj.dst=some e->putS σ' o.dst v e=σ' e:=λj oj e hj hji hoj he=>by
   cases hd:o.dst with
   | none=>rfl
   | some d=>exact upd_ne σ' v (MB (EB nd hin hj (λx=>hji x.symm) ho hoj hd he))
  refine ⟨rt _ _ _ I.le hle.1,λu hu=>?_,λj hjl=>?_,λj hjl=>?_,λj hjl q hq'=>?_,λj oj hjl hoj g w hg=>?_,λj hj hjl=>?_⟩
  ·rw [<-I.base u hu];cases hd:o.dst with
   | none=>rfl
   | some d=>exact upd_ne σ' v (MB λe=>by rw [e,PT hin ho hd] at hu;cases hu)
  ·rw [hset] at hjl;by_cases hij:i=j
   ·exact hij▸hin
   ·rw [if_neg hij] at hjl;exact I.lt j hjl
  ·rw [hset] at hjl;by_cases hij:i=j
   ·subst hij;unfold Pr;rw [ho];intro hg
    have:I8 o (putS σ' o.dst v)=v:=by
     cases hd:o.dst with
     | none=>rw [hun hd];simp [I8,hd]
     | some d=>simp [I8,hd,putS,upd]
    rw [this];exact hlaw hg
   ·rw [if_neg hij] at hjl;have K:=I.done j hjl;unfold Pr at K ⊢;cases hoj:l[j]? with
    | none=>trivial
    | some oj=>
     rw [hoj] at K;simp only at K ⊢;intro hg;have hg':DA l oj σ':=hg.congr λg w og dg hgw hog hdg=>by
      have hgl':=I.grd j oj hjl hoj g w hgw;exact hkeep g og dg (I.lt g hgl') (λe=>by rw [e,hiu] at hgl';cases hgl') hog hdg
     have hji:i ∉ cls.getD j []:=λq=>by rw [I.clos j hjl i q] at hiu;cases hiu
     have:=hle.2.1 j (λe=>hij e.symm) _ _ (K hg')
     have hsv:I8 oj (putS σ' o.dst v)=I8 oj σ':=by
      unfold I8;cases hdj:oj.dst with
      | none=>rfl
      | some e=>exact hkeep j oj e (I.lt j hjl) (λx=>hij x.symm) hoj hdj
     rw [hsv];cases hd:o.dst with
     | none=>exact this
     | some d=>exact ind j i o d (I.lt j hjl) hin hij hji ho hd σ' v _ h2 this
  ·rw [hset] at hjl ⊢;split
   ·rfl
   ·rename_i hn
    by_cases hij:i=j
    ·subst hij;exact hcl q hq'
    ·rw [if_neg hij] at hjl;exact I.clos j hjl q hq'
  ·rw [hset] at hjl ⊢;split
   ·rfl
   ·by_cases hij:i=j
    ·subst hij;rw [ho] at hoj;cases hoj;exact hgl g w hg
    ·rw [if_neg hij] at hjl;exact I.grd j oj hjl hoj g w hg
  ·rw [hset] at hjl;by_cases hij:i=j
   ·rw [if_pos hij] at hjl;cases hjl
   ·rw [if_neg hij] at hjl;exact hle.2.2 j (λe=>hij e.symm) (λq=>by rw [hcl j q] at hjl;cases hjl) (I.pend j hj hjl)
 refine ⟨λhG=>?_,λhnG=>?_⟩
 ·exact Bg.mono (steps i o hin ho σ' h' I.le I.base (Hh.get λj hj=>I.done j (hcl j hj)) hG (I.pend i hin hiu)) λσ2 ds2 h2 y=>⟨y.1,by
   obtain ⟨_,hle,v,hσ,hlaw,hun⟩:=y;exact next σ2 h2 v hσ hle (λ_=>hlaw) hun⟩
 ·refine next _ _ undef rfl ⟨rr _,λ_ _ _ _ z=>z,λ_ _ _ z=>z⟩ (λhg=>?_) λ_=>rfl;refine absurd (hg.congr λg w og dg hgw hog hdg=>?_) hnG;cases hd:o.dst with
  | none=>rfl
  | some d=>
   have hgi:g≠i:=λe=>by have:=hgl g w hgw;rw [e,hiu] at this;cases this
   exact upd_ne σ' undef (MB (EB nd hin (I.lt g (hgl g w hgw)) (λx=>hgi x.symm) ho hog hd hdg))
def EX(S:Nat->Prop)(h h':GH):Prop:=Bq S h h'/\∀b,(∃o,h b=some o)->∃o,h' b=some o
theorem EX.refl(S:Nat->Prop)(h:GH):EX S h h:=⟨Bq.refl _ _,λ_ x=>x⟩
theorem EX.trans{S:Nat->Prop}{a b c:GH}(x:EX S a b)(y:EX S b c):EX S a c:=⟨x.1.trans (λ_ q=>.inl q) y.1,λr q=>y.2 r (x.2 r q)⟩
theorem GH.Le.keepD{h h':GH}(l:h.Le h')(S:Nat->Prop):EX S h h':=⟨l.keepX S,λ_ ⟨o,ho⟩=>let ⟨o',h1,_⟩:=l _ o.1 o.2 ho;⟨_,h1⟩⟩
theorem EX.nothing{S:Nat->Prop}{h h':GH}(k:EX S h h'){r:Nat}(hr:h' r=none):h r=none:=by
 cases hx:h r with
 | none=>rfl
 | some x=>obtain ⟨o,ho⟩:=k.2 r ⟨x,hx⟩;rw [ho] at hr;cases hr
theorem EX.grown{U:Type}{S:Nat->Prop}{h0 h h':GH}{v v':Value}{t:TypeId}{n:Nat}{enc:U->Array Value}{xs:List U}(g:EV h h' v v')(hv:∀b,B7 v=some b->S b)(o:AI h0 h' v' t n enc xs):EX S h h':=
 ⟨λb p o hb hX=>⟨o,g.1 b _ hb λe=>hX (hv b e),.inl rfl⟩,λb ⟨x,hx⟩=>by
  rcases g.2 with q | ⟨_,q⟩
  ·by_cases e:B7 v=some b
   ·exact o.inDom b (q.trans e)
   ·exact ⟨_,g.1 b x hx e⟩
  ·exact ⟨_,q b x hx⟩⟩
theorem AI.baseD{U:Type}{S:Nat->Prop}{h0 h00 h:GH}{v:Value}{t:TypeId}{n:Nat}{enc:U->Array Value}{xs:List U}(x:AI h0 h v t n enc xs)(k:EX S h00 h0):AI h00 h v t n enc xs:=by
 rcases x with x | ⟨b,cap,c,h1,h2,h3,h4⟩
 ·exact .inl x
 ·exact .inr ⟨b,cap,c,h1,k.nothing h2,h3,h4⟩
def Dr(R:GH->GH->Prop):List IC->Prop
 | []=>True
 | φ ::l=>(∀O v h h',R h h'->φ O v h->φ O v h')/\Dr R l
theorem Dr.mono{R:GH->GH->Prop}:∀{Φ:List IC},Dr R Φ->∀k O v h h',R h h'->Gf Φ k O v h->Gf Φ k O v h'
 | [],_,k,O,v,h,h',_,x=>by cases k <;> exact x
 | φ ::l,ok,0,O,v,h,h',r,x=>ok.1 O v h h' r x
 | φ ::l,ok,k+1,O,v,h,h',r,x=>Dr.mono ok.2 k O v h h' r x
theorem Nw{S:Nat->Prop}{id:Nat}{l:List Oper}{O:Nat->Value}{ds:List Deferred}{h:GH}{Q:Post}(n:Nat)(cls:List (List Nat))(Φ:List IC)(Pre:Nat->GH->Prop)
  (hm:P.follows .mixedOrders=true) (ok:Fm E.N l n cls=true) (p0:∀k,k<n->Pre k h) (ind:TV l n cls Φ) (x:Iu (EX S) Pre E l n Φ O ds h Q n 0 l cls):Tr E (.region id l.toArray true) O ds h Q:=
 tr_draw2 (EX S) n cls Φ Pre hm ok (λh=>EX.refl S h) (λ_ _ _ x y=>x.trans y) p0 ind x
section
variable {Pre:Nat->GH->Prop} {Φ:List IC} {S:Nat->Prop} {k:Nat} {cl:List Nat} {h h':GH}
theorem St.same:St (EX S) Pre Φ cl k h h:=⟨EX.refl _ _,λ_ _ _ _ z=>z,λ_ _ _ z=>z⟩
theorem St.ofLe(l:h.Le h')(m:Dr GH.Le Φ)(pm:∀k h h',GH.Le h h'->Pre k h->Pre k h'):St (EX S) Pre Φ cl k h h':=⟨l.keepD S,λj _ O v z=>m.mono j O v h h' l z,λj _ _ z=>pm j h h' l z⟩
end
def R2(h0:GH)(w v:Value):Prop:=B7 v=B7 w\/∃r,B7 v=some r/\h0 r=none
theorem A8.fromB{h0:GH}{w v:Value}(f:R2 h0 w v){r:Nat}{o:Bool×Obj}(hr:h0 r=some o)(x:A8 w r):A8 v r:=λe=>by
 rcases f with q | ⟨b,q1,q2⟩
 ·exact x (q▸e)
 ·rw [q1] at e;cases e;rw [q2] at hr;cases hr
theorem R2.grown{h0 hk h':GH}{S:Nat->Prop}{w v:Value}(g:EV hk h' w v)(k:EX S h0 hk):R2 h0 w v:=by
 rcases g.2 with q | ⟨⟨r,q1,q2⟩,_⟩
 ·exact .inl q
 ·exact .inr ⟨r,q1,k.nothing q2⟩
theorem AI.apartTy{U β:Type}{h0 h1 h:GH}{v w:Value}{t t':TypeId}{n n':Nat}{enc:U->Array Value}{enc':β->Array Value}{xs:List U}{ys:List β}(x:AI h0 h v t n enc xs)(y:AI h1 h w t' n' enc' ys)(ne:t≠t'):Apart v w:=λb e e'=>by
 rcases x with ⟨rfl,_⟩ | ⟨b1,_,c1,rfl,_,h2,_⟩
 ·cases e
 ·rcases y with ⟨rfl,_⟩ | ⟨b2,_,c2,rfl,_,h3,_⟩
  ·cases e'
  ·simp only [B7,Option.some.injEq] at e e';subst e;subst e';rw [h2] at h3;simp only [Option.some.injEq,Prod.mk.injEq,Obj.cells.injEq] at h3;exact ne h3.2.2.1
theorem AI.apartNew{U β:Type}{h1 h h2:GH}{v w:Value}{t t':TypeId}{n n':Nat}{enc:U->Array Value}{enc':β->Array Value}{xs:List U}{ys:List β}(x:AI h1 h2 w t n enc xs)(y:AI h2 h v t' n' enc' ys):Apart w v:=λb e e'=>by
 obtain ⟨o,ho⟩:=x.inDom b e;rw [y.fresh b e'] at ho;cases ho
theorem Bq.leBase{S:Nat->Prop}{hb h h':GH}(k:Bq S h h')(l:hb.Le h)(hS:∀b,S b->hb b=none):hb.Le h':=λb p o hx=>by
 obtain ⟨o1,h1,h2⟩:=l b p o hx;obtain ⟨o2,h3,h4⟩:=k b p o1 h1 λq=>by rw [hS b q] at hx;cases hx
 refine ⟨o2,h3,?_⟩;rcases h2 with rfl | h2
 ·exact h4
 ·rcases h4 with rfl | h4
  ·exact .inr h2
  ·exact .inr ⟨h2.1,h4.2⟩
theorem AI.keepD{U:Type}{S:Nat->Prop}{h0 h h':GH}{v:Value}{t:TypeId}{n:Nat}{enc:U->Array Value}{xs:List U}(x:AI h0 h v t n enc xs)(k:EX S h h')(hS:∀b,B7 v=some b->¬S b):AI h0 h' v t n enc xs:=by
 rcases x with x | ⟨b,cap,c,rfl,h2,h3,h4⟩
 ·exact .inl x
 ·exact .inr ⟨b,cap,c,rfl,h2,k.1.box h3 (hS b rfl) rfl,h4⟩
end
end Go.Ns
namespace Go.Ns
open Go.Conc
section
variable {P:Program} {E:HB P} {O:Nat->Value} {ds:List Deferred} {h:GH} {T:(Nat->Value)->List Deferred->GH->Prop}
variable {dst:Option Nat} {ty:TypeId} {pos:String} {af:Array Edge} {gd:Option (Nat×Bool)}
def Wf:Value->Bool
 | .slice none _ _=>true
 | _=>false
theorem Zu{xt yt:TypeId}{x y:Operand}{a:Option Addr}{l c:Nat}(ht:KV P xt=true)(hx:AQ O x=.slice a l c)(hy:AQ O y=.slice none 0 0)(k:T (putS O dst (.bool (Wf (.slice a l c)))) ds h) :
  Bg E ⟨dst,.binOp .eql xt x y yt,ty,pos,af,gd⟩ O ds h T:=by
 unfold Bg execOp;simp only [hx,hy];refine Gb (AL _ _ ?_);show Sem.gh P (do pure (Value.bool (<-Op.equal xt (.slice a l c) (.slice none 0 0))):Sem Value) h _;refine AL _ _ ?_;unfold Op.equal Op.maxDepth;show (Op.equalIn (9999+1) xt (.slice a l c) (.slice none 0 0)).gh P h _;unfold Op.equalIn;unfold KV at ht;cases hu:P.underlying xt with
 | none=>rw [hu] at ht;cases ht
 | some d=>
  rw [hu] at ht;refine AL _ _ (Ap hu ?_);cases d <;> first | (cases ht;done) | skip
  cases a with
  | none=>exact k
  | some a=>exact k
theorem MI{U:Type}{xt yt:TypeId}{x y:Operand}{v:Value}{n:Nat}{enc:U->Array Value}{xs:List U}(ht:KV P xt=true)(s:AE h v n enc xs)(hx:AQ O x=v)(hy:AQ O y=.slice none 0 0)(k:T (putS O dst (.bool (Wf v))) ds h) :
  Bg E ⟨dst,.binOp .eql xt x y yt,ty,pos,af,gd⟩ O ds h T:=by
 obtain ⟨a,cap,rfl,_⟩:=s;exact Zu ht hx hy k
theorem MJ{U:Type}{v:Value}{n:Nat}{enc:U->Array Value}{xs:List U}(s:AE h v n enc xs)(e:Wf v=true):xs=[]:=by
 obtain ⟨a,cap,rfl,_,_,q⟩:=s;cases a with
 | some a=>cases e
 | none=>
  cases xs with
  | nil=>rfl
  | cons x xs=>obtain ⟨b,off,h1,_⟩:=q 0 aD;cases h1
theorem shr_eq{a:Int}{k:Nat}(h:k<=63):a.fdiv (2 ^ (min ((k:Int)).toNat IntKind.i64.bits))=a.fdiv (2 ^ k):=by
 have:min ((k:Int)).toNat IntKind.i64.bits=k:=by
  show min ((k:Int)).toNat 64=k;omega
 rw [this]
theorem shl_eq{k:Nat}(h:k<=60):IntKind.i64.wrap (1*2 ^ (min ((k:Int)).toNat IntKind.i64.bits))=2 ^ k:=by
 have:min ((k:Int)).toNat IntKind.i64.bits=k:=by
  show min ((k:Int)).toNat 64=k;omega
 rw [this,Int.one_mul];have h1:(2:Int) ^ k<=2 ^ 60:=by
  have:=Nat.pow_le_pow_right (show 0<2 by decide) h
  exact_mod_cast this
 have h2:(0:Int)<=2 ^ k:=by
  have:=Nat.zero_le (2 ^ k)
  exact_mod_cast this
 exact IntWalk.i64_in _ aA
end
theorem Ps{a:Int}(h:0<=a/\a<=65535)(k:Nat):0<=a.fdiv (2 ^ k)/\a.fdiv (2 ^ k)<=65535:=by
 have hp:(0:Int)<2 ^ k:=by
  have:=Nat.pow_pos (n:=k) (show 0<2 by decide)
  exact_mod_cast this
 rw [Int.fdiv_eq_ediv_of_nonneg _ (Int.le_of_lt hp)];refine ⟨Int.ediv_nonneg h.1 (Int.le_of_lt hp),Int.le_trans (Int.ediv_le_self _ h.1) h.2⟩
def DR(mask:Int)(k:Nat):Bool:=decide (mask.fdiv (2 ^ k)%2=1)
def Ce(cs:List AF)(mask:Int)(k:Nat):List AF:=((List.range k).filter (DR mask)).map λ(i:Nat)=>cs.getD i AF.z
def A3(mask:Int)(k:Nat):List Int:=((List.range k).filter (DR mask)).map λ(i:Nat)=>(i:Int)
theorem KY{p:Nat->Bool}{k:Nat}(h:p k=true):(List.range (k+1)).filter p=(List.range k).filter p++[k]:=by
 rw [List.range_succ,List.filter_append];simp [h]
theorem KZ{p:Nat->Bool}{k:Nat}(h:p k=false):(List.range (k+1)).filter p=(List.range k).filter p:=by
 rw [List.range_succ,List.filter_append];simp [h]
theorem pickC_t{cs:List AF}{mask:Int}{k:Nat}(h:mask.fdiv (2 ^ k)%2=1):Ce cs mask (k+1)=Ce cs mask k++[cs.getD k AF.z]:=by
 unfold Ce;rw [KY (by unfold DR;rw [decide_eq_true h]),List.map_append];rfl
theorem pickC_f{cs:List AF}{mask:Int}{k:Nat}(h:¬mask.fdiv (2 ^ k)%2=1):Ce cs mask (k+1)=Ce cs mask k:=by
 unfold Ce;rw [KZ (by unfold DR;rw [decide_eq_false h])]
theorem ZK{mask:Int}{k:Nat}(h:mask.fdiv (2 ^ k)%2=1):A3 mask (k+1)=A3 mask k++[(k:Int)]:=by
 unfold A3;rw [KY (by unfold DR;rw [decide_eq_true h]),List.map_append];rfl
theorem ZL{mask:Int}{k:Nat}(h:¬mask.fdiv (2 ^ k)%2=1):A3 mask (k+1)=A3 mask k:=by
 unfold A3;rw [KZ (by unfold DR;rw [decide_eq_false h])]
theorem R3(cs:List AF)(mask:Int)(k:Nat):(Ce cs mask k).length<=k:=by
 unfold Ce;rw [List.length_map]
 have:=List.length_filter_le (DR mask) (List.range k)
 rwa [List.length_range] at this
theorem R4(mask:Int)(k:Nat):(A3 mask k).length<=k:=by
 unfold A3;rw [List.length_map]
 have:=List.length_filter_le (DR mask) (List.range k)
 rwa [List.length_range] at this
def Pu(a b:Int):Int:=if a<b then-1 else if b<a then 1 else 0
def GK(a b:List Int):Nat->Nat->Int
 | 0,_=>if (a.length:Int)<b.length then-1 else 0
 | f+1,k=>if (b.length:Int)<=k then 1 else if¬Pu (a.getD k 0) (b.getD k 0)=0 then Pu (a.getD k 0) (b.getD k 0) else GK a b f (k+1)
def Ka(a b:List Int):Int:=GK a b a.length 0
theorem Kb{a b:List Int}{k:Nat}(hk:¬(k:Int)<a.length):GK a b (a.length-k) k=if (a.length:Int)<b.length then-1 else 0:=by
 rw [show a.length-k=0 by omega];rfl
theorem Gh{a b:List Int}{k:Nat}(hk:k<a.length):GK a b (a.length-k) k=if (b.length:Int)<=k then 1 else if¬Pu (a.getD k 0) (b.getD k 0)=0 then Pu (a.getD k 0) (b.getD k 0) else GK a b (a.length-(k+1)) (k+1):=by
 rw [show a.length-k=(a.length-(k+1))+1 by omega];rfl
def Ek(a b:List Int):Bool:=decide ((a.length:Int)<b.length) || (decide ((a.length:Int)=b.length) && decide (Ka a b<0))
abbrev Sl:=Value×List Int
def Sl.z:Sl:=(.slice none 0 0,[])
def Ht(x:Sl):Array Value:=#[x.1]
def CN(h:GH)(l:List Sl):Prop:=∀k,AE h (l.getD k Sl.z).1 1 eI (l.getD k Sl.z).2
theorem CN.le{h h':GH}{l:List Sl}(x:CN h l)(e:h.Le h'):CN h' l:=λk=>(x k).le e
theorem CN.nil(h:GH):CN h []:=λk=>by
 rw [B8 aD];exact AE.nil _ _ _
theorem CN.snoc{h:GH}{l:List Sl}{x:Sl}(a:CN h l)(b:AE h x.1 1 eI x.2):CN h (l++[x]):=λk=>by
 rcases Nat.lt_trichotomy k l.length with q | q | q
 ·have e:(l++[x]).getD k Sl.z=l.getD k Sl.z:=by simp [List.getD_eq_getElem?_getD,List.getElem?_append_left q]
  rw [e];exact a k
 ·have e:(l++[x]).getD k Sl.z=x:=by subst q;simp [List.getD_eq_getElem?_getD]
  rw [e];exact b
 ·rw [B8 (by simp;omega)];exact AE.nil _ _ _
def C3(x c:List Int):List Int:=if Ek x c then x else c
def FB(c:List Int)(l:List (List Int)):List Int:=l.foldl (λc x=>C3 x c) c
def A1(l:List Sl):List (List Int):=l.map (·.2)
theorem CE{l:List Sl}{k:Nat}(hk:k<l.length):(A1 l).getD k []=(l.getD k Sl.z).2:=by
 unfold A1;rw [BY [] (by simpa using hk),BY Sl.z hk];simp
theorem Pv{c:List Int}{l:List Sl}{k:Nat}(hk:k<l.length):FB c ((A1 l).take (k+1))=C3 (l.getD k Sl.z).2 (FB c ((A1 l).take k)):=by
 rw [CK [] (by simpa [A1] using hk),CE hk];unfold FB;rw [List.foldl_append];rfl
def B3(d:Int)(gs:List Good)(ms:List AA)(cs:List AF)(mo:Int):Bool:= !(AU d gs ms cs mo).isEmpty
theorem ZM{d:Int}{gs:List Good}{ms:List AA}{cs:List AF}{mo:Int}(h:AU d gs ms cs mo≠[]):B3 d gs ms cs mo=true:=by
 unfold B3;cases hx:AU d gs ms cs mo with
 | nil=>exact absurd hx h
 | cons _ _=>rfl
theorem ZN{d:Int}{gs:List Good}{ms:List AA}{cs:List AF}{mo:Int}(h:AU d gs ms cs mo=[]):B3 d gs ms cs mo=false:=by
 unfold B3;rw [h];rfl
def JFlag{U:Type}(hB:GH)(r:Nat)(T:TypeId)(pre:List U)(Y:Nat->Prop)(h:GH):Prop:=pre=[]/\h r=some (true,.cells #[.bool false] T (0,0))/\hB r=none/\∀b,Y b↔b=r
def SFlag{U:Type}(r:Nat)(T:TypeId)(all:List U)(c:Code)(h:GH):Prop:=c=.ret/\h r=some (true,.cells #[.bool true] T (0,0))/\all≠[]
theorem Pw{U:Type}(hB:GH)(r:Nat)(T:TypeId):Jo hB (JFlag (U:=U) hB r T):=by
 refine ⟨?_,?_⟩
 ·rintro pre Y h b ⟨_,h1,_,h2⟩ hb;rw [h2] at hb;subst hb;exact ⟨_,_,h1,rfl⟩
 ·rintro pre Y h h' ⟨h0,h1,h3,h2⟩ same _;exact ⟨h0,(same r ((h2 r).2 rfl)).trans h1,h3,h2⟩
theorem Ux{U:Type}{hB h:GH}{r:Nat}{T:TypeId}(nr:hB r=none)(x:h r=some (true,.cells #[.bool false] T (0,0))):JFlag (U:=U) hB r T [] (λb=>b=r) h:=⟨rfl,x,nr,λ_=>Iff.rfl⟩
theorem TW{U:Type}{r:Nat}{T:TypeId}{all:List U}:∀c (h h':GH) l lo,SFlag r T all c h->h l=some (true,.loop lo)->(∀b,b≠l->h' b=h b)->SFlag r T all c h':=by
 rintro c h h' l lo ⟨q1,q2,q3⟩ hl ho;exact ⟨q1,(ho _ λe=>by subst e;rw [q2] at hl;cases hl).trans q2,q3⟩
end Go.Ns
namespace Go.Ns
open Go.Conc
abbrev Key:=Int×Int×Int
def LX(a:Key):Value:=.agg #[.int .i64 a.1,.int .i64 a.2.1,.int .i64 a.2.2]
def E6(n:Int):Value:=.int .i64 n
def Ai(ms:List AA)(pasts:List AV)(r:Nat)(h:GH):Prop:=
 ∃M:Key->Option Int,Fe h r LX E6 M/\∀a v,M a=some v->v=(AP ms (pasts.getD a.1.toNat AV.zero) a.2.1 a.2.2).1
theorem Ai.same{ms:List AA}{pasts:List AV}{r:Nat}{h h':GH}(x:Ai ms pasts r h)(e:h' r=h r):Ai ms pasts r h':=by
 obtain ⟨M,h1,h2⟩:=x;exact ⟨M,h1.le_other e,h2⟩
theorem Ai.known{ms:List AA}{pasts:List AV}{r:Nat}{h:GH}(x:Ai ms pasts r h):∃o,h r=some (true,o):=by
 obtain ⟨M,⟨es,clk,h1,_⟩,_⟩:=x;exact ⟨_,h1⟩
structure Ck(hB:GH)(ms:List AA)(pasts:List AV)(r:Nat)(h hc:GH):Prop where
 ok:Ai ms pasts r hc
 keep:Bq (λb=>b=r) h hc
 base:hB.Le hc
def KR(hB:GH)(ms:List AA)(pasts:List AV)(r:Nat)(h h':GH):Prop:=Ai ms pasts r h'/\Bq (λb=>b=r) h h'/\hB.Le h'
section
variable {hB h hc h':GH} {ms:List AA} {pasts:List AV} {r:Nat}
theorem Ck.start(x:Ai ms pasts r h)(l:hB.Le h):Ck hB ms pasts r h h:=⟨x,Bq.refl _ _,l⟩
theorem Ck.le(y:Ck hB ms pasts r h hc)(l:hc.Le h'):Ck hB ms pasts r h h':=by
 obtain ⟨o,ho⟩:=y.ok.known;exact ⟨y.ok.same ((l.keep ho rfl).trans ho.symm),y.keep.trans (λ_ q=>.inl q) (l.keepX _),y.base.trans l⟩
theorem Ck.store(y:Ck hB ms pasts r h hc){q:Nat}(hq:h q=none)(qB:hB q=none)(hn:q≠r)(ho:∀b,b≠q->h' b=hc b):Ck hB ms pasts r h h':=
 ⟨y.ok.same (ho r (Ne.symm hn)),y.keep.store hq ho,y.base.upd qB ho⟩
theorem Ck.app{v v':Value}(y:Ck hB ms pasts r h hc)(g:EV hc h' v v')(f:A8 v r)(hv:∀b,B7 v=some b->h b=none)(hvB:∀b,B7 v=some b->hB b=none):Ck hB ms pasts r h h':=by
 obtain ⟨o,ho⟩:=y.ok.known;refine ⟨y.ok.same ((g.1 r _ ho f).trans ho.symm),λb p o hb hX=>?_,GH.Le.grown g y.base hvB⟩;obtain ⟨o',h1,h2⟩:=y.keep b p o hb hX;exact ⟨o',g.1 b _ h1 (λe=>by rw [hv b e] at hb;cases hb),h2⟩
theorem Ck.call(y:Ck hB ms pasts r h hc)(m:KR hB ms pasts r hc h'):Ck hB ms pasts r h h':=⟨m.1,y.keep.trans (λ_ q=>.inl q) m.2.1,m.2.2⟩
theorem Ck.ne(y:Ck hB ms pasts r h hc){q:Nat}(hq:hc q=none):q≠r:=λe=>by
 obtain ⟨o,ho⟩:=y.ok.known;rw [e,ho] at hq;cases hq
theorem Ck.res(y:Ck hB ms pasts r h hc):KR hB ms pasts r h hc:=⟨y.ok,y.keep,y.base⟩
end
theorem Key.eq_iff(a b:Key):(a.1==b.1 && (a.2.1==b.2.1 && (a.2.2==b.2.2 && true)))=decide (a=b):=by
 obtain ⟨a1,a2,a3⟩:=a;obtain ⟨b1,b2,b3⟩:=b;simp only [Bool.and_true,Prod.mk.injEq];by_cases h1:a1=b1 <;> by_cases h2:a2=b2 <;> by_cases h3:a3=b3 <;> simp [h1,h2,h3]
section
variable {P:Program} {E:HB P} {O:Nat->Value} {ds:List Deferred} {h:GH} {T:(Nat->Value)->List Deferred->GH->Prop}
variable {dst:Option Nat} {ty:TypeId} {pos:String} {af:Array Edge} {gd:Option (Nat×Bool)}
theorem TX{t kt vt:TypeId}{x ix:Operand}{r d:Nat}{ms:List AA}{pasts:List AV}{i g dy:Int}(ht:Lh P t=some (kt,vt))(hx:AQ O x=.map (some r))(hk:AQ O ix=.agg #[.int .i64 i,.int .i64 g,.int .i64 dy])(hm:Ai ms pasts r h)(hd:Nat.ble (d+1) 10000=true)
  (hc:∀a,ckP P (d+1) kt (LX a)=true) (he:∀a b,RC P (d+1) kt (LX a) (LX b)=some (a.1==b.1 && (a.2.1==b.2.1 && (a.2.2==b.2.2 && true)))) (hz:(P.info? vt).bind (·.zero)=some (.int .i64 0))
  (k:∀(n:Int)(is:Bool),(is=true->n=(AP ms (pasts.getD i.toNat AV.zero) g dy).1)->T (putS O dst (.tuple #[.int .i64 n,.bool is])) ds h):Bg E ⟨dst,.lookup t x ix true,ty,pos,af,gd⟩ O ds h T:=by
 obtain ⟨M,h1,h2⟩:=hm;refine Rs (a:=(i,g,dy)) (z:=.int .i64 0) ht hx hk h1 hd (hc _) (λb=>by rw [he,Key.eq_iff]) hz ?_;cases hM:M (i,g,dy) with
 | none=>exact k 0 false (by intro e;cases e)
 | some v=>exact k v true λ_=>h2 _ _ hM
theorem Uy{t kt vt:TypeId}{om ok ox:Operand}{r d:Nat}{ms:List AA}{pasts:List AV}{i g dy n:Int}(ht:Lh P t=some (kt,vt))(hm':AQ O om=.map (some r))(hk:AQ O ok=.agg #[.int .i64 i,.int .i64 g,.int .i64 dy])(hv:AQ O ox=.int .i64 n)(hm:Ai ms pasts r h)(hd:Nat.ble (d+1) 10000=true)
  (hc:∀a,ckP P (d+1) kt (LX a)=true) (he:∀a b,RC P (d+1) kt (LX a) (LX b)=some (a.1==b.1 && (a.2.1==b.2.1 && (a.2.2==b.2.2 && true)))) (hs:∀a,Instr.sameBits 10000 (LX a) (LX a)=true) (hn:n=(AP ms (pasts.getD i.toNat AV.zero) g dy).1)
  (k:∀h',Ai ms pasts r h'->(∀b,b≠r->h' b=h b)->T (putS O dst undef) ds h'):Bg E ⟨dst,.mapUpdate t om ok ox,ty,pos,af,gd⟩ O ds h T:=by
 obtain ⟨M,h1,h2⟩:=hm;refine M8 (a:=(i,g,dy)) (v:=n) (ek:=LX) (ev:=E6) ht hm' hk hv h1 hd (hc _) (λb=>by rw [he,Key.eq_iff]) (hs _) λh' g1 g2=>k h' ⟨_,g1,λa v hav=>?_⟩ g2;by_cases e:a=(i,g,dy)
 ·subst e;rw [if_pos rfl] at hav;cases hav;exact hn
 ·rw [if_neg e] at hav;exact h2 a v hav
end
section
variable {hB h hc h':GH} {ms:List AA} {pasts:List AV} {r:Nat}
theorem Ck.nothing(y:Ck hB ms pasts r h hc){q:Nat}(hq:hc q=none):h q=none:=by
 cases hx:h q with
 | none=>rfl
 | some x=>
  obtain ⟨o',h1,_⟩:=y.keep q x.1 x.2 hx (y.ne hq);rw [h1] at hq;cases hq
theorem Ai.le(x:Ai ms pasts r h)(l:h.Le h'):Ai ms pasts r h':=by
 obtain ⟨o,ho⟩:=x.known;exact x.same ((l.keep ho rfl).trans ho.symm)
theorem Ai.empty(x:h r=some (true,.map #[] 0)):Ai ms pasts r h:=⟨λ_=>none,Fe.empty x,λa v e=>by cases e⟩
theorem Ai.neCells{b:Nat}{p:Bool}{c:Array Value}{t:TypeId}{z:Nat×Nat}(x:Ai ms pasts r h)(hb:h b=some (p,.cells c t z)):b≠r:=λe=>by
 obtain ⟨M,⟨es,clk,h1,_⟩,_⟩:=x;rw [e,h1] at hb;cases hb
theorem AI.keepX{U:Type}{X:Nat->Prop}{h0:GH}{v:Value}{t:TypeId}{n:Nat}{enc:U->Array Value}{xs:List U}(x:AI h0 h v t n enc xs)(k:Bq X h h')(hS:∀b,B7 v=some b->¬X b):AI h0 h' v t n enc xs:=by
 rcases x with x | ⟨b,cap,c,rfl,h2,h3,h4⟩
 ·exact .inl x
 ·exact .inr ⟨b,cap,c,rfl,h2,k.box h3 (hS b rfl) rfl,h4⟩
theorem AE.slDel{U:Type}{v:Value}{n:Nat}{enc:U->Array Value}{xs:List U}(x:AE h v n enc xs){p:Bool}{es:Array MapEntry}{clk:Nat}(hr:h r=some (p,.map es clk)):AE (h.del r) v n enc xs:=by
 obtain ⟨a,cap,hv,hc,hm,he⟩:=x;refine ⟨a,cap,hv,hc,hm,λi hi=>?_⟩;obtain ⟨b,off,h1,h2⟩:=he i hi;refine ⟨b,off,h1,h2.del λe=>?_⟩;obtain ⟨p',c,t,f,hb,_⟩:=h2;rw [e,hr] at hb;cases hb
theorem Ai.slDel{U:Type}(k:Ai ms pasts r h){v:Value}{n:Nat}{enc:U->Array Value}{xs:List U}(x:AE h v n enc xs):AE (h.del r) v n enc xs:=by
 obtain ⟨M,⟨es,clk,h1,_⟩,_⟩:=k;exact x.slDel h1
end
section
variable {P:Program} {E:HB P} {O:Nat->Value} {ds:List Deferred} {h:GH}
end
theorem TY(a:Key):Instr.sameBits 10000 (LX a) (LX a)=true:=by
 have hi:∀(n:Nat)(x:Int),Instr.sameBits n (.int .i64 x) (.int .i64 x)=true:=λn x=>by
  cases n <;> (unfold Instr.sameBits;simp)
 unfold LX;show Instr.sameBits (9999+1) _ _=true;unfold Instr.sameBits;simp only [List.zip_cons_cons,List.zip_nil_left,List.all_cons,List.all_nil,hi];simp
def Af(d m:Int)(gs:List Good)(ms:List AA)(cs:List AF)(o:List Int):Int:=
 if¬AJ d m gs ms cs=0 then AJ d m gs ms cs else if¬EW (λk=>o.getD k 0) 0 o.length=0 then EW (λk=>o.getD k 0) 0 o.length else if (AU d gs ms cs m).length=0 then 9 else 0
section
variable {d m:Int} {gs:List Good} {ms:List AA} {cs:List AF} {o:List Int}
theorem Jt(h:¬AJ d m gs ms cs=0):Af d m gs ms cs o=AJ d m gs ms cs:=by unfold Af;rw [if_pos h]
theorem Ju(h:¬¬AJ d m gs ms cs=0){k:Nat}(hs:∀j,j<k->o.getD j 0=0)(hk:k<o.length)(h2:¬o.getD k 0=0):Af d m gs ms cs o=o.getD k 0:=by
 unfold Af;rw [if_neg h,BZ (f:=λk=>o.getD k 0) hs hk rfl h2,if_pos h2]
theorem Jv(h:¬¬AJ d m gs ms cs=0){k:Nat}(hs:∀j,j<k->o.getD j 0=0)(hk:o.length<=k)(h2:(AU d gs ms cs m).length=0):Af d m gs ms cs o=9:=by
 unfold Af;rw [if_neg h,Cs (f:=λk=>o.getD k 0) hs hk,if_neg aD,if_pos h2]
theorem MK(h:¬¬AJ d m gs ms cs=0){k:Nat}(hs:∀j,j<k->o.getD j 0=0)(hk:o.length<=k)(h2:¬(AU d gs ms cs m).length=0):Af d m gs ms cs o=0:=by
 unfold Af;rw [if_neg h,Cs (f:=λk=>o.getD k 0) hs hk,if_neg aD,if_neg h2]
theorem EJ(h:Af d m gs ms cs o=0):An d m gs ms cs/\(∀k,k<o.length->o.getD k 0=0)/\0<(AU d gs ms cs m).length:=by
 unfold Af at h;split at h <;> first | (rename_i q;exact absurd h q) | skip
 split at h <;> first | (rename_i q;exact absurd h q) | skip
 split at h <;> first | (cases h;done) | skip
 rename_i a b c
 exact ⟨EQ (Decidable.not_not.1 a),λk hk=>F1 (Decidable.not_not.1 b) k (Nat.zero_le _) aA,aA⟩
end
end Go.Ns
namespace Go.Ns
open Go.Conc Go.Sort
def Bl(rest:List Value)(d:Array Int):Array Value:=(d.toList.map (λx=>Value.int .i64 x)++rest).toArray
theorem BQ(rest:List Value)(d:Array Int):(Bl rest d).size=d.size+rest.length:=by simp [Bl]
theorem Aq{rest:List Value}{d:Array Int}{i:Nat}(h:i<d.size):(Bl rest d)[0+i*1]? =some (.int .i64 d[i]!):=by
 have h1:i<(d.toList.map (λx=>Value.int .i64 x)).length:=by simpa using h
 rw [Nat.zero_add,Nat.mul_one];unfold Bl;rw [List.getElem?_toArray,List.getElem?_append_left h1,List.getElem?_map];simp [h,getElem!_pos]
theorem Bm{rest:List Value}{d:Array Int}{i:Nat}{v:Int}(h:i<d.size):Bz (Bl rest d) (0+i*1) [.int .i64 v]=Bl rest (d.setIfInBounds i v):=by
 rw [Nat.zero_add,Nat.mul_one];show (Bl rest d).setIfInBounds i (.int .i64 v)=_;unfold Bl;apply Array.toList_inj.1;have h1:i<(d.toList.map (λx=>Value.int .i64 x)).length:=by simpa using h
 rw [Array.toList_setIfInBounds];simp only [];rw [List.set_append_left _ _ h1,Array.toList_setIfInBounds,List.map_set]
structure Al(b:Nat)(h hc:GH):Prop where
 keep:Bq (λx=>x=b) h hc
 dom:∃o,hc b=some o
section
variable {b:Nat} {h hc h':GH}
theorem Al.start(x:∃o,h b=some o):Al b h h:=⟨Bq.refl _ _,x⟩
theorem Al.le(y:Al b h hc)(l:hc.Le h'):Al b h h':=⟨y.keep.trans (λ_ q=>.inl q) (l.keepX _),l.someOf y.dom⟩
theorem Al.put(y:Al b h hc)(ho:∀x,x≠b->h' x=hc x)(x:∃o,h' b=some o):Al b h h':=⟨y.keep.store' (.inl rfl) ho,x⟩
theorem Al.ne(y:Al b h hc){q:Nat}(hq:hc q=none):q≠b:=λe=>by
 obtain ⟨o,ho⟩:=y.dom;rw [e,ho] at hq;cases hq
theorem Al.nothing(y:Al b h hc){q:Nat}(hq:hc q=none):h q=none:=by
 cases hx:h q with
 | none=>rfl
 | some x=>
  obtain ⟨o',h1,_⟩:=y.keep q x.1 x.2 hx (y.ne hq);rw [h1] at hq;cases hq
theorem Al.store(y:Al b h hc){q:Nat}(hq:h q=none)(hn:q≠b)(ho:∀x,x≠q->h' x=hc x):Al b h h':=⟨y.keep.store hq ho,by rw [ho b (Ne.symm hn)];exact y.dom⟩
theorem Al.call(y:Al b h hc)(k:Bq (λx=>x=b) hc h')(x:∃o,h' b=some o):Al b h h':=⟨y.keep.trans (λ_ q=>.inl q) k,x⟩
end
def HF(d:Array Int)(off:Nat):Array Int:=(d.toList.take off++List.replicate (d.size-off) 0).toArray
theorem RM(d:Array Int)(off:Nat):(HF d off).size=d.size:=by simp [HF];omega
theorem Zv{a j:Nat}{dd:Array Int}(h:(a:Int)<(j:Int)/\dd[j]! <dd[((j:Int)-1).toNat]!) :
  insInner ltInt a j dd=insInner ltInt a (j-1) ((dd.setIfInBounds j dd[((j:Int)-1).toNat]!).setIfInBounds ((j:Int)-1).toNat dd[j]!):=by
 obtain ⟨h1,h2⟩:=h;cases j with
 | zero=>omega
 | succ j=>
  have e:(((j+1:Nat):Int)-1).toNat=j:=aA
  rw [e] at h2 ⊢
  conv=>lhs;unfold insInner
  rw [if_pos (by unfold ltInt;simp;exact ⟨aA,h2⟩)];rfl
theorem ins_stop{a j:Nat}{dd:Array Int}(h:¬((a:Int)<(j:Int)/\dd[j]! <dd[((j:Int)-1).toNat]!)):insInner ltInt a j dd=dd:=by
 cases j with
 | zero=>rfl
 | succ j=>
  have e:(((j+1:Nat):Int)-1).toNat=j:=aA
  rw [e] at h;unfold insInner;rw [if_neg (by unfold ltInt;simp;intro q;exact Int.not_lt.1 λr=>h ⟨aA,r⟩)]
theorem RN{a b i:Nat}{dd:Array Int}(h:i<b):insOuter ltInt a b i dd=insOuter ltInt a b (i+1) (insInner ltInt a i dd):=by
 conv=>lhs;unfold insOuter
 rw [if_pos h]
theorem TZ{a b i:Nat}{dd:Array Int}(h:¬(i:Int)<b):insOuter ltInt a b i dd=dd:=by
 unfold insOuter;rw [if_neg aA]
def KL(l:List Int):List Int:=(Go.Sort.sort ltInt l.toArray).toList
theorem Id{a r:Int}{k:Nat}(h:k<=63)(e:a / 2 ^ k=r):a.fdiv (2 ^ (min ((k:Int)).toNat IntKind.u64.bits))=r:=by
 have:min ((k:Int)).toNat IntKind.u64.bits=k:=by
  show min ((k:Int)).toNat 64=k;omega
 have hp:(0:Int)<=2 ^ k:=by
  have:=Nat.zero_le (2 ^ k)
  exact_mod_cast this
 rw [this,Int.fdiv_eq_ediv_of_nonneg _ hp,e]
section
variable {P:Program} {E:HB P} {O:Nat->Value} {ds:List Deferred} {h:GH} {T:(Nat->Value)->List Deferred->GH->Prop}
variable {dst:Option Nat} {ty:TypeId} {pos:String} {af:Array Edge} {gd:Option (Nat×Bool)}
end
theorem ZO(l:List Int):Db eI l=l.map (λx=>Value.int .i64 x):=by
 induction l with
 | nil=>rfl
 | cons x l ih=>show (eI x).toList++Db eI l=_;rw [ih];rfl
theorem AI.row{h0 h:GH}{v:Value}{xs:List Int}(x:AI h0 h v 3 1 eI xs)(hne:xs≠[]) :
  ∃b cap rest,v=.slice (some ⟨b,0,none⟩) xs.toArray.size cap/\h b=some (true,.cells (Bl rest xs.toArray) 3 (0,0)):=by
 rcases x with ⟨_,e⟩ | ⟨b,cap,c,rfl,h1,h2,h3,h4,h5,h6,h7⟩
 ·exact absurd e hne
 ·refine ⟨b,cap,c.toList.drop xs.length,aD,?_⟩;have e:c=Bl (c.toList.drop xs.length) xs.toArray:=by
   apply Array.toList_inj.1;unfold Bl;simp only [];rw [<-ZO,<-h6,Nat.mul_one,List.take_append_drop]
  rw [<-e];exact h2
theorem AI.ofRow{h0 h h':GH}{b cap:Nat}{rest:List Value}{xs:List Int}{D:Array Int}(x:AI h0 h (.slice (some ⟨b,0,none⟩) xs.toArray.size cap) 3 1 eI xs)(hne:xs≠[])(hD:D.size=xs.length)(hb:h b=some (true,.cells (Bl rest xs.toArray) 3 (0,0)))(hb':h' b=some (true,.cells (Bl rest D) 3 (0,0))) :
  AI h0 h' (.slice (some ⟨b,0,none⟩) xs.toArray.size cap) 3 1 eI D.toList:=by
 rcases x with ⟨e,_⟩ | ⟨b1,cap1,c,e,h1,h2,h3,h4,h5,h6,h7⟩
 ·cases e
 ·simp only [Value.slice.injEq,Option.some.injEq,Addr.mk.injEq] at e;obtain ⟨⟨rfl,_⟩,_,rfl⟩:=e;rw [hb] at h2;simp only [Option.some.injEq,Prod.mk.injEq,Obj.cells.injEq,true_and,and_true] at h2;subst h2;have hDl:D.toList.length=xs.length:=by rw [Array.length_toList];exact hD
  refine .inr ⟨b,cap,_,by rw [hDl];simp,h1,hb',?_,aA,aA,?_,λy _=>rfl⟩
  ·rw [BQ] at h3 ⊢;rw [hD];simpa using h3
  ·unfold Bl;simp only [Nat.mul_one];rw [ZO,<-List.length_map (f:=λx=>Value.int .i64 x),List.take_append_of_le_length (Nat.le_refl _),List.take_length]
theorem Bq.grownSame{h h':GH}{b cap n:Nat}(k:Bq (λx=>x=b) h h'):EV h h' (.slice (some ⟨b,0,none⟩) n cap) (.slice (some ⟨b,0,none⟩) n cap):=
 ⟨λr o hr hn=>(by
  obtain ⟨o',h1,rfl | ⟨h2,_⟩⟩:=k r o.1 o.2 hr (λe=>hn (by rw [e];rfl))
  ·exact h1
  ·cases h2),.inl rfl⟩
section
variable {P:Program} {E:HB P} {O:Nat->Value} {ds:List Deferred} {h:GH} {T:(Nat->Value)->List Deferred->GH->Prop}
variable {dst:Option Nat} {ty:TypeId} {pos:String} {af:Array Edge} {gd:Option (Nat×Bool)}
theorem Wg{t:TypeId}{x o:Operand}{b len cap hi:Nat}(ht:Eg P t=some 1)(hc:len<=cap)(hx:AQ O x=.slice (some ⟨b,0,none⟩) len cap)(ho:∃kd,AQ O o=.int kd hi)(h2:hi<=len)(k:T (putS O dst (.slice (some ⟨b,0,none⟩) hi cap)) ds h) :
  Bg E ⟨dst,.slice t x none (some o) none,ty,pos,af,gd⟩ O ds h T:=by
 refine Nr (olo:=none) (ohi:=some o) 0 hi ht hc hx rfl ho (Nat.zero_le _) h2 ?_;have e:(if cap=0 then (some ⟨b,0,none⟩:Option Addr) else (some ⟨b,0,none⟩:Option Addr).map (·.add (0*1)))=some ⟨b,0,none⟩:=by
  split
  ·rfl
  ·simp [Je]
 rw [e];exact k
theorem NF{t:TypeId}{x o:Operand}{b len cap lo:Nat}(ht:Eg P t=some 1)(hc:len<=cap)(hx:AQ O x=.slice (some ⟨b,0,none⟩) len cap)(ho:∃kd,AQ O o=.int kd lo)(h2:lo<len)(k:T (putS O dst (.slice (some ⟨b,lo,none⟩) (len-lo) (cap-lo))) ds h) :
  Bg E ⟨dst,.slice t x (some o) none none,ty,pos,af,gd⟩ O ds h T:=by
 refine Nr (olo:=some o) (ohi:=none) lo len ht hc hx ho rfl (Nat.le_of_lt h2) (Nat.le_refl _) ?_;have e:(if cap=lo then (some ⟨b,0,none⟩:Option Addr) else (some ⟨b,0,none⟩:Option Addr).map (·.add (lo*1)))=some ⟨b,lo,none⟩:=by
  rw [if_neg aA];simp [Je]
 rw [e];exact k
theorem Uz{t e:TypeId}{x:Operand}{b off len cap:Nat}{rest:List Value}{d:Array Int}{z:Nat}(ht:EI P t=some (1,#[.int .i64 0],e))(hx:AQ O x=.slice (some ⟨b,off,none⟩) len cap)(hb:h b=some (true,.cells (Bl rest d) z (0,0)))(hn:off+len=d.size)(hl:0<len)
  (k:∀h',h' b=some (true,.cells (Bl rest (HF d off)) z (0,0))->(∀x,x≠b->h' x=h x)->T (putS O dst (.tuple #[])) ds h') :
  Bg E ⟨dst,.call ⟨.builtin .clear,#[x],#[t]⟩,ty,pos,af,gd⟩ O ds h T:=by
 refine Fs (vs:=#[.slice (some ⟨b,off,none⟩) len cap]) (s:=Builtin.clear_ #[t] ty #[.slice (some ⟨b,off,none⟩) len cap]) (by simp [hx]) (λ_=>rfl) ?_;unfold EI at ht;cases hu:P.underlying t with
 | none=>rw [hu] at ht;cases ht
 | some dd=>
 rw [hu] at ht;cases dd <;> first | (cases ht;done) | skip
 rename_i el
 simp only at ht;cases hty:Cj P el with
 | none=>rw [hty] at ht;cases ht
 | some g=>
 cases hz:CS P el with
 | none=>rw [hty,hz] at ht;cases ht
 | some z'=>
 rw [hty,hz] at ht;simp only [Option.some.injEq,Prod.mk.injEq] at ht;obtain ⟨_,rfl,rfl⟩:=ht;unfold Builtin.clear_;simp only [List.getElem?_toArray,List.getElem?_cons_zero];refine AL _ _ (Ap hu ?_);obtain ⟨len,rfl⟩:∃m,len=m+1:=⟨len-1,aA⟩;have hzero:∀{Q:Value->GH->Prop}{h:GH},(∀v,v.cells=#[.int .i64 0]->Q v h)->(zeroValue el).gh P h Q:=λ{Q h} q=>by
  unfold CS at hz;unfold zeroValue;cases hi:P.info? el with
  | none=>rw [hi] at hz;cases hz
  | some i=>
   rw [hi] at hz;simp only [Option.map_eq_some_iff] at hz;obtain ⟨v,hv,e⟩:=hz;refine AL _ _ (DK hi ?_);rw [hv];exact q v e
 refine AL _ _ (hzero λvz hvz=>?_);rw [hvz];have hcells:(Builtin.zeroCells #[.int .i64 0] (len+1)).toList=List.replicate (len+1) (.int .i64 0):=by
  unfold Builtin.zeroCells;apply List.ext_getElem
  ·simp
  ·intro i h1 h2;simp [Nat.mod_one]
 rw [hcells];have hsz:d.size=d.toList.length:=aD
 refine AL _ _ (Gy (a:=⟨b,off,none⟩) rfl _ 0 (Bl rest d) h ?_ hb ?_ ?_)
 ·intro y hy;rw [List.eq_of_mem_replicate hy];rfl
 ·rw [BQ,List.length_replicate];show off+0+(len+1)<=_;omega
 ·refine A6 (k _ ?_ λx hx=>GH.set_ne _ _ _ hx);have e:Bz (Bl rest d) (off+0) (List.replicate (len+1) (.int .i64 0))=Bl rest (HF d off):=by
   apply Array.toList_inj.1;rw [Ew _ _ _ (by rw [BQ,List.length_replicate];omega)];unfold Bl HF;simp only [List.length_replicate,Nat.add_zero,List.map_append,List.map_take,List.map_replicate];have h1:off<=(d.toList.map (λx=>Value.int .i64 x)).length:=by simp;omega
   rw [List.take_append_of_le_length h1,show d.size-off=len+1 by omega];congr 1;rw [show off+(len+1)=(d.toList.map (λx=>Value.int .i64 x)).length by simp;omega,List.drop_left]
  rw [<-e];exact GH.set_same _ _ _ _
end
def Hb(acc:List Int)(x:Int):List Int:=if acc.getLast? =some x then acc else acc++[x]
def Ds(l:List Int):List Int:=l.foldl Hb []
theorem Px(acc:List Int)(x:Int):(Hb acc x).getLast? =some x:=by
 unfold Hb;split
 ·assumption
 ·simp
theorem ID{d:Array Int}{j:Nat}(hj:j<d.size):Ds (d.toList.take (j+1))=Hb (Ds (d.toList.take j)) d[j]! :=by
 have e:d.toList.take (j+1)=d.toList.take j++[d[j]!]:=by
  rw [List.take_succ_eq_append_getElem (by simpa using hj)];simp [getElem!_pos,hj]
 rw [e];unfold Ds;rw [List.foldl_append];rfl
theorem Wh{d:Array Int}{j:Nat}(hj:j<d.size):(Ds (d.toList.take (j+1))).getLast? =some d[j]! :=by
 rw [ID hj];exact Px _ _
theorem Nx{rest:List Value}{d:Array Int}{o i:Nat}(h:o+i<d.size):(Bl rest d)[o+i*1]? =some (.int .i64 d[o+i]!):=by
 have:=Aq (rest:=rest) h
 rw [Nat.zero_add,Nat.mul_one] at this;rw [Nat.mul_one];exact this
theorem Ll{d:Array Int}{j:Nat}(hj:j<d.size):d.toList.take (j+1)=d.toList.take j++[d[j]!]:=by
 rw [List.take_succ_eq_append_getElem (by simpa using hj)];simp [getElem!_pos,hj]
theorem Jw{d:Array Int}{j:Nat}(h1:1<=j)(hj:j<=d.size):(Ds (d.toList.take j)).getLast? =some d[j-1]! :=by
 obtain ⟨i,rfl⟩:∃i,j=i+1:=⟨j-1,aA⟩;exact Wh aA
theorem Ta{d:Array Int}{k:Nat}(h1:1<=k)(hk:k<d.size)(h:¬d[k]! =d[((k:Int)-1).toNat]!)(hs:Ds (d.toList.take k)=d.toList.take k):Ds (d.toList.take (k+1))=d.toList.take (k+1):=by
 rw [ID hk,Ll hk];unfold Hb;rw [Jw h1 aA,if_neg (by rw [show ((k:Int)-1).toNat=k-1 by omega] at h;simpa using λe=>h e.symm),hs]
theorem Tb{d:Array Int}{k:Nat}(h1:1<=k)(hk:k<d.size)(h:d[k]! =d[((k:Int)-1).toNat]!)(hs:Ds (d.toList.take k)=d.toList.take k):d.toList.take k=Ds (d.toList.take (k+1)):=by
 rw [ID hk];unfold Hb;rw [Jw h1 aA,if_pos (by rw [show ((k:Int)-1).toNat=k-1 by omega] at h;rw [h]),hs]
theorem Wi{d dd:Array Int}{k q kk:Nat}(hq:1<=q/\k+q<d.size)(hkk:k<=kk/\kk+1<=k+q)(hsz:dd.size=d.size)(hd:∀j,kk<=j->dd[j]! =d[j]!)(hdd:dd.toList.take kk=Ds (d.toList.take (k+q)))(h:¬dd[k+q]! =dd[k+((q:Int)-1).toNat]!) :
  (dd.setIfInBounds kk dd[k+q]!).toList.take (kk+1)=Ds (d.toList.take (k+(q+1))):=by
 have e1:((q:Int)-1).toNat=q-1:=aA
 rw [e1,hd _ aA,hd _ aA] at h;rw [show k+(q+1)=(k+q)+1 by omega,ID hq.2];unfold Hb;rw [Jw aA aA,if_neg (by rw [show k+q-1=k+(q-1) by omega];simpa using λe=>h e.symm),<-hdd,hd _ aA,Array.toList_setIfInBounds];rw [List.take_succ_eq_append_getElem (by simp;omega),List.take_set_of_le aA];simp
theorem Wj{d dd:Array Int}{k q kk:Nat}(hq:1<=q/\k+q<d.size)(hkk:k<=kk/\kk+1<=k+q)(hd:∀j,kk<=j->dd[j]! =d[j]!)(hdd:dd.toList.take kk=Ds (d.toList.take (k+q)))(h:dd[k+q]! =dd[k+((q:Int)-1).toNat]!) :
  dd.toList.take kk=Ds (d.toList.take (k+(q+1))):=by
 have e1:((q:Int)-1).toNat=q-1:=aA
 rw [e1,hd _ aA,hd _ aA] at h;rw [show k+(q+1)=(k+q)+1 by omega,ID hq.2];unfold Hb;rw [Jw aA aA,if_pos (by rw [show k+q-1=k+(q-1) by omega,h]),hdd]
theorem Zw{d dd:Array Int}{kk:Nat}{x:Int}(hd:∀j,kk<=j->dd[j]! =d[j]!):∀j,kk+1<=j->(dd.setIfInBounds kk x)[j]! =d[j]! :=λj hj=>by
 rw [<-hd j aA];simp only [getElem!_def,Array.getElem?_setIfInBounds_ne (show kk≠j by omega)]
theorem RO{d:Array Int}{k:Nat}(h:k<=d.size):(HF d k).toList.take k=d.toList.take k:=by
 unfold HF;simp only [];rw [List.take_append_of_le_length (by simp;omega),List.take_take];simp
theorem U0{d:Array Int}(h:2<=d.size):Ds (d.toList.take 1)=d.toList.take 1:=by
 have e:=Ll (d:=d) (j:=0) aA;rw [Nat.zero_add] at e;rw [e];rfl
theorem U1{d:Array Int}{k:Nat}(hs:Ds (d.toList.take k)=d.toList.take k)(h1:k<=d.size)(h2:d.size<=k):d.toList.take d.size=Ds d.toList:=by
 rw [show k=d.toList.length by simp;omega,List.take_length] at hs;rw [hs,<-Array.length_toList,List.take_length]
theorem U2{d:Array Int}(h:d.size<2):d.toList.take d.size=Ds d.toList:=by
 rw [<-Array.length_toList,List.take_length]
 have:d.toList.length<2:=by simpa using h
 match hd:d.toList,this with
 | [],_=>rfl
 | [x],_=>rfl
 | _ ::_ ::_,h=>simp at h;omega
theorem Kc(l:List Int):KL l=l.mergeSort (λx y=>decide (x<=y)):=sortInt l
theorem Jx(l:List Int):(KL l).length=l.length:=by rw [Kc,List.length_mergeSort]
theorem U3{l:List Int}(h:l≠[]):KL l≠[]:=λe=>by
 have:=congrArg List.length e
 rw [Jx] at this;exact h (List.length_eq_zero_iff.1 this)
end Go.Ns
namespace Go.Ns
open Go.Conc Go.Sort
theorem Ny:SWO ltInt:=⟨λx=>by unfold ltInt;simp,λx y z=>by unfold ltInt;simp;omega,λx y z=>by unfold ltInt;simp;omega⟩
theorem U4{d dd:Array Int}{a b i j:Nat}(h:PermIn a b d dd)(hi:a<=i/\i<b)(hj:a<=j/\j<b)(hb:b<=d.size):PermIn a b d ((dd.setIfInBounds i dd[j]!).setIfInBounds j dd[i]!):=
 permIn_trans _ _ _ a b h (swp_permIn dd a b i j hi.1 hi.2 hj.1 hj.2 (by rw [h.1];exact hb))
theorem sift_end{hi first root:Nat}{dd:Array Int}(h:hi<=2*root+1):siftDown ltInt hi first root dd=dd:=by
 unfold siftDown;rw [dif_pos h]
theorem sift_r{hi first root:Nat}{dd:Array Int}(h:¬hi<=2*root+1)(h1:2*root+1+1<hi)(h1':dd[first+(2*root+1)]! <dd[first+(2*root+1)+1]!)(h2:dd[first+root]! <dd[first+(2*root+1+1)]!) :
  siftDown ltInt hi first root dd=siftDown ltInt hi first (2*root+1+1) (swp dd (first+root) (first+(2*root+1+1))):=by
 have h2':dd[first+root]! <dd[first+(2*root+2)]! :=h2
 conv=>lhs;unfold siftDown
 rw [dif_neg h,if_pos (by unfold ltInt;simpa using ⟨h1,h1'⟩),if_neg (by unfold ltInt;simpa using h2'),dif_pos aA]
theorem sift_r0{hi first root:Nat}{dd:Array Int}(h:¬hi<=2*root+1)(h1:2*root+1+1<hi)(h1':dd[first+(2*root+1)]! <dd[first+(2*root+1)+1]!)(h2:¬dd[first+root]! <dd[first+(2*root+1+1)]!) :
  siftDown ltInt hi first root dd=dd:=by
 have h2':¬dd[first+root]! <dd[first+(2*root+2)]! :=h2;unfold siftDown;rw [dif_neg h,if_pos (by unfold ltInt;simpa using ⟨h1,h1'⟩),if_pos (by unfold ltInt;simpa using h2')]
theorem sift_l{hi first root:Nat}{dd:Array Int}(h:¬hi<=2*root+1)(h1:¬(2*root+1+1<hi/\dd[first+(2*root+1)]! <dd[first+(2*root+1)+1]!))(h2:dd[first+root]! <dd[first+(2*root+1)]!) :
  siftDown ltInt hi first root dd=siftDown ltInt hi first (2*root+1) (swp dd (first+root) (first+(2*root+1))):=by
 conv=>lhs;unfold siftDown
 rw [dif_neg h,if_neg (by unfold ltInt;simpa using h1),if_neg (by unfold ltInt;simpa using h2)]
theorem sift_l0{hi first root:Nat}{dd:Array Int}(h:¬hi<=2*root+1)(h1:¬(2*root+1+1<hi/\dd[first+(2*root+1)]! <dd[first+(2*root+1)+1]!))(h2:¬dd[first+root]! <dd[first+(2*root+1)]!) :
  siftDown ltInt hi first root dd=dd:=by
 unfold siftDown;rw [dif_neg h,if_neg (by unfold ltInt;simpa using h1),if_pos (by unfold ltInt;simpa using h2)]
theorem Nz(hi first root:Nat)(d:Array Int):(siftDown ltInt hi first root d).size=d.size:=by
 fun_induction siftDown ltInt hi first root d <;> simp_all [swp]
theorem Wl{z a k:Nat}{dd:Array Int}(hk:(0:Int)<=(k:Int)-1):heapBuild ltInt (z-a) a k dd=heapBuild ltInt (z-a) a (k-1) (siftDown ltInt ((z:Int)-(a:Int)).toNat a ((k:Int)-1).toNat dd):=by
 obtain ⟨q,rfl⟩:∃q,k=q+1:=⟨k-1,aA⟩;rw [show ((z:Int)-(a:Int)).toNat=z-a by omega,show (((q+1:Nat):Int)-1).toNat=q by omega];rfl
theorem Zx{z a k:Nat}{dd:Array Int}(hk:¬(0:Int)<=(k:Int)-1):heapBuild ltInt (z-a) a k dd=dd:=by
 obtain rfl:k=0:=aA
 rfl
theorem Wm{a k:Nat}{dd:Array Int}(hk:(0:Int)<=(k:Int)-1):heapPop ltInt a k dd=heapPop ltInt a (k-1) (siftDown ltInt ((k:Int)-1).toNat a (0:Int).toNat ((dd.setIfInBounds a dd[((a:Int)+((k:Int)-1)).toNat]!).setIfInBounds ((a:Int)+((k:Int)-1)).toNat dd[a]!)):=by
 obtain ⟨q,rfl⟩:∃q,k=q+1:=⟨k-1,aA⟩;rw [show ((a:Int)+(((q+1:Nat):Int)-1)).toNat=a+q by omega,show (((q+1:Nat):Int)-1).toNat=q by omega];rfl
theorem Zy{a k:Nat}{dd:Array Int}(hk:¬(0:Int)<=(k:Int)-1):heapPop ltInt a k dd=dd:=by
 obtain rfl:k=0:=aA
 rfl
theorem Ez{P:Program}{W:Wk P}{f:FuncId}{b cap m n:Nat}{as:List Value}{h:GH}{R:Value->GH->Prop}(e:m=n)(x:AY W f (Value.slice (some ⟨b,0,none⟩) m cap ::as).toArray h R):AY W f (Value.slice (some ⟨b,0,none⟩) n cap ::as).toArray h R:=e▸x
def Wn(dd:Array Int)(a j i:Nat):Nat:=scanUp (λx=>ltInt x dd[a]!) dd j i
def Zz(dd:Array Int)(a i j:Nat):Nat:=scanDown (λx=> !ltInt x dd[a]!) dd i j
def upE(dd:Array Int)(a j i:Nat):Nat:=scanUp (λx=> !ltInt dd[a]! x) dd j i
def dnE(dd:Array Int)(a i j:Nat):Nat:=scanDown (λx=>ltInt dd[a]! x) dd i j
theorem R5{p:Int->Bool}{dd:Array Int}{j i:Nat}(h1:i<=j)(h2:p dd[i]! =true):scanUp p dd j i=scanUp p dd j (i+1):=by
 conv=>lhs;unfold scanUp
 rw [if_pos (by simp [h1,h2])]
theorem P0{p:Int->Bool}{dd:Array Int}{j i:Nat}(h:¬(i<=j/\p dd[i]! =true)):scanUp p dd j i=i:=by
 unfold scanUp;rw [if_neg (by simpa using h)]
theorem OX{p:Int->Bool}{dd:Array Int}{i j:Nat}(hi:1<=i)(h1:i<=j)(h2:p dd[j]! =true):scanDown p dd i j=scanDown p dd i (j-1):=by
 obtain ⟨q,rfl⟩:∃q,j=q+1:=⟨j-1,aA⟩
 conv=>lhs;unfold scanDown
 rw [if_pos (by simp [h1,h2])];rfl
theorem NG{p:Int->Bool}{dd:Array Int}{i j:Nat}(h:¬(i<=j/\p dd[j]! =true)):scanDown p dd i j=j:=by
 cases j with
 | zero=>rfl
 | succ q=>unfold scanDown;rw [if_neg (by simpa using h)]
section
variable {d dd:Array Int} {a z p i j i0 j0:Nat}
theorem U5{J:Int}(h:(i:Int)<=J/\dd[i]! <dd[a]!)(hJ:J=(j:Int)):Wn dd a j i=Wn dd a j (i+1):=R5 aA (decide_eq_true h.2)
theorem ZP{J:Int}(h:¬((i:Int)<=J/\dd[i]! <dd[a]!))(hJ:J=(j:Int)):Wn dd a j i=i:=P0 λq=>h ⟨aA,of_decide_eq_true q.2⟩
theorem U6(hi:1<=i)(h:(i:Int)<=(j:Int)/\¬dd[j]! <dd[a]!):Zz dd a i j=Zz dd a i (j-1):=OX hi aA (by unfold ltInt;simpa using h.2)
theorem O4(h:¬((i:Int)<=(j:Int)/\¬dd[j]! <dd[a]!)):Zz dd a i j=j:=NG λq=>h ⟨aA,by have:=q.2;unfold ltInt at this;simpa using this⟩
theorem upE_next{J:Int}(h:(i:Int)<=J/\¬dd[a]! <dd[i]!)(hJ:J=(j:Int)):upE dd a j i=upE dd a j (i+1):=R5 aA (by unfold ltInt;simpa using h.2)
theorem upE_end{J:Int}(h:¬((i:Int)<=J/\¬dd[a]! <dd[i]!))(hJ:J=(j:Int)):upE dd a j i=i:=P0 λq=>h ⟨aA,by have:=q.2;unfold ltInt at this;simpa using this⟩
theorem dnE_next(hi:1<=i)(h:(i:Int)<=(j:Int)/\dd[a]! <dd[j]!):dnE dd a i j=dnE dd a i (j-1):=OX hi aA (decide_eq_true h.2)
theorem ZQ(h:¬((i:Int)<=(j:Int)/\dd[a]! <dd[j]!)):dnE dd a i j=j:=NG λq=>h ⟨aA,of_decide_eq_true q.2⟩
theorem R6(hu:Wn dd a j0 i=Wn dd a j0 i0)(hue:Wn dd a j0 i=i)(hv:Zz dd a i j=Zz dd a i j0)(hve:Zz dd a i j=j)(h:j<i):partLoop ltInt a i0 j0 dd=(j,dd):=by
 have e1:scanUp (λx=>ltInt x dd[a]!) dd j0 i0=i:=by rw [<-hue,hu];rfl
 have e2:scanDown (λx=> !ltInt x dd[a]!) dd i j0=j:=by rw [<-hve,hv];rfl
 rw [partLoop_eq,e1,e2,if_pos h]
theorem U7(hu:Wn dd a j0 i=Wn dd a j0 i0)(hue:Wn dd a j0 i=i)(hv:Zz dd a i j=Zz dd a i j0)(hve:Zz dd a i j=j)(h:¬j<i):partLoop ltInt a i0 j0 dd=partLoop ltInt a (i+1) (j-1) (swp dd i j):=by
 have e1:scanUp (λx=>ltInt x dd[a]!) dd j0 i0=i:=by rw [<-hue,hu];rfl
 have e2:scanDown (λx=> !ltInt x dd[a]!) dd i j0=j:=by rw [<-hve,hv];rfl
 rw [partLoop_eq,e1,e2,if_neg h]
theorem Z0(hu:upE dd a j0 i=upE dd a j0 i0)(hue:upE dd a j0 i=i)(hv:dnE dd a i j=dnE dd a i j0)(hve:dnE dd a i j=j)(h:j<i):partEqLoop ltInt a i0 j0 dd=(i,dd):=by
 have e1:scanUp (λx=> !ltInt dd[a]! x) dd j0 i0=i:=by rw [<-hue,hu];rfl
 have e2:scanDown (λx=>ltInt dd[a]! x) dd i j0=j:=by rw [<-hve,hv];rfl
 rw [partEqLoop_eq,e1,e2,if_pos h]
theorem partE_on(hu:upE dd a j0 i=upE dd a j0 i0)(hue:upE dd a j0 i=i)(hv:dnE dd a i j=dnE dd a i j0)(hve:dnE dd a i j=j)(h:¬j<i):partEqLoop ltInt a i0 j0 dd=partEqLoop ltInt a (i+1) (j-1) (swp dd i j):=by
 have e1:scanUp (λx=> !ltInt dd[a]! x) dd j0 i0=i:=by rw [<-hue,hu];rfl
 have e2:scanDown (λx=>ltInt dd[a]! x) dd i j0=j:=by rw [<-hve,hv];rfl
 rw [partEqLoop_eq,e1,e2,if_neg h]
theorem U8(h:partLoop ltInt a (a+1) (z-1) (swp d a p)=(j,dd)):∃q,partition ltInt d a z p=(j,q,swp dd j a):=by
 have h1:=partition_fst ltInt d a z p;have h2:=partition_arr ltInt d a z p;rw [h] at h1 h2;exact ⟨(partition ltInt d a z p).2.1,Prod.ext h1 (Prod.ext rfl h2)⟩
theorem Z1(h:partEqLoop ltInt a (a+1) (z-1) (swp d a p)=(i,dd)):partitionEqual ltInt d a z p=(i,dd):=h
theorem ijL{J:Int}{c:Int}(h1:¬((i:Int)<=J/\dd[i]! <c))(hJ:(j:Int)<=J)(h2:¬((i:Int)<=(j:Int)/\¬dd[j]! <c))(h:¬(j:Int)<(i:Int)):i<j:=by
 by_cases e:i=j
 ·subst e;exact absurd (Decidable.not_not.1 λq=>h2 ⟨aA,q⟩) λq=>h1 ⟨hJ,q⟩
 ·omega
theorem ijE{J:Int}{c:Int}(h1:¬((i:Int)<=J/\¬c<dd[i]!))(hJ:(j:Int)<=J)(h2:¬((i:Int)<=(j:Int)/\c<dd[j]!))(h:¬(j:Int)<(i:Int)):i<j:=by
 by_cases e:i=j
 ·subst e;exact absurd (show¬c<dd[i]! from λq=>h2 ⟨aA,q⟩) λq=>h1 ⟨hJ,q⟩
 ·omega
variable {de df:Array Int} {s i2:Nat} {J:Int}
theorem Wo(h:(i:Int)<(z:Int)/\¬dd[i]! <dd[((i:Int)-1).toNat]!):scanSorted ltInt dd z i=scanSorted ltInt dd z (i+1):=by
 rw [show ((i:Int)-1).toNat=i-1 by omega] at h
 conv=>lhs;unfold scanSorted
 rw [if_pos (by unfold ltInt;simp only [Bool.and_eq_true,decide_eq_true_eq,Bool.not_eq_true',decide_eq_false_iff_not];exact ⟨aA,h.2⟩)]
theorem JD(h:¬((i:Int)<(z:Int)/\¬dd[i]! <dd[((i:Int)-1).toNat]!)):scanSorted ltInt dd z i=i:=by
 rw [show ((i:Int)-1).toNat=i-1 by omega] at h;unfold scanSorted;rw [if_neg (by unfold ltInt;simp only [Bool.and_eq_true,decide_eq_true_eq,Bool.not_eq_true',decide_eq_false_iff_not];exact λq=>h ⟨aA,q.2⟩)]
theorem Tc(hj:1<=j)(h:dd[j]! <dd[((j:Int)-1).toNat]!):shiftDown ltInt j dd=shiftDown ltInt (j-1) ((dd.setIfInBounds j dd[((j:Int)-1).toNat]!).setIfInBounds ((j:Int)-1).toNat dd[j]!):=by
 obtain ⟨q,rfl⟩:∃q,j=q+1:=⟨j-1,aA⟩;rw [show (((q+1:Nat):Int)-1).toNat=q by omega] at h ⊢
 conv=>lhs;unfold shiftDown
 rw [if_neg (by unfold ltInt;simpa using h)];rfl
theorem OY(h:¬(1:Int)<=(j:Int)\/¬dd[j]! <dd[((j:Int)-1).toNat]!):shiftDown ltInt j dd=dd:=by
 cases j with
 | zero=>rfl
 | succ q=>
  rw [show (((q+1:Nat):Int)-1).toNat=q by omega] at h;unfold shiftDown;rw [if_pos (by unfold ltInt;simp only [Bool.not_eq_true',decide_eq_false_iff_not];rcases h with h | h;omega;exact h)]
theorem Td(hj:(j:Int)<(z:Int))(h1:1<=j)(h:dd[j]! <dd[((j:Int)-1).toNat]!):shiftUp ltInt z j dd=shiftUp ltInt z (j+1) ((dd.setIfInBounds j dd[((j:Int)-1).toNat]!).setIfInBounds ((j:Int)-1).toNat dd[j]!):=by
 rw [show ((j:Int)-1).toNat=j-1 by omega] at h ⊢
 conv=>lhs;unfold shiftUp
 rw [if_pos aA,if_neg (by unfold ltInt;simpa using h)];rfl
theorem OZ(h:¬(j:Int)<(z:Int)\/¬dd[j]! <dd[((j:Int)-1).toNat]!):shiftUp ltInt z j dd=dd:=by
 by_cases hj:j<z
 ·rw [show ((j:Int)-1).toNat=j-1 by omega] at h;unfold shiftUp;rw [if_pos hj,if_pos (by unfold ltInt;simp only [Bool.not_eq_true',decide_eq_false_iff_not];rcases h with h | h;omega;exact h)]
 ·unfold shiftUp;rw [if_neg hj]
theorem Z2(he:scanSorted ltInt dd z i=i2)(h:i2=z):partialIns ltInt a z (s+1) i dd=(dd,true):=by
 rw [partialIns_succ,he,if_pos h]
theorem Wp(he:scanSorted ltInt dd z i=i2)(h:¬i2=z)(h2:z-a<50):partialIns ltInt a z (s+1) i dd=(dd,false):=by
 rw [partialIns_succ,he,if_neg h,if_pos h2]
theorem N0(he:scanSorted ltInt dd z i=i2)(h:¬i2=z)(h2:¬z-a<50)(hd:de=if i2-a>=2 then shiftDown ltInt (i2-1) (swp dd i2 (i2-1)) else swp dd i2 (i2-1))(hf:df=if z-i2>=2 then shiftUp ltInt z (i2+1) de else de) :
  partialIns ltInt a z (s+1) i dd=partialIns ltInt a z s i2 df:=by
 rw [partialIns_succ,he,if_neg h,if_neg h2,hf,hd];rfl
end
section
variable {P:Program} {E:HB P} {O:Nat->Value} {ds:List Deferred} {h:GH} {T:(Nat->Value)->List Deferred->GH->Prop} {dst:Option Nat} {ty:TypeId} {pos:String} {af:Array Edge} {gd:Option (Nat×Bool)} {xt yt:TypeId} {x y:Operand} {a b:Int}
def LY(a b:Int):Int:=IntKind.u64.wrap ((BitVec.ofInt 64 a ^^^ BitVec.ofInt 64 b).toNat)
def P1(a b:Int):Int:=IntKind.u64.wrap ((BitVec.ofInt 64 a &&& BitVec.ofInt 64 b).toNat)
def Fh(a b:Int):Int:=IntKind.u64.wrap (a*2 ^ (min b.toNat IntKind.u64.bits))
theorem Te(hx:AQ O x=.int .u64 a)(hy:AQ O y=.int .u64 b)(k:T (putS O dst (.int .u64 (LY a b))) ds h):Bg E ⟨dst,.binOp .xor xt x y yt,ty,pos,af,gd⟩ O ds h T:=Fr hx hy rfl k
theorem ok_andU(hx:AQ O x=.int .u64 a)(hy:AQ O y=.int .u64 b)(k:T (putS O dst (.int .u64 (P1 a b))) ds h):Bg E ⟨dst,.binOp .and xt x y yt,ty,pos,af,gd⟩ O ds h T:=Fr hx hy rfl k
theorem Tf{ke:IntKind}(hx:AQ O x=.int .u64 a)(hy:AQ O y=.int ke b)(h0:0<=b)(k:T (putS O dst (.int .u64 (Fh a b))) ds h):Bg E ⟨dst,.binOp .shl xt x y yt,ty,pos,af,gd⟩ O ds h T:=WW hx hy h0 rfl k
theorem ok_subU(hx:AQ O x=.int .u64 a)(hy:AQ O y=.int .u64 b)(hr:0<=a-b/\a-b<=18446744073709551615)(k:T (putS O dst (.int .u64 (a-b))) ds h):Bg E ⟨dst,.binOp .sub xt x y yt,ty,pos,af,gd⟩ O ds h T:=Fr hx hy (by
 show (pure (Value.int .u64 (IntKind.u64.wrap (a-b))):Sem Value)=_;rw [IntWalk.u64_in _ aA]) k
theorem Wq(hb:0<=b/\b<=9223372036854775807):0<=P1 a b/\P1 a b<=b:=by
 unfold P1;obtain ⟨n,rfl⟩:=Int.eq_ofNat_of_zero_le hb.1;have e1:(BitVec.ofInt 64 (n:Int)).toNat=n:=by rw [BitVec.toNat_ofInt];omega
 have e2:(BitVec.ofInt 64 a &&& BitVec.ofInt 64 (n:Int)).toNat<=n:=by rw [BitVec.toNat_and,e1];exact Nat.and_le_right
 rw [IntWalk.u64_in _ aA];omega
theorem shlU_one{k:Nat}(h:k<=60):Fh 1 (k:Int)=2 ^ k:=by
 unfold Fh
 have:min ((k:Int)).toNat IntKind.u64.bits=k:=by show min ((k:Int)).toNat 64=k;omega
 rw [this,Int.one_mul];have h1:(2:Int) ^ k<=2 ^ 60:=by
  have:=Nat.pow_le_pow_right (show 0<2 by decide) h
  exact_mod_cast this
 have h2:(0:Int)<=2 ^ k:=by
  have:=Nat.zero_le (2 ^ k)
  exact_mod_cast this
 rw [IntWalk.u64_in _ (by have:(2:Int) ^ 60=1152921504606846976:=rfl;omega)]
def tabOK(s:ByteArray):Bool:=s.size==256 && (List.range 256).all λi=>(s.get! i).toNat==bitsLen i
theorem F2{t:TypeId}{x ix:Operand}{s:ByteArray}{kd:IntKind}{i:Int}(ht:PO P t=true)(hx:AQ O x=.string s)(hi:AQ O ix=.int kd i)(h0:0<=i)(h1:i<((256:Nat):Int))(hs:tabOK s=true)
  (k:T (putS O dst (.int .u8 (bitsLen i.toNat:Int))) ds h):Bg E ⟨dst,.index t x ix,ty,pos,af,gd⟩ O ds h T:=by
 unfold tabOK at hs;rw [Bool.and_eq_true,List.all_eq_true] at hs;have hz:s.size=256:=by simpa using hs.1
 have e:=hs.2 i.toNat (List.mem_range.2 aA);refine Rq ht hx hi h0 aA ?_;have e2:(s[i.toNat]' aA).toNat=bitsLen i.toNat:=by
  rw [<-(show (s.get! i.toNat).toNat=bitsLen i.toNat by simpa using e)];have hlt:i.toNat<s.size:=aA
  congr 1;show s.data[i.toNat]=s.data[i.toNat]!;rw [getElem!_pos s.data i.toNat hlt]
 rw [e2];exact k
theorem Oa{n k:Nat}(h:2 ^ k<=n):bitsLen n=k+bitsLen (n / 2 ^ k):=by
 have hp:0<2 ^ k:=Nat.two_pow_pos k;have h1:∀j,bitsLen n<=j↔k+bitsLen (n / 2 ^ k)<=j:=λj=>by
  rw [bitsLen_le_iff];constructor
  ·intro q;have hkj:k<j:=(Nat.pow_lt_pow_iff_right (aC:1<2)).1 (Nat.lt_of_le_of_lt h q)
   have:=(bitsLen_le_iff (n / 2 ^ k) (j-k)).2 ((Nat.div_lt_iff_lt_mul hp).2 (by rw [<-Nat.pow_add,show j-k+k=j by omega];exact q))
   omega
  ·intro q;have h2:=(bitsLen_le_iff (n / 2 ^ k) (j-k)).1 aA;have h3:=(Nat.div_lt_iff_lt_mul hp).1 h2;rw [<-Nat.pow_add,show j-k+k=j by omega] at h3;exact h3
 have a1:=(h1 (bitsLen n)).1 (Nat.le_refl _);have a2:=(h1 (k+bitsLen (n / 2 ^ k))).2 (Nat.le_refl _);omega
theorem U9{n:Int}(h:65536<=n):(bitsLen n.toNat:Int)=16+bitsLen (n / 65536).toNat:=by
 rw [Oa (n:=n.toNat) (k:=16) aA,show (n / 65536).toNat=n.toNat / 2 ^ 16 by omega];omega
theorem WL{n:Int}(h:256<=n):(bitsLen n.toNat:Int)=8+bitsLen (n / 256).toNat:=by
 rw [Oa (n:=n.toNat) (k:=8) aA,show (n / 256).toNat=n.toNat / 2 ^ 8 by omega];omega
theorem ER{n:Nat}(h:n<4294967296):bitsLen n<=32:=(bitsLen_le_iff n 32).2 h
end
section
variable {d dd D D' R:Array Int} {a z a0 z0 p mid:Nat} {ap:Bool}
def GL(a0 z0:Nat)(d:Array Int)(a z:Nat)(dd:Array Int):Prop:=a<=z/\z<=dd.size/\dd.size=d.size/\Below ltInt a z dd/\∀R,PermIn a z dd R->SortedIn ltInt a z R->PermIn a0 z0 d R/\SortedIn ltInt a0 z0 R
theorem GL.start(h:a<=z)(hz:z<=d.size)(hB:Below ltInt a z d):GL a z d a z d:=⟨h,hz,rfl,hB,λ_ x y=>⟨x,y⟩⟩
theorem GL.perm(r:GL a0 z0 d a z dd)(x:PermIn a z dd D):GL a0 z0 d a z D:=
 ⟨r.1,by rw [x.1];exact r.2.1,x.1.trans r.2.2.1,r.2.2.2.1.perm r.2.1 x,λR y s=>r.2.2.2.2 R (permIn_trans _ _ _ a z x y) s⟩
theorem GL.done(r:GL a0 z0 d a z dd)(x:PermIn a z dd D)(s:SortedIn ltInt a z D):PermIn a0 z0 d D/\SortedIn ltInt a0 z0 D:=r.2.2.2.2 D x s
theorem GL.ins(r:GL a0 z0 d a z dd):PermIn a0 z0 d (insertionSort ltInt dd a z)/\SortedIn ltInt a0 z0 (insertionSort ltInt dd a z):=
 let x:=insertionSort_holds (lt:=ltInt) Ny dd a z r.1 r.2.1
 r.done x.1 x.2
theorem GL.heap(r:GL a0 z0 d a z dd):PermIn a0 z0 d (heapSort ltInt dd a z)/\SortedIn ltInt a0 z0 (heapSort ltInt dd a z):=
 let x:=heapSort_holds (lt:=ltInt) Ny dd a z r.1 r.2.1
 r.done x.1 x.2
theorem GL.pins(r:GL a0 z0 d a z dd)(h:a<z){fl:Bool}(e:partialInsertionSort ltInt dd a z=(D,fl)):GL a0 z0 d a z D/\(fl=true->PermIn a0 z0 d D/\SortedIn ltInt a0 z0 D):=by
 have x:=partialInsertionSort_holds (lt:=ltInt) Ny dd a z h r.2.1 r.2.2.2.1;rw [e] at x;exact ⟨r.perm x.1,λq=>r.done x.1 (x.2 q)⟩
theorem GL.eq(r:GL a0 z0 d a z dd)(h0:0<a)(hp:a<=p/\p<z)(hl:¬dd[a-1]! <dd[p]!)(e:partitionEqual ltInt dd a z p=(mid,D)):a<mid/\mid<=z/\GL a0 z0 d mid z D:=by
 obtain ⟨h1,h2,h3,h4,h5⟩:=round_eq Ny (partitionEqual_holds ltInt) h0 hp.1 hp.2 r.2.1 r.2.2.2.1 (decide_eq_false hl) e;exact ⟨h1,h2,h2,by rw [h3];exact r.2.1,h3.trans r.2.2.1,h4,λR x s=>let y:=h5 R x s;r.2.2.2.2 R y.1 y.2⟩
theorem GL.eq'(r:GL a0 z0 d a z dd)(h0:0<a)(hp:a<=p/\p<z)(hl:¬dd[((a:Int)-1).toNat]! <dd[p]!)(e:partitionEqual ltInt dd a z p=(mid,D)):a<mid/\mid<=z/\GL a0 z0 d mid z D:=
 r.eq h0 hp (by rw [show ((a:Int)-1).toNat=a-1 by omega] at hl;exact hl) e
theorem GL.part(r:GL a0 z0 d a z dd)(hp:a<=p/\p<z)(e:∃q,partition ltInt dd a z p=(mid,q,D)):a<=mid/\mid<z/\D.size=d.size/\z<=D.size/\Below ltInt a mid D/\Below ltInt (mid+1) z D/\
  (∀L,PermIn a mid D L->SortedIn ltInt a mid L->GL a0 z0 d (mid+1) z L)/\(∀L,PermIn (mid+1) z D L->SortedIn ltInt (mid+1) z L->GL a0 z0 d a mid L):=by
 obtain ⟨q,e⟩:=e;obtain ⟨h1,h2,h3,h4,h5,h6,h7⟩:=round_part Ny (partition_holds ltInt) hp.1 hp.2 r.2.1 r.2.2.2.1 e;have hz:=r.2.1;refine ⟨h1,h2,h3.trans r.2.2.1,aA,h4,h5,λL x s=>?_,λL x s=>?_⟩
 ·obtain ⟨y1,y2⟩:=h6 L x s
  have:=x.1
  exact ⟨aA,aA,by rw [x.1,h3];exact r.2.2.1,y1,λR x2 s2=>let y:=y2 R x2 s2;r.2.2.2.2 R y.1 y.2⟩
 ·obtain ⟨y1,y2⟩:=h7 L x s
  have:=x.1
  exact ⟨h1,aA,by rw [x.1,h3];exact r.2.2.1,y1,λR x2 s2=>let y:=y2 R x2 s2;r.2.2.2.2 R y.1 y.2⟩
theorem Wr{D:Array Int}{xs:List Int}(x:PermIn 0 xs.length xs.toArray D)(s:SortedIn ltInt 0 xs.length D):D=(KL xs).toArray:=by
 have y:=sorted_unique_holds (lt:=ltInt) Ny (λx y h1 h2=>by simp only [ltInt,decide_eq_false_iff_not] at h1 h2;omega) xs.toArray D (by simpa using x) (by simpa using s);rw [Kc];apply Array.toList_inj.1;rw [y];congr 1;funext a b;unfold ltInt;simp only [Bool.not_eq_eq_eq_not];by_cases h:a<=b
 ·simp [h]
 ·simp [h];omega
theorem VA{D d:Array Int}(x:PermIn 0 d.size d D/\SortedIn ltInt 0 d.size D):D=(KL d.toList).toArray:=
 Wr (xs:=d.toList) (by simpa using x.1) (by simpa using x.2)
end
end Go.Ns
namespace Go.Ns
open Go.Conc
theorem Jy{ag:AV->Bool}{ms:List AA}{mo:Int}(hf:∀k,0<=(ms.getD k AA.z).low/\(ms.getD k AA.z).high<=99):∀f i p,B0 p->∀q ∈ Au ag ms mo f i p,B0 q
 | 0,_,p,hp,q,hq=>by
  unfold Au at hq;split at hq
  ·rw [List.mem_singleton] at hq;subst hq;exact hp
  ·cases hq
 | f+1,i,p,hp,q,hq=>by
  rw [Cq,List.mem_flatMap] at hq;obtain ⟨n,hn,hq⟩:=hq;rw [F0] at hn
  have:=hf i
  unfold Bb at hq;rw [List.mem_append] at hq;rcases hq with hq | hq
  ·exact Jy hf f (i+1) _ (hp.setMove aA) q hq
  ·split at hq
   ·exact Jy hf f (i+1) _ (hp.setMove aA) q hq
   ·cases hq
theorem NH{ag:AV->Bool}{gs:List Good}{ms:List AA}{mo:Int}(hg:∀k,0<=(gs.getD k Good.z).low/\(gs.getD k Good.z).high<=99)(hf:∀k,0<=(ms.getD k AA.z).low/\(ms.getD k AA.z).high<=99) :
  ∀f i p,B0 p->∀q ∈ BK ag gs ms mo f i p,B0 q
 | 0,_,p,hp,q,hq=>Jy hf _ _ p hp q hq
 | f+1,i,p,hp,q,hq=>by
  rw [DE,List.mem_flatMap] at hq;obtain ⟨n,hn,hq⟩:=hq;rw [F0] at hn
  have:=hg i
  exact NH hg hf f (i+1) _ (hp.setFirst aA) q hq
theorem HG{d m:Int}{gs:List Good}{ms:List AA}{cs:List AF}(b:An d m gs ms cs)(mo:Int):∀k,B0 ((AU d gs ms cs mo).getD k AV.zero):=λk=>by
 by_cases h:k<(AU d gs ms cs mo).length
 ·exact NH (λj=>⟨(b.gfew j).1,(b.gfew j).2.2.1⟩) (λj=>⟨(b.few j).1,(b.few j).2.2.1⟩) _ _ _ B0.zero _ (CV h)
 ·rw [B8 aA];exact B0.zero
def Ch(n:Nat)(f:Nat->Int):List Int:=Ds (KL ((List.range n).map f))
theorem Jz{n:Nat}{f:Nat->Int}(h:0<n):(List.range n).map f≠[]:=by
 intro e
 have:=congrArg List.length e
 simp at this;omega
section
variable (d m:Int) (gs:List Good) (ms:List AA) (cs:List AF)
def JE(g dy:Int):Int:=Af d m gs ms cs [if (decide (0<=g/\g<=(gs.length:Int)-1)) then (0:Int) else 6,if (decide (0<=dy/\dy<=d)) then (0:Int) else 1]
def R7(g dy:Int):List Int:=if JE d m gs ms cs g dy=0 then Ch (AU d gs ms cs m).length (λ(i:Nat)=>(AP ms ((AU d gs ms cs m).getD ((i:Int)).toNat AV.zero) g dy).1) else []
def F3(mv:Int):Int:=Af d m gs ms cs [if (decide (0<=mv/\mv<=(ms.length:Int)-1)) then (0:Int) else 6]
def JF(mv:Int):List Int:=if F3 d m gs ms cs mv=0 then Ch (AU d gs ms cs m).length (λ(i:Nat)=>CJ ((AU d gs ms cs m).getD ((i:Int)).toNat AV.zero) (mv).toNat) else []
def EE(mv:Int):Int:=Af d m gs ms cs [if (decide ((0<=mv/\mv<=(ms.length:Int)-1)/\(ms.getD (mv).toNat AA.z).kind=0)) then (0:Int) else 6]
def J0(ps:List AV)(i:Nat):Nat:=(ps.filter λp=>p.lies i).length
def P2(n l:Nat):Int:=if n=0 then 2 else if n=l then 1 else 0
def Gi(mv:Int):Int:=if EE d m gs ms cs mv=0 then P2 (J0 (AU d gs ms cs m) (mv).toNat) (AU d gs ms cs m).length else 0
end
theorem P3{p:Prop}[Decidable p]{c:Int}(hc:c≠0){o:List Int}(h:∀k,k<(((if decide p then (0:Int) else c) ::o)).length->(((if decide p then (0:Int) else c) ::o)).getD k 0=0):p:=by
 have:=h 0 aD
 by_cases hp:p
 ·exact hp
 ·simp [hp] at this;exact absurd this hc
theorem P4{x:Int}{o:List Int}(h:∀k,k<(x ::o).length->(x ::o).getD k 0=0):∀k,k<o.length->o.getD k 0=0:=λk hk=>by
 have:=h (k+1) (by simp;omega)
 simpa using this
theorem own_2{p q:Prop}[Decidable p][Decidable q]{c e:Int}(hc:c≠0)(he:e≠0){o:List Int}(h:∀k,k<(((if decide p then (0:Int) else c) ::(if decide q then (0:Int) else e) ::o)).length->(((if decide p then (0:Int) else c) ::(if decide q then (0:Int) else e) ::o)).getD k 0=0):p/\q:=
 ⟨P3 hc h,P3 he (P4 h)⟩
theorem own_3{p q r:Prop}[Decidable p][Decidable q][Decidable r]{c e f:Int}(hc:c≠0)(he:e≠0)(hf:f≠0){o:List Int}(h:∀k,k<(((if decide p then (0:Int) else c) ::(if decide q then (0:Int) else e) ::(if decide r then (0:Int) else f) ::o)).length->(((if decide p then (0:Int) else c) ::(if decide q then (0:Int) else e) ::(if decide r then (0:Int) else f) ::o)).getD k 0=0):p/\q/\r:=
 ⟨P3 hc h,own_2 he hf (P4 h)⟩
theorem IE{U:Type}{l:List U}{k:Nat}(z:U)(h:k<l.length):l.take (k+1)=l.take k++[l.getD k z]:=by
 rw [List.take_add_one,List.getElem?_eq_getElem h,List.getD_eq_getElem?_getD,List.getElem?_eq_getElem h];rfl
theorem lies_t{ps:List AV}{k q i:Nat}(hk:k<ps.length)(h:q=J0 (ps.take k) i)(e:(ps.getD k AV.zero).lies i=true):q+1=J0 (ps.take (k+1)) i:=by
 unfold J0 at *;rw [IE AV.zero hk,List.filter_append,List.length_append,<-h,List.filter_cons,if_pos e];rfl
theorem lies_f{ps:List AV}{k q i:Nat}(hk:k<ps.length)(h:q=J0 (ps.take k) i)(e:(ps.getD k AV.zero).lies i=false):q=J0 (ps.take (k+1)) i:=by
 unfold J0 at *;rw [IE AV.zero hk,List.filter_append,List.length_append,<-h,List.filter_cons,if_neg (by rw [e];decide)];rfl
theorem RQ{d m:Int}{gs:List Good}{ms:List AA}{cs:List AF}{mv:Int}(h:¬EE d m gs ms cs mv=0):Gi d m gs ms cs mv=0:=by unfold Gi;rw [if_neg h]
theorem J1{d m:Int}{gs:List Good}{ms:List AA}{cs:List AF}{mv:Int}{k q:Nat}(h:EE d m gs ms cs mv=0)(hq:q=J0 ((AU d gs ms cs m).take k) (mv).toNat)(hk:(AU d gs ms cs m).length<=k):Gi d m gs ms cs mv=P2 q (AU d gs ms cs m).length:=by
 unfold Gi;rw [if_pos h,hq,List.take_of_length_le hk]
theorem Ke{ms:List AA}{p:AV}{g dy:Int}(hp:B0 p):∀(f k:Nat)(n low B:Int),-B<=n/\n<=B->-(B+99*(f:Int))<=(Co ms p g dy f k n low).1/\(Co ms p g dy f k n low).1<=B+99*(f:Int)
 | 0,k,n,low,B,h=>by unfold Co;simpa using h
 | f+1,k,n,low,B,h=>by
  unfold Co;split
  ·show-(B+99*((f+1:Nat):Int))<=n/\n<=B+99*((f+1:Nat):Int);omega
  ·have:=Ke (ms:=ms) (g:=g) (dy:=dy) hp f (k+1) (Fy ms p g k n) (FA ms k low (Fy ms p g k n)) (B+99) (by
    unfold Fy
    have:=NC (k:=(ms.getD k AA.z).kind.toNat) (Hg hp k)
    split <;> omega)
   omega
theorem Iv{ms:List AA}{p:AV}{g dy:Int}(hp:B0 p)(hm:ms.length<=6): -693<=(AP ms p g dy).1/\(AP ms p g dy).1<=693:=by
 have h0:=hp.1 g.toNat
 have:=Ke (ms:=ms) (g:=g) (dy:=dy) hp ms.length 0 (p.first g.toNat) (p.first g.toNat) 99 aA
 unfold AP;omega
theorem KM{x:Int}:∀(l acc:List Int),x ∈ l.foldl Hb acc->x ∈ acc\/x ∈ l
 | [],acc,h=>.inl h
 | y ::l,acc,h=>by
  rcases KM l _ h with h | h
  ·unfold Hb at h;split at h
   ·exact .inl h
   ·rcases List.mem_append.1 h with h | h
    ·exact .inl h
    ·rw [List.mem_singleton] at h;exact .inr (by rw [h];exact List.mem_cons_self ..)
  ·exact .inr (List.mem_cons_of_mem _ h)
theorem Kf:∀(l acc:List Int),acc≠[]\/l≠[]->l.foldl Hb acc≠[]
 | [],acc,h=>by
  rcases h with h | h
  ·exact h
  ·exact absurd rfl h
 | y ::l,acc,h=>Kf l _ (.inl λe=>by
   have:=Px acc y
   rw [e] at this;cases this)
theorem LI{n:Nat}(f:Nat->Int)(h:0<n):0<(Ch n f).length:=by
 have:Ch n f≠[]:=Kf _ _ (.inr (U3 (Jz h)))
 exact List.length_pos_iff.2 this
theorem R8{n:Nat}{f:Nat->Int}{x:Int}(h:x ∈ Ch n f):∃i,i<n/\f i=x:=by
 rcases KM _ _ h with h | h
 ·cases h
 ·rw [Kc] at h
  have:=List.mem_mergeSort.1 h
  obtain ⟨i,hi,e⟩:=List.mem_map.1 this;exact ⟨i,List.mem_range.1 hi,e⟩
def CT(l:List Int):Int:=l.getD 0 0
def D0(l:List Int):Int:=l.getD ((l.length:Int)-1).toNat 0
theorem Ws{n:Nat}{f:Nat->Int}{A B:Int}(h:∀i,A<=f i/\f i<=B)(hn:0<n):(A<=CT (Ch n f)/\CT (Ch n f)<=B)/\A<=D0 (Ch n f)/\D0 (Ch n f)<=B:=by
 have hp:=LI f hn;have q:∀k,k<(Ch n f).length->A<=(Ch n f).getD k 0/\(Ch n f).getD k 0<=B:=λk hk=>by
  obtain ⟨i,_,e⟩:=R8 (CV (d:=0) hk);rw [<-e];exact h i
 exact ⟨q 0 hp,q _ aA⟩
def Cx(ms:List AA)(p:AV)(g a b:Int):Nat->Int
 | 0=>0
 | k+1=>Cx ms p g a b k+(if ((ms.getD k AA.z).kind=2/\(ms.getD k AA.z).good=g)/\a<=(ms.getD k AA.z).day/\(ms.getD k AA.z).day<=b then CJ p k else 0)
theorem NI{ms:List AA}{p:AV}{g a b:Int}(hp:B0 p):∀k:Nat,0<=Cx ms p g a b k/\Cx ms p g a b k<=99*(k:Int)
 | 0=>by unfold Cx;omega
 | k+1=>by
  have:=NI (ms:=ms) (g:=g) (a:=a) (b:=b) hp k
  have:=Hg hp k
  unfold Cx;split <;> omega
def C4(gs:List Good)(ms:List AA)(p:AV)(dy:Int):Nat->Int
 | 0=>0
 | k+1=>C4 gs ms p dy k+(gs.getD k Good.z).cost*(AP ms p (k:Int) dy).1
theorem Hu{a b A B:Int}(ha:0<=a/\a<=A)(hb: -B<=b/\b<=B): -(A*B)<=a*b/\a*b<=A*B:=by
 have hB:0<=B:=aA
 have e1:a*B<=A*B:=Int.mul_le_mul_of_nonneg_right ha.2 hB;have e2:a*b<=a*B:=Int.mul_le_mul_of_nonneg_left hb.2 ha.1;have e3:a*(-B)<=a*b:=Int.mul_le_mul_of_nonneg_left hb.1 ha.1;rw [Int.mul_neg] at e3;omega
theorem Lm{gs:List Good}{ms:List AA}{p:AV}{dy:Int}(hp:B0 p)(hm:ms.length<=6)(hc:∀k,0<=(gs.getD k Good.z).cost/\(gs.getD k Good.z).cost<=999):∀k:Nat,-(692307*(k:Int))<=C4 gs ms p dy k/\C4 gs ms p dy k<=692307*(k:Int)
 | 0=>by unfold C4;omega
 | k+1=>by
  have:=Lm (dy:=dy) hp hm hc k
  have:=Hu (hc k) (Iv (g:=(k:Int)) (dy:=dy) hp hm)
  unfold C4;omega
theorem An.costs{d m:Int}{gs:List Good}{ms:List AA}{cs:List AF}(b:An d m gs ms cs):∀k,0<=(gs.getD k Good.z).cost/\(gs.getD k Good.z).cost<=999:=λk=>by
 by_cases h:k<gs.length
 ·exact (b.good' h).1
 ·rw [B8 aA];decide
section
variable (d m:Int) (gs:List Good) (ms:List AA) (cs:List AF)
def JG(g a b:Int):Int:=Af d m gs ms cs [if (decide (0<=g/\g<=(gs.length:Int)-1)) then (0:Int) else 6,if (decide (1<=a/\a<=d)) then (0:Int) else 1,if (decide (a<=b/\b<=d)) then (0:Int) else 1]
def ZR(g a b:Int):List Int:=Ch (AU d gs ms cs m).length (λ(i:Nat)=>Cx ms ((AU d gs ms cs m).getD ((i:Int)).toNat AV.zero) g a b ms.length)
def Tg(g a b:Int):Int:=if JG d m gs ms cs g a b=0 then CT (ZR d m gs ms cs g a b) else 0
def Th(g a b:Int):Int:=if JG d m gs ms cs g a b=0 then D0 (ZR d m gs ms cs g a b) else 0
def Hv(dy:Int):Int:=Af d m gs ms cs [if (decide (0<=dy/\dy<=d)) then (0:Int) else 1]
def VB(dy:Int):List Int:=Ch (AU d gs ms cs m).length (λ(i:Nat)=>C4 gs ms ((AU d gs ms cs m).getD ((i:Int)).toNat AV.zero) dy gs.length)
def O5(dy:Int):Int:=if Hv d m gs ms cs dy=0 then CT (VB d m gs ms cs dy) else 0
def O6(dy:Int):Int:=if Hv d m gs ms cs dy=0 then D0 (VB d m gs ms cs dy) else 0
end
def LJ(d:Int)(ms:List AA)(ps:List AV)(g:Int):List Int:=Ch ps.length (λ(i:Nat)=>(AP ms (ps.getD ((i:Int)).toNat AV.zero) g d).1)
theorem VC{d:Int}{ms:List AA}{ps:List AV}{g:Int}(hp:∀k,B0 (ps.getD k AV.zero))(hm:ms.length<=6)(hn:0<ps.length):(-693<=CT (LJ d ms ps g)/\CT (LJ d ms ps g)<=693)/\-693<=D0 (LJ d ms ps g)/\D0 (LJ d ms ps g)<=693:=
 Ws (λ_=>Iv (hp _) hm) hn
section
variable (d m:Int) (gs:List Good) (ms:List AA) (cs:List AF)
def Hw(g r:Int):Int:=Af d m gs ms cs [if (decide (0<=g/\g<=(gs.length:Int)-1)) then (0:Int) else 6,if (decide (1<=r/\r<=99)) then (0:Int) else 1]
def O7(g r:Int):Int:=if Hw d m gs ms cs g r=0 then (CT (LJ d ms (AU d gs ms cs m) g)).tdiv r else 0
def O8(g r:Int):Int:=if Hw d m gs ms cs g r=0 then (D0 (LJ d ms (AU d gs ms cs m) g)).tdiv r else 0
end
theorem AI.offKnown{U:Type}{h0 h:GH}{v:Value}{t:TypeId}{n:Nat}{enc:U->Array Value}{xs:List U}{ms:List AA}{ps:List AV}{r:Nat}(x:AI h0 h v t n enc xs)(m:Ai ms ps r h):A8 v r:=λe=>by
 obtain ⟨c',h1⟩:=x.cellsAt r e;exact m.neCells h1 rfl
section
variable (d m:Int) (gs:List Good) (ms:List AA) (cs:List AF)
def Ie(ls:List Int)(r:Int):Int:=Af d m gs ms cs [BF ls (gs.length:Int),if (decide (0<=r/\r<=99)) then (0:Int) else 1]
def Gj(ls:List Int)(r:Int)(k:Nat):Int:=(max 0 ((ls.getD k 0)*r-(CT (LJ d ms (AU d gs ms cs m) (k:Int))))+(gs.getD k Good.z).pack-1) / ((gs.getD k Good.z).pack)
def Fi(ls:List Int)(r:Int):Nat->Int
 | 0=>0
 | k+1=>Fi ls r k+(Gj d m gs ms cs ls r k)*((gs.getD k Good.z).pack)*((gs.getD k Good.z).cost)
def Z3(ls:List Int)(r:Int):List Int:=if Ie d m gs ms cs ls r=0 then (List.range gs.length).map (Gj d m gs ms cs ls r) else []
def O9(ls:List Int)(r:Int):Int:=if Ie d m gs ms cs ls r=0 then Fi d m gs ms cs ls r gs.length else 0
end
theorem Ti{d m:Int}{gs:List Good}{ms:List AA}{cs:List AF}{ls:List Int}{r:Int}{k:Nat}(hl:0<=ls.getD k 0/\ls.getD k 0<=99)(hr:0<=r/\r<=99)(hp:1<=(gs.getD k Good.z).pack/\(gs.getD k Good.z).pack<=20)
  (hs: -693<=CT (LJ d ms (AU d gs ms cs m) (k:Int))/\CT (LJ d ms (AU d gs ms cs m) (k:Int))<=693):(0<=Gj d m gs ms cs ls r k/\Gj d m gs ms cs ls r k<=10600):=by
 have h1:=Hu (a:=ls.getD k 0) (b:=r) (A:=99) (B:=99) hl aA;unfold Gj;have h0:0<=max 0 ((ls.getD k 0)*r-(CT (LJ d ms (AU d gs ms cs m) (k:Int))))+(gs.getD k Good.z).pack-1:=aA
 refine ⟨Int.ediv_nonneg h0 aA,Int.le_trans (Int.ediv_le_self _ h0) aA⟩
theorem Kg{p a c:Int}(hp:0<=p/\p<=10600)(ha:1<=a/\a<=20)(hc:0<=c/\c<=999):(0<=p*a/\p*a<=212000)/\0<=p*a*c/\p*a*c<=211788000:=by
 have h1:=Hu (a:=p) (b:=a) (A:=10600) (B:=20) hp aA;have h2:0<=p*a:=Int.mul_nonneg hp.1 aA;have h3:=Hu (a:=p*a) (b:=c) (A:=212000) (B:=999) aA aA;have h4:0<=p*a*c:=Int.mul_nonneg h2 hc.1;omega
theorem VD{d m:Int}{gs:List Good}{ms:List AA}{cs:List AF}{ls:List Int}{r:Int}{k:Nat}(hp:0<=Gj d m gs ms cs ls r k/\Gj d m gs ms cs ls r k<=10600)(ha:1<=(gs.getD k Good.z).pack/\(gs.getD k Good.z).pack<=20)(hc:0<=(gs.getD k Good.z).cost/\(gs.getD k Good.z).cost<=999)
  (h:0<=Fi d m gs ms cs ls r k/\Fi d m gs ms cs ls r k<=211788000*(k:Int)):0<=Fi d m gs ms cs ls r (k+1)/\Fi d m gs ms cs ls r (k+1)<=211788000*((k+1:Nat):Int):=by
 have:=Kg hp ha hc
 unfold Fi;omega
theorem nums_few{l:List Int}{n:Int}(h:¬(l.length:Int)=n):(Value.int .i64 2)=.int .i64 (BF l n):=by unfold BF;rw [if_pos h]
theorem nums_any{l:List Int}{n:Int}(h:(l.length:Int)=n):(Value.int .i64 (if (!(l.any (λx=>decide (¬(0<=x/\x<=99))))) then (0:Int) else 1))=.int .i64 (BF l n):=by
 have e:BF l n=if l.any (λx=>decide (¬(0<=x/\x<=99))) then 1 else 0:=by unfold BF;rw [if_neg (λq=>q h)]
 rw [e];cases l.any (λx=>decide (¬(0<=x/\x<=99))) <;> rfl
section
variable {P:Program} {E:HB P} {O:Nat->Value} {ds:List Deferred} {h:GH} {T:(Nat->Value)->List Deferred->GH->Prop}
variable {dst:Option Nat} {ty:TypeId} {pos:String} {af:Array Edge} {gd:Option (Nat×Bool)}
def fieldP(P:Program)(s:TypeId)(f:Nat)(cs:Array Value):Option Value:=match P.underlying s with
 | some (.struct fields)=>match fields[f]? with
  | some fl=>JA P fl.type cs fl.offset
  | none=>none
 | _=>none
theorem Z4{t:TypeId}{x:Operand}{f:Nat}{cs:Array Value}{v:Value}(hx:AQ O x=.agg cs)(hp:fieldP P t f cs=some v)(k:T (putS O dst v) ds h):Bg E ⟨dst,.field t x f,ty,pos,af,gd⟩ O ds h T:=by
 refine ok_field (v:=v) ?_ k;rw [hx];unfold fieldP at hp;unfold Instr.field;cases hu:P.underlying t with
 | none=>rw [hu] at hp;cases hp
 | some d=>
  rw [hu] at hp;cases d <;> first | (cases hp;done) | skip
  rename_i fields
  refine AL _ _ (Ap hu ?_);simp only at hp ⊢;cases hf:fields[f]? with
  | none=>rw [hf] at hp;cases hp
  | some fl=>
   rw [hf] at hp;simp only at hp ⊢;exact JB hp ⟨rfl,rfl⟩
theorem ZS{xt yt:TypeId}{x y:Operand}{a b:Int}(hx:AQ O x=.int .i64 a)(hy:AQ O y=.int .i64 b)(ha: -9223372036854775807<=a)(ha':a<=9223372036854775807)(hb:0<b)(k:T (putS O dst (.int .i64 (a.tdiv b))) ds h) :
  Bg E ⟨dst,.binOp .quo xt x y yt,ty,pos,af,gd⟩ O ds h T:=Fr hx hy (by
 show (if b=0 then _ else (pure (Value.int .i64 (IntKind.i64.wrap (a.tdiv b))):Sem Value))=_;rw [if_neg aA];have h1:(a.tdiv b).natAbs<=a.natAbs:=by rw [Int.natAbs_tdiv];exact Nat.div_le_self _ _
 rw [IntWalk.i64_in _ aA]) k
end
def Fl(hB:GH)(ms:List AA)(pasts:List AV)(r:Nat)(h h':GH):Prop:=Bq (λb=>b=r) h h'/\(Ai ms pasts r h->Ai ms pasts r h')/\(hB.Le h->hB.Le h')
section
variable {hB h hc h':GH} {ms:List AA} {pasts:List AV} {r:Nat}
theorem Fl.refl(h:GH):Fl hB ms pasts r h h:=⟨Bq.refl _ _,id,id⟩
theorem Fl.trans(a b c:GH)(x:Fl hB ms pasts r a b)(y:Fl hB ms pasts r b c):Fl hB ms pasts r a c:=⟨x.1.trans (λ_ q=>.inl q) y.1,λz=>y.2.1 (x.2.1 z),λz=>y.2.2 (x.2.2 z)⟩
theorem Fl.ofRes(m:KR hB ms pasts r h h'):Fl hB ms pasts r h h':=⟨m.2.1,λ_=>m.1,λ_=>m.2.2⟩
theorem Ck.rel(y:Ck hB ms pasts r h hc)(m:Fl hB ms pasts r hc h'):Ck hB ms pasts r h h':=⟨m.2.1 y.ok,y.keep.trans (λ_ q=>.inl q) m.1,m.2.2 y.base⟩
theorem Ck.callDel(y:Ck hB ms pasts r h hc)(l:hB.Le (hc.del r))(m:KR (hc.del r) ms pasts r hc h'):Ck hB ms pasts r h h':=⟨m.1,y.keep.trans (λ_ q=>.inl q) m.2.1,l.trans m.2.2⟩
end
section
variable {P:Program} {E:HB P} {O:Nat->Value} {ds:List Deferred} {h hB:GH} {ms:List AA} {pasts:List AV} {r:Nat}
theorem R9{id:Nat}{l:List Oper}{Q:Post}(n:Nat)(cls:List (List Nat))(Φ:List RF)(hm:P.follows .mixedOrders=true)(ok:PR E.N l n cls=true)(mono:Ft (Fl hB ms pasts r) Φ)(x:M7 (Fl hB ms pasts r) E l n Φ O ds h Q n 0 l cls) :
  Tr E (.region id l.toArray true) O ds h Q:=Uf Fl.refl Fl.trans n cls Φ hm ok mono x
end
theorem EX.leOf{h0 h:GH}(k:EX (λb=>h0 b=none) h0 h):h0.Le h:=λb p o hb=>k.1 b p o hb λ(e:h0 b=none)=>by rw [hb] at e;cases e
theorem AI.offTy{U:Type}{h0 h:GH}{v:Value}{t T:TypeId}{n:Nat}{enc:U->Array Value}{xs:List U}(x:AI h0 h v t n enc xs){r:Nat}{p:Bool}{c:Array Value}{f:Nat×Nat}(hr:h r=some (p,.cells c T f))(ne:t≠T):A8 v r:=λe=>by
 obtain ⟨c',h1⟩:=x.cellsAt r e;rw [h1] at hr;simp only [Option.some.injEq,Prod.mk.injEq,Obj.cells.injEq] at hr;exact ne hr.2.2.1
section
variable {P:Program} {E:HB P} {O:Nat->Value} {ds:List Deferred} {h:GH} {T:(Nat->Value)->List Deferred->GH->Prop}
variable {dst:Option Nat} {ty:TypeId} {pos:String} {af:Array Edge} {gd:Option (Nat×Bool)}
end
section
variable {h h':GH} {q r:Nat} {M:Int->Option Int}
theorem Fe.keepNum(x:Fe h q E6 E6 M)(k:Bq (λb=>b=r) h h')(hq:q≠r):Fe h' q E6 E6 M:=by
 obtain ⟨es,clk,h1,y⟩:=x;obtain ⟨o,h2,h3⟩:=k q _ _ h1 hq;rcases h3 with rfl | ⟨h3,_⟩
 ·exact ⟨es,clk,h2,y⟩
 ·cases h3
end
section
variable {P:Program} {E:HB P} {O:Nat->Value} {ds:List Deferred} {h:GH} {T:(Nat->Value)->List Deferred->GH->Prop}
variable {dst:Option Nat} {ty:TypeId} {pos:String} {af:Array Edge} {gd:Option (Nat×Bool)}
theorem P5{t kt vt:TypeId}{x ix:Operand}{r d:Nat}{M:Int->Option Int}{a:Int}(ht:Lh P t=some (kt,vt))(hx:AQ O x=.map (some r))(hk:AQ O ix=.int .i64 a)(hm:Fe h r E6 E6 M)(hd:Nat.ble (d+1) 10000=true)
  (hc:∀a,ckP P (d+1) kt (E6 a)=true) (he:∀a b,RC P (d+1) kt (E6 a) (E6 b)=some (a==b)) (hz:(P.info? vt).bind (·.zero)=some (.int .i64 0))
  (k:T (putS O dst (.int .i64 ((M a).getD 0))) ds h):Bg E ⟨dst,.lookup t x ix false,ty,pos,af,gd⟩ O ds h T:=by
 refine Rs (ek:=E6) (ev:=E6) (a:=a) (z:=.int .i64 0) ht hx hk hm hd (hc _) (λb=>he a b) hz ?_;cases hM:M a <;> (rw [hM] at k;exact k)
theorem Z5{t kt vt:TypeId}{om ok ox:Operand}{r d:Nat}{M:Int->Option Int}{a n:Int}(ht:Lh P t=some (kt,vt))(hm':AQ O om=.map (some r))(hk:AQ O ok=.int .i64 a)(hv:AQ O ox=.int .i64 n)(hm:Fe h r E6 E6 M)(hd:Nat.ble (d+1) 10000=true)
  (hc:∀a,ckP P (d+1) kt (E6 a)=true) (he:∀a b,RC P (d+1) kt (E6 a) (E6 b)=some (a==b)) (hs:∀a,Instr.sameBits 10000 (E6 a) (E6 a)=true)
  (k:∀h',Fe h' r E6 E6 (λb=>if b=a then some n else M b)->(∀b,b≠r->h' b=h b)->T (putS O dst undef) ds h'):Bg E ⟨dst,.mapUpdate t om ok ox,ty,pos,af,gd⟩ O ds h T:=
 M8 (a:=a) (v:=n) (ek:=E6) (ev:=E6) ht hm' hk hv hm hd (hc _) (λb=>he a b) (hs _) k
end
theorem Tj(a:Int):Instr.sameBits 10000 (E6 a) (E6 a)=true:=by
 show Instr.sameBits (9999+1) (Value.int .i64 a) (Value.int .i64 a)=true;unfold Instr.sameBits;simp
def D1(f:Nat->Int):Nat->Int->Option Int
 | 0=>λ_=>none
 | k+1=>λb=>if b=f k then some ((D1 f k (f k)).getD 0+1) else D1 f k b
theorem HH(f:Nat->Int):∀(k:Nat)(b:Int),0<=(D1 f k b).getD 0/\(D1 f k b).getD 0<=(k:Int)
 | 0,b=>by simp [D1]
 | k+1,b=>by
  have h1:=HH f k b;have h2:=HH f k (f k);unfold D1;split
  ·show 0<=(D1 f k (f k)).getD 0+1/\(D1 f k (f k)).getD 0+1<=((k+1:Nat):Int);omega
  ·omega
def F4(f:Nat->Int):Nat->Int
 | 0=>0
 | k+1=>max (F4 f k) ((D1 f (k+1) (f k)).getD 0)
def C7(w:Nat->Int)(n:Int):Nat->Int×Int
 | 0=>(-1,n)
 | k+1=>if w k<(C7 w n k).2 then ((k:Int),w k) else C7 w n k
section
variable (d m:Int) (gs:List Good) (ms:List AA) (cs:List AF)
def Dt:Int:=Af d m gs ms cs []
def FD(g:Nat):Int:=F4 (λi=>(AP ms ((AU d gs ms cs m).getD ((i:Int)).toNat AV.zero) (g:Int) d).1) (AU d gs ms cs m).length
def El:Int:=if Dt d m gs ms cs=0 then (C7 (FD d m gs ms cs) ((AU d gs ms cs m).length:Int) gs.length).1 else 0
def D2:Int:=if Dt d m gs ms cs=0 then (C7 (FD d m gs ms cs) ((AU d gs ms cs m).length:Int) gs.length).2 else 0
end
end Go.Ns
namespace Go.Ns
open Go.Conc
open Classical in
noncomputable def GH.delS (h:GH) (X:Nat->Prop):GH:=λb=>if X b then none else h b
section
variable {h h0 h':GH} {X:Nat->Prop}
theorem GH.delS_in{b:Nat}(x:X b):h.delS X b=none:=if_pos x
theorem GH.delS_ne{b:Nat}(x:¬X b):h.delS X b=h b:=if_neg x
theorem GH.delS_le(h:GH)(X:Nat->Prop):(h.delS X).Le h:=λb p o hb=>by
 by_cases e:X b
 ·rw [GH.delS_in e] at hb;cases hb
 ·rw [GH.delS_ne e] at hb;exact ⟨o,hb,.inl rfl⟩
theorem GH.Le.delS(l:h0.Le h)(hX:∀b,X b->h0 b=none):h0.Le (h.delS X):=λb p o hb=>by
 have e:¬X b:=λx=>by rw [hX b x] at hb;cases hb
 rw [GH.delS_ne e];exact l b p o hb
theorem AX.delS{b off n:Nat}{vs:Array Value}(x:AX h b off n vs)(e:¬X b):AX (h.delS X) b off n vs:=x.same (GH.delS_ne e)
theorem AI.slDelS{U:Type}{v:Value}{t:TypeId}{n:Nat}{enc:U->Array Value}{xs:List U}(x:AI h0 h v t n enc xs)(f:∀b,B7 v=some b->¬X b):AE (h.delS X) v n enc xs:=
 AI.sl (h0:=h0) (x.keep λb o hb ho=>by rw [GH.delS_ne (f b hb)];exact ho)
theorem AI.rebase{U:Type}{h1:GH}{v:Value}{t:TypeId}{n:Nat}{enc:U->Array Value}{xs:List U}(x:AI h0 h v t n enc xs)(f:∀b,B7 v=some b->h1 b=none):AI h1 h v t n enc xs:=by
 rcases x with x | ⟨b,cap,c,rfl,h2,h3⟩
 ·exact .inl x
 ·exact .inr ⟨b,cap,c,rfl,f b rfl,h3⟩
end
def mkD(d:Nat):Deferred:={ target:=.collected d,args:=#[] }
def IF(h0 h:GH)(ds:List Deferred):Prop:=∃l:List Nat,ds=l.map mkD/\l.Nodup/\∀d ∈ l,h0 d=none/\h d=some (true,.deferred (some []))
theorem IF.nil(h0 h:GH):IF h0 h []:=⟨[],rfl,List.nodup_nil,λ_ hd=>by cases hd⟩
theorem IF.le{h0 h h':GH}{ds:List Deferred}(m:IF h0 h ds)(l:h.Le h'):IF h0 h' ds:=by
 obtain ⟨L,e,n,x⟩:=m;exact ⟨L,e,n,λd hd=>⟨(x d hd).1,l.keep (x d hd).2 rfl⟩⟩
theorem IF.cons{h0 h h':GH}{ds:List Deferred}{d:Nat}(m:IF h0 h ds)(l:h.Le h')(hn:h d=none)(h0n:h0 d=none)(hd:h' d=some (true,.deferred (some []))):IF h0 h' ({ target:=.collected d,args:=#[] } ::ds):=by
 obtain ⟨L,rfl,n,x⟩:=m;refine ⟨d ::L,rfl,List.nodup_cons.2 ⟨λhm=>?_,n⟩,λb hb=>?_⟩
 ·rw [(x d hm).2] at hn;cases hn
 ·rcases List.mem_cons.1 hb with rfl | hb
  ·exact ⟨h0n,hd⟩
  ·exact ⟨(x b hb).1,l.keep (x b hb).2 rfl⟩
def SameM(h h':GH):Prop:=∀b,h b≠some (true,.deferred (some []))->h' b=h b
theorem AE.sameM{U:Type}{h h':GH}{v:Value}{n:Nat}{enc:U->Array Value}{xs:List U}(x:AE h v n enc xs)(s:SameM h h'):AE h' v n enc xs:=by
 obtain ⟨a,cap,hv,hc,hm,he⟩:=x;refine ⟨a,cap,hv,hc,hm,λi hi=>?_⟩;obtain ⟨b,off,h1,h2⟩:=he i hi;refine ⟨b,off,h1,h2.same (s b λe=>?_)⟩;obtain ⟨p,c,t,z,q,_⟩:=h2;rw [e] at q;cases q
theorem P6{P:Program}{fn:Func}{O:Nat->Value}{R:Value->GH->Prop}{h0:GH}:∀{ds:List Deferred}{h:GH},IF h0 h ds->h0.Le h->(∀h',SameM h h'->h0.Le h'->GZ P fn O R [] h')->GZ P fn O R ds h:=by
 intro ds h ⟨l,e,n,x⟩ lB k;subst e
 induction l generalizing h with
 | nil=>exact k h (λ_ _=>rfl) lB
 | cons d l ih=>
  have hd:=x d (List.mem_cons_self ..);refine ⟨d,rfl,_,hd.2,rfl,?_⟩;have nd:=List.nodup_cons.1 n;have ho:∀b,b≠d->(h.set d true (.deferred none)) b=h b:=λb hb=>GH.set_ne _ _ _ hb;refine ih nd.2 (λb hb=>?_) (lB.upd hd.1 ho) λh' s l'=>k h' (λb hb=>?_) l'
  ·have:=x b (List.mem_cons_of_mem _ hb)
   exact ⟨this.1,(ho b λe=>nd.1 (e▸hb)).trans this.2⟩
  ·have e:b≠d:=λe=>hb (e▸hd.2);rw [s b (by rw [ho b e];exact hb),ho b e]
theorem P7{U:Type}{enc:U->Array Value}{n:Nat}:∀{xs:List U},(∀x ∈ xs,(enc x).size=n)->∀(i:Nat)(z:U),i<xs.length->Db enc xs=Db enc (xs.take i)++(enc (xs.getD i z)).toList++Db enc (xs.drop (i+1))
 | [],_,i,z,h=>by simp at h
 | y ::xs,hn,0,z,h=>by simp [Db]
 | y ::xs,hn,i+1,z,h=>by
  have:=P7 (λx hx=>hn x (List.mem_cons_of_mem _ hx)) i z (by simpa using h)
  show (enc y).toList++Db enc xs=((enc y).toList++Db enc (xs.take i))++(enc (xs.getD i z)).toList++Db enc (xs.drop (i+1));rw [this];simp only [List.append_assoc]
theorem VE{U:Type}{enc:U->Array Value}:∀{xs:List U}(i:Nat)(x:U),i<xs.length->Db enc (xs.set i x)=Db enc (xs.take i)++(enc x).toList++Db enc (xs.drop (i+1))
 | [],i,x,h=>by simp at h
 | y ::xs,0,x,h=>by simp [Db]
 | y ::xs,i+1,x,h=>by
  have:=VE (enc:=enc) (xs:=xs) i x (by simpa using h)
  show (enc y).toList++Db enc (xs.set i x)=((enc y).toList++Db enc (xs.take i))++(enc x).toList++Db enc (xs.drop (i+1));rw [this];simp only [List.append_assoc]
theorem AI.put{U:Type}{h0 h h':GH}{t:TypeId}{n cap b i dl:Nat}{enc:U->Array Value}{xs:List U}{c:Array Value}{vs:List Value}{x':U}(z:U)(x:AI h0 h (.slice (some ⟨b,0,none⟩) xs.length cap) t n enc xs)(hb:h b=some (true,.cells c t (0,0)))
  (hi:i<xs.length) (hz:dl+vs.length<=n) (heq:Bz (enc (xs.getD i z)) dl vs=enc x') (hb':h' b=some (true,.cells (Bz c (i*n+dl) vs) t (0,0))):AI h0 h' (.slice (some ⟨b,0,none⟩) xs.length cap) t n enc (xs.set i x'):=by
 rcases x with ⟨e,_⟩ | ⟨b1,cap1,c1,e,f0,f1,f2,f3,f4,f5,f6⟩
 ·cases e
 simp only [Value.slice.injEq,Option.some.injEq,Addr.mk.injEq] at e;obtain ⟨⟨rfl,_⟩,_,rfl⟩:=e;rw [hb] at f1;simp only [Option.some.injEq,Prod.mk.injEq,Obj.cells.injEq,true_and] at f1;obtain ⟨rfl,_⟩:=f1;have hx:(enc (xs.getD i z)).size=n:=f6 _ (CV hi);have hx':(enc x').size=n:=by rw [<-heq,Gx];exact hx
 refine .inr ⟨_,_,_,by rw [List.length_set],f0,hb',by rw [Gx];exact f2,by rw [List.length_set];exact f3,by rw [List.length_set];exact f4,?_,λy hy=>?_⟩
 ·rw [List.length_set];have hA:(Db enc (xs.take i)).length=i*n:=by
   rw [Eh (n:=n) (λy hy=>f6 y (List.mem_of_mem_take hy)),List.length_take];congr 1;omega
  have hlen:(Db enc xs).length=xs.length*n:=Eh f6;have hmul:i*n+n<=xs.length*n:=by rw [<-Nat.succ_mul];exact Nat.mul_le_mul_right n hi
  have hcap:xs.length*n<=c.size:=by rw [f2];exact Nat.mul_le_mul_right n f3
  have hc:c.toList=Db enc xs++c.toList.drop (xs.length*n):=by rw [<-f5,List.take_append_drop]
  have hB:(enc x').toList=(enc (xs.getD i z)).toList.take dl++vs++(enc (xs.getD i z)).toList.drop (dl+vs.length):=by rw [<-heq,Ew _ _ _ aA]
  have hBl:(enc (xs.getD i z)).toList.length=n:=by rw [Array.length_toList];exact hx
  have hC:(Db enc (xs.take i)).length+n+(Db enc (xs.drop (i+1))).length=xs.length*n:=by
   rw [<-hlen];conv=>rhs;rw [P7 f6 i z hi]
   rw [List.length_append,List.length_append,hBl]
  rw [Ew _ _ _ aA,VE i x' hi,hB,hc,P7 f6 i z hi];generalize enc (xs.getD i z)=B at *;generalize Db enc (xs.take i)=A at *;generalize Db enc (xs.drop (i+1))=C at *;generalize c.toList.drop (xs.length*n)=R at *;have e1:(A++B.toList++C++R).take (i*n+dl)=A++B.toList.take dl:=by
   rw [List.append_assoc,List.append_assoc,<-hA,List.take_length_add_append,List.take_append_of_le_length aA]
  have e2:(A++B.toList++C++R).drop (i*n+dl+vs.length)=B.toList.drop (dl+vs.length)++C++R:=by
   rw [List.append_assoc,List.append_assoc,show i*n+dl+vs.length=A.length+(dl+vs.length) by omega,List.drop_length_add_append,List.drop_append_of_le_length aA,List.append_assoc]
  rw [e1,e2];have e3:A++B.toList.take dl++vs++(B.toList.drop (dl+vs.length)++C++R)=(A++(B.toList.take dl++vs++B.toList.drop (dl+vs.length))++C)++R:=by simp only [List.append_assoc]
  rw [e3,List.take_left' ?_];simp only [List.length_append,List.length_take,List.length_drop,hBl];omega
 ·rcases List.mem_or_eq_of_mem_set hy with h | rfl
  ·exact f6 y h
  ·exact hx'
theorem AI.opened{U:Type}{h0 h:GH}{v:Value}{t:TypeId}{n k:Nat}{enc:U->Array Value}{xs:List U}(x:AI h0 h v t n enc xs)(hk:k<xs.length):∃b cap c,v=.slice (some ⟨b,0,none⟩) xs.length cap/\h b=some (true,.cells c t (0,0)):=by
 rcases x with ⟨_,rfl⟩ | ⟨b,cap,c,h1,_,h2,_⟩
 ·simp at hk
 ·exact ⟨b,cap,c,h1,h2⟩
theorem AI.room{U:Type}{h0 h:GH}{t:TypeId}{n cap b k:Nat}{enc:U->Array Value}{xs:List U}{c:Array Value}(x:AI h0 h (.slice (some ⟨b,0,none⟩) xs.length cap) t n enc xs)(hb:h b=some (true,.cells c t (0,0)))(hk:k<xs.length):k*n+n<=c.size:=by
 rcases x with ⟨e,_⟩ | ⟨b1,cap1,c1,e,f0,f1,f2,f3,_⟩
 ·cases e
 simp only [Value.slice.injEq,Option.some.injEq,Addr.mk.injEq] at e;obtain ⟨⟨rfl,_⟩,_,rfl⟩:=e;rw [hb] at f1;simp only [Option.some.injEq,Prod.mk.injEq,Obj.cells.injEq,true_and] at f1;obtain ⟨rfl,_⟩:=f1;rw [f2,<-Nat.succ_mul];exact Nat.mul_le_mul_right n aA
def clearAt(ms:List AA)(i:Nat):List AA:=ms.set i { ms.getD i AA.z with low:=0,high:=0 }
def Cy(ms:List AA)(l:List Int):List AA:=l.foldl (λms i=>clearAt ms i.toNat) ms
theorem VF{ms:List AA}{l:List Int}{k:Nat}(hk:k<l.length):Cy ms (l.take (k+1))=clearAt (Cy ms (l.take k)) (l.getD k 0).toNat:=by
 unfold Cy;rw [IE 0 hk,List.foldl_append];rfl
theorem GM(ms:List AA)(i:Nat):(clearAt ms i).length=ms.length:=by unfold clearAt;rw [List.length_set]
theorem DW(ms:List AA):∀(l:List Int),(Cy ms l).length=ms.length:=by
 intro l;unfold Cy
 induction l generalizing ms with
 | nil=>rfl
 | cons i l ih=>show (l.foldl _ (clearAt ms i.toNat)).length=_;rw [ih,GM]
theorem Hi(ms:List AA)(i k:Nat):(clearAt ms i).getD k AA.z=ms.getD k AA.z\/(clearAt ms i).getD k AA.z={ ms.getD k AA.z with low:=0,high:=0 }:=by
 unfold clearAt;rw [List.getD_eq_getElem?_getD,List.getElem?_set];split
 ·rename_i e
  subst e;split
  ·exact .inr rfl
  ·rename_i h
   refine .inl ?_;rw [List.getD_eq_getElem?_getD,List.getElem?_eq_none aA]
 ·refine .inl ?_;rw [<-List.getD_eq_getElem?_getD]
theorem Z6{d:Int}{gs:List Good}{ms:List AA}{k:Nat}(h1:0<=(ms.getD k AA.z).kind/\(ms.getD k AA.z).kind<=4)(h2:0<=(ms.getD k AA.z).good/\(ms.getD k AA.z).good<=(gs.length:Int)-1)
  (h3:1<=(ms.getD k AA.z).day/\(ms.getD k AA.z).day<=d) (h4:Ej ms k<=(ms.getD k AA.z).day) (h5:Ha (ms.getD k AA.z).low (ms.getD k AA.z).high):Dz d gs ms k=0:=by
 unfold Dz;rw [if_neg (not_not_intro h1),if_neg (not_not_intro h2),if_neg (not_not_intro h3),if_neg aA,if_neg (not_not_intro h5)]
theorem An.clearAt{d m:Int}{gs:List Good}{ms:List AA}{cs:List AF}(b:An d m gs ms cs)(i:Nat):An d m gs (clearAt ms i) cs:=by
 refine ⟨b.days,b.most,b.glen,b.good,by rw [GM];exact b.mlen,λk hk=>?_,b.clen,b.count⟩;rw [GM] at hk;have hd:∀k,((Go.Ns.clearAt ms i).getD k AA.z).day=(ms.getD k AA.z).day:=λk=>by rcases Hi ms i k with e | e <;> rw [e]
 have hl:Ej (Go.Ns.clearAt ms i) k=Ej ms k:=by unfold Ej;rw [hd]
 obtain ⟨g1,g2,g3,g4,g5⟩:=b.move' hk;refine Z6 ?_ ?_ ?_ ?_ ?_
 ·rcases Hi ms i k with e | e <;> rw [e] <;> exact g1
 ·rcases Hi ms i k with e | e <;> rw [e] <;> exact g2
 ·rw [hd];exact g3
 ·rw [hl,hd];exact g4
 ·rcases Hi ms i k with e | e <;> rw [e]
  ·exact g5
  ·show Ha 0 0;decide
theorem An.clear{d m:Int}{gs:List Good}{cs:List AF}:∀{l:List Int}{ms:List AA},An d m gs ms cs->An d m gs (Cy ms l) cs
 | [],_,b=>b
 | i ::l,_,b=>An.clear (l:=l) (b.clearAt i.toNat)
def FI(ms:List AA)(mask:Int)(k:Nat):Bool:=(List.range k).all λi=> !DR mask i || Dd ms i
def E0(d:Int)(gs:List Good)(ms:List AA)(cs:List AF)(mask:Nat):Option (List Int):=
 if FI ms (mask:Int) ms.length=true then
  if AU d gs (Cy ms (A3 (mask:Int) ms.length)) cs 0=[] then none else some (A3 (mask:Int) ms.length)
 else none
def C5(d:Int)(gs:List Good)(ms:List AA)(cs:List AF)(k:Nat):List (List Int):=(List.range k).filterMap (E0 d gs ms cs)
theorem NJ{d:Int}{gs:List Good}{ms:List AA}{cs:List AF}{k:Nat}(h:E0 d gs ms cs k=none):C5 d gs ms cs (k+1)=C5 d gs ms cs k:=by
 unfold C5;rw [List.range_succ,List.filterMap_append];simp [h]
theorem Tk{d:Int}{gs:List Good}{ms:List AA}{cs:List AF}{k:Nat}{l:List Int}(h:E0 d gs ms cs k=some l):C5 d gs ms cs (k+1)=C5 d gs ms cs k++[l]:=by
 unfold C5;rw [List.range_succ,List.filterMap_append];simp [h]
theorem pow_64{n:Nat}(h:n<=6):1<=(2:Int) ^ n/\(2:Int) ^ n<=64:=by
 have:n=0\/n=1\/n=2\/n=3\/n=4\/n=5\/n=6:=aA
 rcases this with rfl | rfl | rfl | rfl | rfl | rfl | rfl <;> decide
theorem Z7(mask:Int)(n q:Nat):q<(A3 mask n).length->0<=(A3 mask n).getD q 0/\(A3 mask n).getD q 0<(n:Int):=λhq=>by
 have:=CV (d:=(0:Int)) hq
 unfold A3 at this ⊢;obtain ⟨i,hi,e⟩:=List.mem_map.1 this
 have:=List.mem_range.1 (List.mem_filter.1 hi).1
 rw [<-e];omega
theorem RR(ms:List AA)(mask:Int):FI ms mask 0=true:=rfl
theorem Lp{ms:List AA}{mask:Int}{j:Nat}(h:FI ms mask j=true)(e:mask.fdiv (2 ^ j)%2=0\/Dd ms (j:Int)=true):FI ms mask (j+1)=true:=by
 unfold FI at *;rw [List.range_succ,List.all_append,h];rcases e with e | e
 ·have:DR mask j=false:=by unfold DR;rw [decide_eq_false aA]
  simp [this]
 ·simp [e]
theorem Wt{d:Int}{gs:List Good}{ms:List AA}{cs:List AF}{k j:Nat}(hj:j<ms.length)(hb:¬(k:Int).fdiv (2 ^ j)%2=0)(hn:¬((0<=(j:Int)/\(j:Int)<=(ms.length:Int)-1)/\(ms.getD ((j:Int)).toNat AA.z).kind=0)):E0 d gs ms cs k=none:=by
 unfold E0;rw [if_neg];unfold FI;rw [List.all_eq_true];intro h
 have:=h j (List.mem_range.2 hj)
 have e1:DR (k:Int) j=true:=by unfold DR;rw [decide_eq_true];omega
 have e2:Dd ms (j:Int)=false:=by unfold Dd;exact decide_eq_false hn
 rw [e1,e2] at this;cases this
theorem blame_no{d:Int}{gs:List Good}{ms:List AA}{cs:List AF}{k j q:Nat}(hj:j<=ms.length)(hj':¬(j:Int)<(ms.length:Int))(ha:FI ms (k:Int) j=true)(hq:¬(q:Int)<((A3 (k:Int) j).length:Int))(h:AU d gs (Cy ms ((A3 (k:Int) j).take q)) cs 0=[]):E0 d gs ms cs k=none:=by
 obtain rfl:j=ms.length:=aA
 rw [List.take_of_length_le aA] at h;unfold E0;rw [if_pos ha,if_pos h]
theorem Z8{d:Int}{gs:List Good}{ms:List AA}{cs:List AF}{k j q:Nat}(hj:j<=ms.length)(hj':¬(j:Int)<(ms.length:Int))(ha:FI ms (k:Int) j=true)(hq:¬(q:Int)<((A3 (k:Int) j).length:Int))(h:AU d gs (Cy ms ((A3 (k:Int) j).take q)) cs 0≠[]):E0 d gs ms cs k=some (A3 (k:Int) j):=by
 obtain rfl:j=ms.length:=aA
 rw [List.take_of_length_le aA] at h;unfold E0;rw [if_pos ha,if_neg h]
theorem P8{fl:List Sl}{v:Value}{xs:List Int}{l:List (List Int)}(h:A1 fl=l):A1 (fl++[(v,xs)])=l++[xs]:=by unfold A1 at *;rw [List.map_append,h];rfl
theorem CN.drop{h:GH}{l:List Sl}(a:CN h l)(n:Nat):CN h (l.drop n):=λk=>by
 have:=a (n+k)
 rw [List.getD_eq_getElem?_getD] at this ⊢;rw [List.getElem?_drop];exact this
section
variable (d m:Int) (gs:List Good) (ms:List AA) (cs:List AF)
def CA:Int:=if AJ d m gs ms cs=0 then (if (C5 d gs ms cs (2 ^ ms.length)).length=0 then 9 else 0) else AJ d m gs ms cs
def Dh:List Int:=if CA d m gs ms cs=0 then FB ((C5 d gs ms cs (2 ^ ms.length)).getD 0 []) ((C5 d gs ms cs (2 ^ ms.length)).drop 1) else []
end
section
variable {d m:Int} {gs:List Good} {ms:List AA} {cs:List AF} {fl:List Sl} {k:Nat}
theorem Iw(h:¬AJ d m gs ms cs=0):CA d m gs ms cs=AJ d m gs ms cs:=by unfold CA;rw [if_neg h]
theorem Hj(h:AJ d m gs ms cs=0):CA d m gs ms cs=if (C5 d gs ms cs (2 ^ ms.length)).length=0 then 9 else 0:=by unfold CA;rw [if_pos h]
theorem Tl(n:Nat):((2 ^ n:Nat):Int)=(2:Int) ^ n:=by induction n with
 | zero=>rfl
 | succ n ih=>rw [Nat.pow_succ,Int.pow_succ,<-ih];rfl
theorem N1(hk:(k:Int)<=(2:Int) ^ ((ms.length:Int)).toNat)(hk':¬(k:Int)<(2:Int) ^ ((ms.length:Int)).toNat):k=2 ^ ms.length:=by
 have:=Tl ms.length
 rw [Int.toNat_natCast] at hk hk';omega
theorem DX(l:List Sl):(A1 l).length=l.length:=by unfold A1;simp
theorem Wu(h:¬AJ d m gs ms cs=0):(.tuple #[.slice none 0 0,.int .i64 (AJ d m gs ms cs)]:Value)=.tuple #[.slice none 0 0,.int .i64 (CA d m gs ms cs)]:=by rw [Iw h]
theorem Kh(hfl:A1 fl=C5 d gs ms cs k)(hk:(k:Int)<=(2:Int) ^ ((ms.length:Int)).toNat)(hk':¬(k:Int)<(2:Int) ^ ((ms.length:Int)).toNat)(hb:¬¬AJ d m gs ms cs=0)(h0:(fl.length:Int)=0):CA d m gs ms cs=9:=by
 obtain rfl:=N1 hk hk';rw [Hj (Decidable.not_not.1 hb),<-hfl,DX,if_pos aA]
theorem Ki(hfl:A1 fl=C5 d gs ms cs k)(hk:(k:Int)<=(2:Int) ^ ((ms.length:Int)).toNat)(hk':¬(k:Int)<(2:Int) ^ ((ms.length:Int)).toNat)(hb:¬¬AJ d m gs ms cs=0)(h0:¬(fl.length:Int)=0):CA d m gs ms cs=0:=by
 obtain rfl:=N1 hk hk';rw [Hj (Decidable.not_not.1 hb),<-hfl,DX,if_neg aA]
theorem P9(h:¬AJ d m gs ms cs=0):Dh d m gs ms cs=[]:=by unfold Dh;rw [Iw h,if_neg h]
theorem VG(hfl:A1 fl=C5 d gs ms cs k)(hk:(k:Int)<=(2:Int) ^ ((ms.length:Int)).toNat)(hk':¬(k:Int)<(2:Int) ^ ((ms.length:Int)).toNat)(hb:¬¬AJ d m gs ms cs=0)(h0:(fl.length:Int)=0):Dh d m gs ms cs=[]:=by
 unfold Dh;rw [Kh hfl hk hk' hb h0,if_neg aC]
theorem Z9(hfl:A1 fl=C5 d gs ms cs k)(hk:(k:Int)<=(2:Int) ^ ((ms.length:Int)).toNat)(hk':¬(k:Int)<(2:Int) ^ ((ms.length:Int)).toNat)(hb:¬¬AJ d m gs ms cs=0)(h0:¬(fl.length:Int)=0):Dh d m gs ms cs=FB (fl.getD 0 Sl.z).2 (A1 (fl.drop 1)):=by
 have e:=N1 hk hk';unfold Dh;rw [Ki hfl hk hk' hb h0,if_pos rfl];subst e;rw [<-hfl,CE aA];congr 1;unfold A1;rw [List.map_drop]
end
theorem fl_len{d:Int}{gs:List Good}{ms:List AA}{cs:List AF}{fl:List Sl}{k:Nat}(h:A1 fl=C5 d gs ms cs k):fl.length<=k:=by
 rw [<-DX,h];unfold C5
 have:=List.length_filterMap_le (E0 d gs ms cs) (List.range k)
 rw [List.length_range] at this;exact this
theorem NK{v:Value}(h:v.cells=#[v]):Instr.fill (λi=>some (i*1,1)) ((Array.range (1*1)).map (#[Value.slice none 0 0][·% #[Value.slice none 0 0].size]!)) [(0,v)]=some #[v]:=by
 have e:((Array.range (1*1)).map (#[Value.slice none 0 0][·% #[Value.slice none 0 0].size]!))=#[Value.slice none 0 0]:=aB
 rw [e];simp [Instr.fill,h]
def JFnd{U:Type}(hB:GH)(r:Nat)(T t:TypeId)(wf:Value)(fl:List Sl)(pre:List U)(Y:Nat->Prop)(h:GH):Prop:=
 pre=[]/\h r=some (true,.cells #[wf] T (0,0))/\AI hB h wf t 1 Ht fl/\A8 wf r/\hB r=none/\∀b,Y b↔b=r\/B7 wf=some b
def SFnd{U:Type}(hB:GH)(r:Nat)(T t:TypeId)(fl:List Sl)(cd:Code)(all:List U)(c:Code)(h:GH):Prop:=
 c=cd/\(∃w,h r=some (true,.cells #[w] T (0,0))/\AI hB h w t 1 Ht fl/\A8 w r)/\all≠[]
theorem SA{U:Type}(hB:GH)(r:Nat)(T t:TypeId)(wf:Value)(fl:List Sl):Jo hB (JFnd (U:=U) hB r T t wf fl):=by
 refine ⟨?_,?_⟩
 ·rintro pre Y h b ⟨_,h1,h2,h3,h0,h4⟩ hb;rcases (h4 b).1 hb with rfl | h5
  ·exact ⟨_,_,h1,rfl⟩
  ·obtain ⟨c,hc⟩:=h2.cellsAt b h5;exact ⟨_,_,hc,rfl⟩
 ·rintro pre Y h h' ⟨e,h1,h2,h3,h0,h4⟩ same lB;exact ⟨e,by rw [same r ((h4 r).2 (.inl rfl))];exact h1,h2.keep λb o hb ho=>by rw [same b ((h4 b).2 (.inr hb))];exact ho,h3,h0,h4⟩
theorem Wv{U:Type}{hK h:GH}{r:Nat}{T t:TypeId}{wf:Value}{fl:List Sl}(x:h r=some (true,.cells #[wf] T (0,0)))(o:AI hK h wf t 1 Ht fl)(f:A8 wf r) :
  JFnd (U:=U) (h.delS λb=>b=r\/B7 wf=some b) r T t wf fl [] (λb=>b=r\/B7 wf=some b) h:=
 ⟨rfl,x,o.rebase λ_ q=>GH.delS_in (.inr q),f,GH.delS_in (.inl rfl),λ_=>Iff.rfl⟩
theorem VH{U:Type}{hB:GH}{r:Nat}{T t:TypeId}{fl:List Sl}{cd:Code}{all:List U}:∀c (h h':GH) l lo,SFnd hB r T t fl cd all c h->h l=some (true,.loop lo)->(∀b,b≠l->h' b=h b)->SFnd hB r T t fl cd all c h':=by
 rintro c h h' l lo ⟨q1,⟨w,q2,q3,q4⟩,q5⟩ hl ho;refine ⟨q1,⟨w,(ho _ λe=>by subst e;rw [q2] at hl;cases hl).trans q2,q3.keep λb o hb hbo=>?_,q4⟩,q5⟩;obtain ⟨c,hc⟩:=q3.cellsAt b hb;exact (ho b λe=>by subst e;rw [hc] at hl;cases hl).trans hbo
end Go.Ns
