/- Rules and walks, part 1 of 6. No conditions. -/
import Derived.Conc.Beside
import Derived.Conc.CrowdBase
import Derived.Conc.CrowdComm
import Derived.Conc.Own2
import Derived.Conc.Own3
import Derived.Conc.RecvAny
import Derived.IntWalk
import Derived.KernelRfl
import Derived.Orders
import Derived.StepT
set_option linter.unusedVariables false
set_option linter.unusedSimpArgs false
set_option linter.unnecessarySimpa false
set_option linter.unusedSectionVars false
set_option linter.constructorNameAsVariable false
namespace Go.Ns
open Go.Conc
theorem aX.{u}{c:Prop}{d:Decidable c}(h:¬c){α:Sort u}{a b:α}:@ite α c d a b=b:=if_neg h
theorem aY.{u}{c:Prop}{d:Decidable c}(h:c){α:Sort u}{a b:α}:@ite α c d a b=a:=if_pos h
abbrev aZ:=Value
abbrev bA:=TypeId
abbrev bB:=ByteArray
theorem U{p:Prop}(h:p:=by omega):p:=h
theorem aB{p:Prop}(h:p:=by kernel_rfl):p:=h
theorem aC{p:Prop}(h:p:=by decide):p:=h
theorem aD{p:Prop}(h:p:=by simp):p:=h
theorem aE{p:Prop}(h:p:=by simp_all):p:=h
theorem aF{p:Prop}(h:p:=by assumption):p:=h
theorem aG{p:Prop}(h:p:=by simp <;> omega):p:=h
theorem aH{p:Prop}(h:p:=by intro x hx;rfl):p:=h
theorem aI{p:Prop}(h:p:=by intro y hy;rfl):p:=h
theorem aJ{p:Prop}(h:p:=by (intro j hj;omega)):p:=h
theorem aK{p:Prop}(h:p:=by simp only [List.length_singleton,List.length_nil];omega):p:=h
theorem aL{p:Prop}(h:p:=by (try simp only [Array.size_setIfInBounds]);omega):p:=h
abbrev Y:=Nat->Option (Bool×Obj)
def Y.set(h:Y)(r:Nat)(p:Bool)(o:Obj):Y:=λb=>if b=r then some (p,o) else h b
theorem Y.set_same(h:Y)(r:Nat)(p:Bool)(o:Obj):h.set r p o r=some (p,o):=by simp [Y.set]
theorem Y.set_ne(h:Y){r b:Nat}(p:Bool)(o:Obj)(hb:b≠r):h.set r p o b=h b:=by simp [Y.set,hb]
def J0:Obj->Bool:=λ_=>false
def Y.Le(h h':Y):Prop:=∀b p o,h b=some (p,o)->∃o',h' b=some (p,o')/\(o'=o\/(J0 o=true/\J0 o'=true))
theorem Y.Le.keep{h h':Y}(l:h.Le h'){b:Nat}{p:Bool}{o:Obj}(hb:h b=some (p,o))(ho:J0 o=false):h' b=some (p,o):=by
 obtain ⟨d,c,rfl | ⟨a,_⟩⟩:=l _ _ _ hb
 ·exact c
 ·rw [ho] at a;cases a
theorem Y.Le.refl(h:Y):h.Le h:=λ_ _ o x=>⟨o,x,.inl rfl⟩
theorem Y.Le.trans{a b c:Y}(h:a.Le b)(h':b.Le c):a.Le c:=λ_ _ _ x=>by
 obtain ⟨g,d,h2⟩:=h _ _ _ x;obtain ⟨e,f,h4⟩:=h' _ _ _ d;refine ⟨e,f,?_⟩;rcases h2 with rfl | h2
 ·exact h4
 ·rcases h4 with rfl | h4
  ·exact .inr h2
  ·exact .inr ⟨h2.1,h4.2⟩
theorem Y.ne_of{h:Y}{b r:Nat}{p:Bool}{o:Obj}(hb:h b=some (p,o))(hr:h r=none):b≠r:=by
 intro e;subst e;rw [hr] at hb;cases hb
theorem Y.Le.new{h:Y}{r:Nat}(hr:h r=none)(p:Bool)(o:Obj):h.Le (h.set r p o):=λb q x a=>by
 rw [Y.set_ne h p o (Y.ne_of a hr)];exact ⟨x,a,.inl rfl⟩
def EL(w:World)(h:Y):Prop:=∀b p o,h b=some (p,o)->w.heap[b]? =some o
theorem EL.lt{w:World}{h:Y}(f:EL w h){b:Nat}{p:Bool}{o:Obj}(hb:h b=some (p,o)):b<w.heap.size:=by
 have:=f b p o hb
 rcases Nat.lt_or_ge b w.heap.size with x | x
 ·exact x
 ·rw [Array.getElem?_eq_none x] at this;cases this
theorem EL.fresh{w:World}{h:Y}(f:EL w h):h w.heap.size=none:=by
 cases a:h w.heap.size with
 | none=>rfl
 | some x=>exact absurd (f.lt (p:=x.1) (o:=x.2) a) (Nat.lt_irrefl _)
def T5(h:Y)(n:Nat)(b:Nat)(wr:Bool):Prop:=(∃p o,h b=some (p,o)/\o.isChan=false/\(wr=true->p=true))\/n<=b
def C0:Loc->Option Nat
 | .cell a=>some a.block
 | .obj r=>some r
 | _=>none
def VC(h:Y)(n:Nat)(e:Event):Prop:=
 e.sync=false/\match e.loc with
  | .cell a=>T5 h n a.block e.write
  | .obj r=>T5 h n r e.write
  | _=>False
def AAZ(h:Y)(n:Nat)(e:Event):Prop:=VC h n e\/e=⟨.mark .noRoom,false,true⟩
structure Bf(h:Y)(w:World)(es:Array Event)(h':Y)(w':World):Prop where
 fits0:EL w h
 fits:EL w' h'
 frame:∀b,b<w.heap.size->(∀o,h b≠some (true,o))->w'.heap[b]? =w.heap[b]?
 size:w.heap.size<=w'.heap.size
 os:w'.os=w.os
 out:w'.output=w.output
 own:∀b o,h' b=some (true,o)->(∃o',h b=some (true,o'))\/w.heap.size<=b
 ro:∀b o,h' b=some (false,o)->h b=some (false,o)
 keep:∀b p o o',h b=some (true,o')->o'.isChan=true->h' b=some (p,o)->o=o'
 chn:∀b p o,h' b=some (p,o)->o.isChan=true->h b=some (p,o)\/(w.heap.size<=b/\∀e ∈ es,C0 e.loc≠some b)
 evb:∀e ∈ es,∀b,C0 e.loc=some b->b<w'.heap.size
 evs:∀e ∈ es,AAZ h w.heap.size e
theorem Bf.refl{h:Y}{w:World}(f:EL w h):Bf h w #[] h w where
 fits0:=f
 fits:=f
 frame:=λ_ _ _=>rfl
 size:=Nat.le_refl _
 os:=rfl
 out:=rfl
 own:=λ_ o x=>.inl ⟨o,x⟩
 ro:=λ_ _ x=>x
 keep:=λ_ _ _ _ x _ y=>by rw [x] at y;cases y;rfl
 chn:=λ_ _ _ x _=>.inl x
 evb:=λe a=>by simp at a
 evs:=λe a=>by simp at a
theorem Bf.look{h:Y}{w:World}(f:EL w h){es:Array Event}(hb:∀e ∈ es,∀b,C0 e.loc=some b->b<w.heap.size)(hes:∀e ∈ es,AAZ h w.heap.size e):Bf h w es h w where
 fits0:=f
 fits:=f
 frame:=λ_ _ _=>rfl
 size:=Nat.le_refl _
 os:=rfl
 out:=rfl
 own:=λ_ o x=>.inl ⟨o,x⟩
 ro:=λ_ _ x=>x
 keep:=λ_ _ _ _ x _ y=>by rw [x] at y;cases y;rfl
 chn:=λ_ _ _ x _=>.inl x
 evb:=hb
 evs:=hes
theorem Bf.drew{h:Y}{w:World}(f:EL w h)(d:Nat):Bf h w #[] h { w with drawn:=d } where
 fits0:=f
 fits:=f
 frame:=λ_ _ _=>rfl
 size:=Nat.le_refl _
 os:=rfl
 out:=rfl
 own:=λ_ o x=>.inl ⟨o,x⟩
 ro:=λ_ _ x=>x
 keep:=λ_ _ _ _ x _ y=>by rw [x] at y;cases y;rfl
 chn:=λ_ _ _ x _=>.inl x
 evb:=λe a=>by simp at a
 evs:=λe a=>by simp at a
theorem T5.mono{h h':Y}{w:World}{n:Nat}{b:Nat}{wr:Bool}(hn:w.heap.size<=n)
  (own:∀b o,h' b=some (true,o)->(∃o',h b=some (true,o'))\/w.heap.size<=b) (ro:∀b o,h' b=some (false,o)->h b=some (false,o))
  (keep:∀b p o o',h b=some (true,o')->o'.isChan=true->h' b=some (p,o)->o=o') (hb:T5 h' n b wr):T5 h w.heap.size b wr:=by
 rcases hb with ⟨p,o,x,c,y⟩ | x
 ·cases p with
  | true=>
   rcases own b o x with ⟨o',z⟩ | z
   ·refine .inl ⟨true,o',z,?_,λ_=>rfl⟩;cases a:o'.isChan with
    | false=>rfl
    | true=>have:=keep b _ _ o' z a x;subst this;rw [a] at c;cases c
   ·exact .inr z
  | false=>exact .inl ⟨false,o,ro b o x,c,y⟩
 ·exact .inr (Nat.le_trans hn x)
theorem AAZ.mono{h h':Y}{w:World}{n:Nat}{e:Event}(hn:w.heap.size<=n)
  (own:∀b o,h' b=some (true,o)->(∃o',h b=some (true,o'))\/w.heap.size<=b) (ro:∀b o,h' b=some (false,o)->h b=some (false,o))
  (keep:∀b p o o',h b=some (true,o')->o'.isChan=true->h' b=some (p,o)->o=o') (he:AAZ h' n e):AAZ h w.heap.size e:=by
 rcases he with he | he
 case inr=>exact .inr he
 left;obtain ⟨d,he⟩:=he;refine ⟨d,?_⟩;cases c:e.loc with
 | cell a=>rw [c] at he;exact T5.mono hn own ro keep he
 | obj r=>rw [c] at he;exact T5.mono hn own ro keep he
 | output=>rw [c] at he;exact he
 | goroutines=>rw [c] at he;exact he
 | mark m=>rw [c] at he;exact he
theorem Bf.trans{h h₁ h₂:Y}{w w₁ w₂:World}{es es':Array Event}(a:Bf h w es h₁ w₁)(b:Bf h₁ w₁ es' h₂ w₂):Bf h w (es++es') h₂ w₂ where
 fits0:=a.fits0
 fits:=b.fits
 frame:=λr l n=>by
  have d:∀o,h₁ r≠some (true,o):=λo x=>by
   rcases a.own r o x with ⟨i,y⟩ | y
   ·exact n i y
   ·exact absurd l (Nat.not_lt.2 y)
  rw [b.frame r (Nat.lt_of_lt_of_le l a.size) d,a.frame r l n]
 size:=Nat.le_trans a.size b.size
 os:=b.os.trans a.os
 out:=b.out.trans a.out
 own:=λr o x=>by
  rcases b.own r o x with ⟨i,y⟩ | y
  ·exact a.own r i y
  ·exact .inr (Nat.le_trans a.size y)
 ro:=λr o x=>a.ro r o (b.ro r o x)
 keep:=λr p o i x y z=>by
  have d:∃q j,h₁ r=some (q,j):=by
   cases p with
   | true=>
    rcases b.own r o z with ⟨F,y1⟩ | y1
    ·exact ⟨_,_,y1⟩
    ·exact absurd (Nat.le_trans a.size y1) (Nat.not_le.2 (a.fits0.lt x))
   | false=>exact ⟨_,_,b.ro r o z⟩
  obtain ⟨q,j,d⟩:=d;have B:=a.keep r q j i x y d;subst B;cases q with
  | true=>exact b.keep r p o j d y z
  | false=>have:=a.ro r j d;rw [x] at this;cases this
 chn:=λr p o x y=>by
  rcases b.chn r p o x y with z | ⟨s,C⟩
  ·rcases a.chn r p o z y with u | ⟨D,E⟩
   ·exact .inl u
   ·refine .inr ⟨D,λe g=>?_⟩;rcases Array.mem_append.1 g with v | v
    ·exact E e v
    ·intro c;have ev:=b.evs e v;have CX:∃t,T5 h₁ w₁.heap.size r t:=by
      rcases ev with ev | ev
      case inr=>rw [ev] at c;cases c
      unfold C0 at c;have f:=ev.2;cases k:e.loc with
      | cell H=>rw [k] at c f;cases c;exact ⟨_,f⟩
      | obj I=>rw [k] at c f;cases c;exact ⟨_,f⟩
      | output=>rw [k] at c;cases c
      | goroutines=>rw [k] at c;cases c
      | mark m=>rw [k] at c;cases c
     obtain ⟨t,⟨K,i,d,A,_⟩ | hlt⟩:=CX
     ·rw [z] at d;cases d;rw [y] at A;cases A
     ·exact absurd (a.fits.lt z) (Nat.not_lt.2 hlt)
  ·refine .inr ⟨Nat.le_trans a.size s,λe g=>?_⟩;rcases Array.mem_append.1 g with v | v
   ·exact λc=>absurd (a.evb e v r c) (Nat.not_lt.2 s)
   ·exact C e v
 evb:=λe g r c=>by
  rcases Array.mem_append.1 g with x | x
  ·exact Nat.lt_of_lt_of_le (a.evb e x r c) b.size
  ·exact b.evb e x r c
 evs:=λe g=>by
  rcases Array.mem_append.1 g with x | x
  ·exact a.evs e x
  ·exact (b.evs e x).mono a.size a.own a.ro a.keep
theorem Bf.new{h:Y}{w:World}(f:EL w h)(o:Obj):Bf h w #[] (h.set w.heap.size true o) { w with heap:=w.heap.push o } where
 fits0:=f
 fits:=λb p x a=>by
  by_cases e:b=w.heap.size
  ·subst e;rw [Y.set_same] at a;cases a;simp
  ·rw [Y.set_ne h true o e] at a
   have:=f.lt a
   simp only [Array.getElem?_push];rw [aX e];exact f b p x a
 frame:=λb a _=>by
  simp only [Array.getElem?_push];rw [aX (Nat.ne_of_lt a)]
 size:=aD
 os:=rfl
 out:=rfl
 own:=λb x a=>by
  by_cases e:b=w.heap.size
  ·exact .inr (Nat.le_of_eq e.symm)
  ·rw [Y.set_ne h true o e] at a;exact .inl ⟨x,a⟩
 ro:=λb x a=>by
  by_cases e:b=w.heap.size
  ·subst e;rw [Y.set_same] at a;cases a
  ·rw [Y.set_ne h true o e] at a;exact a
 keep:=λb p x g d _ a=>by
  have e:b≠w.heap.size:=Nat.ne_of_lt (f.lt d);rw [Y.set_ne h true o e,d] at a;cases a;rfl
 chn:=λb p x a _=>by
  by_cases e:b=w.heap.size
  ·exact .inr ⟨Nat.le_of_eq e.symm,λe c=>by simp at c⟩
  ·rw [Y.set_ne h true o e] at a;exact .inl a
 evb:=λe c=>by simp at c
 evs:=λe c=>by simp at c
theorem Bf.turn{h:Y}{w:World}(f:EL w h){r:Nat}{o o':Obj}(hr:h r=some (true,o))(ho:o.isChan=false)(ho':o'.isChan=false){hp:Array Obj}(hsz:hp.size=w.heap.size)
  (hhere:hp[r]? =some o') (hother:∀b,b≠r->hp[b]? =w.heap[b]?) {es:Array Event} (hb:∀e ∈ es,∀b,C0 e.loc=some b->b<w.heap.size) (hes:∀e ∈ es,AAZ h w.heap.size e) :
  Bf h w es (h.set r true o') { w with heap:=hp } where
 fits0:=f
 fits:=λb p x hb=>by
  by_cases e:b=r
  ·subst e;rw [Y.set_same] at hb;cases hb;exact hhere
  ·rw [Y.set_ne h true o' e] at hb;exact (hother b e).trans (f b p x hb)
 frame:=λb _ d=>hother b (λe=>d o (e▸hr))
 size:=Nat.le_of_eq hsz.symm
 os:=rfl
 out:=rfl
 own:=λb x hb=>by
  by_cases e:b=r
  ·subst e;exact .inl ⟨o,hr⟩
  ·rw [Y.set_ne h true o' e] at hb;exact .inl ⟨x,hb⟩
 ro:=λb x hb=>by
  by_cases e:b=r
  ·subst e;rw [Y.set_same] at hb;cases hb
  ·rw [Y.set_ne h true o' e] at hb;exact hb
 keep:=λb p x j c a hb=>by
  have e:b≠r:=λe=>by subst e;rw [hr] at c;cases c;rw [ho] at a;cases a
  rw [Y.set_ne h true o' e,c] at hb;cases hb;rfl
 chn:=λb p x hb a=>by
  by_cases e:b=r
  ·subst e;rw [Y.set_same] at hb;cases hb;rw [ho'] at a;cases a
  ·rw [Y.set_ne h true o' e] at hb;exact .inl hb
 evb:=λe g b i=>by rw [hsz];exact hb e g b i
 evs:=hes
def Obj.isCells:Obj->Bool
 | .cells .. =>true
 | _=>false
def frz(f:Nat×Nat)(o n:Nat):Nat×Nat:=if f.1==f.2 then (o,o+n) else (min f.1 o,max f.2 (o+n))
end Go.Ns
namespace Go
open Go.Conc Go.Ns
def Sem.gh{aQ:Type}(P:Program):Sem aQ->Y->(aQ->Y->Prop)->Prop
 | .pure a,h,Q=>Q a h
 | .load m a k,h,Q=>m=.plain/\a.spot=none/\∃p c t f v,h a.block=some (p,.cells c t f)/\c[a.off]? =some v/\(k v).gh P h Q
 | .store m a v k,h,Q=>m=.plain/\a.spot=none/\v.oneCell'=true/\∃c t f,h a.block=some (true,.cells c t f)/\a.off<c.size/\
   (f.1<=a.off && a.off<f.2)=false/\k.gh P (h.set a.block true (.cells (c.setIfInBounds a.off v) t f)) Q
 | .new o k,h,Q=>∀r,h r=none->(k r).gh P (h.set r true o) Q
 | .shape r k,h,Q=>∃p c t f,h r=some (p,.cells c t f)/\(k (some (t,c.size))).gh P h Q
 | .freeze a n k,h,Q=>(n=0/\k.gh P h Q)\/(n≠0/\∃c t f,h a.block=some (true,.cells c t f)/\k.gh P (h.set a.block true (.cells c t (frz f a.off n))) Q)
 | .frozen a k,h,Q=>∃p c t f,h a.block=some (p,.cells c t f)/\(k (f.1<=a.off && a.off<f.2)).gh P h Q
 | .getObj r k,h,Q=>∃p o,h r=some (p,o)/\Obj.isCells o=false/\o.isChan=false/\(k o).gh P h Q
 | .setObj r o k,h,Q=>∃o',h r=some (true,o')/\Obj.isCells o'=false/\o'.isChan=false/\o.isChan=false/\k.gh P (h.set r true o) Q
 | .choose q k,h,Q=>(q.forced=true->(k 0).gh P h Q)/\(q.forced=false->∀t,(k (q.cut t)).gh P h Q)
 | .program k,h,Q=>(k P).gh P h Q
 | .sys _ _,_,_=>False
 | .mark m k,h,Q=>m=.noRoom/\k.gh P h Q
 | .halt _,_,_=>False
end Go
namespace Go.Ns
open Go.Conc
theorem FH{aQ:Type}{P:Program}(e:Sem aQ){Q Q':aQ->Y->Prop}(hq:∀a h,Q a h->Q' a h):∀h,e.gh P h Q->e.gh P h Q':=by
 induction e with
 | pure a=>intro h x;exact hq _ _ x
 | load m a k b=>rintro h ⟨j,l,p,c,t,f,v,g,d,z⟩;exact ⟨j,l,p,c,t,f,v,g,d,b v h z⟩
 | store m a v k b=>rintro h ⟨j,l,u,c,t,f,g,d,i,z⟩;exact ⟨j,l,u,c,t,f,g,d,i,b _ z⟩
 | new o k b=>intro h x r w;exact b r _ (x r w)
 | shape r k b=>rintro h ⟨p,c,t,f,y,z⟩;exact ⟨p,c,t,f,y,b _ h z⟩
 | freeze a n k b=>
  rintro h (⟨y,z⟩ | ⟨y,c,t,f,d,z⟩)
  ·exact .inl ⟨y,b h z⟩
  ·exact .inr ⟨y,c,t,f,d,b _ z⟩
 | frozen a k b=>rintro h ⟨p,c,t,f,y,z⟩;exact ⟨p,c,t,f,y,b _ h z⟩
 | getObj r k b=>rintro h ⟨p,o,g,d,i,z⟩;exact ⟨p,o,g,d,i,b _ h z⟩
 | setObj r o k b=>rintro h ⟨A,g,d,s,i,z⟩;exact ⟨A,g,d,s,i,b _ z⟩
 | choose q k b=>rintro h ⟨y,z⟩;exact ⟨λx=>b _ h (y x),λx t=>b _ h (z x t)⟩
 | sys c k b=>intro h x;exact x
 | program k b=>intro h x;exact b _ h x
 | mark m k b=>rintro h ⟨y,z⟩;exact ⟨y,b h z⟩
 | halt x=>intro h y;exact y
theorem gh_bind'{aQ β:Type}{P:Program}(e:Sem aQ)(f:aQ->Sem β){Q:β->Y->Prop}:∀h,e.gh P h (λa h'=>(f a).gh P h' Q)->(e.bind f).gh P h Q:=by
 induction e with
 | pure a=>intro h x;exact x
 | load m a k b=>rintro h ⟨j,l,p,c,t,f,v,g,d,z⟩;exact ⟨j,l,p,c,t,f,v,g,d,b v h z⟩
 | store m a v k b=>rintro h ⟨j,l,u,c,t,f,g,d,i,z⟩;exact ⟨j,l,u,c,t,f,g,d,i,b _ z⟩
 | new o k b=>intro h x r w;exact b r _ (x r w)
 | shape r k b=>rintro h ⟨p,c,t,f,y,z⟩;exact ⟨p,c,t,f,y,b _ h z⟩
 | freeze a n k b=>
  rintro h (⟨y,z⟩ | ⟨y,c,t,f,d,z⟩)
  ·exact .inl ⟨y,b h z⟩
  ·exact .inr ⟨y,c,t,f,d,b _ z⟩
 | frozen a k b=>rintro h ⟨p,c,t,f,y,z⟩;exact ⟨p,c,t,f,y,b _ h z⟩
 | getObj r k b=>rintro h ⟨p,o,g,d,i,z⟩;exact ⟨p,o,g,d,i,b _ h z⟩
 | setObj r o k b=>rintro h ⟨A,g,d,s,i,z⟩;exact ⟨A,g,d,s,i,b _ z⟩
 | choose q k b=>rintro h ⟨y,z⟩;exact ⟨λx=>b _ h (y x),λx t=>b _ h (z x t)⟩
 | sys c k b=>intro h x;exact x
 | program k b=>intro h x;exact b _ h x
 | mark m k b=>rintro h ⟨y,z⟩;exact ⟨y,b h z⟩
 | halt x=>intro h y;exact y
theorem AE{aQ β:Type}{P:Program}(e:Sem aQ)(f:aQ->Sem β){h:Y}{Q:β->Y->Prop}(x:e.gh P h (λa h'=>(f a).gh P h' Q)):(e>>=f).gh P h Q:=gh_bind' e f h x
theorem Ak{aQ:Type}{P:Program}{a:aQ}{h:Y}{Q:aQ->Y->Prop}(x:Q a h):(Pure.pure a:Sem aQ).gh P h Q:=x
theorem cell?_of_fits{w:World}{h:Y}(f:EL w h){a:Addr}{p:Bool}{c:Array aZ}{t:bA}{z:Nat×Nat}{v:aZ}(hs:a.spot=none)(hb:h a.block=some (p,.cells c t z))(hc:c[a.off]? =some v) :
  w.cell? a=some v:=by
 unfold World.cell?;rw [f _ _ _ hb];simp [hs,hc]
theorem frozen?_of_fits{w:World}{h:Y}(f:EL w h){a:Addr}{p:Bool}{c:Array aZ}{t:bA}{z:Nat×Nat}(hb:h a.block=some (p,.cells c t z)) :
  w.frozen? a=(z.1<=a.off && a.off<z.2):=by
 unfold World.frozen?;rw [f _ _ _ hb]
theorem gh_sound{aQ:Type}{P:Program}(e:Sem aQ){Q:aQ->Y->Prop}:∀(h₀ h:Y) (w₀ w:World) (es:Array Event),Bf h₀ w₀ es h w->e.gh P h Q->
  ∃a w' h' es',e.runT P w es=(.ok a w',es')/\Bf h₀ w₀ es' h' w'/\Q a h':=by
 induction e with
 | pure a=>intro h₀ h w₀ w es s x;exact ⟨a,w,h,es,rfl,s,x⟩
 | load m a k l=>
  rintro h₀ h w₀ w es s ⟨rfl,M,p,c,t,f,v,u,E,z⟩;have O:=cell?_of_fits s.fits M u E;have B:Bf h₀ w₀ (es.push ⟨.cell a,false,false⟩) h w:=by
   have:=s.trans (Bf.look s.fits (es:=#[⟨.cell a,false,false⟩]) (λe d b C=>by simp at d;subst d;cases C;exact s.fits.lt u) (λe d=>by
    simp at d;subst d;exact .inl ⟨rfl,.inl ⟨p,_,u,rfl,λx=>by cases x⟩⟩))
   simpa using this
  obtain ⟨b,w',h',es',g,i,j⟩:=l v h₀ h w₀ w _ B z;exact ⟨b,w',h',es',by simp only [Sem.runT,O];exact g,i,j⟩
 | store m a v k l=>
  rintro h₀ h w₀ w es s ⟨rfl,M,W,c,t,f,u,E,F,z⟩;have O:=cell?_of_fits s.fits M u (v:=c[a.off]) (by simp [E]);have R:=(frozen?_of_fits s.fits u).trans F;have D:=s.fits.lt u;have A:=s.fits _ _ _ u;have H:Bf h w #[⟨.cell a,true,false⟩] (h.set a.block true (.cells (c.setIfInBounds a.off v) t f)) (w.setCell a v):=by
   refine Bf.turn s.fits u rfl rfl aD ?_ ?_ (λe d b C=>by simp at d;subst d;cases C;exact D) ?_
   ·simp only [Array.getElem?_modify];simp [A,M]
   ·intro b I;simp only [Array.getElem?_modify];rw [aX (λe=>I e.symm)]
   ·intro e d;simp at d;subst d;exact .inl ⟨rfl,.inl ⟨true,_,u,rfl,λ_=>rfl⟩⟩
  have B:=s.trans H;obtain ⟨b,w',h',es',g,i,j⟩:=l h₀ _ w₀ _ _ B z;refine ⟨b,w',h',es',?_,i,j⟩;have T:(es++ #[⟨.cell a,true,false⟩]:Array Event)=es.push ⟨.cell a,true,false⟩:=aD
  rw [T] at g;cases v <;> first | (simp only [Value.oneCell'] at W;cases W;done) | (simp only [Sem.runT,O,R];exact g)
 | new o k l=>
  intro h₀ h w₀ w es s x;have B:=s.trans (Bf.new s.fits o);obtain ⟨b,w',h',es',g,i,j⟩:=l w.heap.size h₀ _ w₀ _ _ B (x w.heap.size s.fits.fresh);exact ⟨b,w',h',es',by simp only [Sem.runT];simpa using g,i,j⟩
 | shape r k l=>
  rintro h₀ h w₀ w es s ⟨p,c,t,f,y,z⟩;have X:w.shape? r=some (t,c.size):=by unfold World.shape?;rw [s.fits _ _ _ y]
  obtain ⟨b,w',h',es',g,i,j⟩:=l _ h₀ _ w₀ _ _ s z;exact ⟨b,w',h',es',by simp only [Sem.runT,X];exact g,i,j⟩
 | freeze a n k l=>
  rintro h₀ h w₀ w es s (⟨rfl,z⟩ | ⟨hn,c,t,f,y,z⟩)
  ·obtain ⟨b,w',h',es',g,i,j⟩:=l h₀ _ w₀ _ _ s z;exact ⟨b,w',h',es',by simp only [Sem.runT,World.freeze];exact g,i,j⟩
  ·have A:=s.fits _ _ _ y;have H:Bf h w #[] (h.set a.block true (.cells c t (frz f a.off n))) (w.freeze a n):=by
    unfold World.freeze;rw [aX hn];refine Bf.turn s.fits y rfl rfl aD ?_ ?_ (λe d b C=>by simp at d) (λe d=>by simp at d)
    ·rw [Array.getElem?_modify];simp only [if_true,A,Option.map_some];obtain ⟨f1,f2⟩:=f;rfl
    ·intro b I;rw [Array.getElem?_modify,aX (λe=>I e.symm)]
   have B:=s.trans H;rw [Array.append_empty] at B;obtain ⟨b,w',h',es',g,i,j⟩:=l h₀ _ w₀ _ _ B z;exact ⟨b,w',h',es',by simp only [Sem.runT];exact g,i,j⟩
 | frozen a k l=>
  rintro h₀ h w₀ w es s ⟨p,c,t,f,y,z⟩;have R:=frozen?_of_fits s.fits y;obtain ⟨b,w',h',es',g,i,j⟩:=l _ h₀ _ w₀ _ _ s z;exact ⟨b,w',h',es',by simp only [Sem.runT,R];exact g,i,j⟩
 | getObj r k l=>
  rintro h₀ h w₀ w es s ⟨p,o,u,E,F,z⟩;have B:Bf h₀ w₀ (es.push ⟨.obj r,false,false⟩) h w:=by
   have:=s.trans (Bf.look s.fits (es:=#[⟨.obj r,false,false⟩]) (λe d b C=>by simp at d;subst d;cases C;exact s.fits.lt u) (λe d=>by
    simp at d;subst d;exact .inl ⟨rfl,.inl ⟨p,_,u,F,λx=>by cases x⟩⟩))
   simpa using this
  obtain ⟨b,w',h',es',g,i,j⟩:=l o h₀ _ w₀ _ _ B z;refine ⟨b,w',h',es',?_,i,j⟩;have hg:=s.fits _ _ _ u;simp only [Sem.runT,hg];cases o <;> first | (simp [Obj.isCells] at E;done) | (simp [Go.Obj.isChan] at F;done) | exact g
 | setObj r o k l=>
  rintro h₀ h w₀ w es s ⟨o',u,E,K,F,z⟩;have A:=s.fits _ _ _ u;have D:=s.fits.lt u;have H:Bf h w #[⟨.obj r,true,false⟩] (h.set r true o) { w with heap:=w.heap.setIfInBounds r o }:=by
   refine Bf.turn s.fits u K F aD ?_ ?_ (λe d b C=>by simp at d;subst d;cases C;exact D) ?_
   ·simp [D]
   ·intro b I;rw [Array.getElem?_setIfInBounds_ne (λe=>I e.symm)]
   ·intro e d;simp at d;subst d;exact .inl ⟨rfl,.inl ⟨true,_,u,K,λ_=>rfl⟩⟩
  have B:=s.trans H;obtain ⟨b,w',h',es',g,i,j⟩:=l h₀ _ w₀ _ _ B z;refine ⟨b,w',h',es',?_,i,j⟩;have T:(es++ #[⟨.obj r,true,false⟩]:Array Event)=es.push ⟨.obj r,true,false⟩:=aD
  rw [T] at g;simp only [Sem.runT,A];cases o' <;> first | (simp [Obj.isCells] at E;done) | (rw [F];exact g)
 | choose q k l=>
  rintro h₀ h w₀ w es s ⟨y,z⟩;cases N:q.forced with
  | true=>
   obtain ⟨b,w',h',es',g,i,j⟩:=l 0 h₀ _ w₀ _ _ s (y N);exact ⟨b,w',h',es',by simp only [Sem.runT,N];exact g,i,j⟩
  | false=>
   have B:=s.trans (Bf.drew s.fits (w.drawn+1));obtain ⟨b,w',h',es',g,i,j⟩:=l _ h₀ _ w₀ _ _ B (z N (w.tape w.drawn q));exact ⟨b,w',h',es',by simp only [Sem.runT,N];simpa using g,i,j⟩
 | sys c k l=>intro h₀ h w₀ w es s x;exact x.elim
 | program k l=>
  intro h₀ h w₀ w es s x;obtain ⟨b,w',h',es',g,i,j⟩:=l P h₀ _ w₀ _ _ s x;exact ⟨b,w',h',es',by simp only [Sem.runT];exact g,i,j⟩
 | mark m k l=>
  rintro h₀ h w₀ w es s ⟨rfl,z⟩;have B:Bf h₀ w₀ (es.push ⟨.mark .noRoom,false,true⟩) h w:=by
   have:=s.trans (Bf.look s.fits (es:=#[⟨.mark .noRoom,false,true⟩]) (λe d b C=>by simp at d;subst d;cases C) (λe d=>by
    simp at d;subst d;exact .inr rfl))
   simpa using this
  obtain ⟨b,w',h',es',g,i,j⟩:=l h₀ _ w₀ _ _ B z;exact ⟨b,w',h',es',by simp only [Sem.runT];exact g,i,j⟩
 | halt x=>intro h₀ h w₀ w es s y;exact y.elim
theorem JF{aQ:Type}{P:Program}{e:Sem aQ}{Q:aQ->Y->Prop}{h:Y}{w:World}(f:EL w h)(x:e.gh P h Q) :
  ∃a w' h' es,e.runT P w #[]=(.ok a w',es)/\Bf h w es h' w'/\Q a h':=gh_sound e h h w w #[] (Bf.refl f) x
end Go.Ns
namespace Go.Ns
open Go.Conc
def T6(P:Program)(main:Bool)(K:Goroutine->Y->Prop):Prop:=
 ∀g h,g.status=.running->(∀w,EL w h->∃g' w' es h',stepG P main g w=.go g' w' es/\Bf h w es h' w'/\K g' h')->K g h
structure Wk(P:Program) where
 main:Bool
 K:Goroutine->Y->Prop
 closed:T6 P main K
section
variable {P:Program} {W:Wk P}
theorem Wk.move{fr fr':Frame}{cs cs':List Frame}{h:Y}(hs:∀w,stepG P W.main (G fr cs) w=.go (G fr' cs') w)(hk:W.K (G fr' cs') h):W.K (G fr cs) h:=
 W.closed _ _ rfl λw f=>⟨_,w,#[],h,hs w,Bf.refl f,hk⟩
theorem Wk.go{fr:Frame}(fr':Frame){cs:List Frame}{h:Y}(hs:∀w,stepG P W.main (G fr cs) w=.go (G fr' cs) w)(hk:W.K (G fr' cs) h):W.K (G fr cs) h:=Wk.move hs hk
def Cd(b:Frame)(t:Array aZ)(ds:List Deferred)(todo:List Item):Frame:={ b with tmps:=t,todo:=todo,defers:=ds,mode:=.run }
def Er(b:Frame)(t:Array aZ)(ds:List Deferred)(todo:List Item):Frame:={ b with tmps:=t,todo:=todo,defers:=ds,mode:=.returning }
def BT(t:Array aZ)(N:Nat)(O:Nat->aZ):Prop:=t.size=N/\∀i,t.getD i undef=O i
def upd(O:Nat->aZ)(d:Nat)(v:aZ):Nat->aZ:=λi=>bif Nat.beq i d then v else O i
theorem upd_same(O:Nat->aZ)(d:Nat)(v:aZ):upd O d v d=v:=by simp [upd]
theorem upd_ne(O:Nat->aZ){d i:Nat}(v:aZ)(h:Nat.beq i d=false):upd O d v i=O i:=by simp [upd,h]
theorem BT.put{t:Array aZ}{N:Nat}{O:Nat->aZ}(s:BT t N O){d:Nat}(hd:Nat.blt d N=true)(v:aZ):BT (t.setIfInBounds d v) N (upd O d v):=by
 refine ⟨by simp [s.1],λi=>?_⟩;have a:d<t.size:=by rw [s.1];exact Nat.blt_eq▸hd
 by_cases e:i=d
 ·subst e;rw [upd_same];simp [Array.getD_eq_getD_getElem?,a]
 ·have b:Nat.beq i d=false:=by
   cases c:Nat.beq i d with
   | false=>rfl
   | true=>exact absurd (Nat.eq_of_beq_eq_true c) e
  rw [upd_ne O v b,<-s.2 i];simp [Array.getD_eq_getD_getElem?,Array.getElem?_setIfInBounds_ne (λx=>e x.symm)]
def AN(O:Nat->aZ):Operand->aZ
 | .tmp t=>O t
 | .const v=>v
 | .global g=>.pointer (some ⟨g,0,none⟩)
 | .func f=>.func (.func f) #[] #[]
theorem L9{b:Frame}{t:Array aZ}{ds:List Deferred}{k:List Item}{N:Nat}{O:Nat->aZ}(s:BT t N O):(Cd b t ds k).eval=AN O:=by
 funext x;cases x with
 | tmp i=>exact s.2 i
 | const v=>rfl
 | global g=>rfl
 | func f=>rfl
abbrev Lv:=Option Code->Array aZ->List Deferred->Y->Prop
structure MA(W:Wk P)(b:Frame)(cs:List Frame)(aP:Lv):Prop where
 stop:∀t ds h,aP none t ds h->W.K (G (Cd b t ds []) cs) h
 ret:∀t ds h k,aP (some .ret) t ds h->W.K (G (Cd b t ds (.code .ret ::k)) cs) h
 exit:∀id t ds h k,exitTo id k=none->aP (some (.exit id)) t ds h->W.K (G (Cd b t ds (.code (.exit id) ::k)) cs) h
def DI(W:Wk P)(aP:Lv)(b:Frame)(k:List Item)(cs:List Frame):Exit->Array aZ->List Deferred->Y->Prop
 | .normal,t,ds,h=>W.K (G (Cd b t ds k) cs) h
 | .exit id,t,ds,h=>match exitTo id k with
  | some k'=>W.K (G (Cd b t ds k') cs) h
  | none=>aP (some (.exit id)) t ds h
 | .ret,t,ds,h=>aP (some .ret) t ds h
 | _,_,_,_=>False
theorem DI.push{aP:Lv}{b:Frame}{x:Item}{k:List Item}{cs:List Frame}{e:Exit}{t:Array aZ}{ds:List Deferred}{h:Y}(hx:x.plain=true)(he:e≠.normal)
  (a:DI W aP b k cs e t ds h):DI W aP b (x ::k) cs e t ds h:=by
 cases e with
 | normal=>exact absurd rfl he
 | exit id=>
  have:exitTo id (x ::k)=exitTo id k:=by cases x <;> simp_all [exitTo,Item.plain]
  simp only [DI,this] at a ⊢;exact a
 | ret=>exact a
 | goto l=>exact a
 | panic c=>exact a
 | outgrown=>exact a
structure Gb(P:Program) where
 wk:Wk P
 fn:FuncId
 rd:Option Nat
 N:Nat
abbrev Post:=Exit->(Nat->aZ)->List Deferred->Y->Prop
def Tr(E:Gb P)(c:Code)(O:Nat->aZ)(ds:List Deferred)(h:Y)(Q:Post):Prop:=
 ∀(b:Frame)(k:List Item)(cs:List Frame)(aP:Lv)(t:Array aZ),b.fn=E.fn->b.roundOf=E.rd->MA E.wk b cs aP->BT t E.N O->
  (∀e σ' ds' h',Q e σ' ds' h'->∀t',BT t' E.N σ'->DI E.wk aP b k cs e t' ds' h')->E.wk.K (G (Cd b t ds (.code c ::k)) cs) h
def DK(E:Gb P)(ops:Array Oper)(l:List Oper)(O:Nat->aZ)(ds:List Deferred)(h:Y)(Q:Post):Prop:=
 ∀(i:Nat)(b:Frame)(k:List Item)(cs:List Frame)(aP:Lv)(t:Array aZ),(∀j,l[j]? =ops[i+j]?)->b.fn=E.fn->b.roundOf=E.rd->MA E.wk b cs aP->BT t E.N O->
  (∀e σ' ds' h',Q e σ' ds' h'->∀t',BT t' E.N σ'->DI E.wk aP b k cs e t' ds' h')->E.wk.K (G (Cd b t ds (.inRegion ops (List.range' i l.length) ::k)) cs) h
variable {E:Gb P} {O:Nat->aZ} {ds:List Deferred} {h:Y} {Q:Post}
theorem Kf{c:Code}{Q':Post}(hq:∀e O ds h,Q e O ds h->Q' e O ds h)(x:Tr E c O ds h Q):Tr E c O ds h Q':=
 λb k d f t g i j l m=>x b k d f t g i j l λe σ' a n q=>m e σ' a n (hq _ _ _ _ q)
theorem A6{main:Bool}{b:Frame}{t:Array aZ}{ds:List Deferred}{k:List Item}{cs:List Frame}{w:World}:stepG P main (G (Cd b t ds k) cs) w=stepG.exec P main true (Cd b t ds k) cs none w:=rfl
theorem tr_skip(q:Q .normal O ds h):Tr E .skip O ds h Q:=λb k d e t _ _ _ a c=>
 Wk.go _ (λw=>by rw [A6];simp [stepG.exec,Cd,G]) (c _ _ _ _ q t a)
theorem VD{l:Nat}(q:Q .normal O ds h):Tr E (.label l) O ds h Q:=λb k d e t _ _ _ a c=>
 Wk.go _ (λw=>by rw [A6];simp [stepG.exec,Cd,G]) (c _ _ _ _ q t a)
theorem tr_ret(q:Q .ret O ds h):Tr E .ret O ds h Q:=λb k e f t _ _ a c d=>a.ret t ds h k (d _ _ _ _ q t c)
theorem tr_exit{id:Nat}(q:Q (.exit id) O ds h):Tr E (.exit id) O ds h Q:=λb k f g t _ _ c d e=>by
 have:=e _ _ _ _ q t d
 cases a:exitTo id k with
 | none=>simp only [DI,a] at this;exact c.exit id t ds h k a this
 | some i=>
  simp only [DI,a] at this;exact Wk.go _ (λw=>by rw [A6];simp [stepG.exec,Cd,G,a]) this
theorem tr_seq{x y:Code}(a:Tr E x O ds h (λe σ' ds' h'=>match e with | .normal=>Tr E y σ' ds' h' Q | e=>Q e σ' ds' h')):Tr E (.seq x y) O ds h Q:=by
 intro b k g i t j m n o d;refine Wk.go (Cd b t ds (.code x ::.code y ::k)) (λw=>by rw [A6];simp [stepG.exec,Cd,G]) ?_;refine a b (.code y ::k) g i t j m n o λe σ' ds' h' q f c=>?_;cases e with
 | normal=>exact q b k g i f j m n c d
 | exit id=>exact DI.push rfl aD (d _ _ _ _ q f c)
 | ret=>exact DI.push rfl aD (d _ _ _ _ q f c)
 | goto l=>exact DI.push rfl aD (d _ _ _ _ q f c)
 | panic l=>exact DI.push rfl aD (d _ _ _ _ q f c)
 | outgrown=>exact DI.push rfl aD (d _ _ _ _ q f c)
theorem BP{x y:Code}(M:(Nat->aZ)->List Deferred->Y->Prop)(a:Tr E x O ds h (λe σ' ds' h'=>match e with | .normal=>M σ' ds' h' | e=>Q e σ' ds' h'))
  (r:∀σ' ds' h',M σ' ds' h'->Tr E y σ' ds' h' Q):Tr E (.seq x y) O ds h Q:=
 tr_seq (Kf (λe σ' ds' h' q=>by cases e <;> first | exact r _ _ _ q | exact q) a)
theorem Zp{c:Operand}{x y:Code}{t:Bool}(hc:AN O c=.bool t)(a:Tr E (if t then x else y) O ds h Q):Tr E (.cond c x y) O ds h Q:=by
 intro b k g i d j l m e n;refine Wk.go (Cd b d ds (.code (if t then x else y) ::k)) (λw=>?_) (a b k g i d j l m e n);have f:(Cd b d ds (.code (.cond c x y) ::k)).eval c=.bool t:=by rw [L9 e];exact hc
 simp only [Cd] at f;rw [A6];simp [stepG.exec,Cd,G,f]
theorem C1{c:Operand}{x y:Code}(hc:AN O c=.bool true)(a:Tr E x O ds h Q):Tr E (.cond c x y) O ds h Q:=Zp hc a
theorem Bq{c:Operand}{x y:Code}(hc:AN O c=.bool false)(a:Tr E y O ds h Q):Tr E (.cond c x y) O ds h Q:=Zp hc a
theorem AR{c:Operand}{x y:Code}{p:Prop}[Decidable p](hc:AN O c=.bool (decide p))(a:p->Tr E x O ds h Q)(a':¬p->Tr E y O ds h Q):Tr E (.cond c x y) O ds h Q:=by
 by_cases b:p
 ·exact C1 (by rw [hc];simp [b]) (a b)
 ·exact Bq (by rw [hc];simp [b]) (a' b)
theorem CJ{c:Operand}{x y:Code}{t:Bool}(hc:AN O c=.bool t)(a:t=true->Tr E x O ds h Q)(a':t=false->Tr E y O ds h Q):Tr E (.cond c x y) O ds h Q:=by
 cases t with
 | true=>exact C1 hc (a rfl)
 | false=>exact Bq hc (a' rfl)
theorem tr_block{id:Nat}{c:Code}(a:Tr E c O ds h (λe σ' ds' h'=>match e with | .normal=>Q .normal σ' ds' h' | .exit id'=>if id'=id then Q .normal σ' ds' h' else Q (.exit id') σ' ds' h' | e=>Q e σ' ds' h')) :
  Tr E (.block id c) O ds h Q:=by
 intro b k m n t o p r s i;refine Wk.go (Cd b t ds (.code c ::.inBlock id ::k)) (λw=>by rw [A6];simp [stepG.exec,Cd,G]) ?_;refine a b (.inBlock id ::k) m n t o p r s λe σ' ds' h' q g d=>?_;cases e with
 | normal=>exact Wk.go (Cd b g ds' k) (λw=>by rw [A6];simp [stepG.exec,Cd,G]) (i _ _ _ _ q g d)
 | exit id'=>
  by_cases f:id'=id
  ·simp only [f,if_true] at q
   have:=i _ _ _ _ q g d
   simp only [DI,exitTo,f,beq_self_eq_true,if_true];exact this
  ·simp only [f,if_false] at q
   have:=i _ _ _ _ q g d
   have j:(id==id')=false:=by simp;exact λh=>f h.symm
   simp only [DI,exitTo,j] at this ⊢;exact this
 | ret=>exact i _ _ _ _ q g d
 | goto l=>exact i _ _ _ _ q g d
 | panic l=>exact i _ _ _ _ q g d
 | outgrown=>exact i _ _ _ _ q g d
theorem VE{c:Code}(a:Tr E c O ds h Q):Tr E (.scope c) O ds h Q:=by
 intro b k i j t m n o p r;refine Wk.go (Cd b t ds (.code c ::.inScope c ::k)) (λw=>by rw [A6];simp [stepG.exec,Cd,G]) ?_;refine a b (.inScope c ::k) i j t m n o p λe σ' d s q g f=>?_
 have:=r _ _ _ _ q g f
 cases e with
 | normal=>exact Wk.go (Cd b g d k) (λw=>by rw [A6];simp [stepG.exec,Cd,G]) this
 | exit id=>simp only [DI,exitTo] at this ⊢;exact this
 | ret=>exact this
 | goto l=>exact this.elim
 | panic l=>exact this.elim
 | outgrown=>exact this.elim
theorem Aa{c:Code}(I:Nat->(Nat->aZ)->List Deferred->Y->Prop){n:Nat}(i0:I n O ds h)
  (round:∀n O ds h,I n O ds h->Tr E c O ds h (λe σ' ds' h'=>match e with | .normal=>∃m,m<n/\I m σ' ds' h' | e=>Q e σ' ds' h')):Tr E (.loop c) O ds h Q:=by
 intro b k o p t r s u g f;refine Wk.go (Cd b t ds (.code c ::.inLoop c ::k)) (λw=>by rw [A6];simp [stepG.exec,Cd,G]) ?_;have i:∀n O ds h t,I n O ds h->BT t E.N O->E.wk.K (G (Cd b t ds (.code c ::.inLoop c ::k)) o) h:=by
  intro n
  induction n using Nat.strongRecOn with
  | ind n v=>
   intro O ds h t x g;refine round n O ds h x b (.inLoop c ::k) o p t r s u g λe σ' ds' h' q d a=>?_;cases e with
   | normal=>
    obtain ⟨m,y,j⟩:=q;exact Wk.go (Cd b d ds' (.code c ::.inLoop c ::k)) (λw=>by rw [A6];simp [stepG.exec,Cd,G]) (v m y _ _ _ _ j a)
   | exit id=>exact DI.push rfl aD (f _ _ _ _ q d a)
   | ret=>exact DI.push rfl aD (f _ _ _ _ q d a)
   | goto l=>exact DI.push rfl aD (f _ _ _ _ q d a)
   | panic l=>exact DI.push rfl aD (f _ _ _ _ q d a)
   | outgrown=>exact DI.push rfl aD (f _ _ _ _ q d a)
 exact i n O ds h t i0 g
theorem AAa{id:Nat}{l:List Oper}(a:DK E l.toArray l O ds h Q):Tr E (.region id l.toArray false) O ds h Q:=by
 intro b k c d t e f g i j;refine Wk.go (Cd b t ds (.inRegion l.toArray (List.range' 0 l.length) ::k)) (λw=>?_) (a 0 b k c d t aD e f g i j);rw [A6];simp [stepG.exec,Cd,G,List.range_eq_range']
theorem trL_nil{ops:Array Oper}(q:Q .normal O ds h):DK E ops [] O ds h Q:=by
 intro i b k d e t f g j l a c;exact Wk.go (Cd b t ds k) (λw=>by rw [A6];simp [stepG.exec,Cd,G]) (c _ _ _ _ q t a)
def AT(W:Wk P)(f:FuncId)(args:Array aZ)(h:Y)(R:aZ->Y->Prop):Prop:=
 ∀(c:Frame)(cs:List Frame),(∀v h',R v h'->W.K (G (c.finish v) cs) h')->W.K (G (Frame.enter P f args .normal) (c ::cs)) h
theorem AT.mono{f:FuncId}{args:Array aZ}{R R':aZ->Y->Prop}(x:AT W f args h R)(hr:∀v h',R v h'->R' v h'):AT W f args h R':=
 λc a b=>x c a λv h' r=>b v h' (hr v h' r)
def BS(W:Wk P)(l:Nat)(f:FuncId)(tmps:Array aZ)(assign body:Code)(h:Y)(R:aZ->Y->Prop):Prop:=
 ∀(c:Frame)(cs:List Frame),(∀v h',R v h'->W.K (G (c.finish v) cs) h')->W.K (G (Frame.round l f tmps assign body .normal) (c ::cs)) h
def W9(t:Array aZ)(dst:Option Nat)(v:aZ):Array aZ:=match dst with
 | some d=>t.setIfInBounds d v
 | none=>t
def putS(O:Nat->aZ)(dst:Option Nat)(v:aZ):Nat->aZ:=match dst with
 | some d=>upd O d v
 | none=>O
def Cy(dst:Option Nat)(N:Nat):Bool:=match dst with
 | some d=>Nat.blt d N
 | none=>true
def C2:Op->Bool
 | .defer _=>true
 | _=>false
def Upon(E:Gb P)(o:Oper)(O:Nat->aZ)(ds:List Deferred)(T:(Nat->aZ)->List Deferred->Y->Prop):Next->Y->Prop
 | .value v,h=>T (putS O o.dst v) ds h
 | .skip,h=>T (putS O o.dst undef) ds h
 | .enter f args,h=>AT E.wk f args h λv h'=>T (putS O o.dst v) ds h'
 | .round l f tmps a c,h=>BS E.wk l f tmps a c h λv h'=>T (putS O o.dst v) ds h'
 | .defer d,h=>T (putS O o.dst undef) (d ::ds) h
 | _,_=>False
theorem Bf.sub{h h':Y}{w w':World}{es es':Array Event}(s:Bf h w es h' w')(hs:∀e ∈ es',e ∈ es):Bf h w es' h' w':=
 { s with evs:=λe a=>s.evs e (hs e a),evb:=λe a=>s.evb e (hs e a),chn:=λb p o x y=>(s.chn b p o x y).imp id λz=>⟨z.1,λe a=>z.2 e (hs e a)⟩ }
theorem C3{b:Frame}{t:Array aZ}{ds:List Deferred}{ops:Array Oper}{i:Nat}{rest:List Nat}{k:List Item}{o:Oper}(ho:ops[i]? =some o)(v:aZ) :
  (Cd b t ds (.inRegion ops (i ::rest) ::k)).finish v=Cd b (W9 t o.dst v) ds (.inRegion ops rest ::k):=by
 cases a:o.dst <;> simp [Frame.finish,Cd,ho,a,W9]
theorem BT.putS{t:Array aZ}{N:Nat}{O:Nat->aZ}(s:BT t N O){dst:Option Nat}(hd:Cy dst N=true)(v:aZ) :
  BT (W9 t dst v) N (putS O dst v):=by
 cases dst with
 | none=>exact s
 | some d=>exact s.put hd v
theorem Kg{b:Frame}{t:Array aZ}{ds:List Deferred}{ops:Array Oper}{i:Nat}{rest:List Nat}{k:List Item}{cs:List Frame}{o:Oper}{T:(Nat->aZ)->List Deferred->Y->Prop}
  (ho:ops[i]? =some o) (hw:Region.wanted o (yielded ops t)=true) (hdf:b.roundOf=none\/C2 o.op=false) (hd:Cy o.dst E.N=true) (hs:BT t E.N O)
  (x:(execOp (AN O) o).gh P h (Upon E o O ds T))
  (hT:∀σ' ds' h',T σ' ds' h'->∀t',BT t' E.N σ'->E.wk.K (G (Cd b t' ds' (.inRegion ops rest ::k)) cs) h') :
  E.wk.K (G (Cd b t ds (.inRegion ops (i ::rest) ::k)) cs) h:=by
 refine E.wk.closed _ _ rfl λw f=>?_;obtain ⟨z,j,h',p,n,A,m⟩:=JF f x;have r:=L9 (b:=b) (ds:=ds) (k:=.inRegion ops (i ::rest) ::k) hs;have CX:stepG P E.wk.main (G (Cd b t ds (.inRegion ops (i ::rest) ::k)) cs) w=
   stepG.apply P true (Cd b t ds (.inRegion ops (i ::rest) ::k)) cs none (execOp (AN O) o) w:=by
  rw [<-r];have s:((ops[i]?).map (Region.wanted · (yielded ops t))).getD false=true:=by simp [ho,hw]
  rw [A6];unfold stepG.exec;simp only [Cd,s,↓reduceIte];unfold stepG.oper;simp only [Frame.oper?,ho];rcases hdf with e | e
  ·simp only [e]
  ·cases B:o.op <;> first | rfl | (rw [B] at e;cases e;done) | (cases b.roundOf <;> rfl)
 have hseen:∀q:Bool,∀e ∈ seen P b.fn (if q then #[] else p),e ∈ p:=λq e u=>by
  have:=mem_seen u
  cases q with
  | true=>simp at this
  | false=>simpa using this
 have g:∀q:Bool,Bf h w (seen P b.fn (if q then #[] else p)++ #[]) h' j:=λq=>by
  refine A.sub λe u=>hseen q e (by simpa using u)
 rw [CX];cases z with
 | value v=>
  refine ⟨_,j,_,h',?_,g (b.kind==.early),hT _ _ _ m _ (hs.putS hd v)⟩;simp only [stepG.apply,n,if_true];rw [C3 ho];rfl
 | skip=>
  refine ⟨_,j,_,h',?_,g (b.kind==.early),hT _ _ _ m _ (hs.putS hd undef)⟩;simp only [stepG.apply,n,if_true];rw [C3 ho];rfl
 | enter C args=>
  refine ⟨_,j,_,h',?_,g (b.kind==.early),m (Cd b t ds (.inRegion ops (i ::rest) ::k)) cs λv y q=>?_⟩
  ·simp only [stepG.apply,n,if_true];rfl
  ·rw [C3 ho];exact hT _ _ _ q _ (hs.putS hd v)
 | round l C tmps a c=>
  refine ⟨_,j,_,h',?_,g (b.kind==.early),m (Cd b t ds (.inRegion ops (i ::rest) ::k)) cs λv y q=>?_⟩
  ·simp only [stepG.apply,n,if_true];rfl
  ·rw [C3 ho];exact hT _ _ _ q _ (hs.putS hd v)
 | defer d=>
  refine ⟨_,j,_,h',?_,g (b.kind==.early),hT _ _ _ m _ (hs.putS hd undef)⟩;simp only [stepG.apply,n,if_true];show GStep.go (G ((Cd b t (d ::ds) (.inRegion ops (i ::rest) ::k)).finish undef) cs) j _=_;rw [C3 ho];rfl
 | _=>exact m.elim
theorem trL_op{ops:Array Oper}{o:Oper}{l:List Oper}(hg:o.guard=none)(hdf:E.rd=none\/C2 o.op=false)(hd:Cy o.dst E.N=true)
  (x:(execOp (AN O) o).gh P h (Upon E o O ds λσ' ds' h'=>DK E ops l σ' ds' h' Q)):DK E ops (o ::l) O ds h Q:=by
 intro i b k e f t c g d m n p;have q:ops[i]? =some o:=by simpa using (c 0).symm
 refine Kg (E:=E) (rest:=List.range' (i+1) l.length) q (by simp [Region.wanted,hg]) (d▸hdf) hd n x λσ' ds' h' y r a=>?_;exact y (i+1) b k e f r (λj=>by have:=c (j+1);simpa [Nat.add_assoc,Nat.add_comm 1 j] using this) g d m a p
theorem T7{ops:Array Oper}{o:Oper}{l:List Oper}{j d:Nat}{want:Bool}{oj:Oper}(hg:o.guard=some (j,want))(hj:ops[j]? =some oj)(hjd:oj.dst=some d)(hv:O d=.bool want)(hdj:Nat.blt d E.N=true)
  (hdf:E.rd=none\/C2 o.op=false) (hd:Cy o.dst E.N=true)
  (x:(execOp (AN O) o).gh P h (Upon E o O ds λσ' ds' h'=>DK E ops l σ' ds' h' Q)):DK E ops (o ::l) O ds h Q:=by
 intro i b k n p t g q m r c s;have u:ops[i]? =some o:=by simpa using (g 0).symm
 have v:yielded ops t j=some want:=by
  have a:d<t.size:=by rw [c.1];exact Nat.blt_eq▸hdj
  have e:=c.2 d;rw [hv] at e;have w:t[d]? =some (.bool want):=by
   simp only [Array.getD_eq_getD_getElem?,Array.getElem?_eq_getElem a,Option.getD_some] at e;rw [Array.getElem?_eq_getElem a,e]
  simp [yielded,hj,hjd,w]
 refine Kg (E:=E) (rest:=List.range' (i+1) l.length) u (by simp [Region.wanted,hg,v]) (m▸hdf) hd c x λσ' ds' h' y z f=>?_;exact y (i+1) b k n p z (λj=>by have:=g (j+1);simpa [Nat.add_assoc,Nat.add_comm 1 j] using this) q m r f s
theorem PP{ops:Array Oper}{o:Oper}{l:List Oper}{j d:Nat}{want is:Bool}{oj:Oper}(hg:o.guard=some (j,want))(hj:ops[j]? =some oj)(hjd:oj.dst=some d)(hv:O d=.bool is)(hdj:Nat.blt d E.N=true)(hne:want≠is)
  (hd:Cy o.dst E.N=true) (x:DK E ops l (putS O o.dst undef) ds h Q):DK E ops (o ::l) O ds h Q:=by
 intro i b k n p t g q r s c u;have m:ops[i]? =some o:=by simpa using (g 0).symm
 have v:yielded ops t j=some is:=by
  have a:d<t.size:=by rw [c.1];exact Nat.blt_eq▸hdj
  have e:=c.2 d;rw [hv] at e;have y:t[d]? =some (.bool is):=by
   simp only [Array.getD_eq_getD_getElem?,Array.getElem?_eq_getElem a,Option.getD_some] at e;rw [Array.getElem?_eq_getElem a,e]
  simp [yielded,hj,hjd,y]
 refine Wk.go (Cd b (W9 t o.dst undef) ds (.inRegion ops (List.range' (i+1) l.length) ::k)) (λw=>?_) ?_
 ·have f:((ops[i]?).map (Region.wanted · (yielded ops t))).getD false=false:=by
   simp only [m,Option.map_some,Option.getD_some,Region.wanted,hg,v];cases want <;> cases is <;> simp_all
  rw [<-C3 m (rest:=List.range' (i+1) l.length),List.length_cons,List.range'_succ,A6];unfold stepG.exec;simp only [Cd,f,Bool.false_eq_true,↓reduceIte];rfl
 ·exact x (i+1) b k n p _ (λj=>by have:=g (j+1);simpa [Nat.add_assoc,Nat.add_comm 1 j] using this) q r s (c.putS hd undef) u
end
end Go.Ns
namespace Go.Ns
open Go.Conc
theorem NE{h:Y}{n:Nat}{e:Event}(x:VC h n e):MemAct.ofEvent e=.access e/\(MemAct.ofEvent e).touch? =some ⟨e.loc,e.write,.plain⟩:=by
 obtain ⟨c,b⟩:=x;obtain ⟨l,d,f⟩:=e;simp only at c b;subst c;cases l with
 | cell a=>exact ⟨rfl,rfl⟩
 | obj r=>cases d <;> exact ⟨rfl,rfl⟩
 | output=>exact b.elim
 | goroutines=>exact b.elim
 | mark m=>exact b.elim
theorem MB{h:Y}{n:Nat}{e:Event}(x:VC h n e):∃b,C0 e.loc=some b/\T5 h n b e.write:=by
 obtain ⟨_,c⟩:=x;cases d:e.loc with
 | cell a=>rw [d] at c;exact ⟨_,rfl,c⟩
 | obj r=>rw [d] at c;exact ⟨_,rfl,c⟩
 | output=>rw [d] at c;exact c.elim
 | goroutines=>rw [d] at c;exact c.elim
 | mark m=>rw [d] at c;exact c.elim
theorem BY{t u:Trace}{k:Nat}{a:Touch}(h:touchAt (t++u) k=some a):(k<t.size/\touchAt t k=some a)\/(t.size<=k/\∃op ∈ u,(t++u)[k]? =some op/\op.act.touch? =some a):=by
 obtain ⟨op,b,c⟩:=touch_of h;rcases getElem?_append_cases b with ⟨x,y⟩ | ⟨x,y⟩
 ·exact .inl ⟨x,by rw [touchAt_of y];exact c⟩
 ·exact .inr ⟨x,op,y,b,c⟩
def LV(hs:Nat->Y)(i:Nat)(h:Y):Nat->Y:=λj=>if j=i then h else hs j
theorem FI(hs:Nat->Y)(i:Nat)(h:Y):LV hs i h i=h:=by simp [LV]
theorem Hf(hs:Nat->Y){i j:Nat}(h:Y)(e:j≠i):LV hs i h j=hs j:=by simp [LV,e]
structure HS(w:World)(n:Nat)(hs:Nat->Y):Prop where
 fits:∀i,i<n->EL w (hs i)
 disj:∀i j b o x,i<n->j<n->i≠j->hs i b=some (true,o)->hs j b=some x->False
theorem HS.at{w:World}{n:Nat}{hs:Nat->Y}(h:HS w n hs)(d:Nat):HS (w.at d) n hs:=⟨h.fits,h.disj⟩
theorem HS.step{w w':World}{n:Nat}{hs:Nat->Y}(h:HS w n hs){i:Nat}(hi:i<n){es:Array Event}{h':Y}(s:Bf (hs i) w es h' w'):HS w' n (LV hs i h') where
 fits:=λj q=>by
  by_cases e:j=i
  ·subst e;rw [FI];exact s.fits
  ·rw [Hf hs h' e];intro b p o r;rw [s.frame b ((h.fits j q).lt r) λk x=>h.disj i j b k (p,o) hi q (λy=>e y.symm) x r];exact h.fits j q b p o r
 disj:=λa c b o x l m d g f=>by
  by_cases t:a=i
  ·subst t;rw [FI] at g;rw [Hf hs h' (λy=>d y.symm)] at f;rcases s.own b o g with ⟨k,z⟩ | z
   ·exact h.disj a c b k x l m d z f
   ·exact absurd ((h.fits c m).lt (p:=x.1) (o:=x.2) f) (Nat.not_lt.2 z)
  ·rw [Hf hs h' t] at g;by_cases u:c=i
   ·subst u;rw [FI] at f;obtain ⟨p,k⟩:=x;cases p with
    | true=>
     rcases s.own b k f with ⟨v,z⟩ | z
     ·exact h.disj a c b o _ l m d g z
     ·exact absurd ((h.fits a l).lt g) (Nat.not_lt.2 z)
    | false=>exact h.disj a c b o _ l m d g (s.ro b k f)
   ·rw [Hf hs h' u] at f;exact h.disj a c b o x l m d g f
structure TI(t:Trace)(n B:Nat)(hs:Nat->Y):Prop where
 words:Wordless t
 clean:∀said,¬Race said t
 low:∀k a b,touchAt t k=some a->C0 a.loc=some b->b<B
 num:∀op ∈ t,op.g<n
 own:∀i b o k a,i<n->hs i b=some (true,o)->touchAt t k=some a->C0 a.loc=some b->Knows t i k
 ro:∀i b o k a,i<n->hs i b=some (false,o)->touchAt t k=some a->C0 a.loc=some b->a.write=true->Knows t i k
 chn:∀i b p o k a,i<n->hs i b=some (p,o)->o.isChan=true->touchAt t k=some a->C0 a.loc=some b->a.kind=.atomic
theorem TI.knows{t:Trace}{n B:Nat}{hs:Nat->Y}(T:TI t n B hs){i b:Nat}{p:Bool}{o:Obj}{k:Nat}{a:Touch}(hi:i<n)(hb:hs i b=some (p,o))(hk:touchAt t k=some a)(hl:C0 a.loc=some b)
  (hw:p=true\/a.write=true):Knows t i k:=by
 cases p with
 | true=>exact T.own i b o k a hi hb hk hl
 | false=>exact T.ro i b o k a hi hb hk hl (hw.elim (λx=>by cases x) id)
theorem TI.step{t:Trace}{n:Nat}{hs:Nat->Y}{w w':World}(T:TI t n w.heap.size hs)(H:HS w n hs){i:Nat}(hi:i<n){es:Array Event}{h':Y}(s:Bf (hs i) w es h' w')(fn:FuncId)(pos:String) :
  TI (t++MemOp.ofEvents i fn pos es) n w'.heap.size (LV hs i h'):=by
 have O:∀c ∈ MemOp.ofEvents i fn pos es,c.g=i:=λc CX=>by obtain ⟨e,_,rfl⟩:=Go.Conc.mem_ofEvents CX;rfl
 have P:∀c ∈ MemOp.ofEvents i fn pos es,∀a,c.act.touch? =some a->∃e ∈ es,a=⟨e.loc,e.write,.plain⟩/\VC (hs i) w.heap.size e:=by
  intro c CX a r;obtain ⟨e,A,rfl⟩:=Go.Conc.mem_ofEvents CX;rcases s.evs e A with h0 | h0
  ·have C:=NE h0;simp only [C.2,Option.some.injEq] at r;exact ⟨e,A,r.symm,h0⟩
  ·rw [h0] at r;cases r
 have hother:∀j b p o,j<n->j≠i->hs j b=some (p,o)->∀c ∈ MemOp.ofEvents i fn pos es,∀a,c.act.touch? =some a->C0 a.loc=some b->p=false/\a.write=false/\o.isChan=false:=by
  intro j b p o u D f c CX a r h;obtain ⟨e,A,rfl,E⟩:=P c CX a r;obtain ⟨X,v,l⟩:=MB E;simp only at h;rw [h] at v;cases v;rcases l with ⟨Q,F,x,y,z⟩ | x
  ·have hp:p=false:=by
    cases p with
    | false=>rfl
    | true=>exact (H.disj j i b o _ u hi D f x).elim
   have I:Q=false:=by
    cases Q with
    | false=>rfl
    | true=>exact (H.disj i j b F _ hi u (λq=>D q.symm) x f).elim
   refine ⟨hp,?_,?_⟩
   ·cases K:e.write with
    | false=>rfl
    | true=>rw [z K] at I;cases I
   ·have e1:=H.fits j u b p o f;have W:=H.fits i hi b Q F x;rw [e1] at W;cases W;exact y
  ·exact absurd ((H.fits j u).lt f) (Nat.not_lt.2 x)
 refine ⟨?_,?_,?_,?_,?_,?_,?_⟩
 ·refine T.words.append λc CX m R=>?_;obtain ⟨e,A,rfl⟩:=Go.Conc.mem_ofEvents CX;rcases s.evs e A with h0 | h0
  ·simp only [(NE h0).1] at R;cases R
  ·rw [h0] at R;cases R;exact rfl
 ·intro said;refine noRace_append (T.clean said) O λk a d c CX b f B=>?_;obtain ⟨e,A,rfl,E⟩:=P c CX b f;obtain ⟨M,N,l⟩:=MB E;obtain ⟨c1,_,c3,_⟩:=B;have h:C0 a.loc=some M:=by rw [c1];exact N
  rcases l with ⟨p,o,x,_,z⟩ | x
  ·refine T.knows hi x d h ?_;cases p with
   | true=>exact .inl rfl
   | false=>
    rcases c3 with c3 | c3
    ·exact .inr c3
    ·have:=z c3;cases this
  ·exact absurd (T.low k a M d h) (Nat.not_lt.2 x)
 ·intro k a b d h;rcases BY d with ⟨_,d⟩ | ⟨_,c,CX,_,r⟩
  ·exact Nat.lt_of_lt_of_le (T.low k a b d h) s.size
  ·obtain ⟨e,A,rfl,_⟩:=P c CX a r;exact s.evb e A b h
 ·intro c CX;rcases Array.mem_append.1 CX with x | x
  ·exact T.num c x
  ·rw [O c x];exact hi
 ·intro j b o k a u f d h;by_cases e:j=i
  ·subst e;rw [FI] at f;rcases BY d with ⟨_,d⟩ | ⟨_,c,CX,C,_⟩
   ·rcases s.own b o f with ⟨F,x⟩ | x
    ·exact (T.own j b F k a u x d h).app _
    ·exact absurd (T.low k a b d h) (Nat.not_lt.2 x)
   ·have:=knows_own C;rw [O c CX] at this;exact this
  ·rw [Hf hs h' e] at f;rcases BY d with ⟨_,d⟩ | ⟨_,c,CX,_,r⟩
   ·exact (T.own j b o k a u f d h).app _
   ·have:=(hother j b true o u e f c CX a r h).1;cases this
 ·intro j b o k a u f d h K;by_cases e:j=i
  ·subst e;rw [FI] at f;rcases BY d with ⟨_,d⟩ | ⟨_,c,CX,C,_⟩
   ·exact (T.ro j b o k a u (s.ro b o f) d h K).app _
   ·have:=knows_own C;rw [O c CX] at this;exact this
  ·rw [Hf hs h' e] at f;rcases BY d with ⟨_,d⟩ | ⟨_,c,CX,_,r⟩
   ·exact (T.ro j b o k a u f d h K).app _
   ·have:=(hother j b false o u e f c CX a r h).2.1;rw [K] at this;cases this
 ·intro j b p o k a u f B d h;by_cases e:j=i
  ·subst e;rw [FI] at f;rcases BY d with ⟨_,d⟩ | ⟨_,c,CX,_,r⟩
   ·rcases s.chn b p o f B with x | x
    ·exact T.chn j b p o k a u x B d h
    ·exact absurd (T.low k a b d h) (Nat.not_lt.2 x.1)
   ·obtain ⟨e,A,rfl,E⟩:=P c CX a r;obtain ⟨X,v,l⟩:=MB E;simp only at h;rw [h] at v;cases v;rcases s.chn b p o f B with x | x
    ·rcases l with ⟨Q,F,y,z,_⟩ | y
     ·rw [x] at y;cases y;rw [B] at z;cases z
     ·exact absurd (s.fits0.lt x) (Nat.not_lt.2 y)
    ·exact absurd h (x.2 e A)
  ·rw [Hf hs h' e] at f;rcases BY d with ⟨_,d⟩ | ⟨_,c,CX,_,r⟩
   ·exact T.chn j b p o k a u f B d h
   ·have:=(hother j b p o u e f c CX a r h).2.2;rw [B] at this;cases this
theorem TI.mute{t u:Trace}{n B:Nat}{hs:Nat->Y}(T:TI t n B hs)(hn:∀op ∈ u,op.act.touch? =none)(hw:Wordless u)(hg:∀op ∈ u,op.g<n):TI (t++u) n B hs:=by
 have c:∀k a,touchAt (t++u) k=some a->touchAt t k=some a:=λk a d=>by
  rcases BY d with ⟨_,d⟩ | ⟨_,op,CX,_,h⟩
  ·exact d
  ·rw [hn op CX] at h;cases h
 refine ⟨T.words.append hw,?_,λk a b d=>T.low k a b (c k a d),?_,λi b o k a f e d l=>(T.own i b o k a f e (c k a d) l).app _,
  λi b o k a f e d l hw=>(T.ro i b o k a f e (c k a d) l hw).app _,λi b p o k a f e m d=>T.chn i b p o k a f e m (c k a d)⟩
 ·rintro said ⟨i,j,q,⟨a,b,h,e,m⟩,r,s⟩;refine T.clean said ⟨i,j,q,⟨a,b,c i a h,c j b e,m⟩,λx=>r (hb_app u x),λx=>s (hb_app u x)⟩
 ·intro op CX;rcases Array.mem_append.1 CX with x | x
  ·exact T.num op x
  ·exact hg op x
end Go.Ns
namespace Go.Ns
open Go.Conc
section
variable {P:Program} {Post:aZ->World->Prop}
def Bj(P:Program)(Post:aZ->World->Prop)(m:Machine)(t:Trace):Prop:=
 ∃N last o w t',runNT P (N+1) m t=(.ended o w,t')/\runN P N m=.next last/\step P last=.ended o w/\Conc.Good P Post last o w t'
theorem Bj.step{m m':Machine}{t ops:Trace}(hs:stepT P m=(.next m',ops))(h:Bj P Post m' (t++ops)):Bj P Post m t:=by
 obtain ⟨n,last,o,w,a,b,c,d,e⟩:=h;exact ⟨n+1,last,o,w,a,by rw [runNT_succ_next hs];exact b,by rw [runN_succ_next hs];exact c,d,e⟩
def JG(Post:aZ->World->Prop)(os:Os)(out:Array (Nat×bB)):aZ->World->Prop:=λv w=>Post v w/\w.os=os/\w.output=out
theorem Bj.at{m:Machine}{t:Trace}{os os':Os}{out out':Array (Nat×bB)}(e:os'=os)(e':out'=out)(h:Bj P (JG Post os' out') m t):Bj P (JG Post os out) m t:=by subst e e';exact h
structure Ii(P:Program)(g:Goroutine)(h:Y)(gs:Array Goroutine)(w:World)(q:Nat->Nat)(t:Trace):Prop where
 here:gs[0]? =some g
 old:∀j x,0<j->gs[j]? =some x->QuitsIn P (q j) x
 fits:EL w h
 words:Wordless t
 clean:∀said,¬Race said t
 low:∀k a b,touchAt t k=some a->C0 a.loc=some b->b<w.heap.size
 num:∀op ∈ t,op.g<gs.size
 known:∀k a,touchAt t k=some a->Knows t 0 k
 chn:∀b p o k a,h b=some (p,o)->o.isChan=true->touchAt t k=some a->C0 a.loc=some b->a.kind=.atomic
def EE(P:Program)(Post:aZ->World->Prop)(g:Goroutine)(h:Y):Prop:=
 ∀gs w sl q t,Ii P g h gs w q t->Bj P (JG Post w.os w.output) (crowd gs w sl) t
def only(h:Y):Nat->Y:=λj=>if j=0 then h else λ_=>none
theorem Ii.HS{g:Goroutine}{h:Y}{gs:Array Goroutine}{w:World}{q:Nat->Nat}{t:Trace}(B:Ii P g h gs w q t):HS w gs.size (only h) where
 fits:=λi _=>by
  unfold only;split
  ·exact B.fits
  ·intro b p o x;cases x
 disj:=λi j b o x _ _ d a c=>by
  unfold only at a c;split at a
  ·split at c
   ·omega
   ·cases c
  ·cases a
theorem Ii.TI{g:Goroutine}{h:Y}{gs:Array Goroutine}{w:World}{q:Nat->Nat}{t:Trace}(B:Ii P g h gs w q t):TI t gs.size w.heap.size (only h) where
 words:=B.words
 clean:=B.clean
 low:=B.low
 num:=B.num
 own:=λi b o k a _ c d _=>by
  unfold only at c;split at c
  ·rename_i e;subst e;exact B.known k a d
  ·cases c
 ro:=λi b o k a _ c d _ _=>by
  unfold only at c;split at c
  ·rename_i e;subst e;exact B.known k a d
  ·cases c
 chn:=λi b p o k a _ c=>by
  unfold only at c;split at c
  ·exact B.chn b p o k a c
  ·cases c
theorem Ii.lt{g:Goroutine}{h:Y}{gs:Array Goroutine}{w:World}{q:Nat->Nat}{t:Trace}(B:Ii P g h gs w q t):0<gs.size:=(Array.getElem?_eq_some_iff.1 B.here).1
theorem Ii.step{g g':Goroutine}{h h':Y}{gs:Array Goroutine}{w w':World}{q:Nat->Nat}{t:Trace}(B:Ii P g h gs w q t){es:Array Event}(s:Bf h w es h' w')(fn:FuncId)(pos:String)(wk:Goroutine->Goroutine)
  (hwk:∀j x,0<j->gs[j]? =some x->wk x=x):Ii P g' h' ((gs.map wk).setIfInBounds 0 g') w' q (t++MemOp.ofEvents 0 fn pos es):=by
 have m:Bf (only h 0) w es h' w':=s;have T':=B.TI.step B.HS B.lt m fn pos;refine ⟨by simp [B.lt],?_,s.fits,T'.words,T'.clean,T'.low,by simpa using T'.num,?_,?_⟩
 ·intro j x f i;have c:0≠j:=U
  rw [Array.getElem?_setIfInBounds_ne c,Array.getElem?_map] at i;obtain ⟨y,l,rfl⟩:=Option.map_eq_some_iff.1 i;rw [hwk j y f l];exact B.old j y f l
 ·intro k a d;rcases BY d with ⟨_,d⟩ | ⟨_,u,CX,n,_⟩
  ·exact (B.known k a d).app _
  ·have:=knows_own n
   obtain ⟨e,_,rfl⟩:=Go.Conc.mem_ofEvents CX;exact this
 ·intro b p o k a r;refine T'.chn 0 b p o k a B.lt ?_;rw [FI];exact r
theorem Ii.quit{g:Goroutine}{h:Y}{gs:Array Goroutine}{w:World}{q:Nat->Nat}{t:Trace}(B:Ii P g h gs w q t)(hg:g.status=.running){i k d:Nat}{x x':Goroutine}(hi:0<i)(hx:gs[i]? =some x)(hq:QuitsIn P k x') :
  Ii P g h ((gs.map (woken P x x' (w.at d))).setIfInBounds i x') (w.at d) (Go.ConcN.upd q i k) t:=by
 refine ⟨?_,?_,B.fits,B.words,B.clean,B.low,by simpa using B.num,B.known,B.chn⟩
 ·rw [Array.getElem?_setIfInBounds_ne U,Array.getElem?_map,B.here];simp [woken_running hg]
 ·intro j y f b;by_cases e:i=j
  ·subst e;have c:i<gs.size:=(Array.getElem?_eq_some_iff.1 hx).1;rw [Array.getElem?_setIfInBounds_self_of_lt (by simpa using c)] at b;obtain rfl:=Option.some.inj b;rw [Go.ConcN.upd_same];exact hq
  ·rw [Array.getElem?_setIfInBounds_ne e,Array.getElem?_map] at b;obtain ⟨z,l,rfl⟩:=Option.map_eq_some_iff.1 b;have a:=B.old j z f l;rw [woken_quits a,Go.ConcN.upd_ne q k (Ne.symm e)];exact a
theorem Ii.awake{g:Goroutine}{h:Y}{gs:Array Goroutine}{w:World}{q:Nat->Nat}{t:Trace}(B:Ii P g h gs w q t)(hg:g.status=.running):∀x ∈ gs,awake x:=by
 intro x b;obtain ⟨i,a,rfl⟩:=Array.mem_iff_getElem.1 b;rcases Nat.eq_zero_or_pos i with rfl | hpos
 ·have:gs[0]=g:=by have:=B.here;simpa [Array.getElem?_eq_getElem a] using this
  rw [this];exact awake_of (.inl hg)
 ·exact awake_of ((B.old i _ hpos (Array.getElem?_eq_getElem a)).status.elim .inl λx=>.inr (.inr x))
theorem SV{g:Goroutine}{h:Y}(hg:g.status=.running)
  (go:∀gs w w₀ sl sl₀ q t,Ii P g h gs w q t->stepT P (crowd gs w₀ sl₀)=runT P (crowd gs w sl) 0->Bj P (JG Post w.os w.output) (crowd gs w₀ sl₀) t):EE P Post g h:=by
 have n:∀μ gs w sl q t,Go.ConcN.sumTo gs.size q=μ->Ii P g h gs w q t->Bj P (JG Post w.os w.output) (crowd gs w sl) t:=by
  intro μ
  induction μ using Nat.strongRecOn with
  | ind μ y=>
   intro gs w sl q t hμ B;obtain ⟨i,x,d,b,j,l,c⟩:=crowd_pick (P:=P) (w:=w) (sl:=sl) (B.awake hg) ⟨0,g,B.here,hg⟩;rcases Nat.eq_zero_or_pos i with rfl | hpos
   ·have B':Ii P g h gs (w.at d) q t:=⟨B.here,B.old,B.fits,B.words,B.clean,B.low,B.num,B.known,B.chn⟩;exact go gs (w.at d) w b sl q t B' c
   ·have m:=B.old i x hpos j;have o:(i==0)=false:=by simp;omega
    have p:i<gs.size:=(Array.getElem?_eq_some_iff.1 j).1;cases a:q i with
    | zero=>rw [a] at m;rw [show x.status=.finished from m] at l;cases l
    | succ k=>
     rw [a] at m;rcases m with z | ⟨_,u,f,r⟩
     ·rw [z] at l;cases l
     have hrunT:=runT_crowd_go (P:=P) (sl:=b) (i:=i) j (by rw [o];exact f (w.at d));have s:((gs.map (woken P x u (w.at d))).setIfInBounds i u).size=gs.size:=aD
     have v:Go.ConcN.sumTo gs.size (Go.ConcN.upd q i k)+(k+1)=Go.ConcN.sumTo gs.size q+k:=by
      have:=Go.ConcN.sumTo_upd q k id p
      simpa [a] using this
     refine Bj.step (c.trans hrunT) ?_;have e:t++MemOp.ofEvents i x.frame.fn x.frame.place #[]=t:=by simp [MemOp.ofEvents]
     rw [e];exact y (Go.ConcN.sumTo gs.size (Go.ConcN.upd q i k)) U _ _ _ (Go.ConcN.upd q i k) _ (by rw [s]) (B.quit hg hpos j r)
 intro gs w sl q t B;exact n _ gs w sl q t rfl B
theorem LG:T6 P true (EE P Post):=by
 intro g h b c;refine SV b λm w w₀ sl sl₀ q t B d=>?_;obtain ⟨n,o,p,r,e,a,f⟩:=c w B.fits;have hrunT:=runT_crowd_go (P:=P) (sl:=sl) (i:=0) B.here (show stepG P (0==0) g w=_ from e);refine Bj.step (d.trans hrunT) (Bj.at a.os a.out (f _ _ _ q _ (B.step a _ _ _ λj x k l=>woken_quits (B.old j x k l))))
theorem XA{g:Goroutine}{h:Y}(hg:g.status=.running)
  (hs:∀w,EL w h->∃v w' es h',stepG P true g w=.ended (.done v) w' es/\Bf h w es h' w'/\Post v w'):EE P Post g h:=by
 refine SV hg λm w w₀ sl sl₀ q t B n=>?_;obtain ⟨v,w',es,h',o,d,r⟩:=hs w B.fits;have hrunT:=runT_many_ended (P:=P) (sl:=sl) (i:=0) B.here (show stepG P (0==0) g w=_ from o);have B':=B.step (g':=g) d g.frame.fn g.frame.place id λ_ _ _ _=>rfl;have a:=n.trans hrunT;refine ⟨0,crowd m w₀ sl₀,.done v,w',t++MemOp.ofEvents 0 g.frame.fn g.frame.place es,by simp [runNT,a],rfl,by simp [step,a],?_⟩;refine ⟨v,rfl,⟨r,d.os,d.out⟩,B'.clean,?_,?_,?_⟩
 ·intro i g' b e s;obtain ⟨x,c,_,_⟩:=s;obtain ⟨p,z,k,l,hb⟩:=B'.known i x c;refine ⟨p,by simp [Trace.g?,k,l],?_⟩;rcases hb with rfl | hb
  ·exfalso;apply e
   have:(t++MemOp.ofEvents 0 g.frame.fn g.frame.place es).g? i=some z.g:=by simp [Trace.g?,k]
   rw [this] at b;cases b;exact l
  ·exact hb
 ·refine ⟨λx c=>?_,rfl⟩;obtain ⟨j,f⟩:=List.mem_iff_getElem?.1 c;rw [List.getElem?_drop] at f;exact ⟨_,(B.old (1+j) x U (by simpa [crowd] using f)).leaves⟩
 ·intro j x c f;refine ⟨q j,?_⟩;rw [B'.words.deaf j];exact (B.old j x U c).hears _ _
end
end Go.Ns
namespace Go.Ns
open Go.Conc
inductive XB where
 | leaf
 | node (f:World->XB)
section
variable {P:Program}
def SW(P:Program)(main:Bool)(Stop:Goroutine->Y->Prop):XB->Goroutine->Y->Prop
 | .leaf,g,h=>Stop g h
 | .node f,g,h=>Stop g h\/(g.status=.running/\∀w,EL w h->∃g' w' es h',stepG P main g w=.go g' w' es/\Bf h w es h' w'/\SW P main Stop (f w) g' h')
def ET(P:Program)(main:Bool)(Stop:Goroutine->Y->Prop)(g:Goroutine)(h:Y):Prop:=∃T,SW P main Stop T g h
theorem ET.stop{main:Bool}{Stop:Goroutine->Y->Prop}{g:Goroutine}{h:Y}(x:Stop g h):ET P main Stop g h:=⟨.leaf,x⟩
theorem MC(main:Bool)(Stop:Goroutine->Y->Prop):T6 P main (ET P main Stop):=by
 intro g h i j;have a:∀w,∃T,EL w h->∃b c d e,stepG P main g w=.go b c d/\Bf h w d e c/\SW P main Stop T b e:=by
  intro w;by_cases f:EL w h
  ·obtain ⟨b,c,d,e,k,l,T,m⟩:=j w f;exact ⟨T,λ_=>⟨b,c,d,e,k,l,m⟩⟩
  ·exact ⟨.leaf,λx=>absurd x f⟩
 exact ⟨.node λw=>Classical.choose (a w),.inr ⟨i,λw f=>Classical.choose_spec (a w) f⟩⟩
theorem ET.elim{main:Bool}{K:Goroutine->Y->Prop}(hK:T6 P main K){g:Goroutine}{h:Y}(x:ET P main K g h):K g h:=by
 obtain ⟨T,x⟩:=x
 induction T generalizing g h with
 | leaf=>exact x
 | node f a=>
  rcases x with x | ⟨b,x⟩
  ·exact x
  ·refine hK g h b λw c=>?_;obtain ⟨d,e,i,j,k,l,m⟩:=x w c;exact ⟨d,e,i,j,k,l,a w m⟩
def Y.Sub(h1 h:Y):Prop:=∀b p o,h1 b=some (p,o)->∃p0,h b=some (p0,o)/\(p=true->p0=true)
def Y.Apart(a b:Y):Prop:=∀r o x,a r=some (true,o)->b r=some x->False
structure Y.Split(h h1 h2:Y):Prop where
 left:h1.Sub h
 right:h2.Sub h
 one:h1.Apart h2
 two:h2.Apart h1
def Y.join(h h2:Y):Y:=λb=>match h b with
 | some x=>some x
 | none=>h2 b
theorem Y.Apart.mono{a b a' b':Y}(x:a.Apart b)(ha:a'.Sub a)(hb:b'.Sub b):a'.Apart b':=λr o y c d=>by
 obtain ⟨h,e,f⟩:=ha r true o c;obtain rfl:=f rfl;obtain ⟨i,g,_⟩:=hb r y.1 y.2 d;exact x r o _ e g
theorem Y.Sub.refl(a:Y):a.Sub a:=λ_ p _ x=>⟨p,x,id⟩
theorem Y.Apart.join_right{a x y:Y}(h1:a.Apart x)(h2:a.Apart y):a.Apart (x.join y):=λr o z c b=>by
 unfold Y.join at b;cases d:x r with
 | some u=>exact h1 r o u c d
 | none=>rw [d] at b;exact h2 r o z c b
theorem Y.Apart.join_left{a x y:Y}(h1:x.Apart a)(h2:y.Apart a):(x.join y).Apart a:=λr o z b d=>by
 unfold Y.join at b;cases c:x r with
 | some u=>rw [c] at b;cases b;exact h1 r o z c d
 | none=>rw [c] at b;exact h2 r o z b d
theorem Y.join_some{x y:Y}{r:Nat}{p:Bool}{o:Obj}(h:x.join y r=some (p,o)):x r=some (p,o)\/y r=some (p,o):=by
 unfold Y.join at h;cases a:x r with
 | some u=>rw [a] at h;exact .inl h
 | none=>rw [a] at h;exact .inr h
theorem EL.sub{w:World}{h h1:Y}(f:EL w h)(s:h1.Sub h):EL w h1:=λb p o x=>by
 obtain ⟨a,y,_⟩:=s b p o x;exact f b a o y
theorem EL.join{w:World}{x y:Y}(f:EL w x)(g:EL w y):EL w (x.join y):=λb p o z=>(Y.join_some z).elim (f b p o) (g b p o)
def Y.Compat(h hm:Y):Prop:=∀b p o q o',h b=some (p,o)->hm b=some (q,o')->p=false/\q=false/\o=o'
theorem Y.compat{w:World}{h k hm:Y}(f:EL w h)(f':EL w k)(a:h.Apart k)(a':k.Apart h)(s:hm.Sub k):h.Compat hm:=λb p o q c x y=>by
 obtain ⟨e,z,g⟩:=s b q c y;have i:=f b p o x;have d:=f' b e c z;rw [i] at d;refine ⟨?_,?_,by cases d;rfl⟩
 ·cases p with
  | false=>rfl
  | true=>exact (a b o _ x z).elim
 ·cases q with
  | false=>rfl
  | true=>obtain rfl:=g rfl;exact (a' b c _ z x).elim
def Y.cut(h:Y)(r:Nat):Y:=λb=>if b=r then none else h b
inductive Ck (M:Type) where
 | send (c:Nat) (m:M) (next:Ck M)
 | recv (c:Nat) (next:Option M->Ck M)
 | close (c:Nat) (next:Ck M)
 | spawn (child next:Ck M)
 | make (next:Nat->Ck M)
 | stop
 | done
 | never
def Ck.isDone{M:Type}:Ck M->Prop
 | .done=>True
 | _=>False
variable {M:Type} {Rep:Nat->M->aZ->Y->Prop} {KS:Goroutine->Y->Prop}
structure T8(P:Program)(main:Bool)(Rep:Nat->M->aZ->Y->Prop)(c:Nat)(m:M)(Next:Goroutine->Y->Prop)(fr:Frame)(cs:List Frame)(v z:aZ)(hm h1 h:Y):Prop where
 step:∀w,EL w h->stepG P main (G fr cs) w=.comm (G fr cs) #[scase c v z] true .send w #[]
 split:Y.Split h h1 hm
 rep:Rep c m v hm
 next:Next (G (fr.finish undef) cs) h1
structure LW(P:Program)(main:Bool)(Rep:Nat->M->aZ->Y->Prop)(c:Nat)(Next:Option M->Goroutine->Y->Prop)(fr:Frame)(cs:List Frame)(z:aZ)(ok:Bool)(h:Y):Prop where
 step:∀w,EL w h->stepG P main (G fr cs) w=.comm (G fr cs) #[rcase c z] true (.recv ok) w #[]
 some:∀m v hm,Rep c m v hm->h.Compat hm->Next (some m) (G (fr.finish (recvd ok v true)) cs) (h.join hm)
 none:Next none (G (fr.finish (recvd ok z false)) cs) h
structure Zq(P:Program)(main:Bool)(c:Nat)(Next:Goroutine->Y->Prop)(fr:Frame)(cs:List Frame)(fr':Frame)(cs':List Frame)(h:Y):Prop where
 step:∀w s r,EL w h->w.heap[c]? =some (.chan 0 #[] false s r false)->stepG P main (G fr cs) w=.go (G fr' cs') { w with heap:=w.heap.setIfInBounds c (.chan 0 #[] true s r false) } #[⟨.obj c,false,true⟩,⟨.obj c,true,true⟩]
 wake:mayWake P (G fr cs)=true
 next:Next (G fr' cs') h
structure T9(P:Program)(main:Bool)(Child Next:Goroutine->Y->Prop)(fr:Frame)(cs:List Frame)(fr':Frame)(d:Deferred)(hc h1 h:Y):Prop where
 step:∀w,EL w h->stepG P main (G fr cs) w=.spawn (G fr' cs) (born P d) w #[]
 split:Y.Split h h1 hc
 next:Next (G fr' cs) h1
 child:Child (born P d) hc
def Fb(P:Program)(Rep:Nat->M->aZ->Y->Prop)(KS:Goroutine->Y->Prop):Ck M->Bool->Goroutine->Y->Prop
 | .send c m nx,main=>ET P main λg h=>∃fr cs v z hm h1,g=G fr cs/\T8 P main Rep c m (Fb P Rep KS nx main) fr cs v z hm h1 h
 | .recv c f,main=>ET P main λg h=>∃fr cs z ok,g=G fr cs/\LW P main Rep c (λo=>Fb P Rep KS (f o) main) fr cs z ok h
 | .close c nx,main=>ET P main λg h=>∃fr cs fr' cs',g=G fr cs/\Zq P main c (Fb P Rep KS nx main) fr cs fr' cs' h
 | .spawn ch nx,main=>ET P main λg h=>∃fr cs fr' d hc h1,g=G fr cs/\T9 P main (Fb P Rep KS ch false) (Fb P Rep KS nx main) fr cs fr' d hc h1 h
 | .make f,main=>ET P main λg h=>g.status=.running/\∃c,h c=some (true,.chan 0 #[] false 0 0 false)/\Fb P Rep KS (f c) main g (h.cut c)
 | .stop,main=>ET P main KS
 | .never,main=>ET P main λg _=>g.status=.running
 | .done,_=>λg _=>∃n,QuitsIn P n g
def Ij(P:Program)(Rep:Nat->M->aZ->Y->Prop)(KS:Goroutine->Y->Prop):Ck M->Bool->Goroutine->Y->Prop
 | .send c m nx,main=>λg h=>∃fr cs v z hm h1,g=G fr cs/\T8 P main Rep c m (Fb P Rep KS nx main) fr cs v z hm h1 h
 | .recv c f,main=>λg h=>∃fr cs z ok,g=G fr cs/\LW P main Rep c (λo=>Fb P Rep KS (f o) main) fr cs z ok h
 | .close c nx,main=>λg h=>∃fr cs fr' cs',g=G fr cs/\Zq P main c (Fb P Rep KS nx main) fr cs fr' cs' h
 | .spawn ch nx,main=>λg h=>∃fr cs fr' d hc h1,g=G fr cs/\T9 P main (Fb P Rep KS ch false) (Fb P Rep KS nx main) fr cs fr' d hc h1 h
 | .make f,main=>λg h=>g.status=.running/\∃c,h c=some (true,.chan 0 #[] false 0 0 false)/\Fb P Rep KS (f c) main g (h.cut c)
 | .stop,_=>KS
 | .done,_=>λ_ _=>False
 | .never,_=>λg _=>g.status=.running
theorem HC{s:Ck M}{main:Bool}(hs:¬s.isDone):Fb P Rep KS s main=ET P main (Ij P Rep KS s main):=by
 cases s <;> first | rfl | exact absurd trivial hs
inductive Ik where
 | low
 | leave (n:Nat)
 | walk (T:XB)
inductive RLt:Ik->Ik->Prop
 | low (T:XB):RLt .low (.walk T)
 | leave (n:Nat):RLt (.leave n) (.leave (n+1))
 | walk (f:World->XB) (w:World):RLt (.walk (f w)) (.walk (.node f))
theorem rlt_wf(r:Ik):Acc RLt r:=by
 have a:Acc RLt .low:=⟨_,λy b=>by cases b⟩;cases r with
 | low=>exact a
 | leave n=>
  induction n with
  | zero=>exact ⟨_,λy b=>by cases b⟩
  | succ n c=>exact ⟨_,λy b=>by cases b;exact c⟩
 | walk T=>
  induction T with
  | leaf=>exact ⟨_,λy b=>by cases b;exact a⟩
  | node f c=>exact ⟨_,λy b=>by
    cases b with
    | low=>exact a
    | walk f w=>exact c w⟩
def UA(n:Nat)(r' r:Nat->Ik):Prop:=∃i,i<n/\RLt (r' i) (r i)/\∀j,j<n->j≠i->r' j=r j
theorem ranks_wf(n:Nat):∀r,Acc (UA n) r:=by
 induction n with
 | zero=>exact λr=>⟨_,λy ⟨i,k,_⟩=>U⟩
 | succ n g=>
  have c:∀a:Ik,Acc RLt a->∀r,Acc (UA n) r->r n=a->Acc (UA (n+1)) r:=by
   intro a l
   induction l with
   | intro a _ m=>
    intro r o
    induction o with
    | intro r p d=>
     intro e;refine ⟨_,λy ⟨i,k,b,h⟩=>?_⟩;rcases Nat.lt_or_ge i n with hin | hin
     ·exact d y ⟨i,hin,b,λj q f=>h j U f⟩ (by rw [h n U U,e])
     ·obtain rfl:i=n:=U
      exact m (y i) (e▸b) y (g y) rfl
  exact λr=>c (r n) (rlt_wf _) r (g r) rfl
structure HD(M:Type) where
 n:Nat
 s:Nat->Ck M
 kn:Nat->Nat->Prop
 cl:Nat->Bool
 ck:Nat->Nat->Prop
def HD.meet(N:HD M)(i j:Nat)(si sj:Ck M):HD M:=
 { N with s:=λx=>if x=i then si else if x=j then sj else N.s x,kn:=λx y=>if x=i\/x=j then N.kn i y\/N.kn j y\/(y=i/\si.isDone)\/(y=j/\sj.isDone) else N.kn x y }
def HD.shut(N:HD M)(i c:Nat)(nx:Ck M):HD M:=
 { N with s:=λx=>if x=i then nx else N.s x,cl:=λx=>if x=c then true else N.cl x,ck:=λx y=>if x=c then N.kn i y\/(y=i/\nx.isDone) else N.ck x y }
def HD.hear(N:HD M)(j c:Nat)(nx:Ck M):HD M:=
 { N with s:=λx=>if x=j then nx else N.s x,kn:=λx y=>if x=j then N.kn j y\/N.ck c y else N.kn x y }
def HD.hire(N:HD M)(i:Nat)(ch nx:Ck M):HD M:=
 { N with n:=N.n+1,s:=λx=>if x=N.n then ch else if x=i then nx else N.s x,kn:=λx y=>if y=N.n then False else if x=N.n then N.kn i y else N.kn x y,ck:=λx y=>if y=N.n then False else N.ck x y }
def HD.mk'(N:HD M)(i c:Nat)(nx:Ck M):HD M:=
 { N with s:=λx=>if x=i then nx else N.s x,cl:=λx=>if x=c then false else N.cl x }
inductive Iv:HD M->HD M->Prop
 | hire {N:HD M} {i:Nat} {ch nx:Ck M}:i<N.n->N.s i=.spawn ch nx->Iv N (N.hire i ch nx)
 | meet {N:HD M} {i j c:Nat} {m:M} {nx:Ck M} {f:Option M->Ck M}:i<N.n->j<N.n->i≠j->N.s i=.send c m nx->N.s j=.recv c f->Iv N (N.meet i j nx (f (some m)))
 | shut {N:HD M} {i c:Nat} {nx:Ck M}:i<N.n->N.s i=.close c nx->Iv N (N.shut i c nx)
 | hear {N:HD M} {j c:Nat} {f:Option M->Ck M}:j<N.n->N.s j=.recv c f->N.cl c=true->Iv N (N.hear j c (f none))
def J1(used:Nat->Prop)(cl:Nat->Bool)(i:Nat):Ck M->Prop
 | .send c _ _=>used c/\cl c=false
 | .recv c _=>used c
 | .close c _=>used c/\cl c=false
 | .spawn _ _=>True
 | .make _=>True
 | .stop=>False
 | .done=>i≠0
 | .never=>False
inductive Fe:(Nat->Prop)->HD M->Prop
 | stop (used:Nat->Prop) (N:HD M):0<N.n->N.s 0=.stop->(∀j,0<j->j<N.n->N.s j=.done/\N.kn 0 j)->Fe used N
 | step (used:Nat->Prop) (N:HD M):0<N.n->((∃N',Iv N N')\/∃i f,i<N.n/\N.s i=.make f)->(∀i,i<N.n->J1 used N.cl i (N.s i))->(∀N',Iv N N'->Fe used N')->
   (∀i f c,i<N.n->N.s i=.make f->¬used c->Fe (λx=>used x\/x=c) (N.mk' i c (f c)))->Fe used N
theorem Fe.plain{used:Nat->Prop}(N:HD M)(h0:0<N.n)(he:∃N',Iv N N')(hf:∀i,i<N.n->J1 used N.cl i (N.s i))(hs:∀N',Iv N N'->Fe used N')(nm:∀i f,i<N.n->N.s i≠.make f):Fe used N:=
 .step used N h0 (.inl he) hf hs λi f _ a e _=>absurd e (nm i f a)
theorem Fe.sendOpen{used:Nat->Prop}{N:HD M}(h:Fe used N){j c:Nat}{m:M}{nx:Ck M}(hj:j<N.n)(hs:N.s j=.send c m nx):N.cl c=false:=by
 cases h with
 | stop _ _ d b a=>
  rcases Nat.eq_zero_or_pos j with rfl | hp
  ·rw [hs] at b;cases b
  ·rw [(a j hp hj).1] at hs;cases hs
 | step _ _ _ _ a _ _=>have:=a j hj;rw [hs] at this;exact this.2
end
end Go.Ns
namespace Go.Ns
open Go.Conc
section
theorem VF{t u:Trace}{k:Nat}{x:MemOp}(h:u[k]? =some x):(t++u)[t.size+k]? =some x:=by
 rw [Array.getElem?_append_right U];simpa using h
theorem JH{t u:Trace}{g k q:Nat}{y:MemOp}(hk:Knows t g k)(hq:t.size<=q)(hy:(t++u)[q]? =some y)(hg:y.g=g):HappensBefore (t++u) k q:=hk.hb_new hq hy hg
theorem PQ{t:Trace}{k q r g:Nat}{z:MemOp}(h1:HappensBefore t k q)(h2:HappensBefore t q r)(hz:t[r]? =some z)(hg:z.g=g):Knows t g k:=⟨r,z,hz,hg,.inr (h1.trans h2)⟩
theorem Kh{t:Trace}(hw:Wordless t){i j:Nat}(h:Notices t i j){x y:MemOp}(hi:t[i]? =some x)(hj:t[j]? =some y):HappensBefore t i j:=.single (.inr ⟨h,hw.heard hi,hw.heard hj⟩)
theorem AAb{t:Trace}{i j c s:Nat}{f1 f2 f3 f4:FuncId}{p1 p2 p3 p4:String}{u:Trace}
  (hu:u=#[{ g:=i,fn:=f1,pos:=p1,act:=.send c s },{ g:=j,fn:=f2,pos:=p2,act:=.recv c s 0 },{ g:=i,fn:=f3,pos:=p3,act:=.sendDone c s },{ g:=j,fn:=f4,pos:=p4,act:=.recvDone c s }])
  (hw:Wordless (t++u)) {k:Nat} (hk:Knows t i k\/Knows t j k):Knows (t++u) i k/\Knows (t++u) j k:=by
 subst hu;have a:=VF (t:=t) (u:=#[{ g:=i,fn:=f1,pos:=p1,act:=.send c s },{ g:=j,fn:=f2,pos:=p2,act:=.recv c s 0 },{ g:=i,fn:=f3,pos:=p3,act:=.sendDone c s },{ g:=j,fn:=f4,pos:=p4,act:=.recvDone c s }]) (k:=0) rfl;have b:=VF (t:=t) (u:=#[{ g:=i,fn:=f1,pos:=p1,act:=.send c s },{ g:=j,fn:=f2,pos:=p2,act:=.recv c s 0 },{ g:=i,fn:=f3,pos:=p3,act:=.sendDone c s },{ g:=j,fn:=f4,pos:=p4,act:=.recvDone c s }]) (k:=1) rfl;have d:=VF (t:=t) (u:=#[{ g:=i,fn:=f1,pos:=p1,act:=.send c s },{ g:=j,fn:=f2,pos:=p2,act:=.recv c s 0 },{ g:=i,fn:=f3,pos:=p3,act:=.sendDone c s },{ g:=j,fn:=f4,pos:=p4,act:=.recvDone c s }]) (k:=2) rfl;have e:=VF (t:=t) (u:=#[{ g:=i,fn:=f1,pos:=p1,act:=.send c s },{ g:=j,fn:=f2,pos:=p2,act:=.recv c s 0 },{ g:=i,fn:=f3,pos:=p3,act:=.sendDone c s },{ g:=j,fn:=f4,pos:=p4,act:=.recvDone c s }]) (k:=3) rfl;refine ⟨?_,?_⟩
 ·rcases hk with hk | hk
  ·exact hk.app _
  ·refine PQ (JH hk U b rfl) (Kh hw (.room (c:=c) (k:=s) (cap:=0) (act?_of b) ?_) b d) d rfl;exact act?_of d
 ·rcases hk with hk | hk
  ·exact PQ (JH hk U a rfl) (Kh hw (.handOver (c:=c) (k:=s) (act?_of a) (act?_of e)) a e) e rfl
  ·exact hk.app _
theorem TI.redist{t u:Trace}{n n' B:Nat}{hs hs':Nat->Y}(T:TI t n B hs)(hn:∀op ∈ u,op.act.touch? =none)(hw:Wordless u)(hg:∀op ∈ t++u,op.g<n')
  (src:∀j b p o,j<n'->hs' j b=some (p,o)->∃j0,j0<n/\(∃p0,hs j0 b=some (p0,o)/\(p=true->p0=true))/\∀k,Knows t j0 k->Knows (t++u) j k):TI (t++u) n' B hs':=by
 have c:∀k a,touchAt (t++u) k=some a->touchAt t k=some a:=λk a d=>by
  rcases BY d with ⟨_,d⟩ | ⟨_,op,CX,_,m⟩
  ·exact d
  ·rw [hn op CX] at m;cases m
 refine ⟨T.words.append hw,?_,λk a b d=>T.low k a b (c k a d),hg,?_,?_,?_⟩
 ·rintro said ⟨i,j,q,⟨a,b,m,f,r⟩,v,w⟩;refine T.clean said ⟨i,j,q,⟨a,b,c i a m,c j b f,r⟩,λx=>v (hb_app u x),λx=>w (hb_app u x)⟩
 ·intro i b o k a h f d l;obtain ⟨j0,e,⟨p0,x,y⟩,z⟩:=src i b true o h f;obtain rfl:=y rfl;exact z k (T.own j0 b o k a e x (c k a d) l)
 ·intro i b o k a h f d l s;obtain ⟨j0,e,⟨p0,x,y⟩,z⟩:=src i b false o h f;exact z k (T.knows e x (c k a d) l (.inr s))
 ·intro i b p o k a h f r d l;obtain ⟨j0,e,⟨p0,x,y⟩,z⟩:=src i b p o h f;exact T.chn j0 b p0 o k a e x r (c k a d) l
theorem TI.atomic{t u:Trace}{n B c g:Nat}{hs:Nat->Y}(T:TI t n B hs)(hg:g<n)(hu:∀op ∈ u,op.g=g)(ha:∀op ∈ u,∀a,op.act.touch? =some a->C0 a.loc=some c/\a.kind=.atomic)(hw:Wordless u)
  (hc:c<B) (free:∀i,i<n->hs i c=none) (atom:∀k a,touchAt t k=some a->C0 a.loc=some c->a.kind=.atomic):TI (t++u) n B hs:=by
 refine ⟨T.words.append hw,?_,?_,?_,?_,?_,?_⟩
 ·intro said;refine noRace_append (T.clean said) hu λk a d op CX b f l=>?_;obtain ⟨r,s⟩:=ha op CX b f;have v:=atom k a d (by rw [l.1];exact r);obtain ⟨_,_,_,h4⟩:=l;rw [s,v] at h4;rcases h4 with h4 | h4 | ⟨_,h4,_⟩ <;> cases h4
 ·intro k a b d e;rcases BY d with ⟨_,d⟩ | ⟨_,op,CX,_,j⟩
  ·exact T.low k a b d e
  ·rw [(ha op CX a j).1] at e;cases e;exact hc
 ·intro op CX;rcases Array.mem_append.1 CX with x | x
  ·exact T.num op x
  ·rw [hu op x];exact hg
 ·intro i b o k a h f d e;rcases BY d with ⟨_,d⟩ | ⟨_,op,CX,_,j⟩
  ·exact (T.own i b o k a h f d e).app _
  ·rw [(ha op CX a j).1] at e;cases e;rw [free i h] at f;cases f
 ·intro i b o k a h f d e m;rcases BY d with ⟨_,d⟩ | ⟨_,op,CX,_,j⟩
  ·exact (T.ro i b o k a h f d e m).app _
  ·rw [(ha op CX a j).1] at e;cases e;rw [free i h] at f;cases f
 ·intro i b p o k a h f q d e;rcases BY d with ⟨_,d⟩ | ⟨_,op,CX,_,j⟩
  ·exact T.chn i b p o k a h f q d e
  ·rw [(ha op CX a j).1] at e;cases e;rw [free i h] at f;cases f
theorem TI.raise{t:Trace}{n B B':Nat}{hs:Nat->Y}(T:TI t n B hs)(h:B<=B'):TI t n B' hs:=
 { T with low:=λk a b c d=>Nat.lt_of_lt_of_le (T.low k a b c d) h }
end
end Go.Ns
namespace Go.Ns
open Go.Conc
section
variable {P:Program} {M:Type} {Rep:Nat->M->aZ->Y->Prop} {KS:Goroutine->Y->Prop}
inductive O9 (P:Program) (Rep:Nat->M->aZ->Y->Prop) (KS:Goroutine->Y->Prop) (s:Ck M) (cl:Nat->Bool) (main:Bool) (g:Goroutine) (h:Y):Ik->Prop
 | walk (T:XB):¬s.isDone->SW P main (Ij P Rep KS s main) T g h->O9 P Rep KS s cl main g h (.walk T)
 | leave (k:Nat):s=.done->QuitsIn P k g->O9 P Rep KS s cl main g h (.leave k)
 | psend {c:Nat} {m:M} {nx:Ck M} {fr:Frame} {cs:List Frame} {v z:aZ} {hm h1:Y}:s=.send c m nx->cl c=false->g=parked (G fr cs) #[scase c v z] .send->T8 P main Rep c m (Fb P Rep KS nx main) fr cs v z hm h1 h->O9 P Rep KS s cl main g h .low
 | precv {c:Nat} {f:Option M->Ck M} {fr:Frame} {cs:List Frame} {z:aZ} {ok:Bool}:s=.recv c f->cl c=false->g=parked (G fr cs) #[rcase c z] (.recv ok)->LW P main Rep c (λo=>Fb P Rep KS (f o) main) fr cs z ok h->O9 P Rep KS s cl main g h .low
 | wokn {c:Nat} {f:Option M->Ck M} {fr:Frame} {cs:List Frame} {z:aZ} {ok:Bool}:s=.recv c f->cl c=true->g={ parked (G fr cs) #[rcase c z] (.recv ok) with status:=.running }->LW P main Rep c (λo=>Fb P Rep KS (f o) main) fr cs z ok h->O9 P Rep KS s cl main g h .low
theorem HE{s:Ck M}{cl:Nat->Bool}{main:Bool}{g:Goroutine}{h:Y}(x:Fb P Rep KS s main g h):∃r,O9 P Rep KS s cl main g h r:=by
 by_cases a:s.isDone
 ·cases s <;> first | exact a.elim | skip
  obtain ⟨n,b⟩:=x;exact ⟨_,.leave n rfl b⟩
 ·rw [HC a] at x;obtain ⟨T,c⟩:=x;exact ⟨_,.walk T a c⟩
theorem MD{s:Ck M}{main:Bool}{g:Goroutine}{h:Y}(hs:¬s.isDone)(h0:s≠.stop)(x:Ij P Rep KS s main g h):g.status=.running:=by
 cases s with
 | send c m d=>obtain ⟨a,b,_,_,_,_,rfl,_⟩:=x;rfl
 | recv c f=>obtain ⟨a,b,_,_,rfl,_⟩:=x;rfl
 | close c d=>obtain ⟨a,b,_,_,rfl,_⟩:=x;rfl
 | spawn e d=>obtain ⟨a,b,_,_,_,_,rfl,_⟩:=x;rfl
 | make f=>exact x.1
 | stop=>exact absurd rfl h0
 | done=>exact absurd trivial hs
 | never=>exact x
theorem Bv{s:Ck M}{main:Bool}{g:Goroutine}{h:Y}{T:XB}(hs:¬s.isDone)(h0:s≠.stop)(x:SW P main (Ij P Rep KS s main) T g h):g.status=.running:=by
 cases T with
 | leaf=>exact MD hs h0 x
 | node f=>exact x.elim (MD hs h0) (·.1)
theorem O9.status{s:Ck M}{cl:Nat->Bool}{main:Bool}{g:Goroutine}{h:Y}{r:Ik}(x:O9 P Rep KS s cl main g h r)(h0:s≠.stop):g.status=.running\/g.status=.blocked\/g.status=.finished:=by
 cases x with
 | walk T b c=>exact .inl (Bv b h0 c)
 | leave k b d=>exact d.status.elim .inl λx=>.inr (.inr x)
 | psend _ _ a _=>rw [a];exact .inr (.inl rfl)
 | precv _ _ a _=>rw [a];exact .inr (.inl rfl)
 | wokn _ _ a _=>rw [a];exact .inl rfl
theorem O9.keep{s:Ck M}{cl:Nat->Bool}{main:Bool}{g:Goroutine}{h:Y}{r:Ik}(x:O9 P Rep KS s cl main g h r)(h0:s≠.stop){w:World}{used:Nat->Prop}{i:Nat}(hf:J1 used cl i s)
  (hc:∀c,used c->∃n,w.heap[c]? =some (.chan 0 #[] (cl c) n n false)) (a a':Goroutine):woken P a a' w g=g:=by
 cases x with
 | walk T d j=>exact woken_running (Bv d h0 j)
 | leave k d l=>exact woken_quits l
 | psend d b e _=>
  subst d;obtain ⟨n,f⟩:=hc _ hf.1;rw [b] at f;rw [e];exact woken_send_open a a' f
 | precv d b e _=>
  subst d;obtain ⟨n,f⟩:=hc _ hf;rw [b] at f;rw [e];exact woken_recv_open a a' f
 | wokn _ _ e _=>rw [e];exact woken_running rfl
structure Ff(P:Program)(Rep:Nat->M->aZ->Y->Prop)(KS:Goroutine->Y->Prop)(used:Nat->Prop)(N:HD M)(gs:Array Goroutine)(w:World)(t:Trace)(hs:Nat->Y)(r:Nat->Ik):Prop where
 size:gs.size=N.n
 apart:HS w N.n hs
 tr:TI t N.n w.heap.size hs
 sit:∀i g,gs[i]? =some g->O9 P Rep KS (N.s i) N.cl (i==0) g (hs i) (r i)
 chans:∀c,used c->∃s,w.heap[c]? =some (.chan 0 #[] (N.cl c) s s false)
 free:∀c i,used c->i<N.n->hs i c=none
 atom:∀c k a,used c->touchAt t k=some a->C0 a.loc=some c->a.kind=.atomic
 nomeet:∀(i j:Nat)(gi gj:Goroutine)(c:Nat)(v z:aZ)(sh:CommShape)(z':aZ)(sh':CommShape),gs[i]? =some (parked gi #[scase c v z] sh)->gs[j]? =some (parked gj #[rcase c z'] sh')->False
 kn:∀i j,i<N.n->j<N.n->N.kn i j->N.s j=.done/\∀k a,touchAt t k=some a->t.g? k=some j->Knows t i k
 ck:∀c,used c->N.cl c=true->∃p op,t[p]? =some op/\op.act=.close c/\∀x,x<N.n->N.ck c x->N.s x=.done/\∀k a,touchAt t k=some a->t.g? k=some x->Before t k p
variable {used:Nat->Prop} {N:HD M} {gs:Array Goroutine} {w:World} {t:Trace} {hs:Nat->Y} {r:Nat->Ik}
theorem Ff.at(I:Ff P Rep KS used N gs w t hs r)(d:Nat):Ff P Rep KS used N gs (w.at d) t hs r:=
 { I with apart:=I.apart.at d,tr:=I.tr,chans:=I.chans }
theorem g?_app{t u:Trace}{k g:Nat}(h:(t++u).g? k=some g)(hk:k<t.size):t.g? k=some g:=by
 simp only [Trace.g?,getElem?_append_old hk] at h ⊢;exact h
theorem kn_app{u:Trace}{x y g:Nat}(hk:∀k a,touchAt t k=some a->t.g? k=some y->Knows t x k)(hu:∀op ∈ u,op.g=g\/op.act.touch? =none)(hy:y≠g) :
  ∀k a,touchAt (t++u) k=some a->(t++u).g? k=some y->Knows (t++u) x k:=by
 intro k a b c;rcases BY b with ⟨d,b⟩ | ⟨_,op,CX,h,f⟩
 ·exact (hk k a b (g?_app c d)).app _
 ·rcases hu op CX with e | e
  ·have:(t++u).g? k=some op.g:=by simp [Trace.g?,h]
   rw [this] at c;cases c;exact absurd e hy
  ·rw [e] at f;cases f
theorem ck_app{u:Trace}{x g p:Nat}(hk:∀k a,touchAt t k=some a->t.g? k=some x->Before t k p)(hu:∀op ∈ u,op.g=g\/op.act.touch? =none)(hx:x≠g) :
  ∀k a,touchAt (t++u) k=some a->(t++u).g? k=some x->Before (t++u) k p:=by
 intro k a b c;rcases BY b with ⟨d,b⟩ | ⟨_,op,CX,h,f⟩
 ·exact (hk k a b (g?_app c d)).app _
 ·rcases hu op CX with e | e
  ·have:(t++u).g? k=some op.g:=by simp [Trace.g?,h]
   rw [this] at c;cases c;exact absurd e hx
  ·rw [e] at f;cases f
def EX(r:Nat->Ik)(i:Nat)(x:Ik):Nat->Ik:=λj=>if j=i then x else r j
theorem Ds{gs:Array Goroutine}{i:Nat}{g':Goroutine}{f:Goroutine->Goroutine}{j:Nat}{x:Goroutine}(h:((gs.map f).setIfInBounds i g')[j]? =some x) :
  (j=i/\x=g')\/(j≠i/\∃y,gs[j]? =some y/\x=f y):=by
 by_cases e:i=j
 ·subst e;by_cases a:i<gs.size
  ·rw [Array.getElem?_setIfInBounds_self_of_lt (by simpa using a)] at h;exact .inl ⟨rfl,(Option.some.inj h).symm⟩
  ·rw [Array.getElem?_eq_none (by simp;omega)] at h;cases h
 ·rw [Array.getElem?_setIfInBounds_ne e,Array.getElem?_map] at h;obtain ⟨y,b,rfl⟩:=Option.map_eq_some_iff.1 h;exact .inr ⟨λx=>e x.symm,y,b,rfl⟩
theorem E1{gs:Array Goroutine}{i:Nat}{g':Goroutine}{j:Nat}{x:Goroutine}(h:(gs.setIfInBounds i g')[j]? =some x):(j=i/\x=g')\/(j≠i/\gs[j]? =some x):=by
 have:((gs.map id).setIfInBounds i g')[j]? =some x:=by simpa using h
 rcases Ds this with x | ⟨a,y,b,rfl⟩
 ·exact .inl x
 ·exact .inr ⟨a,b⟩
theorem Ff.step(I:Ff P Rep KS used N gs w t hs r)(hf:∀i,i<N.n->J1 used N.cl i (N.s i)){i:Nat}{g g':Goroutine}{w':World}{es:Array Event}{h':Y}{x:Ik}(hi:gs[i]? =some g)(hnd:¬(N.s i).isDone)
  (s:Bf (hs i) w es h' w') (hg':g'.status=.running) (hx:O9 P Rep KS (N.s i) N.cl (i==0) g' h' x) (fn:FuncId) (pos:String) :
  Ff P Rep KS used N ((gs.map (woken P g g' w')).setIfInBounds i g') w' (t++MemOp.ofEvents i fn pos es) (LV hs i h') (EX r i x):=by
 have m:i<N.n:=by rw [<-I.size];exact (Array.getElem?_eq_some_iff.1 hi).1
 have E:∀c,used c->∃s,w'.heap[c]? =some (.chan 0 #[] (N.cl c) s s false):=λc d=>by
  obtain ⟨n,B⟩:=I.chans c d;have f:c<w.heap.size:=(Array.getElem?_eq_some_iff.1 B).1;refine ⟨n,?_⟩;rw [s.frame c f (λo y=>by rw [I.free c i d m] at y;cases y)];exact B
 have hstop:∀j,j<N.n->N.s j≠.stop:=λj u e=>by have:=hf j u;rw [e] at this;exact this
 have hu:∀C ∈ MemOp.ofEvents i fn pos es,C.g=i\/C.act.touch? =none:=λC CX=>by obtain ⟨e,_,rfl⟩:=Go.Conc.mem_ofEvents CX;exact .inl rfl
 have hkeep:∀j y,j≠i->gs[j]? =some y->woken P g g' w' y=y:=λj y _ u=>by
  have F:j<N.n:=by rw [<-I.size];exact (Array.getElem?_eq_some_iff.1 u).1
  exact (I.sit j y u).keep (hstop j F) (hf j F) E g g'
 refine ⟨by simpa using I.size,I.apart.step m s,I.tr.step I.apart m s fn pos,?_,E,?_,?_,?_,?_,?_⟩
 ·intro j y W;rcases Ds W with ⟨rfl,rfl⟩ | ⟨h,Q,l,rfl⟩
  ·rw [FI,EX,aY rfl];exact hx
  ·rw [hkeep j Q h l,Hf hs h' h,EX,aX h];exact I.sit j Q l
 ·intro c j d u;by_cases e:j=i
  ·subst e;rw [FI];cases hq:h' c with
   | none=>rfl
   | some y=>
    obtain ⟨p,o⟩:=y;obtain ⟨n,B⟩:=I.chans c d;have f:c<w.heap.size:=(Array.getElem?_eq_some_iff.1 B).1;cases p with
    | true=>
     rcases s.own c o hq with ⟨o',z⟩ | z
     ·rw [I.free c j d u] at z;cases z
     ·omega
    | false=>have:=s.ro c o hq;rw [I.free c j d u] at this;cases this
  ·rw [Hf hs h' e];exact I.free c j d u
 ·intro c k a d q X;rcases BY q with ⟨_,q⟩ | ⟨_,C,CX,_,D⟩
  ·exact I.atom c k a d q X
  ·obtain ⟨e,he,rfl⟩:=Go.Conc.mem_ofEvents CX;have H:VC (hs i) w.heap.size e:=by
    rcases s.evs e he with h0 | h0
    ·exact h0
    ·rw [h0] at D;cases D
   simp only [(NE H).2,Option.some.injEq] at D;subst D;obtain ⟨b,R,K⟩:=MB H;simp only at X;rw [X] at R;cases R;obtain ⟨n,B⟩:=I.chans c d;have f:c<w.heap.size:=(Array.getElem?_eq_some_iff.1 B).1;rcases K with ⟨p,o,z,_⟩ | z
   ·rw [I.free c i d m] at z;cases z
   ·omega
 ·intro a b ga gb c v z T z' sh' A O;have hpark:∀(k:Nat)(y g0:Goroutine)(cs:Array CommCase)(T:CommShape),y=parked g0 cs T->((gs.map (woken P g g' w')).setIfInBounds i g')[k]? =some y->gs[k]? =some y:=by
   intro k y g0 cs T he q;rcases Ds q with ⟨rfl,rfl⟩ | ⟨h,Q,l,rfl⟩
   ·rw [he] at hg';cases hg'
   ·rw [hkeep k Q h l];exact l
  exact I.nomeet a b ga gb c v z T z' sh' (hpark a _ _ _ _ rfl A) (hpark b _ _ _ _ rfl O)
 ·intro a b D R q;obtain ⟨A,O⟩:=I.kn a b D R q;exact ⟨A,kn_app O hu (λe=>hnd (by rw [<-e,A];trivial))⟩
 ·intro c d f;obtain ⟨p,C,A,O,h3⟩:=I.ck c d f;refine ⟨p,C,by rw [getElem?_append_old (lt_size_of_getElem? A)];exact A,O,λy W q=>?_⟩;obtain ⟨h4,h5⟩:=h3 y W q;exact ⟨h4,ck_app h5 hu (λe=>hnd (by rw [<-e,h4];trivial))⟩
theorem Ff.quit(I:Ff P Rep KS used N gs w t hs r)(hf:∀i,i<N.n->J1 used N.cl i (N.s i)){i k:Nat}{g g':Goroutine}(hi:gs[i]? =some g)(hd:N.s i=.done)(hq:QuitsIn P k g') :
  Ff P Rep KS used N ((gs.map (woken P g g' w)).setIfInBounds i g') w t hs (EX r i (.leave k)):=by
 have hstop:∀j,j<N.n->N.s j≠.stop:=λj m e=>by have:=hf j m;rw [e] at this;exact this
 have hkeep:∀j y,j≠i->gs[j]? =some y->woken P g g' w y=y:=λj y _ m=>by
  have l:j<N.n:=by rw [<-I.size];exact (Array.getElem?_eq_some_iff.1 m).1
  exact (I.sit j y m).keep (hstop j l) (hf j l) I.chans g g'
 refine ⟨by simpa using I.size,I.apart,I.tr,?_,I.chans,I.free,I.atom,?_,I.kn,I.ck⟩
 ·intro j y A;rcases Ds A with ⟨rfl,rfl⟩ | ⟨f,o,d,rfl⟩
  ·rw [EX,aY rfl];exact .leave k hd hq
  ·rw [hkeep j o f d,EX,aX f];exact I.sit j o d
 ·intro a b B C c v z p D q E F;have hpark:∀(k:Nat)(y u:Goroutine)(x:Array CommCase)(p:CommShape),y=parked u x p->((gs.map (woken P g g' w)).setIfInBounds i g')[k]? =some y->gs[k]? =some y:=by
   intro k y u x p H K;rcases Ds K with ⟨rfl,rfl⟩ | ⟨f,o,d,rfl⟩
   ·rw [H] at hq;rcases hq.status with h | h <;> cases h
   ·rw [hkeep k o f d];exact d
  exact I.nomeet a b B C c v z p D q (hpark a _ _ _ _ rfl E) (hpark b _ _ _ _ rfl F)
end
end Go.Ns
namespace Go.Ns
open Go.Conc
section
variable {P:Program} {M:Type} {Rep:Nat->M->aZ->Y->Prop} {KS:Goroutine->Y->Prop}
variable {used:Nat->Prop} {N:HD M} {gs:Array Goroutine} {w:World} {t:Trace} {hs:Nat->Y} {r:Nat->Ik}
theorem Hw{a b:Goroutine}{c c':Nat}{z z' v:aZ}{sh sh':CommShape}(h:parked a #[rcase c z] sh=parked b #[scase c' v z'] sh'):False:=by
 simp [parked,rcase,scase] at h
theorem SX{a b:Goroutine}{c c':Nat}{z z':aZ}{sh sh':CommShape}(h:parked a #[rcase c z] sh=parked b #[rcase c' z'] sh'):a.frame=b.frame/\a.callers=b.callers/\a.dying=b.dying/\c=c'/\z=z'/\sh=sh':=by
 simp only [parked,Goroutine.mk.injEq,rcase,Option.some.injEq,Prod.mk.injEq] at h;obtain ⟨e,f,_,g,d,i⟩:=h;simp at d;exact ⟨e,f,g,d.1,d.2,i⟩
theorem SY{a b:Goroutine}{c c':Nat}{v v' z z':aZ}{sh sh':CommShape}(h:parked a #[scase c v z] sh=parked b #[scase c' v' z'] sh'):a.frame=b.frame/\a.callers=b.callers/\a.dying=b.dying/\c=c'/\v=v'/\z=z'/\sh=sh':=by
 simp only [parked,Goroutine.mk.injEq,scase,Option.some.injEq,Prod.mk.injEq] at h;obtain ⟨e,f,_,g,d,i⟩:=h;simp at d;exact ⟨e,f,g,d.1,d.2.1,d.2.2,i⟩
theorem SZ{g:Goroutine}{fr:Frame}{cs:List Frame}(h1:g.frame=fr)(h2:g.callers=cs)(h3:g.dying=none)(v:aZ):Go.Conc.served g v=G (fr.finish v) cs:=by
 simp [Go.Conc.served,G,h1,h2,h3]
theorem Sa{h:Y}{c:Nat}{o:Obj}{d:Nat}(f:EL w h)(hc:h c=none):EL { w.at d with heap:=w.heap.setIfInBounds c o } h:=λb p x a=>by
 have g:c≠b:=λe=>by subst e;rw [hc] at a;cases a
 show (w.heap.setIfInBounds c o)[b]? =_;rw [Array.getElem?_setIfInBounds_ne g];exact f b p x a
theorem AAc{cl:Nat->Bool}(hc:∀c,used c->∃s,w.heap[c]? =some (.chan 0 #[] (cl c) s s false)){c s d:Nat}{b:Bool}(hu:used c) :
  ∀c',used c'->∃n,(({ w.at d with heap:=w.heap.setIfInBounds c (.chan 0 #[] b s s false) }:World)).heap[c']? =some (.chan 0 #[] (if c'=c then b else cl c') n n false):=by
 intro c' a
 show∃n,(w.heap.setIfInBounds c (.chan 0 #[] b s s false))[c']? =_
 by_cases e:c'=c
 ·subst e;obtain ⟨n,g⟩:=hc c' a;have f:c'<w.heap.size:=(Array.getElem?_eq_some_iff.1 g).1;rw [aY rfl];exact ⟨s,by simp [f]⟩
 ·rw [aX e,Array.getElem?_setIfInBounds_ne (λx=>e x.symm)];exact hc c' a
theorem Ff.park(I:Ff P Rep KS used N gs w t hs r){i:Nat}{g:Goroutine}(hi:i<N.n){x:Goroutine}(hx:x=parked g #[] .send\/True)(hsit:O9 P Rep KS (N.s i) N.cl (i==0) x (hs i) .low)
  (hno:∀(j:Nat)(gj:Goroutine),gs[j]? =some gj->(∀g0 c v z sh g1 z' sh',x=parked g0 #[scase c v z] sh->gj=parked g1 #[rcase c z'] sh'->False)/\(∀g0 c v z sh g1 z' sh',gj=parked g0 #[scase c v z] sh->x=parked g1 #[rcase c z'] sh'->False)) :
  Ff P Rep KS used N (gs.setIfInBounds i x) w t hs (EX r i .low):=by
 refine ⟨by simpa using I.size,I.apart,I.tr,?_,I.chans,I.free,I.atom,?_,I.kn,I.ck⟩
 ·intro j y m;rcases E1 m with ⟨rfl,rfl⟩ | ⟨f,h⟩
  ·rw [EX,aY rfl];exact hsit
  ·rw [EX,aX f];exact I.sit j y h
 ·intro a b o p c v z sh z' sh' q l;rcases E1 q with ⟨u,e⟩ | ⟨u,e⟩
  ·rcases E1 l with ⟨k,d⟩ | ⟨k,d⟩
   ·rw [<-d] at e;exact Hw e.symm
   ·exact (hno b _ d).1 _ _ _ _ _ _ _ _ e.symm rfl
  ·rcases E1 l with ⟨k,d⟩ | ⟨k,d⟩
   ·exact (hno a _ e).2 _ _ _ _ _ _ _ _ rfl d.symm
   ·exact I.nomeet a b o p c v z sh z' sh' e d
theorem Ff.meet(I:Ff P Rep KS used N gs w t hs r){i j c s d:Nat}{m:M}{nx:Ck M}{f:Option M->Ck M}(hi:i<N.n)(hj:j<N.n)(hij:i≠j)(hsi:N.s i=.send c m nx)(hsj:N.s j=.recv c f)(hu:used c)
  (hcl:N.cl c=false)
  {fr:Frame} {cs:List Frame} {v z:aZ} {hm h1:Y} (A:T8 P (i==0) Rep c m (Fb P Rep KS nx (i==0)) fr cs v z hm h1 (hs i))
  {fr':Frame} {cs':List Frame} {z':aZ} {ok:Bool} (B:LW P (j==0) Rep c (λo=>Fb P Rep KS (f o) (j==0)) fr' cs' z' ok (hs j))
  {gs':Array Goroutine} (gi:gs'[i]? =some (G (fr.finish undef) cs)) (gj:gs'[j]? =some (G (fr'.finish (recvd ok v true)) cs')) (gk:∀k,k≠i->k≠j->gs'[k]? =gs[k]?) (hsz:gs'.size=gs.size)
  {f1 f2 f3 f4:FuncId} {p1 p2 p3 p4:String} {u:Trace}
  (hu':u=#[{ g:=i,fn:=f1,pos:=p1,act:=.send c s },{ g:=j,fn:=f2,pos:=p2,act:=.recv c s 0 },{ g:=i,fn:=f3,pos:=p3,act:=.sendDone c s },{ g:=j,fn:=f4,pos:=p4,act:=.recvDone c s }]) :
  ∃hs' r',Ff P Rep KS used (N.meet i j nx (f (some m))) gs' { w.at d with heap:=w.heap.setIfInBounds c (.chan 0 #[] false (s+1) (s+1) false) } (t++u) hs' r':=by
 have hmute:∀W ∈ u,W.act.touch? =none:=by
  subst hu';intro W CX;simp at CX;rcases CX with rfl | rfl | rfl | rfl <;> rfl
 have hwu:Wordless u:=by
  subst hu';intro W CX mk hmk;simp at CX;rcases CX with rfl | rfl | rfl | rfl <;> cases hmk
 have hgu:∀W ∈ u,W.g=i\/W.g=j:=by
  subst hu';intro W CX;simp at CX;rcases CX with rfl | rfl | rfl | rfl <;> simp
 have hW:=I.tr.words.append hwu;have K:∀k,Knows t i k\/Knows t j k->Knows (t++u) i k/\Knows (t++u) j k:=λk l=>AAb hu' hW l;have aij:(hs i).Apart (hs j):=λb o x y z=>I.apart.disj i j b o x hi hj hij y z;have aji:(hs j).Apart (hs i):=λb o x y z=>I.apart.disj j i b o x hj hi (λe=>hij e.symm) y z;have hcomp:(hs j).Compat hm:=Y.compat (I.apart.fits j hj) (I.apart.fits i hi) aji aij A.split.right;obtain ⟨ri,hri⟩:=HE (cl:=N.cl) A.next;obtain ⟨rj,hrj⟩:=HE (cl:=N.cl) (B.some m v hm A.rep hcomp);have hji:j≠i:=λe=>hij e.symm;let hs':Nat->Y:=λx=>if x=i then h1 else if x=j then (hs j).join hm else hs x
 have ei:hs' i=h1:=aY rfl;have ej:hs' j=(hs j).join hm:=by show (if j=i then _ else if j=j then _ else _)=_;rw [aX hji,aY rfl]
 have ek:∀k,k≠i->k≠j->hs' k=hs k:=λk h1 h2=>by show (if k=i then _ else if k=j then _ else _)=_;rw [aX h1,aX h2]
 have hfree:∀E k,used E->k<N.n->hs' k E=none:=by
  intro E k F l;have fi:=I.free E i F hi;by_cases e:k=i
  ·subst e;rw [ei];cases hq:h1 E with
   | none=>rfl
   | some y=>obtain ⟨p0,h2,_⟩:=A.split.left E y.1 y.2 hq;rw [fi] at h2;cases h2
  ·by_cases R:k=j
   ·subst R;rw [ej];cases hq:(hs k).join hm E with
    | none=>rfl
    | some y=>
     rcases Y.join_some (p:=y.1) (o:=y.2) hq with h2 | h2
     ·rw [I.free E k F l] at h2;cases h2
     ·obtain ⟨p0,X,_⟩:=A.split.right E y.1 y.2 h2;rw [fi] at X;cases X
   ·rw [ek k e R];exact I.free E k F l
 have hsrc:∀k b p o,k<N.n->hs' k b=some (p,o)->∃j0,j0<N.n/\(∃p0,hs j0 b=some (p0,o)/\(p=true->p0=true))/\∀q,Knows t j0 q->Knows (t++u) k q:=by
  intro k b p o l H;by_cases e:k=i
  ·subst e;rw [ei] at H;exact ⟨k,l,A.split.left b p o H,λq hq=>hq.app _⟩
  ·by_cases R:k=j
   ·subst R;rw [ej] at H;rcases Y.join_some H with h2 | h2
    ·exact ⟨k,l,⟨p,h2,id⟩,λq hq=>hq.app _⟩
    ·exact ⟨i,hi,A.split.right b p o h2,λq hq=>(K q (.inl hq)).2⟩
   ·rw [ek k e R] at H;exact ⟨k,l,⟨p,H,id⟩,λq hq=>hq.app _⟩
 have O:∀a b,a<N.n->b<N.n->a≠b->(hs a).Apart (hs b):=λa b C H D r o x y z=>I.apart.disj a b r o x C H D y z;have hap':∀a b,a<N.n->b<N.n->a≠b->(hs' a).Apart (hs' b):=by
  intro a b C H D;by_cases ea:a=i
  ·subst ea;rw [ei];by_cases eb:b=j
   ·subst eb;rw [ej];exact Y.Apart.join_right ((O a b C H D).mono A.split.left (Y.Sub.refl _)) A.split.one
   ·rw [ek b (λe=>D e.symm) eb];exact (O a b C H D).mono A.split.left (Y.Sub.refl _)
  ·by_cases ea2:a=j
   ·subst ea2;rw [ej];by_cases eb:b=i
    ·subst eb;rw [ei];exact Y.Apart.join_left ((O a b C H D).mono (Y.Sub.refl _) A.split.left) A.split.two
    ·rw [ek b eb (λe=>D e.symm)];exact Y.Apart.join_left (O a b C H D) ((O i b hi H (λe=>eb e.symm)).mono A.split.right (Y.Sub.refl _))
   ·rw [ek a ea ea2];by_cases eb:b=i
    ·subst eb;rw [ei];exact (O a b C H D).mono (Y.Sub.refl _) A.split.left
    ·by_cases eb2:b=j
     ·subst eb2;rw [ej];exact Y.Apart.join_right (O a b C H D) ((O a i C hi ea).mono (Y.Sub.refl _) A.split.right)
     ·rw [ek b eb eb2];exact O a b C H D
 have hnd:∀y,N.s y=.done->y≠i/\y≠j:=λy hy=>⟨(λe=>by rw [e,hsi] at hy;cases hy),(λe=>by rw [e,hsj] at hy;cases hy)⟩;have htouch:∀k a,touchAt (t++u) k=some a->touchAt t k=some a:=λk a C=>by
  rcases BY C with ⟨_,C⟩ | ⟨_,W,CX,_,h2⟩
  ·exact C
  ·rw [hmute W CX] at h2;cases h2
 have hg? :∀k a y,touchAt t k=some a->(t++u).g? k=some y->t.g? k=some y:=λk a y C Q=>by
  obtain ⟨W,h2,_⟩:=touch_of C;exact g?_app Q (lt_size_of_getElem? h2)
 have hown:∀k a y,touchAt t k=some a->t.g? k=some y->Knows t y k:=λk a y C Q=>by
  obtain ⟨W,h2,_⟩:=touch_of C
  have:=knows_own h2
  simp [Trace.g?,h2] at Q;rw [Q] at this;exact this
 refine ⟨hs',EX (EX r j rj) i ri,⟨by rw [hsz];exact I.size,⟨?_,?_⟩,?_,?_,?_,hfree,?_,?_,?_,?_⟩⟩
 ·intro k l;refine Sa (h:=hs' k) ?_ (hfree c k hu l);by_cases e:k=i
  ·subst e;rw [ei];exact (I.apart.fits k l).sub A.split.left
  ·by_cases R:k=j
   ·subst R;rw [ej];exact (I.apart.fits k l).join ((I.apart.fits i hi).sub A.split.right)
   ·rw [ek k e R];exact I.apart.fits k l
 ·exact λa b r o x C H D y z=>hap' a b C H D r o x y z
 ·have:=I.tr.redist hmute hwu (n':=N.n) (hs':=hs') (λW CX=>by
   rcases Array.mem_append.1 CX with x | x
   ·exact I.tr.num W x
   ·rcases hgu W x with e | e <;> rw [e] <;> assumption) hsrc
  exact this.raise aD
 ·intro k g l;show O9 P Rep KS (if k=i then nx else if k=j then f (some m) else N.s k) N.cl (k==0) g (hs' k) _;by_cases e:k=i
  ·subst e;rw [gi] at l;cases l;rw [aY rfl,ei,EX,aY rfl];exact hri
  ·by_cases R:k=j
   ·subst R;rw [gj] at l;cases l;rw [aX e,aY rfl,ej,EX,aX e,EX,aY rfl];exact hrj
   ·rw [gk k e R] at l;rw [aX e,aX R,ek k e R,EX,aX e,EX,aX R];exact I.sit k g l
 ·intro E F;obtain ⟨n,hn⟩:=AAc I.chans (s:=s+1) (d:=d) (b:=false) hu E F;refine ⟨n,?_⟩;rw [hn];by_cases e:E=c
  ·subst e;rw [aY rfl];show some (Obj.chan 0 #[] false n n false)=some (Obj.chan 0 #[] (N.cl E) n n false);rw [hcl]
  ·rw [aX e];rfl
 ·exact λE k a F l=>I.atom E k a F (htouch k a l)
 ·intro a b ga gb E v' z1 sh z2 sh' h2 X;have hold:∀(k:Nat)(g0:Goroutine)(cs0:Array CommCase)(sh0:CommShape),gs'[k]? =some (parked g0 cs0 sh0)->gs[k]? =some (parked g0 cs0 sh0):=by
   intro k g0 cs0 sh0 l;by_cases e:k=i
   ·subst e;rw [gi] at l;simp [G,parked] at l
   ·by_cases R:k=j
    ·subst R;rw [gj] at l;simp [G,parked] at l
    ·rw [gk k e R] at l;exact l
  exact I.nomeet a b ga gb E v' z1 sh z2 sh' (hold _ _ _ _ h2) (hold _ _ _ _ X)
 ·intro x y hx hy l;have hdone:∀{y},N.s y=.done->(N.meet i j nx (f (some m))).s y=.done:=λ{y} h=>by
   obtain ⟨h2,X⟩:=hnd y h;show (if y=i then nx else if y=j then f (some m) else N.s y)=_;rw [aX h2,aX X];exact h
  by_cases e:x=i\/x=j
  ·have hk':N.kn i y\/N.kn j y\/(y=i/\nx.isDone)\/(y=j/\(f (some m)).isDone):=by
    have:(if x=i\/x=j then N.kn i y\/N.kn j y\/(y=i/\nx.isDone)\/(y=j/\(f (some m)).isDone) else N.kn x y):=l
    rw [aY e] at this;exact this
   have fin:(∀q a,touchAt t q=some a->t.g? q=some y->Knows t i q\/Knows t j q)->∀q a,touchAt (t++u) q=some a->(t++u).g? q=some y->Knows (t++u) x q:=by
    intro h q a C Q;have T:=htouch q a C
    have:=K q (h q a T (hg? q a y T Q))
    rcases e with e | e <;> subst e
    ·exact this.1
    ·exact this.2
   rcases hk' with h | h | ⟨h,h'⟩ | ⟨h,h'⟩
   ·obtain ⟨h2,X⟩:=I.kn i y hi hy h;exact ⟨hdone h2,fin λq a C Q=>.inl (X q a C Q)⟩
   ·obtain ⟨h2,X⟩:=I.kn j y hj hy h;exact ⟨hdone h2,fin λq a C Q=>.inr (X q a C Q)⟩
   ·subst h;refine ⟨?_,fin λq a C Q=>.inl (hown q a y C Q)⟩;show (if y=y then nx else _)=_;rw [aY rfl];cases nx <;> first | rfl | exact h'.elim
   ·subst h;refine ⟨?_,fin λq a C Q=>.inr (hown q a y C Q)⟩;show (if y=i then nx else if y=y then f (some m) else _)=_;rw [aX hji,aY rfl];cases hq:f (some m) <;> first | rfl | (rw [hq] at h';exact h'.elim)
  ·have hk':N.kn x y:=by
    have:(if x=i\/x=j then N.kn i y\/N.kn j y\/(y=i/\nx.isDone)\/(y=j/\(f (some m)).isDone) else N.kn x y):=l
    rw [aX e] at this;exact this
   obtain ⟨h2,X⟩:=I.kn x y hx hy hk';exact ⟨hdone h2,λq a C Q=>by
    have T:=htouch q a C;exact (X q a T (hg? q a y T Q)).app _⟩
 ·intro E F hcl';obtain ⟨p,W,h2,X,h4⟩:=I.ck E F hcl';refine ⟨p,W,by rw [getElem?_append_old (lt_size_of_getElem? h2)];exact h2,X,λy hy l=>?_⟩;obtain ⟨h5,h6⟩:=h4 y hy l;obtain ⟨h7,h8⟩:=hnd y h5;refine ⟨?_,λq a C Q=>?_⟩
  ·show (if y=i then nx else if y=j then f (some m) else N.s y)=_;rw [aX h7,aX h8];exact h5
  ·have T:=htouch q a C;exact (h6 q a T (hg? q a y T Q)).app _
end
end Go.Ns
namespace Go.Ns
open Go.Conc
section
variable {P:Program} {M:Type} {Rep:Nat->M->aZ->Y->Prop} {KS:Goroutine->Y->Prop}
variable {used:Nat->Prop} {N:HD M} {gs:Array Goroutine} {w:World} {t:Trace} {hs:Nat->Y} {r:Nat->Ik}
theorem XC(t:Trace){k y:Nat}{a:Touch}(ha:touchAt t k=some a)(hg:t.g? k=some y):Knows t y k:=by
 obtain ⟨c,b,_⟩:=touch_of ha
 have:=knows_own b
 simp [Trace.g?,b] at hg;rw [hg] at this;exact this
theorem done_of{s:Ck M}(h:s.isDone):s=.done:=by cases s <;> first | rfl | exact h.elim
theorem Ff.hear(I:Ff P Rep KS used N gs w t hs r){j c:Nat}{f:Option M->Ck M}(hj:j<N.n)(hsj:N.s j=.recv c f)(hu:used c)(hcl:N.cl c=true)
  {fr':Frame} {cs':List Frame} {z':aZ} {ok:Bool} (B:LW P (j==0) Rep c (λo=>Fb P Rep KS (f o) (j==0)) fr' cs' z' ok (hs j)) {fn:FuncId} {pos:String} {u:Trace} (hu':u=#[{ g:=j,fn:=fn,pos:=pos,act:=.recvClosed c }]) :
  ∃r',Ff P Rep KS used (N.hear j c (f none)) (gs.setIfInBounds j (G (fr'.finish (recvd ok z' false)) cs')) w (t++u) hs r':=by
 have hmute:∀m ∈ u,m.act.touch? =none:=by
  subst hu';intro m CX;simp at CX;subst CX;rfl
 have O:Wordless u:=by
  subst hu';intro m CX mk X;simp at CX;subst CX;cases X
 have hW:=I.tr.words.append O;have Q:∀y,N.s y=.done->y≠j:=λy C e=>by rw [e,hsj] at C;cases C
 have htouch:∀k a,touchAt (t++u) k=some a->touchAt t k=some a:=λk a d=>by
  rcases BY d with ⟨_,d⟩ | ⟨_,m,CX,_,i⟩
  ·exact d
  ·rw [hmute m CX] at i;cases i
 have hg? :∀k a y,touchAt t k=some a->(t++u).g? k=some y->t.g? k=some y:=λk a y d z=>by
  obtain ⟨m,i,_⟩:=touch_of d;exact g?_app z (lt_size_of_getElem? i)
 obtain ⟨rj,hrj⟩:=HE (cl:=N.cl) B.none;have a0:(t++u)[t.size+0]? =some { g:=j,fn:=fn,pos:=pos,act:=.recvClosed c }:=by subst hu';exact VF rfl
 refine ⟨EX r j rj,⟨by show _=N.n;simpa using I.size,I.apart,I.tr.mute hmute O (λm CX=>by subst hu';simp at CX;subst CX;exact hj),?_,I.chans,I.free,λR k a E v=>I.atom R k a E (htouch k a v),?_,?_,?_⟩⟩
 ·intro k g v;show O9 P Rep KS (if k=j then f none else N.s k) N.cl (k==0) g (hs k) _;rcases E1 v with ⟨rfl,rfl⟩ | ⟨F,l⟩
  ·rw [aY rfl,EX,aY rfl];exact hrj
  ·rw [aX F,EX,aX F];exact I.sit k g l
 ·intro a b ga gb R v' z1 sh z2 sh' i A;have D:∀(k:Nat)(g0:Goroutine)(H:Array CommCase)(K:CommShape),(gs.setIfInBounds j (G (fr'.finish (recvd ok z' false)) cs'))[k]? =some (parked g0 H K)->gs[k]? =some (parked g0 H K):=by
   intro k g0 H K v;rcases E1 v with ⟨rfl,e⟩ | ⟨F,l⟩
   ·simp [G,parked] at e
   ·exact l
  exact I.nomeet a b ga gb R v' z1 sh z2 sh' (D _ _ _ _ i) (D _ _ _ _ A)
 ·intro x y hx C v;have hdone:∀{y},N.s y=.done->(N.hear j c (f none)).s y=.done:=λ{y} h=>by
   show (if y=j then f none else N.s y)=_;rw [aX (Q y h)];exact h
  by_cases e:x=j
  ·have l:N.kn j y\/N.ck c y:=by
    have:(if x=j then N.kn j y\/N.ck c y else N.kn x y):=v
    rw [aY e] at this;exact this
   subst e;rcases l with h | h
   ·obtain ⟨i,A⟩:=I.kn x y hx C h;exact ⟨hdone i,λq a d z=>(A q a (htouch q a d) (hg? q a y (htouch q a d) z)).app _⟩
   ·obtain ⟨p,m,i,A,h4⟩:=I.ck c hu hcl;obtain ⟨W,h6⟩:=h4 y C h;refine ⟨hdone W,λq a d z=>?_⟩;have hb:=h6 q a (htouch q a d) (hg? q a y (htouch q a d) z);have hp:(t++u)[p]? =some m:=by rw [getElem?_append_old (lt_size_of_getElem? i)];exact i
    have hn:HappensBefore (t++u) p (t.size+0):=Kh hW (.closed (c:=c) (by rw [act?_of hp,A]) (act?_of a0)) hp a0;exact ⟨_,_,a0,rfl,.inr ((hb.app _).hb hn)⟩
  ·have l:N.kn x y:=by
    have:(if x=j then N.kn j y\/N.ck c y else N.kn x y):=v
    rw [aX e] at this;exact this
   obtain ⟨i,A⟩:=I.kn x y hx C l;exact ⟨hdone i,λq a d z=>(A q a (htouch q a d) (hg? q a y (htouch q a d) z)).app _⟩
 ·intro R E T;obtain ⟨p,m,i,A,h4⟩:=I.ck R E T;refine ⟨p,m,by rw [getElem?_append_old (lt_size_of_getElem? i)];exact i,A,λy C v=>?_⟩;obtain ⟨W,h6⟩:=h4 y C v;refine ⟨?_,λq a d z=>(h6 q a (htouch q a d) (hg? q a y (htouch q a d) z)).app _⟩;show (if y=j then f none else N.s y)=_;rw [aX (Q y W)];exact W
theorem Ff.shut(I:Ff P Rep KS used N gs w t hs r)(hf:∀i,i<N.n->J1 used N.cl i (N.s i)){i c s:Nat}{nx:Ck M}(hi:i<N.n)(hsi:N.s i=.close c nx)(hu:used c)(hcw:w.heap[c]? =some (.chan 0 #[] false s s false))
  (hgood:Fe used (N.shut i c nx)) {g:Goroutine} (hgi:gs[i]? =some g) {fr':Frame} {cs':List Frame} (hmw:mayWake P g=true) (hx:Fb P Rep KS nx (i==0) (G fr' cs') (hs i)) {fn:FuncId} {pos:String} {u:Trace} (hu':u=#[{ g:=i,fn:=fn,pos:=pos,act:=.access ⟨.obj c,false,true⟩ },{ g:=i,fn:=fn,pos:=pos,act:=.close c }]) :
  ∃r',Ff P Rep KS used (N.shut i c nx) ((gs.map (woken P g (G fr' cs') { w with heap:=w.heap.setIfInBounds c (.chan 0 #[] true s s false) })).setIfInBounds i (G fr' cs')) { w with heap:=w.heap.setIfInBounds c (.chan 0 #[] true s s false) }
   (t++u) hs r':=by
 have hu1:∀B ∈ u,B.g=i:=by
  subst hu';intro B CX;simp at CX;rcases CX with rfl | rfl <;> rfl
 have hu2:∀B ∈ u,∀a,B.act.touch? =some a->C0 a.loc=some c/\a.kind=.atomic:=by
  subst hu';intro B CX a K;simp at CX;rcases CX with rfl | rfl
  ·cases K;exact ⟨rfl,rfl⟩
  ·cases K
 have hwu:Wordless u:=by
  subst hu';intro B CX mk hmk;simp at CX;rcases CX with rfl | rfl <;> cases hmk
 have hlt:c<w.heap.size:=(Array.getElem?_eq_some_iff.1 hcw).1;have hT:=I.tr.atomic hi hu1 hu2 hwu hlt (λk C=>I.free c k hu C) (λk a=>I.atom c k a hu);obtain ⟨ri,hri⟩:=HE (cl:=λx=>if x=c then true else N.cl x) hx;have hstop:∀j,j<N.n->N.s j≠.stop:=λj hj e=>by have:=hf j hj;rw [e] at this;exact this
 have O:∀l,used l->∃n,({ w with heap:=w.heap.setIfInBounds c (.chan 0 #[] true s s false) }:World).heap[l]? =some (.chan 0 #[] (if l=c then true else N.cl l) n n false):=λl Q=>by
  by_cases e:l=c
  ·subst e;exact ⟨s,by simp [hlt]⟩
  ·rw [aX e]
   show∃n,(w.heap.setIfInBounds c _)[l]? =_
   rw [Array.getElem?_setIfInBounds_ne (λx=>e x.symm)];exact I.chans l Q
 have hopen:∀j l (m:M) nx',j<N.n->N.s j=.send l m nx'->l≠c:=λj l m nx' hj h e=>by
  have hji:j≠i:=λe2=>by rw [e2,hsi] at h;cases h
  have hj':j<(N.shut i c nx).n:=hj
  have:=hgood.sendOpen hj' (c:=l) (m:=m) (nx:=nx') (by show (if j=i then nx else N.s j)=_;rw [aX hji];exact h)
  have f:(if l=c then true else N.cl l)=false:=this;rw [aY e] at f;cases f
 have hothers:∀j y,j≠i->gs[j]? =some y->O9 P Rep KS (N.s j) (λx=>if x=c then true else N.cl x) (j==0) (woken P g (G fr' cs') { w with heap:=w.heap.setIfInBounds c (.chan 0 #[] true s s false) } y) (hs j) (r j):=by
  intro j y hji R;have hjl:j<N.n:=by rw [<-I.size];exact (Array.getElem?_eq_some_iff.1 R).1
  generalize hrk:r j=rk;have D:=I.sit j y R;rw [hrk] at D;cases D with
  | walk T v f=>rw [woken_running (Bv v (hstop j hjl) f)];exact .walk T v f
  | leave k v f=>rw [woken_quits f];exact .leave k v f
  | psend v f o W=>
   have E:=hopen j _ _ _ hjl v;have z:=hf j hjl;rw [v] at z;obtain ⟨n,F⟩:=O _ z.1;rw [aX E,f] at F;rw [o,woken_send_open g _ F,<-o];exact .psend v (by simp [E,f]) o W
  | @precv l f' _ _ _ _ v f o W=>
   have z:=hf j hjl;rw [v] at z;obtain ⟨n,F⟩:=O _ z;by_cases e:l=c
   ·subst e;rw [aY rfl] at F;refine .wokn v aD ?_ W;rw [o];unfold woken;rw [aY (by rw [hmw];rfl)];exact again_recv_closed F
   ·rw [aX e,f] at F;rw [o,woken_recv_open g _ F,<-o];exact .precv v (by simp [e,f]) o W
  | @wokn c2 f' _ _ _ _ v f o W=>
   rw [show woken P g (G fr' cs') { w with heap:=w.heap.setIfInBounds c (.chan 0 #[] true s s false) } y=y from woken_running (by rw [o])];refine .wokn v ?_ o W;by_cases e:c2=c
   ·exact aY e
   ·exact (aX e).trans f
 have hnd:∀y,N.s y=.done->y≠i:=λy R e=>by rw [e,hsi] at R;cases R
 have hup:∀B ∈ u,B.g=i\/B.act.touch? =none:=λB CX=>.inl (hu1 B CX);have a1:(t++u)[t.size+1]? =some { g:=i,fn:=fn,pos:=pos,act:=.close c }:=by subst hu';exact VF rfl
 have hdone:∀{y},N.s y=.done->(N.shut i c nx).s y=.done:=λ{y} h=>by
  show (if y=i then nx else N.s y)=_;rw [aX (hnd y h)];exact h
 refine ⟨EX r i ri,⟨by show _=N.n;simpa using I.size,⟨λk C=>?_,I.apart.disj⟩,hT.raise aD,?_,O,I.free,?_,?_,?_,?_⟩⟩
 ·exact Sa (d:=w.drawn) (I.apart.fits k C) (I.free c k hu C)
 ·intro k y C;show O9 P Rep KS (if k=i then nx else N.s k) _ (k==0) y (hs k) _;rcases Ds C with ⟨rfl,rfl⟩ | ⟨E,y',H,rfl⟩
  ·rw [aY rfl,EX,aY rfl];exact hri
  ·rw [aX E,EX,aX E];exact hothers k y' E H
 ·intro l k a Q C hl;rcases BY C with ⟨_,C⟩ | ⟨_,B,CX,_,K⟩
  ·exact I.atom l k a Q C hl
  ·exact (hu2 B CX a K).2
 ·intro a b ga gb l v' z1 sh z2 sh' m1 m2;have hold:∀(k:Nat)(g0:Goroutine)(cs0:Array CommCase)(sh0:CommShape),((gs.map (woken P g (G fr' cs') { w with heap:=w.heap.setIfInBounds c (.chan 0 #[] true s s false) })).setIfInBounds i (G fr' cs'))[k]? =some (parked g0 cs0 sh0)->gs[k]? =some (parked g0 cs0 sh0):=by
   intro k g0 cs0 sh0 C;rcases Ds C with ⟨rfl,e⟩ | ⟨E,y',H,e⟩
   ·simp [G,parked] at e
   ·have X:k<N.n:=by rw [<-I.size];exact (Array.getElem?_eq_some_iff.1 H).1
    have D:=I.sit k y' H;have A:(woken P g (G fr' cs') { w with heap:=w.heap.setIfInBounds c (.chan 0 #[] true s s false) } y').status=.blocked:=by rw [<-e];rfl
    generalize hrk:r k=rk at D;cases D with
    | walk T v f=>rw [woken_running (Bv v (hstop k X) f),Bv v (hstop k X) f] at A;cases A
    | leave q v f=>rw [woken_quits f] at A;rcases f.status with h | h <;> rw [h] at A <;> cases A
    | psend v f o W=>
     have hne2:=hopen k _ _ _ X v;have z:=hf k X;rw [v] at z;obtain ⟨n,F⟩:=O _ z.1;rw [aX hne2,f] at F;rw [o,woken_send_open g _ F] at e;rw [H,o,e]
    | @precv c2 f' _ _ _ _ v f o W=>
     have z:=hf k X;rw [v] at z;obtain ⟨n,F⟩:=O _ z;by_cases e2:c2=c
     ·subst e2;rw [aY rfl] at F;rw [o] at A;unfold woken at A;rw [aY (by rw [hmw];rfl),again_recv_closed F] at A;cases A
     ·rw [aX e2,f] at F;rw [o,woken_recv_open g _ F] at e;rw [H,o,e]
    | wokn v f o W=>
     rw [woken_running (by rw [o]),o] at A;cases A
  exact I.nomeet a b ga gb l v' z1 sh z2 sh' (hold _ _ _ _ m1) (hold _ _ _ _ m2)
 ·intro x y hx R C;obtain ⟨f,o⟩:=I.kn x y hx R C;exact ⟨hdone f,kn_app o hup (hnd y f)⟩
 ·intro l Q hcl';by_cases e:l=c
  ·subst e;refine ⟨_,_,a1,rfl,λy R C=>?_⟩;have hk':N.kn i y\/(y=i/\nx.isDone):=by
    have:(if l=l then N.kn i y\/(y=i/\nx.isDone) else N.ck l y):=C
    rw [aY rfl] at this;exact this
   have fin:∀k,Knows t i k->Before (t++u) k (t.size+1):=
    λk C=>.inr (JH C U a1 rfl)
   rcases hk' with h | ⟨h,h'⟩
   ·obtain ⟨f,o⟩:=I.kn i y hi R h;refine ⟨hdone f,λq a K hg=>?_⟩;rcases BY K with ⟨hlt',K⟩ | ⟨_,B,CX,h5,_⟩
    ·exact fin q (o q a K (g?_app hg hlt'))
    ·have h6:(t++u).g? q=some B.g:=by simp only [Trace.g?,h5,Option.map_some]
     rw [h6,hu1 B CX] at hg;cases hg;exact absurd rfl (hnd i f)
   ·subst h;refine ⟨by show (if y=y then nx else N.s y)=_;rw [aY rfl];exact done_of h',λq a K hg=>?_⟩;rcases BY K with ⟨hlt',K⟩ | ⟨hge,B,CX,h5,h6⟩
    ·exact fin q (XC t K (g?_app hg hlt'))
    ·have hq:q<t.size+2:=by
      have h8:=lt_size_of_getElem? h5;subst hu';simpa using h8
     rcases Nat.lt_or_ge q (t.size+1) with h7 | h7
     ·refine .inr (hb_po U h5 a1 ?_);exact hu1 B CX
     ·have:q=t.size+1:=U
      subst this;exact .inl rfl
  ·have hcl2:N.cl l=true:=by
    have:(if l=c then true else N.cl l)=true:=hcl'
    rw [aX e] at this;exact this
   obtain ⟨p,B,f,o,W⟩:=I.ck l Q hcl2;refine ⟨p,B,by rw [getElem?_append_old (lt_size_of_getElem? f)];exact f,o,λy R C=>?_⟩;have hk':N.ck l y:=by
    have:(if l=c then N.kn i y\/(y=i/\nx.isDone) else N.ck l y):=C
    rw [aX e] at this;exact this
   obtain ⟨h5,h6⟩:=W y R hk';exact ⟨hdone h5,ck_app h6 hup (hnd y h5)⟩
end
end Go.Ns
namespace Go.Ns
open Go.Conc
section
variable {P:Program} {M:Type} {Rep:Nat->M->aZ->Y->Prop} {KS:Goroutine->Y->Prop}
variable {used:Nat->Prop} {N:HD M} {gs:Array Goroutine} {w:World} {t:Trace} {hs:Nat->Y} {r:Nat->Ik}
theorem N0{gs:Array Goroutine}{x:Goroutine}{j:Nat}{y:Goroutine}(h:(gs.push x)[j]? =some y):(j=gs.size/\y=x)\/(j≠gs.size/\gs[j]? =some y):=by
 rw [Array.getElem?_push] at h;split at h
 ·rename_i e;exact .inl ⟨e,(Option.some.inj h).symm⟩
 ·rename_i e;exact .inr ⟨e,h⟩
theorem Ff.hire(I:Ff P Rep KS used N gs w t hs r){i:Nat}{ch nx:Ck M}(hi:i<N.n)(hsi:N.s i=.spawn ch nx){fr:Frame}{cs:List Frame}{fr':Frame}{d:Deferred}{hc h1:Y}
  (A:T9 P (i==0) (Fb P Rep KS ch false) (Fb P Rep KS nx (i==0)) fr cs fr' d hc h1 (hs i)) {f1 f2:FuncId} {p1 p2:String} {u:Trace}
  (hu':u=#[{ g:=i,fn:=f1,pos:=p1,act:=.go N.n },{ g:=N.n,fn:=f2,pos:=p2,act:=.start }]) :
  ∃hs' r',Ff P Rep KS used (N.hire i ch nx) ((gs.setIfInBounds i (G fr' cs)).push (born P d)) w (t++u) hs' r':=by
 have hmute:∀m ∈ u,m.act.touch? =none:=by
  subst hu';intro m CX;simp at CX;rcases CX with rfl | rfl <;> rfl
 have hwu:Wordless u:=by
  subst hu';intro m CX mk hmk;simp at CX;rcases CX with rfl | rfl <;> cases hmk
 have hgu:∀m ∈ u,m.g=i\/m.g=N.n:=by
  subst hu';intro m CX;simp at CX;rcases CX with rfl | rfl <;> simp
 have hW:=I.tr.words.append hwu;have a0:(t++u)[t.size+0]? =some { g:=i,fn:=f1,pos:=p1,act:=.go N.n }:=by subst hu';exact VF rfl
 have a1:(t++u)[t.size+1]? =some { g:=N.n,fn:=f2,pos:=p2,act:=.start }:=by subst hu';exact VF rfl
 have K:∀k,Knows t i k->Knows (t++u) N.n k:=λk v=>
  PQ (JH v U a0 rfl) (Kh hW (.spawn (child:=N.n) (act?_of a0) (act?_of a1) (by simp only [Trace.g?,a1,Option.map_some])) a0 a1) a1 rfl
 obtain ⟨ri,hri⟩:=HE (cl:=N.cl) A.next;obtain ⟨rc,hrc⟩:=HE (cl:=N.cl) A.child;have hin:i≠N.n:=Nat.ne_of_lt hi;have hn0:(N.n==0)=false:=by simp;omega
 let hs':Nat->Y:=λx=>if x=N.n then hc else if x=i then h1 else hs x
 have W:hs' N.n=hc:=aY rfl;have X:hs' i=h1:=by show (if i=N.n then _ else if i=i then _ else _)=_;rw [aX hin,aY rfl]
 have O:∀k,k≠N.n->k≠i->hs' k=hs k:=λk h1 f=>by show (if k=N.n then _ else if k=i then _ else _)=_;rw [aX h1,aX f]
 have D:∀a b,a<N.n->b<N.n->a≠b->(hs a).Apart (hs b):=λa b j E l r o x y z=>I.apart.disj a b r o x j E l y z;have hap':∀a b,a<N.n+1->b<N.n+1->a≠b->(hs' a).Apart (hs' b):=by
  intro a b j E l;by_cases ea:a=N.n
  ·subst ea;rw [W];by_cases H:b=i
   ·subst H;rw [X];exact A.split.two
   ·rw [O b (λe=>l e.symm) H];exact (D i b hi U (λe=>H e.symm)).mono A.split.right (Y.Sub.refl _)
  ·by_cases ea2:a=i
   ·subst ea2;rw [X];by_cases H:b=N.n
    ·subst H;rw [W];exact A.split.one
    ·rw [O b H (λe=>l e.symm)];exact (D a b hi U l).mono A.split.left (Y.Sub.refl _)
   ·rw [O a ea ea2];by_cases H:b=N.n
    ·subst H;rw [W];exact (D a i U hi ea2).mono (Y.Sub.refl _) A.split.right
    ·by_cases eb2:b=i
     ·subst eb2;rw [X];exact (D a b U hi l).mono (Y.Sub.refl _) A.split.left
     ·rw [O b H eb2];exact D a b U U l
 have hnd:∀y,N.s y=.done->y≠i:=λy Q e=>by rw [e,hsi] at Q;cases Q
 have hdone:∀{y},y<N.n->N.s y=.done->(N.hire i ch nx).s y=.done:=λ{y} Q h=>by
  show (if y=N.n then ch else if y=i then nx else N.s y)=_;rw [aX (Nat.ne_of_lt Q),aX (hnd y h)];exact h
 have htouch:∀k a,touchAt (t++u) k=some a->touchAt t k=some a:=λk a j=>by
  rcases BY j with ⟨_,j⟩ | ⟨_,m,CX,_,f⟩
  ·exact j
  ·rw [hmute m CX] at f;cases f
 have hg? :∀k a y,touchAt t k=some a->(t++u).g? k=some y->t.g? k=some y:=λk a y j hg=>by
  obtain ⟨m,f,_⟩:=touch_of j;exact g?_app hg (lt_size_of_getElem? f)
 have hfree:∀B k,used B->k<N.n+1->hs' k B=none:=by
  intro B k C v;have fi:=I.free B i C hi;by_cases e:k=N.n
  ·subst e;rw [W];cases hq:hc B with
   | none=>rfl
   | some y=>obtain ⟨p0,f,_⟩:=A.split.right B y.1 y.2 hq;rw [fi] at f;cases f
  ·by_cases R:k=i
   ·subst R;rw [X];cases hq:h1 B with
    | none=>rfl
    | some y=>obtain ⟨p0,f,_⟩:=A.split.left B y.1 y.2 hq;rw [fi] at f;cases f
   ·rw [O k e R];exact I.free B k C U
 refine ⟨hs',EX (EX r N.n rc) i ri,⟨?_,⟨?_,λa b r o x j E l y z=>hap' a b j E l r o x y z⟩,?_,?_,I.chans,hfree,λB k a C v=>I.atom B k a C (htouch k a v),?_,?_,?_⟩⟩
 ·show _=N.n+1;simp [I.size]
 ·intro k v;have c:k<N.n+1:=v;by_cases e:k=N.n
  ·subst e;rw [W];exact (I.apart.fits i hi).sub A.split.right
  ·by_cases R:k=i
   ·subst R;rw [X];exact (I.apart.fits k hi).sub A.split.left
   ·rw [O k e R];exact I.apart.fits k U
 ·refine I.tr.redist hmute hwu (λm CX=>?_) ?_
  ·show m.g<N.n+1;rcases Array.mem_append.1 CX with x | x
   ·have:=I.tr.num m x;omega
   ·rcases hgu m x with e | e <;> omega
  ·intro k b p o v E;have c:k<N.n+1:=v;by_cases e:k=N.n
   ·subst e;rw [W] at E;exact ⟨i,hi,A.split.right b p o E,K⟩
   ·by_cases R:k=i
    ·subst R;rw [X] at E;exact ⟨k,hi,A.split.left b p o E,λq hq=>hq.app _⟩
    ·rw [O k e R] at E;exact ⟨k,U,⟨p,E,id⟩,λq hq=>hq.app _⟩
 ·intro k g v;show O9 P Rep KS (if k=N.n then ch else if k=i then nx else N.s k) N.cl (k==0) g (hs' k) _;rcases N0 v with ⟨e,rfl⟩ | ⟨e,c⟩
  ·have e':k=N.n:=by rw [e];simp [I.size]
   subst e';rw [aY rfl,W,EX,aX (λx=>hin x.symm),EX,aY rfl,hn0];exact hrc
  ·have e':k≠N.n:=λx=>e (by rw [x];simp [I.size]);rcases E1 c with ⟨rfl,rfl⟩ | ⟨hne,F⟩
   ·rw [aX e',aY rfl,X,EX,aY rfl];exact hri
   ·rw [aX e',aX hne,O k e' hne,EX,aX hne,EX,aX e'];exact I.sit k g F
 ·intro a b ga gb B v' z1 sh z2 sh' m1 m2;have T:∀(k:Nat)(g0:Goroutine)(cs0:Array CommCase)(sh0:CommShape),((gs.setIfInBounds i (G fr' cs)).push (born P d))[k]? =some (parked g0 cs0 sh0)->gs[k]? =some (parked g0 cs0 sh0):=by
   intro k g0 cs0 sh0 v;rcases N0 v with ⟨_,e⟩ | ⟨_,c⟩
   ·simp [born,parked] at e
   ·rcases E1 c with ⟨_,e⟩ | ⟨_,F⟩
    ·simp [G,parked] at e
    ·exact F
  exact I.nomeet a b ga gb B v' z1 sh z2 sh' (T _ _ _ _ m1) (T _ _ _ _ m2)
 ·intro x y hx Q v;have hx':x<N.n+1:=hx;have hy':y<N.n+1:=Q;have c:if y=N.n then False else if x=N.n then N.kn i y else N.kn x y:=v
  by_cases ey:y=N.n
  ·rw [aY ey] at c;exact c.elim
  ·rw [aX ey] at c;by_cases ex:x=N.n
   ·subst ex;rw [aY rfl] at c;obtain ⟨f,h3⟩:=I.kn i y hi U c;exact ⟨hdone U f,λq a j hg=>K q (h3 q a (htouch q a j) (hg? q a y (htouch q a j) hg))⟩
   ·rw [aX ex] at c;obtain ⟨f,h3⟩:=I.kn x y U U c;exact ⟨hdone U f,λq a j hg=>(h3 q a (htouch q a j) (hg? q a y (htouch q a j) hg)).app _⟩
 ·intro B C hcl';obtain ⟨p,m,f,h3,h4⟩:=I.ck B C hcl';refine ⟨p,m,by rw [getElem?_append_old (lt_size_of_getElem? f)];exact f,h3,λy Q v=>?_⟩;have hy':y<N.n+1:=Q;have c:if y=N.n then False else N.ck B y:=v
  by_cases ey:y=N.n
  ·rw [aY ey] at c;exact c.elim
  ·rw [aX ey] at c;obtain ⟨h5,h6⟩:=h4 y U c;exact ⟨hdone U h5,λq a j hg=>(h6 q a (htouch q a j) (hg? q a y (htouch q a j) hg)).app _⟩
end
section
variable {P:Program} {M:Type} {Rep:Nat->M->aZ->Y->Prop} {Post:aZ->World->Prop}
variable {used:Nat->Prop}
theorem O9.chans{KS:Goroutine->Y->Prop}{s:Ck M}{cl cl':Nat->Bool}{main:Bool}{g:Goroutine}{h:Y}{r:Ik}{i:Nat}(x:O9 P Rep KS s cl main g h r)(hf:J1 used cl i s)(e:∀c,used c->cl' c=cl c):O9 P Rep KS s cl' main g h r:=by
 cases x with
 | walk T a b=>exact .walk T a b
 | leave k a b=>exact .leave k a b
 | psend a b d f=>subst a;exact .psend rfl (by rw [e _ hf.1];exact b) d f
 | precv a b d f=>subst a;exact .precv rfl (by rw [e _ hf];exact b) d f
 | wokn a b d f=>subst a;exact .wokn rfl (by rw [e _ hf];exact b) d f
theorem Ff.make{KS:Goroutine->Y->Prop}{N:HD M}{gs:Array Goroutine}{w:World}{t:Trace}{hs:Nat->Y}{r:Nat->Ik}(I:Ff P Rep KS used N gs w t hs r)(hf:∀i,i<N.n->J1 used N.cl i (N.s i)){i c:Nat}{nx:Ck M}(hi:i<N.n)
  (hnd:N.s i≠.done) {g:Goroutine} (hgi:gs[i]? =some g) (hc:hs i c=some (true,.chan 0 #[] false 0 0 false)) (hx:Fb P Rep KS nx (i==0) g ((hs i).cut c)) :
  ¬used c/\∃hs' r',Ff P Rep KS (λx=>used x\/x=c) (N.mk' i c nx) gs w t hs' r':=by
 have K:¬used c:=λq=>by have:=I.free c i q hi;rw [hc] at this;cases this
 have d:∀j b p o,LV hs i ((hs i).cut c) j b=some (p,o)->hs j b=some (p,o):=by
  intro j b p o f;unfold LV at f;split at f
  ·rename_i e;subst e
   unfold Y.cut at f;split at f
   ·cases f
   ·exact f
  ·exact f
 have z:∀x,used x->(if x=c then false else N.cl x)=N.cl x:=λx q=>aX λe=>by subst e;exact K q
 have hnone:∀x j,(used x\/x=c)->j<N.n->LV hs i ((hs i).cut c) j x=none:=by
  intro x j O m;unfold LV;split
  ·unfold Y.cut;split
   ·rfl
   ·rename_i e;exact I.free x i (O.elim id λq=>absurd q e) hi
  ·rename_i C
   rcases O with q | rfl
   ·exact I.free x j q m
   ·cases f:hs j x with
    | none=>rfl
    | some y=>exact (I.apart.disj i j x _ y hi m (λe=>C e.symm) hc f).elim
 have hdone:∀{y},N.s y=.done->(N.mk' i c nx).s y=.done:=λ{y} h=>by
  show (if y=i then nx else N.s y)=_;rw [aX λe=>by subst e;exact hnd h];exact h
 obtain ⟨Q,D⟩:=HE (cl:=(N.mk' i c nx).cl) hx;refine ⟨K,LV hs i ((hs i).cut c),EX r i Q,⟨I.size,⟨λj m b p o f=>I.apart.fits j m b p o (d j b p o f),λa b q o x W f E A v=>?_⟩,?_,?_,?_,hnone,?_,I.nomeet,?_,?_⟩⟩
 ·obtain ⟨p,y⟩:=x;exact I.apart.disj a b q o _ W f E (d _ _ _ _ A) (d _ _ _ _ v)
 ·exact ⟨I.tr.words,I.tr.clean,I.tr.low,I.tr.num,λj b o k a m f=>I.tr.own j b o k a m (d _ _ _ _ f),λj b o k a m f=>I.tr.ro j b o k a m (d _ _ _ _ f),λj b p o k a m f=>I.tr.chn j b p o k a m (d _ _ _ _ f)⟩
 ·intro k R u;have F:k<N.n:=by rw [<-I.size];exact (Array.getElem?_eq_some_iff.1 u).1
  show O9 P Rep KS (if k=i then nx else N.s k) _ (k==0) R (LV hs i _ k) (EX r i Q k);by_cases e:k=i
  ·subst e;rw [hgi] at u;cases u;rw [aY rfl,EX,aY rfl];unfold LV;rw [aY rfl];exact D
  ·rw [aX e,EX,aX e];unfold LV;rw [aX e];exact (I.sit k R u).chans (hf k F) z
 ·rintro x (q | rfl)
  ·obtain ⟨s,A⟩:=I.chans x q;exact ⟨s,by show w.heap[x]? =some (.chan 0 #[] (if x=c then false else N.cl x) s s false);rw [z x q];exact A⟩
  ·exact ⟨0,by show w.heap[x]? =some (.chan 0 #[] (if x=x then false else N.cl x) 0 0 false);rw [aY rfl];exact I.apart.fits i hi _ _ _ hc⟩
 ·rintro x k a (q | rfl) A v
  ·exact I.atom x k a q A v
  ·exact I.tr.chn i x _ _ k a hi hc rfl A v
 ·intro x y hx B u;obtain ⟨v,H⟩:=I.kn x y hx B u;exact ⟨hdone v,H⟩
 ·rintro x (q | rfl) hx
  ·have l:(if x=c then false else N.cl x)=true:=hx;rw [z x q] at l;obtain ⟨p,X,v,H,T⟩:=I.ck x q l;exact ⟨p,X,v,H,λy B u=>⟨hdone (T y B u).1,(T y B u).2⟩⟩
  ·have l:(if x=x then false else N.cl x)=true:=hx;rw [aY rfl] at l;cases l
theorem Ff.runs{KS:Goroutine->Y->Prop}{N:HD M}{gs:Array Goroutine}{w:World}{t:Trace}{hs:Nat->Y}{r:Nat->Ik}(I:Ff P Rep KS used N gs w t hs r)(hf:∀i,i<N.n->J1 used N.cl i (N.s i))(he:∃N',Iv N N') :
  ∃(i:Nat)(g:Goroutine),gs[i]? =some g/\g.status=.running:=by
 have b:∀i,i<N.n->∃g,gs[i]? =some g:=λi q=>⟨_,Array.getElem?_eq_getElem (by rw [I.size];exact q)⟩;obtain ⟨N',h⟩:=he;cases h with
 | @hire i K C q hs=>
  obtain ⟨g,d⟩:=b i q;refine ⟨i,g,d,?_⟩;have x:=I.sit i g d;generalize r i=v at x;cases x with
  | walk T a l=>exact Bv a (λe=>by rw [hs] at e;cases e) l
  | leave k a _=>rw [hs] at a;cases a
  | psend a _ _ _=>rw [hs] at a;cases a
  | precv a _ _ _=>rw [hs] at a;cases a
  | wokn a _ _ _=>rw [hs] at a;cases a
 | @shut i c C q hs=>
  obtain ⟨g,d⟩:=b i q;refine ⟨i,g,d,?_⟩;have x:=I.sit i g d;generalize r i=v at x;cases x with
  | walk T a l=>exact Bv a (λe=>by rw [hs] at e;cases e) l
  | leave k a _=>rw [hs] at a;cases a
  | psend a _ _ _=>rw [hs] at a;cases a
  | precv a _ _ _=>rw [hs] at a;cases a
  | wokn a _ _ _=>rw [hs] at a;cases a
 | @hear j c f z hs A=>
  obtain ⟨g,d⟩:=b j z;refine ⟨j,g,d,?_⟩;have x:=I.sit j g d;generalize r j=v at x;cases x with
  | walk T a l=>exact Bv a (λe=>by rw [hs] at e;cases e) l
  | leave k a _=>rw [hs] at a;cases a
  | psend a _ _ _=>rw [hs] at a;cases a
  | precv a l _ _=>rw [hs] at a;cases a;rw [A] at l;cases l
  | wokn a _ u _=>rw [u]
 | @meet i j c m C f q z E hs p=>
  obtain ⟨g,d⟩:=b i q;obtain ⟨B,o⟩:=b j z;have x:=I.sit i g d;have y:=I.sit j B o;generalize r i=v at x;generalize r j=F at y;cases x with
  | walk T a l=>exact ⟨i,g,d,Bv a (λe=>by rw [hs] at e;cases e) l⟩
  | leave k a _=>rw [hs] at a;cases a
  | precv a _ _ _=>rw [hs] at a;cases a
  | wokn a _ _ _=>rw [hs] at a;cases a
  | psend a l u O=>
   cases y with
   | walk T a l=>exact ⟨j,B,o,Bv a (λe=>by rw [p] at e;cases e) l⟩
   | leave k a _=>rw [p] at a;cases a
   | psend a _ _ _=>rw [p] at a;cases a
   | wokn a _ u _=>exact ⟨j,B,o,by rw [u]⟩
   | precv D Q H R=>
    rw [hs] at a;cases a;rw [p] at D;cases D;rw [u] at d;rw [H] at o;exact (I.nomeet _ _ _ _ _ _ _ _ _ _ d o).elim
theorem Ff.runs'{KS:Goroutine->Y->Prop}{N:HD M}{gs:Array Goroutine}{w:World}{t:Trace}{hs:Nat->Y}{r:Nat->Ik}(I:Ff P Rep KS used N gs w t hs r)(hf:∀i,i<N.n->J1 used N.cl i (N.s i))
  (he:(∃N',Iv N N')\/∃i f,i<N.n/\N.s i=.make f):∃(i:Nat)(g:Goroutine),gs[i]? =some g/\g.status=.running:=by
 rcases he with he | ⟨i,f,b,hs⟩
 ·exact I.runs hf he
 ·refine ⟨i,_,Array.getElem?_eq_getElem (by rw [I.size];exact b),?_⟩;have x:=I.sit i _ (Array.getElem?_eq_getElem (by rw [I.size];exact b));generalize r i=d at x;cases x with
  | walk T a c=>exact Bv a (λe=>by rw [hs] at e;cases e) c
  | leave k a _=>rw [hs] at a;cases a
  | psend a _ _ _=>rw [hs] at a;cases a
  | precv a _ _ _=>rw [hs] at a;cases a
  | wokn a _ _ _=>rw [hs] at a;cases a
theorem FJ(g:Nat)(fn:FuncId)(pos:String):MemOp.ofEvents g fn pos #[]=#[]:=rfl
set_option maxHeartbeats 1000000 in
theorem net_runs{N:HD M}(hN:Fe used N):∀r gs w sl t hs,Ff P Rep (EE P Post) used N gs w t hs r->Bj P (JG Post w.os w.output) (crowd gs w sl) t:=by
 induction hN with
 | stop used N h0 hs0 hrest=>
  intro r gs w sl t hs I;obtain ⟨g,hg⟩:∃g,gs[0]? =some g:=⟨_,Array.getElem?_eq_getElem (by rw [I.size];exact h0)⟩;have x:=I.sit 0 g hg;generalize hr0:r 0=r0 at x;have hok:EE P Post g (hs 0):=by
   cases x with
   | walk T l q=>
    rw [hs0] at q;exact ET.elim LG ⟨T,q⟩
   | leave k l _=>rw [hs0] at l;cases l
   | psend l _ _ _=>rw [hs0] at l;cases l
   | precv l _ _ _=>rw [hs0] at l;cases l
   | wokn l _ _ _=>rw [hs0] at l;cases l
  refine hok gs w sl (λj=>match r j with | .leave k=>k | _=>0) t ⟨hg,?_,I.apart.fits 0 h0,I.tr.words,I.tr.clean,I.tr.low,by rw [I.size];exact I.tr.num,?_,λb p o k a hb=>I.tr.chn 0 b p o k a h0 hb⟩
  ·intro j y R hy;have F:j<N.n:=by rw [<-I.size];exact (Array.getElem?_eq_some_iff.1 hy).1
   have y1:=I.sit j y hy;have hd:=(hrest j R F).1;generalize r j=rk at y1;cases y1 with
   | walk T l q=>rw [hd] at l;exact absurd trivial l
   | leave k l q=>exact q
   | psend l _ _ _=>rw [hd] at l;cases l
   | precv l _ _ _=>rw [hd] at l;cases l
   | wokn l _ _ _=>rw [hd] at l;cases l
  ·intro k a hk;obtain ⟨op,l,_⟩:=touch_of hk;have hg1:t.g? k=some op.g:=by simp [Trace.g?,l]
   have hlt:=I.tr.num op (mem_of_getElem? l);rcases Nat.eq_zero_or_pos op.g with e | e
   ·have:=knows_own l;rw [e] at this;exact this
   ·exact (I.kn 0 op.g h0 hlt (hrest op.g e hlt).2).2 k a hk hg1
 | step used N h0 he hf hgd hmk ih ihm=>
  intro r
  induction ranks_wf N.n r with
  | intro r _ ihr=>
  intro gs w sl t hs I;by_cases hmake:∃i f g,i<N.n/\N.s i=.make f/\gs[i]? =some g/\Ij P Rep (EE P Post) (.make f) (i==0) g (hs i)
  ·obtain ⟨i,f,g,hi,hsi,hgi,_,c,hc,hd⟩:=hmake;obtain ⟨hu,hs',r',hI⟩:=I.make hf hi (λe=>by rw [hsi] at e;cases e) hgi hc hd;exact ihm i f c hi hsi hu r' gs w sl t hs' hI
  have hstop:∀j,j<N.n->N.s j≠.stop:=λj R e=>by have:=hf j R;rw [e] at this;exact this
  have haw:∀g ∈ gs,awake g:=by
   intro g hg;obtain ⟨i,hi,rfl⟩:=Array.mem_iff_getElem.1 hg;exact awake_of ((I.sit i _ (Array.getElem?_eq_getElem hi)).status (hstop i (by rw [<-I.size];exact hi)))
  obtain ⟨i,g,d,sl',hi,hg,hst⟩:=crowd_pick (P:=P) (w:=w) (sl:=sl) haw (I.runs' hf he);have D:i<N.n:=by rw [<-I.size];exact (Array.getElem?_eq_some_iff.1 hi).1
  have I1:=I.at d;have H:(w.at d).os=w.os/\(w.at d).output=w.output:=⟨rfl,rfl⟩;generalize w.at d=w1 at I1 hst H;have parks:∀{W cs cases shape},(∀x,stepG P (i==0) g w1=x->x=.comm (G W cs) cases true shape w1 #[])->(∀cc ∈ cases,NoWays w1 (gs.setIfInBounds i ph) cc)->
    O9 P Rep (EE P Post) (N.s i) N.cl (i==0) (parked (G W cs) cases shape) (hs i) .low->RLt .low (r i)->
    (∀(j:Nat)(gj:Goroutine),gs[j]? =some gj->(∀g0 c v z sh g1 z' sh',parked (G W cs) cases shape=parked g0 #[scase c v z] sh->gj=parked g1 #[rcase c z'] sh'->False)/\(∀g0 c v z sh g1 z' sh',gj=parked g0 #[scase c v z] sh->parked (G W cs) cases shape=parked g1 #[rcase c z'] sh'->False))->
    Bj P (JG Post w.os w.output) (crowd gs w sl) t:=by
   intro W cs cases shape hstep hw hsit hlt hno;have C:=crowd_waits (P:=P) (sl:=sl') hi (hstep _ rfl) hw;refine Bj.step (hst.trans C) (Bj.at H.1 H.2 ?_);rw [FJ,Array.append_empty];exact ihr _ ⟨i,D,by rw [EX,aY rfl];exact hlt,λj _ R=>by rw [EX,aX R]⟩ _ _ _ _ _ (I1.park (g:=g) D (.inr trivial) hsit hno)
  have recvs:∀{c f W cs z ok},N.s i=.recv c f->LW P (i==0) Rep c (λo=>Fb P Rep (EE P Post) (f o) (i==0)) W cs z ok (hs i)->stepG P (i==0) g w1=stepG P (i==0) (G W cs) w1->
    (N.cl c=false->RLt .low (r i))->Bj P (JG Post w.os w.output) (crowd gs w sl) t:=by
   intro c f W cs z ok hsi B hsame hlow;have K:=hf i D;rw [hsi] at K;have hstep:stepG P (i==0) g w1=.comm (G W cs) #[rcase c z] true (.recv ok) w1 #[]:=hsame.trans (B.step w1 (I1.apart.fits i D));obtain ⟨s,X⟩:=I1.chans c K;cases hcl:N.cl c with
   | true=>
    rw [hcl] at X;have hp:partners (gs.setIfInBounds i ph) c true=[]:=partners_nil λj gj R=>by
     rcases getElem?_stand gs i j gj R with ⟨_,rfl⟩ | ⟨_,hj'⟩
     ·rfl
     ·have F:j<N.n:=by rw [<-I.size];exact (Array.getElem?_eq_some_iff.1 hj').1
      have y:=I1.sit j gj hj';generalize r j=rk at y;cases y with
      | walk T l q=>exact offersAt_of_not_blocked (by rw [Bv l (hstop j F) q];simp) _ _
      | leave k l q=>exact offersAt_of_not_blocked (by rcases q.status with h | h <;> rw [h] <;> simp) _ _
      | @psend c' _ _ _ _ _ _ _ _ l q E _=>
       rw [E,offersAt_parked_send]
       have:c'≠c:=λe=>by rw [e,hcl] at q;cases q
       rw [aX this]
      | precv l q E _=>rw [E];exact offersAt_parked_recv' _ _ _ _ _
      | wokn l q E _=>exact offersAt_of_not_blocked (by rw [E];simp) _ _
    have C:=crowd_recv_closed (P:=P) (sl:=sl') hi hstep X hp;rw [finishComm_recv,FJ,Array.empty_append] at C;obtain ⟨r',hI⟩:=I1.hear D hsi K hcl B (fn:=W.fn) (pos:=W.place) rfl;exact Bj.step (hst.trans C) (Bj.at H.1 H.2 (ih _ (.hear D hsi hcl) r' _ _ _ _ _ hI))
   | false=>
    rw [hcl] at X;by_cases hp:partners (gs.setIfInBounds i ph) c true=[]
    ·refine parks (λx hx=>by rw [<-hx];exact hstep) (λcc hcc=>?_) (.precv hsi hcl rfl B) (hlow hcl) ?_
     ·simp at hcc;subst hcc;exact ways_recv_none X hp
     ·intro j gj R;refine ⟨λg0 c' v z1 sh g1 z2 sh' l _=>Hw l,λg0 c' v z1 sh g1 z2 sh' l q=>?_⟩;obtain ⟨_,_,_,rfl,_,_⟩:=SX q;have hji:j≠i:=λe=>by subst e;rw [hi] at R;cases R;rw [l] at hg;cases hg
      have:(j,0) ∈ partners (gs.setIfInBounds i ph) c true:=mem_partners.2 ⟨gj,stand_get hji R,by rw [l,offersAt_parked_send,aY rfl];simp⟩
      rw [hp] at this;cases this
    ·have hall:∀j k,(j,k) ∈ partners (gs.setIfInBounds i ph) c true->k=0/\j≠i/\∃gj vj zj shj,gs[j]? =some (parked gj #[scase c vj zj] shj):=by
      intro j k hjk;obtain ⟨gj,R,Q⟩:=mem_partners.1 hjk;rcases getElem?_stand gs i j gj R with ⟨_,rfl⟩ | ⟨hji,hj'⟩
      ·rw [offersAt_ph] at Q;cases Q
      ·have F:j<N.n:=by rw [<-I.size];exact (Array.getElem?_eq_some_iff.1 hj').1
       have y:=I1.sit j gj hj';generalize r j=rk at y;cases y with
       | walk T l q=>rw [offersAt_of_not_blocked (by rw [Bv l (hstop j F) q];simp)] at Q;cases Q
       | leave k l q=>rw [offersAt_of_not_blocked (by rcases q.status with h | h <;> rw [h] <;> simp)] at Q;cases Q
       | @psend c' _ _ _ _ _ _ _ _ l q E _=>
        rw [E,offersAt_parked_send] at Q;by_cases e:c'=c
        ·subst e;rw [aY rfl] at Q;rw [E] at hj';exact ⟨by simpa using Q,hji,_,_,_,_,hj'⟩
        ·rw [aX e] at Q;cases Q
       | precv l q E _=>rw [E,offersAt_parked_recv'] at Q;cases Q
       | wokn l q E _=>rw [offersAt_of_not_blocked (by rw [E];simp)] at Q;cases Q
     obtain ⟨j,gj,vj,zj,shj,d',hji,R,C⟩:=crowd_recv_meets_some (P:=P) (sl:=sl') hi hstep X hp hall;have F:j<N.n:=by rw [<-I.size];exact (Array.getElem?_eq_some_iff.1 R).1
     have y:=I1.sit j _ R;generalize r j=rk at y;cases y with
     | walk T l q=>have:=Bv l (hstop j F) q;cases this
     | leave k l q=>rcases q.status with h | h <;> cases h
     | precv l q E _=>exact (Hw E.symm).elim
     | wokn l q E _=>have:=congrArg Goroutine.status E;cases this
     | @psend c' m nx fr2 cs2 v2 z2 hm h1' l q E A=>
      obtain ⟨e1,e2,e3,rfl,rfl,rfl,rfl⟩:=SY E;rw [finishComm_recv,finishComm_send,FJ,Array.empty_append,SZ e1 e2 e3] at C;have hij:i≠j:=λe=>hji e.symm;obtain ⟨hs',r',hI⟩:=I1.meet (d:=d') F D hji l hsi K hcl A B (gs':=(gs.setIfInBounds j (G (fr2.finish undef) cs2)).setIfInBounds i (G (W.finish (recvd ok vj true)) cs))
       (by rw [Array.getElem?_setIfInBounds_ne hij];simp [I.size,F]) (by simp [I.size,D])
       (λk hk1 hk2=>by rw [Array.getElem?_setIfInBounds_ne (λe=>hk2 e.symm),Array.getElem?_setIfInBounds_ne (λe=>hk1 e.symm)]) aD (s:=s) rfl
      exact Bj.step (hst.trans C) (Bj.at H.1 H.2 (ih _ (.meet F D hji l hsi) r' _ _ _ _ _ hI))
  have x:=I1.sit i g hi;generalize hri:r i=ri at x;cases x with
  | leave k l q=>
   cases k with
   | zero=>rw [show g.status=.finished from q] at hg;cases hg
   | succ k=>
    rcases q with q | ⟨_,g',hstp,hq⟩
    ·rw [q] at hg;cases hg
    have hi0:(i==0)=false:=by
     have h9:=hf i D;rw [l] at h9;have h10:i≠0:=h9;simpa using h10
    have C:=runT_crowd_go (P:=P) (sl:=sl') (i:=i) hi (by rw [hi0];exact hstp w1);refine Bj.step (hst.trans C) (Bj.at H.1 H.2 ?_);rw [FJ,Array.append_empty];exact ihr _ ⟨i,D,by rw [EX,aY rfl,hri];exact .leave k,λj _ R=>by rw [EX,aX R]⟩ _ _ _ _ _ (I1.quit hf hi l hq)
  | psend l q E _=>rw [E] at hg;cases hg
  | precv l q E _=>rw [E] at hg;cases hg
  | wokn l q E B=>
   refine recvs l B ?_ (λe=>by rw [q] at e;cases e);rw [E,stepG_tries];rfl
  | walk T hnd hT=>
   have hcase:Ij P Rep (EE P Post) (N.s i) (i==0) g (hs i)\/∃f,T=.node f/\∀w,EL w (hs i)->∃g' w' es h',stepG P (i==0) g w=.go g' w' es/\Bf (hs i) w es h' w'/\SW P (i==0) (Ij P Rep (EE P Post) (N.s i) (i==0)) (f w) g' h':=by
    cases T with
    | leaf=>exact .inl hT
    | node f=>exact hT.imp id λx=>⟨f,rfl,x.2⟩
   rcases hcase with hS | ⟨f,rfl,hstp⟩
   ·have hlow:RLt .low (r i):=by rw [hri];exact .low T
    have K:=hf i D;cases O:N.s i with
    | stop=>exact absurd O (hstop i D)
    | never=>rw [O] at K;exact K.elim
    | done=>rw [O] at hnd;exact absurd trivial hnd
    | make f=>rw [O] at hS;exact absurd ⟨i,f,g,D,O,hi,hS⟩ hmake
    | recv c f=>
     rw [O] at hS;obtain ⟨W,cs,z,ok,rfl,B⟩:=hS;exact recvs O B rfl (λ_=>hlow)
    | close c nx=>
     rw [O] at hS K;obtain ⟨W,cs,fr',cs',rfl,A⟩:=hS;obtain ⟨s,X⟩:=I1.chans c K.1;rw [K.2] at X;have hstep:=A.step w1 s s (I1.apart.fits i D) X;have C:=runT_crowd_go (P:=P) (sl:=sl') (i:=i) hi hstep;have eU:MemOp.ofEvents i (G W cs).frame.fn (G W cs).frame.place #[⟨.obj c,false,true⟩,⟨.obj c,true,true⟩]=#[{ g:=i,fn:=W.fn,pos:=W.place,act:=.access ⟨.obj c,false,true⟩ },{ g:=i,fn:=W.fn,pos:=W.place,act:=.close c }]:=by simp [MemOp.ofEvents,MemAct.ofEvent,G]
     have hst':Iv N (N.shut i c nx):=.shut D O;have hgood:Fe used (N.shut i c nx):=hgd _ hst';obtain ⟨r',hI⟩:=I1.shut hf D O K.1 X hgood hi A.wake A.next eU;exact Bj.step (hst.trans C) (Bj.at H.1 H.2 (ih _ hst' r' _ _ _ _ _ hI))
    | spawn ch nx=>
     rw [O] at hS;obtain ⟨W,cs,fr',d',hc,l,rfl,A⟩:=hS;have C:=runT_crowd_spawn (P:=P) (sl:=sl') (i:=i) hi (A.step w1 (I1.apart.fits i D));obtain ⟨hs',r',hI⟩:=I1.hire D O A (u:=(MemOp.ofEvents i (G W cs).frame.fn (G W cs).frame.place #[]).push { g:=i,fn:=(G W cs).frame.fn,pos:=(G W cs).frame.place,act:=.go gs.size } |>.push { g:=gs.size,fn:=(born P d').frame.fn,pos:=(G W cs).frame.place,act:=.start }) (by rw [FJ,I.size];rfl);exact Bj.step (hst.trans C) (Bj.at H.1 H.2 (ih _ (.hire D O) r' _ _ _ _ _ hI))
    | send c m nx=>
     rw [O] at hS K;obtain ⟨W,cs,v,z,hm,l,rfl,A⟩:=hS;obtain ⟨s,X⟩:=I1.chans c K.1;rw [K.2] at X;have hstep:=A.step w1 (I1.apart.fits i D);by_cases hp:partners (gs.setIfInBounds i ph) c false=[]
     ·refine parks (λx hx=>by rw [<-hx];exact hstep) (λcc hcc=>?_) (.psend O K.2 rfl A) hlow ?_
      ·simp at hcc;subst hcc;exact ways_send_none X aD hp
      ·intro j gj R;refine ⟨λg0 c' v1 z1 sh g1 z2 sh' l q=>?_,λg0 c' v1 z1 sh g1 z2 sh' _ q=>Hw q.symm⟩;obtain ⟨_,_,_,rfl,_,_,_⟩:=SY l;have hji:j≠i:=λe=>by subst e;rw [hi] at R;cases R;rw [q] at hg;cases hg
       have:(j,0) ∈ partners (gs.setIfInBounds i ph) c false:=mem_partners.2 ⟨gj,stand_get hji R,by rw [q,offersAt_parked_recv,aY rfl];simp⟩
       rw [hp] at this;cases this
     ·have hall:∀j k,(j,k) ∈ partners (gs.setIfInBounds i ph) c false->k=0/\j≠i/\∃gj zj shj,gs[j]? =some (parked gj #[rcase c zj] shj):=by
       intro j k hjk;obtain ⟨gj,R,Q⟩:=mem_partners.1 hjk;rcases getElem?_stand gs i j gj R with ⟨_,rfl⟩ | ⟨hji,hj'⟩
       ·rw [offersAt_ph] at Q;cases Q
       ·have F:j<N.n:=by rw [<-I.size];exact (Array.getElem?_eq_some_iff.1 hj').1
        have y:=I1.sit j gj hj';generalize r j=rk at y;cases y with
        | walk T l q=>rw [offersAt_of_not_blocked (by rw [Bv l (hstop j F) q];simp)] at Q;cases Q
        | leave k l q=>rw [offersAt_of_not_blocked (by rcases q.status with h | h <;> rw [h] <;> simp)] at Q;cases Q
        | psend l q E _=>rw [E,offersAt_parked_send'] at Q;cases Q
        | @precv c' _ _ _ _ _ l q E _=>
         rw [E,offersAt_parked_recv] at Q;by_cases e:c'=c
         ·subst e;rw [aY rfl] at Q;rw [E] at hj';exact ⟨by simpa using Q,hji,_,_,_,hj'⟩
         ·rw [aX e] at Q;cases Q
        | wokn l q E _=>rw [offersAt_of_not_blocked (by rw [E];simp)] at Q;cases Q
      obtain ⟨j,gj,zj,shj,d',hji,R,C⟩:=crowd_send_meets_some (P:=P) (sl:=sl') hi hstep X hp hall;have F:j<N.n:=by rw [<-I.size];exact (Array.getElem?_eq_some_iff.1 R).1
      have y:=I1.sit j _ R;generalize r j=rk at y;cases y with
      | walk T l q=>have:=Bv l (hstop j F) q;cases this
      | leave k l q=>rcases q.status with h | h <;> cases h
      | psend l q E _=>exact (Hw E).elim
      | wokn l q E _=>have:=congrArg Goroutine.status E;cases this
      | @precv c' f fr2 cs2 z2 ok k1 k2 k3 B=>
       obtain ⟨e1,e2,e3,rfl,rfl,rfl⟩:=SX k3;rw [finishComm_recv,finishComm_send,FJ,Array.empty_append,SZ e1 e2 e3] at C;have hij:i≠j:=λe=>hji e.symm;obtain ⟨hs',r',hI⟩:=I1.meet (d:=d') D F hij O k1 K.1 K.2 A B (gs':=(gs.setIfInBounds j (G (fr2.finish (recvd ok v true)) cs2)).setIfInBounds i (G (W.finish undef) cs))
        (by simp [I.size,D]) (by rw [Array.getElem?_setIfInBounds_ne hij];simp [I.size,F])
        (λk hk1 hk2=>by rw [Array.getElem?_setIfInBounds_ne (λe=>hk1 e.symm),Array.getElem?_setIfInBounds_ne (λe=>hk2 e.symm)]) aD (s:=s) rfl
       exact Bj.step (hst.trans C) (Bj.at H.1 H.2 (ih _ (.meet D F hij O k1) r' _ _ _ _ _ hI))
   ·obtain ⟨g',w',es,h',l,q,E⟩:=hstp w1 (I1.apart.fits i D);have C:=runT_crowd_go (P:=P) (sl:=sl') (i:=i) hi l;refine Bj.step (hst.trans C) (Bj.at (q.os.trans H.1) (q.out.trans H.2) ?_);refine ihr _ ⟨i,D,by rw [EX,aY rfl,hri];exact .walk f w1,λj _ R=>by rw [EX,aX R]⟩ _ _ _ _ _ (I1.step hf hi hnd q (Bv hnd (hstop i D) E) (.walk (f w1) hnd E) _ _)
end
end Go.Ns
namespace Go.Ns
open Go.Conc
section
variable {P:Program}
def isAggD:TypeDesc->Bool
 | .struct _=>true
 | .array _ _=>true
 | _=>false
def B0(P:Program)(t:bA):Option (Bool×Nat):=
 match P.underlying t with
 | none=>none
 | some d=>match P.info? t with
  | none=>none
  | some i=>some (isAggD d,i.size)
theorem Sb{t:bA}{a:Bool}{n:Nat}(h:B0 P t=some (a,n)):∃d i,P.underlying t=some d/\P.info? t=some i/\isAggD d=a/\i.size=n:=by
 unfold B0 at h;cases b:P.underlying t with
 | none=>rw [b] at h;cases h
 | some d=>
  cases c:P.info? t with
  | none=>rw [b] at h;simp only [c] at h;cases h
  | some i=>
   rw [b] at h;simp only [c,Option.some.injEq,Prod.mk.injEq] at h;exact ⟨d,i,rfl,rfl,h.1,h.2⟩
theorem Ai{t:bA}{d:TypeDesc}{h:Y}{Q:TypeDesc->Y->Prop}(ht:P.underlying t=some d)(x:Q d h):(underlying t).gh P h Q:=by
 unfold underlying;refine AE _ _ ?_;show (match P.underlying t with | some d=>(pure d:Sem TypeDesc) | none=>stuck "no such type").gh P h Q;rw [ht];exact x
theorem CU{t:bA}{i:TypeInfo}{h:Y}{Q:TypeInfo->Y->Prop}(ht:P.info? t=some i)(x:Q i h):(typeInfo t).gh P h Q:=by
 unfold typeInfo;refine AE _ _ ?_;show (match P.info? t with | some i=>(pure i:Sem TypeInfo) | none=>stuck "no such type").gh P h Q;rw [ht];exact x
theorem PR{t:bA}{a:Bool}{n:Nat}{h:Y}{Q:Bool->Y->Prop}(ht:B0 P t=some (a,n))(x:Q a h):(isAgg t).gh P h Q:=by
 obtain ⟨d,i,b,c,rfl,rfl⟩:=Sb ht;unfold isAgg;refine AE _ _ (Ai b ?_);cases d <;> exact x
theorem Dq{t:bA}{a:Bool}{n:Nat}{h:Y}{Q:Nat->Y->Prop}(ht:B0 P t=some (a,n))(x:Q n h):(sizeOf t).gh P h Q:=by
 obtain ⟨d,i,c,b,rfl,rfl⟩:=Sb ht;unfold sizeOf;exact AE _ _ (CU b x)
theorem Zs{a:Addr}{p:Bool}{c:Array aZ}{t:bA}{f:Nat×Nat}{v:aZ}{h:Y}{Q:aZ->Y->Prop}(hs:a.spot=none)(hb:h a.block=some (p,.cells c t f))(hc:c[a.off]? =some v)(x:Q v h):(load a).gh P h Q:=
 ⟨rfl,hs,p,c,t,f,v,hb,hc,x⟩
theorem VG{a:Addr}(n:Nat)(h:a.spot=none):(a.add n).spot=none:=by unfold Addr.add;split <;> simp [h]
theorem NF(a:Addr)(n:Nat):(a.add n).block=a.block:=by unfold Addr.add;split <;> rfl
theorem UB(a:Addr)(n:Nat):(a.add n).off=a.off+n:=by
 unfold Addr.add;split
 ·rename_i e;subst e;rfl
 ·rfl
theorem Il(b off n:Nat):(Addr.add ⟨b,off,none⟩ n)=⟨b,off+n,none⟩:=by
 unfold Addr.add;split
 ·rename_i e;subst e;rfl
 ·rfl
theorem ME{a:Addr}{p:Bool}{c:Array aZ}{t:bA}{f:Nat×Nat}{h:Y}{Q:Array aZ->Y->Prop}(hs:a.spot=none)(hb:h a.block=some (p,.cells c t f)) :
  ∀(n i:Nat)(acc:Array aZ),a.off+i+n<=c.size->Q (acc++c.extract (a.off+i) (a.off+i+n)) h->(loadCellsFrom a i n acc).gh P h Q:=by
 intro n
 induction n with
 | zero=>
  intro i acc _ x
  have:acc++c.extract (a.off+i) (a.off+i+0)=acc:=by simp;omega
  rw [this] at x;exact x
 | succ n d=>
  intro i acc k x;unfold loadCellsFrom;refine AE _ _ (Zs (v:=c[a.off+i]) (VG i hs) (by rw [NF];exact hb) (by rw [UB];simp) ?_);refine d (i+1) (acc.push c[a.off+i]) U ?_;have e:acc++c.extract (a.off+i) (a.off+i+(n+1))=acc.push c[a.off+i]++c.extract (a.off+(i+1)) (a.off+(i+1)+n):=by
   apply Array.ext';simp only [Array.toList_append,Array.toList_push,Array.toList_extract,List.extract_eq_take_drop,List.append_assoc];congr 1;have g:a.off+i+(n+1)-(a.off+i)=n+1:=U
   have j:a.off+(i+1)+n-(a.off+(i+1))=n:=U
   rw [g,j];have b:a.off+i<c.toList.length:=by simp;omega
   rw [List.drop_eq_getElem_cons b,List.take_succ_cons];simp [Nat.add_assoc]
  rw [<-e];exact x
def Rd(P:Program)(h:Y)(t:bA)(b off:Nat)(v:aZ):Prop:=
 ∃p c ty f,h b=some (p,.cells c ty f)/\((∃n,B0 P t=some (false,n)/\c[off]? =some v)\/∃n,B0 P t=some (true,n)/\off+n<=c.size/\v=.agg (c.extract off (off+n)))
theorem Rd.one{h:Y}{t:bA}{n b off:Nat}{v:aZ}{p:Bool}{c:Array aZ}{ty:bA}{f:Nat×Nat}(ht:B0 P t=some (false,n))(hb:h b=some (p,.cells c ty f))(hc:c[off]? =some v):Rd P h t b off v:=
 ⟨p,c,ty,f,hb,.inl ⟨n,ht,hc⟩⟩
theorem Rd.agg{h:Y}{t:bA}{n b off:Nat}{vs:Array aZ}{p:Bool}{c:Array aZ}{ty:bA}{f:Nat×Nat}(ht:B0 P t=some (true,n))(hb:h b=some (p,.cells c ty f))(hn:off+n<=c.size)(hv:c.extract off (off+n)=vs):Rd P h t b off (.agg vs):=
 ⟨p,c,ty,f,hb,.inr ⟨n,ht,hn,by rw [hv]⟩⟩
theorem PS{h:Y}{t:bA}{b off:Nat}{v:aZ}{Q:aZ->Y->Prop}(r:Rd P h t b off v)(x:Q v h):(loadVar t ⟨b,off,none⟩).gh P h Q:=by
 obtain ⟨p,c,j,f,e,⟨n,d,g⟩ | ⟨n,d,i,rfl⟩⟩:=r
 ·unfold loadVar;refine AE _ _ (PR d ?_);exact Zs rfl e g x
 ·unfold loadVar;refine AE _ _ (PR d ?_);refine AE _ _ (Dq d ?_);refine AE _ _ (ME (a:=⟨b,off,none⟩) rfl e n 0 #[] (by simpa using i) ?_);exact Ak (by simpa using x)
def BU(c:Array aZ)(off:Nat):List aZ->Array aZ
 | []=>c
 | v ::vs=>BU (c.setIfInBounds off v) (off+1) vs
theorem G0(vs:List aZ):∀(c:Array aZ)(off:Nat),(BU c off vs).size=c.size:=by
 induction vs with
 | nil=>intro c off;rfl
 | cons v vs a=>intro c off;simp [BU,a]
theorem gh_store{a:Addr}{v:aZ}{c:Array aZ}{t:bA}{h:Y}{Q:Unit->Y->Prop}(hs:a.spot=none)(hv:v.oneCell'=true)(hb:h a.block=some (true,.cells c t (0,0)))(ho:a.off<c.size)
  (x:Q () (h.set a.block true (.cells (c.setIfInBounds a.off v) t (0,0)))):(store a v).gh P h Q:=
 ⟨rfl,hs,hv,c,t,(0,0),hb,ho,aD,x⟩
theorem set_set(h:Y)(r:Nat)(p q:Bool)(o o':Obj):(h.set r p o).set r q o'=h.set r q o':=by
 funext b;unfold Y.set;split <;> rfl
theorem G1{a:Addr}{t:bA}{Q:Unit->Y->Prop}(hs:a.spot=none):∀(vs:List aZ)(i:Nat)(c:Array aZ)(h:Y),(∀v ∈ vs,v.oneCell'=true)->h a.block=some (true,.cells c t (0,0))->a.off+i+vs.length<=c.size->
  Q () (h.set a.block true (.cells (BU c (a.off+i) vs) t (0,0)))->(storeCells a vs i).gh P h Q:=by
 intro vs
 induction vs with
 | nil=>
  intro i c h _ d _ x
  have:h.set a.block true (.cells (BU c (a.off+i) []) t (0,0))=h:=by
   funext b;unfold Y.set;split
   ·rename_i e;subst e;exact d.symm
   ·rfl
  rw [this] at x;unfold storeCells;exact x
 | cons v vs g=>
  intro i c h f d j x;unfold storeCells;simp only [List.length_cons] at j;refine AE _ _ (gh_store (VG i hs) (f v aD) (by rw [NF];exact d) (by rw [UB];omega) ?_);rw [NF,UB];refine g (i+1) (c.setIfInBounds (a.off+i) v) _ (λy k=>f y (by simp [k])) (Y.set_same _ _ _ _) (by simp;omega) ?_;rw [set_set];exact x
def Value.fine(v:aZ):Bool:=v.cells.toList.all λx=>x.oneCell'
theorem VH{h:Y}{t:bA}{b off:Nat}{v:aZ}{g:Bool}{n:Nat}{c:Array aZ}{ty:bA}{Q:Unit->Y->Prop}(ht:B0 P t=some (g,n))(hb:h b=some (true,.cells c ty (0,0)))(hsz:v.cells.size=n)(hv:Value.fine v=true)
  (hn:off+n<=c.size) (x:Q () (h.set b true (.cells (BU c off v.cells.toList) ty (0,0)))):(storeVar t ⟨b,off,none⟩ v).gh P h Q:=by
 unfold storeVar;refine AE _ _ (Dq ht ?_);rw [aX (by rw [hsz];simp)];refine G1 (a:=⟨b,off,none⟩) rfl _ 0 c h ?_ hb ?_ ?_
 ·intro y d;unfold Value.fine at hv;exact List.all_eq_true.1 hv y d
 ·show off+0+v.cells.toList.length<=c.size;simp;omega
 ·exact x
def LH(P:Program)(O:Nat->aZ)(h:Y):List ResultVar->(List aZ->Prop)->Prop
 | [],Q=>Q []
 | .tmp t ::l,Q=>LH P O h l λvs=>Q (O t ::vs)
 | .cell a t ::l,Q=>∃b off v,O a=.pointer (some ⟨b,off,none⟩)/\Rd P h t b off v/\LH P O h l λvs=>Q (v ::vs)
def Ki(vs:List aZ):aZ:=match vs with
 | [v]=>v
 | vs=>.tuple vs.toArray
theorem XD{fn:Func}{t:Array aZ}{N:Nat}{O:Nat->aZ}{h:Y}{R:aZ->Y->Prop}(hs:BT t N O)(x:LH P O h fn.results.toList λvs=>R (Ki vs) h):(results fn t).gh P h R:=by
 unfold results;refine AE _ _ ?_;have d:∀(l:List ResultVar)(Q:List aZ->Prop)(K:List aZ->Y->Prop),(∀vs,Q vs->K vs h)->LH P O h l Q->
   (l.mapM (m:=Sem) fun | .tmp u=>pure (t.getD u undef) | .cell a g=>do loadVar g (<-asAddr (t.getD a undef))).gh P h K:=by
  intro l
  induction l with
  | nil=>intro Q K c x;rw [List.mapM_nil];exact c _ x
  | cons r l i=>
   intro Q K c x;rw [List.mapM_cons];cases r with
   | tmp u=>
    refine AE _ _ (Ak ?_);refine AE _ _ (i (λvs=>Q (O u ::vs)) (λvs f=>K (t.getD u undef ::vs) f) (λvs q=>by rw [hs.2 u];exact c _ q) x)
   | cell a g=>
    obtain ⟨b,j,v,k,n,o⟩:=x;refine AE _ _ (AE _ _ ?_);rw [hs.2 a,k];refine PS n ?_;exact AE _ _ (i (λvs=>Q (v ::vs)) (λvs f=>K (v ::vs) f) (λvs q=>c _ q) o)
 rw [Array.mapM_eq_mapM_toList,map_eq_pure_bind];refine AE _ _ (d fn.results.toList _ _ (λvs q=>Ak ?_) x);show (pure (if h:vs.toArray.size=1 then vs.toArray[0] else .tuple vs.toArray):Sem aZ).gh P h R;have e:(if h:vs.toArray.size=1 then vs.toArray[0] else .tuple vs.toArray)=Ki vs:=by
  match vs with
  | []=>rfl
  | [v]=>rfl
  | v ::u ::l=>simp [Ki]
 rw [e];exact q
end
end Go.Ns
namespace Go.Ns
open Go.Conc
section
variable {P:Program} {W:Wk P}
def Gf(P:Program)(fn:Func)(O:Nat->aZ)(R:aZ->Y->Prop):List Deferred->Y->Prop
 | [],h=>LH P O h fn.results.toList λvs=>R (Ki vs) h
 | d ::ds,h=>∃r,d={ target:=.collected r,args:=#[] }/\∃o,h r=some (true,.deferred (some o))/\o=[]/\Gf P fn O R ds (h.set r true (.deferred none))
theorem LX{main:Bool}{b:Frame}{t:Array aZ}{ds:List Deferred}{k:List Item}{cs:List Frame}{w:World}:stepG P main (G (Er b t ds k) cs) w=unwind P main (Er b t ds k) cs none w:=rfl
theorem Or{r:Nat}{ds:List Deferred}{h:Y}{Q:List Deferred->Y->Prop}(hr:h r=some (true,.deferred (some ds)))(x:Q ds (h.set r true (.deferred none))):(Instr.takeDeferred r).gh P h Q:=by
 unfold Instr.takeDeferred;refine AE _ _ ⟨true,_,hr,rfl,rfl,?_⟩;exact AE _ _ ⟨_,hr,rfl,rfl,rfl,x⟩
theorem LY{O:Nat->aZ}{h:Y}(l:List ResultVar):∀{Q Q':List aZ->Prop},(∀vs,Q vs->Q' vs)->LH P O h l Q->LH P O h l Q':=by
 induction l with
 | nil=>intro Q Q' c x;exact c _ x
 | cons r l e=>
  intro Q Q' c x;cases r with
  | tmp u=>exact e (λvs y=>c _ y) x
  | cell a j=>obtain ⟨b,d,v,f,g,i⟩:=x;exact ⟨b,d,v,f,g,e (λvs y=>c _ y) i⟩
theorem N1{f:FuncId}{fn:Func}(hf:P.funcs[f]? =some fn){b:Frame}(hb:b.fn=f){N:Nat}{O:Nat->aZ}{R:aZ->Y->Prop}{cs:List Frame}
  (fin:∀(t:Array aZ)(k:List Item)(v:aZ)(h h':Y),R v h'->(∀w,EL w h->∃w' es,(results fn t).runT P w #[]=(.ok v w',es)/\Bf h w es h' w')->W.K (G (Er b t [] k) cs) h) :
  ∀(ds:List Deferred)(h:Y)(t:Array aZ)(k:List Item),BT t N O->Gf P fn O R ds h->W.K (G (Er b t ds k) cs) h:=by
 intro ds
 induction ds with
 | nil=>
  intro h t k n x;have p:∀(l:List ResultVar)(Q:List aZ->Prop),LH P O h l Q->∃c,Q c/\LH P O h l (λg=>g=c):=by
   intro l
   induction l with
   | nil=>intro Q x;exact ⟨[],x,rfl⟩
   | cons r l m=>
    intro Q x;cases r with
    | tmp u=>
     obtain ⟨c,i,j⟩:=m _ x;refine ⟨O u ::c,i,?_⟩;show LH P O h l λg=>O u ::g=O u ::c;exact LY l (λg e=>by rw [e]) j
    | cell a H=>
     obtain ⟨b,q,v,C,D,E⟩:=x;obtain ⟨c,i,j⟩:=m _ E;refine ⟨v ::c,i,b,q,v,C,D,?_⟩;exact LY l (λg e=>by rw [e]) j
  obtain ⟨c,i,j⟩:=p _ _ x;refine fin t k (Ki c) h h i λw f=>?_;obtain ⟨a,w',h',es,s,y,z,A⟩:=JF f (XD n (R:=λv h'=>v=Ki c/\h'=h) (by
   exact LY _ (λg e=>by rw [e];exact ⟨rfl,rfl⟩) j))
  subst z;subst A;exact ⟨w',es,s,y⟩
 | cons d ds m=>
  rintro h t k n ⟨r,rfl,o,F,rfl,x⟩;refine W.closed _ _ rfl λw f=>?_;obtain ⟨calls,w',h',es,s,y,z,A⟩:=JF f (Or (P:=P) (Q:=λl h'=>l=[]/\h'=h.set r true (.deferred none)) F ⟨rfl,rfl⟩);subst z;subst A;refine ⟨G (Er b t ds k) cs,w',_,_,?_,y.sub (es':=seen P b.fn es++ #[]) λe B=>?_,m _ t k n x⟩
  ·rw [LX];unfold unwind;simp only [Er,s,GStep.after];rfl
  ·rw [Array.append_empty] at B;exact mem_seen B
theorem XE{f:FuncId}{fn:Func}{c:Code}{args:Array aZ}{h:Y}{R:aZ->Y->Prop}(hf:P.funcs[f]? =some fn)(hb:fn.body=some c)(hsz:args.size<=fn.ntmps)
  (x:Tr ⟨W,f,none,fn.ntmps⟩ c (λi=>args.getD i undef) [] h (λe O ds h'=>(e=.normal\/e=.ret)/\Gf P fn O R ds h')):AT W f args h R:=by
 intro o p s;have u:Frame.enter P f args .normal=Cd (Frame.enter P f args .normal) (args++Array.replicate (fn.ntmps-args.size) undef) [] [.code c]:=by
  simp [Frame.enter,Cd,hf,hb]
 rw [u];let y:Lv:=λj t ds h'=>(j=none\/j=some .ret)/\∃O,BT t fn.ntmps O/\Gf P fn O R ds h';have d:∀O ds h' t k,BT t fn.ntmps O->Gf P fn O R ds h'->W.K (G (Er (Frame.enter P f args .normal) t ds k) (o ::p)) h':=by
  intro O ds h' t k g a;refine N1 (W:=W) (R:=R) hf (b:=Frame.enter P f args .normal) rfl (λt k v h h' z l=>?_) ds h' t k g a;refine W.closed _ _ rfl λw A=>?_;obtain ⟨B,C,D,E⟩:=l w A;refine ⟨G (o.finish v) p,B,_,h',?_,E.sub (es':=seen P f C++ #[]) λe n=>?_,s v h' z⟩
  ·rw [LX];unfold unwind;have q:(Er (Frame.enter P f args .normal) t [] k).fn=f:=rfl;have F:(Er (Frame.enter P f args .normal) t [] k).kind=.normal:=rfl;have H:(Er (Frame.enter P f args .normal) t [] k).mode=.returning:=rfl;have I:(Er (Frame.enter P f args .normal) t [] k).defers=[]:=rfl;have M:(Er (Frame.enter P f args .normal) t [] k).tmps=t:=rfl;simp only [I,H,q,hf,M,D,GStep.after,doReturn,F];rfl
  ·rw [Array.append_empty] at n;exact mem_seen n
 refine x (Frame.enter P f args .normal) [] (o ::p) y _ rfl rfl ⟨?_,?_,?_⟩ ⟨by simp;omega,λi=>?_⟩ ?_
 ·rintro t ds h' ⟨_,O,g,a⟩;exact Wk.go (Er (Frame.enter P f args .normal) t ds []) (λw=>by rw [A6];simp [stepG.exec,Cd,Er,G,Frame.enter]) (d O ds h' t [] g a)
 ·rintro t ds h' k ⟨_,O,g,a⟩;exact Wk.go (Er (Frame.enter P f args .normal) t ds (.code .ret ::k)) (λw=>by rw [A6];simp [stepG.exec,Cd,Er,G,Frame.enter]) (d O ds h' t _ g a)
 ·rintro id t ds h' k _ ⟨h1 | h1,_⟩ <;> cases h1
 ·by_cases N:i<args.size
  ·simp [Array.getD_eq_getD_getElem?,Array.getElem?_append_left N]
  ·simp only [Array.getD_eq_getD_getElem?];rw [Array.getElem?_append_right U,Array.getElem?_eq_none (show args.size<=i by omega),Array.getElem?_replicate];split <;> rfl
 ·rintro e O ds h' ⟨n,a⟩ r m;rcases n with rfl | rfl
  ·refine Wk.go (Er (Frame.enter P f args .normal) r ds []) (λw=>by rw [A6];simp [stepG.exec,Cd,Er,G,Frame.enter]) (d O ds h' r [] m a)
  ·exact ⟨.inr rfl,O,m,a⟩
def AK(fn:Func):Bool:= !(fn.name== "runtime.NumGoroutine") && fn.body.isSome
theorem N2{f:FuncId}{fn:Func}{args:Array aZ}{h:Y}{Q:Next->Y->Prop}(hf:P.funcs[f]? =some fn)(hc:AK fn=true)(x:Q (.enter f args) h):(callFunc f args).gh P h Q:=by
 unfold AK at hc;simp only [Bool.and_eq_true,Bool.not_eq_true'] at hc;unfold callFunc;refine AE _ _ ?_;show (match P.funcs[f]? with | none=>_ | some fn=>_:Sem Next).gh P h Q;rw [hf];simp only [];rw [aX (by rw [hc.1];simp),aX (by cases a:fn.body with | none=>rw [a] at hc;simp at hc | some c=>simp)];exact x
variable {E:Gb P} {O:Nat->aZ} {ds:List Deferred} {h:Y} {T:(Nat->aZ)->List Deferred->Y->Prop}
def BR(E:Gb P)(o:Oper)(O:Nat->aZ)(ds:List Deferred)(h:Y)(T:(Nat->aZ)->List Deferred->Y->Prop):Prop:=(execOp (AN O) o).gh P h (Upon E o O ds T)
theorem E2{dst:Option Nat}{f:Operand}{args:Array Operand}{tys:Array bA}{ty:bA}{pos:String}{af:Array Edge}{gd:Option (Nat×Bool)}{g:FuncId}{fn:Func}{first cap:Array aZ}{vs:Array aZ}
  (hv:AN O f=.func (.func g) first cap) (hf:P.funcs[g]? =some fn) (hc:AK fn=true) (ha:first++args.map (AN O)++cap=vs)
  (x:AT E.wk g vs h λv h'=>T (putS O dst v) ds h'):BR E ⟨dst,.call ⟨.value f,args,tys⟩,ty,pos,af,gd⟩ O ds h T:=by
 unfold BR execOp;simp only [];refine AE _ _ ?_;unfold resolve;simp only [hv,Deferred.ofValue];refine Ak ?_;subst ha;exact N2 hf hc x
theorem MF{dst:Option Nat}{args:Array Operand}{tys:Array bA}{ty:bA}{pos:String}{af:Array Edge}{gd:Option (Nat×Bool)}{g:FuncId}{fn:Func}{vs:Array aZ}
  (hf:P.funcs[g]? =some fn) (hc:AK fn=true) (ha:args.map (AN O)=vs) (x:AT E.wk g vs h λv h'=>T (putS O dst v) ds h'):BR E ⟨dst,.call ⟨.value (.func g),args,tys⟩,ty,pos,af,gd⟩ O ds h T:=
 E2 (first:=#[]) (cap:=#[]) rfl hf hc (by rw [ha];simp) x
end
end Go.Ns
namespace Go.Ns
open Go.Conc
section
variable {P:Program} {E:Gb P} {O:Nat->aZ} {ds:List Deferred} {h:Y} {T:(Nat->aZ)->List Deferred->Y->Prop}
variable {dst:Option Nat} {ty:bA} {pos:String} {af:Array Edge} {gd:Option (Nat×Bool)}
theorem Gh{ops:Array Oper}{o:Oper}{l:List Oper}{Q:Post}(hg:o.guard=none)(hdf:C2 o.op=false)(hd:Cy o.dst E.N=true)
  (x:BR E o O ds h λσ' ds' h'=>DK E ops l σ' ds' h' Q):DK E ops (o ::l) O ds h Q:=trL_op hg (.inr hdf) hd x
theorem UC{x:Operand}{v:aZ}(hx:AN O x=v)(k:T (putS O dst v) ds h):BR E ⟨dst,.move x,ty,pos,af,gd⟩ O ds h T:=by
 subst hx;exact k
theorem Kj{x:Operand}{v:aZ}(hx:AN O x=v)(k:T (putS O dst v) ds h):BR E ⟨dst,.assign x,ty,pos,af,gd⟩ O ds h T:=by
 subst hx;exact k
theorem Fg{s:Sem aZ}{Q:Next->Y->Prop}(x:s.gh P h λv h'=>Q (.value v) h'):(do pure (.value (<-s)):Sem Next).gh P h Q:=AE _ _ (FH _ (λ_ _ y=>y) _ x)
theorem gh_u{s:Sem Unit}{Q:Next->Y->Prop}(x:s.gh P h λ_ h'=>Q .skip h'):(do s;pure .skip:Sem Next).gh P h Q:=AE _ _ (FH _ (λ_ _ y=>y) _ x)
theorem BI{c a b:Operand}{t:Bool}{v:aZ}(hc:AN O c=.bool t)(hv:(if t then AN O a else AN O b)=v)(k:T (putS O dst v) ds h):BR E ⟨dst,.pick c a b,ty,pos,af,gd⟩ O ds h T:=by
 unfold BR execOp;simp only [hc,asBool];subst hv;exact k
theorem PT{op:BinOp}{t:bA}{x y:Operand}{k:IntKind}{a:Int}{b:aZ}{Q:Unit->Y->Prop}(q:Q () h):(eqGuard op t x y (.int k a) b).gh P h Q:=by
 unfold eqGuard;split <;> exact q
theorem HW{op:BinOp}{xt yt:bA}{x y:Operand}{k:IntKind}{a b:Int}{v:aZ}(hx:AN O x=.int k a)(hy:AN O y=.int k b)(hv:binOp op xt (.int k a) (.int k b)=pure v)(kk:T (putS O dst v) ds h) :
  BR E ⟨dst,.binOp op xt x y yt,ty,pos,af,gd⟩ O ds h T:=by
 unfold BR execOp;simp only [hx,hy];refine Fg (AE _ _ (PT ?_));rw [hv];exact kk
theorem Im{xt yt:bA}{x y:Operand}{a b:Int}(hx:AN O x=.int .i64 a)(hy:AN O y=.int .i64 b)(hr: -9223372036854775808<=a+b/\a+b<=9223372036854775807)(k:T (putS O dst (.int .i64 (a+b))) ds h) :
  BR E ⟨dst,.binOp .add xt x y yt,ty,pos,af,gd⟩ O ds h T:=HW hx hy (by
 show (pure (Value.int .i64 (IntKind.i64.wrap (a+b))):Sem aZ)=_;rw [IntWalk.i64_in _ hr]) k
theorem Ce{xt yt:bA}{x y:Operand}{a b:Int}(hx:AN O x=.int .i64 a)(hy:AN O y=.int .i64 b)(hr: -9223372036854775808<=a-b/\a-b<=9223372036854775807)(k:T (putS O dst (.int .i64 (a-b))) ds h) :
  BR E ⟨dst,.binOp .sub xt x y yt,ty,pos,af,gd⟩ O ds h T:=HW hx hy (by
 show (pure (Value.int .i64 (IntKind.i64.wrap (a-b))):Sem aZ)=_;rw [IntWalk.i64_in _ hr]) k
theorem UD{xt yt:bA}{x y:Operand}{a b:Int}(hx:AN O x=.int .i64 a)(hy:AN O y=.int .i64 b)(hr: -9223372036854775808<=a*b/\a*b<=9223372036854775807)(k:T (putS O dst (.int .i64 (a*b))) ds h) :
  BR E ⟨dst,.binOp .mul xt x y yt,ty,pos,af,gd⟩ O ds h T:=HW hx hy (by
 show (pure (Value.int .i64 (IntKind.i64.wrap (a*b))):Sem aZ)=_;rw [IntWalk.i64_in _ hr]) k
theorem ok_quo{xt yt:bA}{x y:Operand}{a b:Int}(hx:AN O x=.int .i64 a)(hy:AN O y=.int .i64 b)(ha:0<=a)(ha':a<=9223372036854775807)(hb:0<b)(k:T (putS O dst (.int .i64 (a / b))) ds h) :
  BR E ⟨dst,.binOp .quo xt x y yt,ty,pos,af,gd⟩ O ds h T:=HW hx hy (by
 show (if b=0 then _ else (pure (Value.int .i64 (IntKind.i64.wrap (a.tdiv b))):Sem aZ))=_;rw [aX U,Int.tdiv_eq_ediv_of_nonneg ha];have c:0<=a / b:=Int.ediv_nonneg ha U;have d:a / b<=a:=Int.ediv_le_self b ha;rw [IntWalk.i64_in _ U]) k
theorem XF{xt yt:bA}{x y:Operand}{a b:Int}(hx:AN O x=.int .i64 a)(hy:AN O y=.int .i64 b)(ha:0<=a)(hb:0<b)(k:T (putS O dst (.int .i64 (a%b))) ds h) :
  BR E ⟨dst,.binOp .rem xt x y yt,ty,pos,af,gd⟩ O ds h T:=HW hx hy (by
 show (if b=0 then _ else (pure (Value.int .i64 (a.tmod b)):Sem aZ))=_;rw [aX U,Int.tmod_eq_emod_of_nonneg ha]) k
theorem Ah{xt yt:bA}{x y:Operand}{kd:IntKind}{a b:Int}(hx:AN O x=.int kd a)(hy:AN O y=.int kd b)(k:T (putS O dst (.bool (decide (a<b)))) ds h):BR E ⟨dst,.binOp .lss xt x y yt,ty,pos,af,gd⟩ O ds h T:=
 HW hx hy (by simp [binOp,Op.intCmp]) k
theorem Dt{xt yt:bA}{x y:Operand}{kd:IntKind}{a b:Int}(hx:AN O x=.int kd a)(hy:AN O y=.int kd b)(k:T (putS O dst (.bool (decide (a<=b)))) ds h):BR E ⟨dst,.binOp .leq xt x y yt,ty,pos,af,gd⟩ O ds h T:=
 HW hx hy (by simp [binOp,Op.intCmp]) k
theorem Bp{xt yt:bA}{x y:Operand}{kd:IntKind}{a b:Int}(hx:AN O x=.int kd a)(hy:AN O y=.int kd b)(k:T (putS O dst (.bool (decide (b<a)))) ds h):BR E ⟨dst,.binOp .gtr xt x y yt,ty,pos,af,gd⟩ O ds h T:=
 HW hx hy (by simp [binOp,Op.intCmp]) k
theorem DE{xt yt:bA}{x y:Operand}{kd:IntKind}{a b:Int}(hx:AN O x=.int kd a)(hy:AN O y=.int kd b)(k:T (putS O dst (.bool (decide (b<=a)))) ds h):BR E ⟨dst,.binOp .geq xt x y yt,ty,pos,af,gd⟩ O ds h T:=
 HW hx hy (by simp [binOp,Op.intCmp]) k
theorem CK{xt yt:bA}{x y:Operand}{kd:IntKind}{a b:Int}(hx:AN O x=.int kd a)(hy:AN O y=.int kd b)(k:T (putS O dst (.bool (decide (a=b)))) ds h):BR E ⟨dst,.binOp .eql xt x y yt,ty,pos,af,gd⟩ O ds h T:=
 HW hx hy (by simp only [binOp,Op.intCmp,ne_eq,not_true_eq_false,↓reduceIte];congr 2) k
theorem A0{xt yt:bA}{x y:Operand}{kd:IntKind}{a b:Int}(hx:AN O x=.int kd a)(hy:AN O y=.int kd b)(k:T (putS O dst (.bool (decide (¬a=b)))) ds h):BR E ⟨dst,.binOp .neq xt x y yt,ty,pos,af,gd⟩ O ds h T:=
 HW hx hy (by simp only [binOp,Op.intCmp,ne_eq,not_true_eq_false,↓reduceIte];congr 2;rw [decide_not];rfl) k
theorem C4{xt:bA}{x:Operand}{b:Bool}(hx:AN O x=.bool b)(k:T (putS O dst (.bool (!b))) ds h):BR E ⟨dst,.unOp .not xt x,ty,pos,af,gd⟩ O ds h T:=by
 unfold BR execOp;simp only [hx,Op.unary];exact k
theorem BE{xt:bA}{x:Operand}{p:Prop}[Decidable p](hx:AN O x=.bool (decide p))(k:T (putS O dst (.bool (decide (¬p)))) ds h):BR E ⟨dst,.unOp .not xt x,ty,pos,af,gd⟩ O ds h T:=
 C4 hx (by rw [<-decide_not];exact k)
theorem Zt{xt yt:bA}{x y:Operand}{a b:bB}(hx:AN O x=.string a)(hy:AN O y=.string b)(k:T (putS O dst (.bool (a.toList==b.toList))) ds h):BR E ⟨dst,.binOp .eql xt x y yt,ty,pos,af,gd⟩ O ds h T:=by
 unfold BR execOp;simp only [hx,hy];exact k
def Co(P:Program)(s:bA)(f:Nat):Option Nat:=
 match P.underlying s with
 | some (.struct fields)=>match fields[f]? with
  | some fl=>match P.info? fl.type with
   | some i=>if i.size=0 then none else some fl.offset
   | none=>none
  | none=>none
 | _=>none
theorem AC{s:bA}{x:Operand}{f o b off:Nat}(hf:Co P s f=some o)(hx:AN O x=.pointer (some ⟨b,off,none⟩))(k:T (putS O dst (.pointer (some ⟨b,off+o,none⟩))) ds h) :
  BR E ⟨dst,.fieldAddr s x f,ty,pos,af,gd⟩ O ds h T:=by
 unfold BR execOp;simp only [hx];refine Fg ?_;unfold Co at hf;unfold Instr.fieldAt;cases c:P.underlying s with
 | none=>rw [c] at hf;cases hf
 | some d=>
  refine AE _ _ (Ai c ?_);rw [c] at hf;cases d <;> first | (cases hf;done) | skip
  rename_i fields
  simp only at hf ⊢;cases a:fields[f]? with
  | none=>rw [a] at hf;cases hf
  | some j=>
   rw [a] at hf;simp only at hf ⊢;cases e:P.info? j.type with
   | none=>rw [e] at hf;cases hf
   | some i=>
    rw [e] at hf;simp only at hf;by_cases g:i.size=0
    ·rw [aY g] at hf;cases hf
    ·rw [aX g] at hf;cases hf;refine AE _ _ (Ak ?_);refine AE _ _ ?_;unfold fieldPlace;refine AE _ _ ?_;unfold sizeOf;refine AE _ _ (CU e (Ak ?_));rw [aX g,Il];exact k
def D0(P:Program)(t:bA):Option Nat:=
 match P.underlying t with
 | some (.slice e)=>(B0 P e).map (·.2)
 | _=>none
def J2(P:Program)(t:bA):Option (Nat×Nat):=
 match P.underlying t with
 | some (.array n e)=>(B0 P e).map λx=>(n,x.2)
 | _=>none
theorem Fy{e:bA}{n:Nat}{Q:Nat->Y->Prop}(he:(B0 P e).map (·.2)=some n)(q:Q n h):(sizeOf e).gh P h Q:=by
 cases a:B0 P e with
 | none=>rw [a] at he;cases he
 | some x=>rw [a] at he;cases he;exact Dq a q
theorem Bh{t:bA}{x ix:Operand}{n b off len cap:Nat}{kd:IntKind}{i:Int}(ht:D0 P t=some n)(hx:AN O x=.slice (some ⟨b,off,none⟩) len cap)(hi:AN O ix=.int kd i)(h0:0<=i)(h1:i<len)
  (k:T (putS O dst (.pointer (some ⟨b,off+i.toNat * n,none⟩))) ds h):BR E ⟨dst,.indexAddr t x ix,ty,pos,af,gd⟩ O ds h T:=by
 unfold BR execOp;simp only [hx,hi];refine Fg ?_;unfold D0 at ht;unfold Instr.indexAt;cases a:P.underlying t with
 | none=>rw [a] at ht;cases ht
 | some d=>
  rw [a] at ht;cases d <;> first | (cases ht;done) | skip
  rename_i e
  refine AE _ _ (Ak ?_);refine AE _ _ (Ai a ?_);dsimp only;refine AE _ _ (Ak ?_);dsimp only;refine AE _ _ (Ai a ?_);dsimp only;rw [aY ⟨h0,h1⟩];refine AE _ _ (Fy ht (Ak ?_));rw [Il];exact k
theorem Ao{t:bA}{x ix:Operand}{n m b off:Nat}{kd:IntKind}{i:Int}(ht:J2 P t=some (m,n))(hx:AN O x=.pointer (some ⟨b,off,none⟩))(hi:AN O ix=.int kd i)(h0:0<=i)(h1:i<m)
  (k:T (putS O dst (.pointer (some ⟨b,off+i.toNat * n,none⟩))) ds h):BR E ⟨dst,.indexAddr t x ix,ty,pos,af,gd⟩ O ds h T:=by
 unfold BR execOp;simp only [hx,hi];refine Fg ?_;unfold J2 at ht;unfold Instr.indexAt;cases a:P.underlying t with
 | none=>rw [a] at ht;cases ht
 | some d=>
  rw [a] at ht;cases d <;> first | (cases ht;done) | skip
  rename_i e
  simp only [Option.map_eq_some_iff,Prod.mk.injEq] at ht;obtain ⟨f,c,rfl,rfl⟩:=ht;refine AE _ _ (Ak ?_);refine AE _ _ (Ai a ?_);dsimp only;refine AE _ _ (Ak ?_);refine AE _ _ (Ak ?_);dsimp only;refine AE _ _ (Ai a ?_);dsimp only;rw [aY ⟨h0,h1⟩];refine AE _ _ (Dq c (Ak ?_));rw [Il];exact k
theorem CE{t:bA}{x:Operand}{b off:Nat}{v:aZ}(hx:AN O x=.pointer (some ⟨b,off,none⟩))(hr:Rd P h t b off v)(k:T (putS O dst v) ds h):BR E ⟨dst,.load t x,ty,pos,af,gd⟩ O ds h T:=by
 unfold BR execOp;simp only [hx];refine Fg ?_;unfold Instr.loadAt;exact AE _ _ (Ak (PS hr k))
theorem ok_store{t:bA}{a x:Operand}{b off n:Nat}{g:Bool}{v:aZ}{c:Array aZ}{et:bA}(ht:B0 P t=some (g,n))(ha:AN O a=.pointer (some ⟨b,off,none⟩))(hv:AN O x=v)(hb:h b=some (true,.cells c et (0,0)))
  (hsz:v.cells.size=n) (hf:Value.fine v=true) (hn:off+n<=c.size) (k:T (putS O dst undef) ds (h.set b true (.cells (BU c off v.cells.toList) et (0,0)))):BR E ⟨dst,.store t a x,ty,pos,af,gd⟩ O ds h T:=by
 unfold BR execOp;simp only [ha,hv];refine gh_u ?_;unfold Instr.storeAt;exact AE _ _ (Ak (VH ht hb hsz hf hn k))
def BZ(P:Program)(t:bA):Option (Array aZ):=
 match P.info? t with
 | some i=>i.zero.map (·.cells)
 | none=>none
theorem ok_alloc{t:bA}{z:Array aZ}(hz:BZ P t=some z)(k:∀r,h r=none->T (putS O dst (.pointer (some ⟨r,0,none⟩))) ds (h.set r true (.cells z t (0,0)))):BR E ⟨dst,.alloc t,ty,pos,af,gd⟩ O ds h T:=by
 unfold BR execOp;refine Fg ?_;unfold BZ at hz;unfold Instr.alloc zeroValue;cases a:P.info? t with
 | none=>rw [a] at hz;cases hz
 | some i=>
  rw [a] at hz;simp only [Option.map_eq_some_iff] at hz;obtain ⟨v,b,rfl⟩:=hz;refine AE _ _ (AE _ _ (CU a ?_));rw [b];refine Ak ?_;refine AE _ _ ?_;unfold newVar newRow;refine AE _ _ ?_;exact λr c=>k r c
theorem ok_box{t:bA}{x:Operand}{c:Array aZ}(hx:(AN O x).cells=c)(k:∀r,h r=none->T (putS O dst (.pointer (some ⟨r,0,none⟩))) ds (h.set r true (.cells c t (0,0)))):BR E ⟨dst,.box t x,ty,pos,af,gd⟩ O ds h T:=by
 unfold BR execOp;refine Fg ?_;unfold Instr.box newVar newRow;subst hx;refine AE _ _ (AE _ _ ?_);exact λr a=>k r a
theorem ok_field{t:bA}{x:Operand}{f:Nat}{v:aZ}(hv:(Instr.field t (AN O x) f).gh P h λu h'=>u=v/\h'=h)(k:T (putS O dst v) ds h):BR E ⟨dst,.field t x f,ty,pos,af,gd⟩ O ds h T:=by
 unfold BR execOp;exact Fg (FH _ (λu h' ⟨a,b⟩=>by subst a;subst b;exact k) _ hv)
theorem XG{x:Operand}{n:Nat}{vs:Array aZ}{v:aZ}(hx:AN O x=.tuple vs)(hv:vs[n]? =some v)(k:T (putS O dst v) ds h):BR E ⟨dst,.extract x n,ty,pos,af,gd⟩ O ds h T:=by
 unfold BR execOp;simp only [hx];refine Fg ?_;unfold Instr.extract;simp only [hv];exact k
theorem EU{f:Fn}{first cap:Array Operand}{v:aZ}(hv:Value.func f (first.map (AN O)) (cap.map (AN O))=v)(k:T (putS O dst v) ds h):BR E ⟨dst,.makeFunc f first cap,ty,pos,af,gd⟩ O ds h T:=by
 subst hv;exact k
theorem D8{x:Operand}{a:Addr}(hx:AN O x=.pointer (some a))(k:T (putS O dst (.pointer (some a))) ds h):BR E ⟨dst,.nilCheck x,ty,pos,af,gd⟩ O ds h T:=by
 unfold BR execOp;simp only [hx];exact k
def Ef(P:Program)(t:bA):Option (List (Nat×Nat)):=
 match P.underlying t with
 | some (.struct fields)=>fields.toList.mapM λf=>(B0 P f.type).map λx=>(f.offset,x.2)
 | _=>none
theorem PU(l:List Field):∀{ps:List (Nat×Nat)}{Q:List (Nat×Nat)->Y->Prop},(l.mapM λf=>(B0 P f.type).map λx=>(f.offset,x.2))=some ps->Q ps h->
  (l.mapM (m:=Sem) λf=>do pure (f.offset,<-sizeOf f.type)).gh P h Q:=by
 induction l with
 | nil=>intro ps Q e q;simp at e;subst e;exact q
 | cons f l c=>
  intro ps Q e q;rw [List.mapM_cons] at e ⊢;cases a:B0 P f.type with
  | none=>rw [a] at e;simp at e
  | some x=>
   rw [a] at e;simp only [Option.map_some,Option.bind_eq_bind,Option.bind_some,Option.bind_eq_some_iff] at e;obtain ⟨g,d,b⟩:=e;simp at b;subst b;refine AE _ _ (AE _ _ (Dq a (Ak ?_)));exact AE _ _ (c d q)
theorem BJ{t:bA}{parts:Array (Nat×Operand)}{ps:List (Nat×Nat)}{z cells:Array aZ}(hp:Ef P t=some ps)(hz:BZ P t=some z)(hf:Instr.fill (ps.toArray[·]?) z (parts.map λ(i,x)=>(i,AN O x)).toList=some cells)
  (k:T (putS O dst (.agg cells)) ds h):BR E ⟨dst,.build t parts,ty,pos,af,gd⟩ O ds h T:=by
 unfold BR execOp;refine Fg ?_;unfold BZ at hz;unfold Ef at hp;unfold Instr.build zeroValue;cases a:P.info? t with
 | none=>rw [a] at hz;cases hz
 | some i=>
  rw [a] at hz;simp only [Option.map_eq_some_iff] at hz;obtain ⟨v,c,rfl⟩:=hz;refine AE _ _ (AE _ _ (CU a ?_));rw [c];refine Ak ?_;cases b:P.underlying t with
  | none=>rw [b] at hp;cases hp
  | some d=>
   rw [b] at hp;cases d <;> first | (cases hp;done) | skip
   rename_i fields
   refine AE _ _ (Ai b ?_);simp only at hp ⊢;rw [Array.mapM_eq_mapM_toList,map_eq_pure_bind];refine AE _ _ (AE _ _ (PU _ hp (Ak ?_)));simp only [hf];exact k
def DZ(P:Program)(t:bA):Option (Nat×Array aZ×bA):=
 match P.underlying t with
 | some (.slice e)=>match B0 P e,BZ P e with
  | some x,some z=>some (x.2,z,e)
  | _,_=>none
 | _=>none
theorem SA{t:bA}{len n:Nat}{z cells:Array aZ}{e:bA}{parts:Array (Nat×Operand)}(hs:DZ P t=some (n,z,e))(hl:len*n<=2 ^ 24)(hn:(len*n=0)=False)
  (hf:Instr.fill (λi=>some (i*n,n)) ((Array.range (len*n)).map (z[·%z.size]!)) (parts.map λ(i,x)=>(i,AN O x)).toList=some cells)
  (k:∀r,h r=none->T (putS O dst (.slice (some ⟨r,0,none⟩) len len)) ds (h.set r true (.cells cells e (0,0)))):BR E ⟨dst,.buildSlice t len parts,ty,pos,af,gd⟩ O ds h T:=by
 unfold BR execOp;refine Fg ?_;unfold DZ at hs;unfold Instr.buildSlice;cases c:P.underlying t with
 | none=>rw [c] at hs;cases hs
 | some d=>
  rw [c] at hs;cases d <;> first | (cases hs;done) | skip
  rename_i f
  simp only at hs;cases b:B0 P f with
  | none=>rw [b] at hs;cases hs
  | some x=>
   cases a:BZ P f with
   | none=>rw [b,a] at hs;cases hs
   | some m=>
    rw [b,a] at hs;simp only [Option.some.injEq,Prod.mk.injEq] at hs;obtain ⟨rfl,rfl,rfl⟩:=hs;refine AE _ _ (Ai c ?_);refine AE _ _ (Fy (by rw [b];rfl) ?_);rw [aX (Nat.not_lt.2 hl)];dsimp only at hn ⊢;rw [aX (by rw [hn];exact id)];unfold BZ at a;unfold zeroValue;cases g:P.info? f with
    | none=>rw [g] at a;cases a
    | some i=>
    rw [g] at a;simp only [Option.map_eq_some_iff] at a;obtain ⟨v,j,rfl⟩:=a;refine AE _ _ (AE _ _ (CU g ?_));rw [j];refine Ak ?_;refine AE _ _ (Ak ?_);dsimp only at hf ⊢;rw [hf];dsimp only;refine AE _ _ ?_;unfold newRow;refine AE _ _ ?_;exact λr l=>k r l
theorem F0{b:Builtin}{args:Array Operand}{tys:Array bA}{vs:Array aZ}{s:Sem aZ}(ha:args.map (AN O)=vs)(hb:∀cs,builtin b tys ty cs vs=(do pure (.value (<-s))))
  (x:s.gh P h λv h'=>T (putS O dst v) ds h'):BR E ⟨dst,.call ⟨.builtin b,args,tys⟩,ty,pos,af,gd⟩ O ds h T:=by
 unfold BR execOp;simp only [];refine AE _ _ ?_;unfold resolve;simp only [ha];refine Ak ?_;show (builtin b tys ty _ vs).gh P h _;rw [hb];exact Fg x
def Iw(P:Program)(t:bA):Bool:=match P.underlying t with
 | some (.slice _)=>true
 | _=>false
theorem NG{x:Operand}{t:bA}{a:Option Addr}{len cap:Nat}(ht:Iw P t=true)(hx:AN O x=.slice a len cap)(k:T (putS O dst (.int .i64 len)) ds h):BR E ⟨dst,.call ⟨.builtin .len,#[x],#[t]⟩,ty,pos,af,gd⟩ O ds h T:=by
 refine F0 (vs:=#[.slice a len cap]) (s:=Builtin.len_ #[t] ty #[.slice a len cap]) (by simp [hx]) (λ_=>rfl) ?_;unfold Iw at ht;unfold Builtin.len_;simp only [List.getElem?_toArray,List.getElem?_cons_zero];cases b:P.underlying t with
 | none=>rw [b] at ht;cases ht
 | some d=>
  rw [b] at ht;refine AE _ _ (Ai b ?_);cases d <;> first | (cases ht;done) | exact k
def PW(P:Program)(t:bA):Bool:=match P.underlying t with
 | some .string=>true
 | _=>false
theorem MG{x:Operand}{t:bA}{s:bB}(ht:PW P t=true)(hx:AN O x=.string s)(k:T (putS O dst (.int .i64 s.size)) ds h):BR E ⟨dst,.call ⟨.builtin .len,#[x],#[t]⟩,ty,pos,af,gd⟩ O ds h T:=by
 refine F0 (vs:=#[.string s]) (s:=Builtin.len_ #[t] ty #[.string s]) (by simp [hx]) (λ_=>rfl) ?_;unfold PW at ht;unfold Builtin.len_;simp only [List.getElem?_toArray,List.getElem?_cons_zero];cases a:P.underlying t with
 | none=>rw [a] at ht;cases ht
 | some d=>
  rw [a] at ht;refine AE _ _ (Ai a ?_);cases d <;> first | (cases ht;done) | exact k
theorem XH{x y:Operand}{tys:Array bA}{a b:Int}{kd:IntKind}(hx:AN O x=.int kd a)(hy:AN O y=.int kd b)(k:T (putS O dst (.int kd (min a b))) ds h):BR E ⟨dst,.call ⟨.builtin .min,#[x,y],tys⟩,ty,pos,af,gd⟩ O ds h T:=by
 refine F0 (vs:=#[.int kd a,.int kd b]) (s:=Builtin.min_ tys ty #[.int kd a,.int kd b]) (by simp [hx,hy]) (λ_=>rfl) ?_;have e:min a b=if b<a then b else a:=U
 rw [e] at k;exact k
theorem ok_max{x y:Operand}{tys:Array bA}{a b:Int}{kd:IntKind}(hx:AN O x=.int kd a)(hy:AN O y=.int kd b)(k:T (putS O dst (.int kd (max a b))) ds h):BR E ⟨dst,.call ⟨.builtin .max,#[x,y],tys⟩,ty,pos,af,gd⟩ O ds h T:=by
 refine F0 (vs:=#[.int kd a,.int kd b]) (s:=Builtin.max_ tys ty #[.int kd a,.int kd b]) (by simp [hx,hy]) (λ_=>rfl) ?_;have e:max a b=if b>a then b else a:=U
 rw [e] at k;exact k
def PX(P:Program)(t:bA):Option IntKind:=match P.underlying t with
 | some (.int k)=>some k
 | _=>none
theorem B8{s t:bA}{x:Operand}{kd kt:IntKind}{a r:Int}(hs:(P.underlying s).isSome=true)(ht:PX P t=some kt)(hx:AN O x=.int kd a)(hr:kt.wrap a=r)(k:T (putS O dst (.int kt r)) ds h):BR E ⟨dst,.convert s t x,ty,pos,af,gd⟩ O ds h T:=by
 unfold BR execOp;simp only [hx];refine Fg ?_;unfold PX at ht;unfold convert;cases c:P.underlying s with
 | none=>rw [c] at hs;cases hs
 | some d=>
  refine AE _ _ (Ai c ?_);cases b:P.underlying t with
  | none=>rw [b] at ht;cases ht
  | some e=>
   rw [b] at ht;refine AE _ _ (Ai b ?_);subst hr;cases e <;> first | (cases ht;done) | (cases ht;cases d <;> exact k)
end
end Go.Ns
namespace Go.Ns
open Go.Conc
section
variable {P:Program} {E:Gb P} {O:Nat->aZ} {ds:List Deferred} {h:Y} {T:(Nat->aZ)->List Deferred->Y->Prop}
variable {dst:Option Nat} {ty:bA} {pos:String} {af:Array Edge} {gd:Option (Nat×Bool)}
def AU(h:Y)(b off n:Nat)(vs:Array aZ):Prop:=∃p c t f,h b=some (p,.cells c t f)/\off+n<=c.size/\c.extract off (off+n)=vs
theorem AU.le{h h':Y}(l:h.Le h'){b off n:Nat}{vs:Array aZ}(x:AU h b off n vs):AU h' b off n vs:=by
 obtain ⟨p,c,t,f,a,y⟩:=x;exact ⟨p,c,t,f,l.keep a rfl,y⟩
theorem AU.same{h h':Y}{b off n:Nat}{vs:Array aZ}(x:AU h b off n vs)(e:h' b=h b):AU h' b off n vs:=by
 obtain ⟨p,c,t,f,a,y⟩:=x;exact ⟨p,c,t,f,e.trans a,y⟩
theorem AU.box{h:Y}{b:Nat}{p:Bool}{c:Array aZ}{t:bA}{f:Nat×Nat}(hb:h b=some (p,.cells c t f)){n:Nat}(hn:c.size=n):AU h b 0 n c:=⟨p,c,t,f,hb,U,by subst hn;simp⟩
theorem AU.get{h:Y}{b off n o:Nat}{vs:Array aZ}{v:aZ}(x:AU h b off n vs)(hv:vs[o]? =some v):∃p c t f,h b=some (p,.cells c t f)/\c[off+o]? =some v:=by
 obtain ⟨p,c,t,f,a,d,rfl⟩:=x;refine ⟨p,c,t,f,a,?_⟩;rw [Array.getElem?_extract] at hv;split at hv
 ·exact hv
 ·cases hv
theorem Bz{t:bA}{b off n m o:Nat}{vs:Array aZ}{v:aZ}(ht:B0 P t=some (false,m))(x:AU h b off n vs)(hv:vs[o]? =some v):Rd P h t b (off+o) v:=by
 obtain ⟨p,c,ty,f,a,d⟩:=x.get hv;exact Rd.one ht a d
theorem A7{t:bA}{b off n m:Nat}{vs:Array aZ}{v:aZ}(ht:B0 P t=some (false,m))(x:AU h b off n vs)(hv:vs[0]? =some v):Rd P h t b off v:=by
 have:=Bz (o:=0) ht x hv
 exact this
theorem EN{t:bA}{b off n m o:Nat}{vs ws:Array aZ}(ht:B0 P t=some (true,m))(x:AU h b off n vs)(hm:o+m<=n)(hv:vs.extract o (o+m)=ws):Rd P h t b (off+o) (.agg ws):=by
 obtain ⟨p,c,ty,f,a,d,rfl⟩:=x;refine Rd.agg ht a U ?_;rw [<-hv,Array.extract_extract];congr 1
 ·omega
theorem AH{t:bA}{b off n:Nat}{vs:Array aZ}(ht:B0 P t=some (true,n))(x:AU h b off n vs):Rd P h t b off (.agg vs):=by
 obtain ⟨p,c,ty,f,a,d,rfl⟩:=x;exact Rd.agg ht a d rfl
theorem Y.Le.nothing{h h':Y}(l:h.Le h'){r:Nat}(hr:h' r=none):h r=none:=by
 cases a:h r with
 | none=>rfl
 | some x=>obtain ⟨c,b,_⟩:=l r x.1 x.2 a;rw [b] at hr;cases hr
theorem Y.Le.upd{h h' h'':Y}(l:h.Le h'){b:Nat}(hb:h b=none)(ho:∀x,x≠b->h'' x=h' x):h.Le h'':=λx p o a=>by
 rw [ho x (Y.ne_of a hb)];exact l x p o a
theorem UE{t:bA}{x:Operand}{c:Array aZ}{v:aZ}(hx:AN O x=v)(hc:v.cells=c)
  (k:∀r h',h r=none->h.Le h'->h' r=some (true,.cells c t (0,0))->(∀b,b≠r->h' b=h b)->T (putS O dst (.pointer (some ⟨r,0,none⟩))) ds h'):BR E ⟨dst,.box t x,ty,pos,af,gd⟩ O ds h T:=
 ok_box (by rw [hx];exact hc) λr a=>k r _ a (Y.Le.new a _ _) (Y.set_same _ _ _ _) λb d=>Y.set_ne _ _ _ d
theorem AS{t:bA}{z:Array aZ}(hz:BZ P t=some z)
  (k:∀r h',h r=none->h.Le h'->h' r=some (true,.cells z t (0,0))->(∀b,b≠r->h' b=h b)->T (putS O dst (.pointer (some ⟨r,0,none⟩))) ds h'):BR E ⟨dst,.alloc t,ty,pos,af,gd⟩ O ds h T:=
 ok_alloc hz λr a=>k r _ a (Y.Le.new a _ _) (Y.set_same _ _ _ _) λb c=>Y.set_ne _ _ _ c
theorem AZ{t:bA}{a x:Operand}{b off n:Nat}{g:Bool}{v:aZ}{c c':Array aZ}{et:bA}(ht:B0 P t=some (g,n))(ha:AN O a=.pointer (some ⟨b,off,none⟩))(hv:AN O x=v)(hb:h b=some (true,.cells c et (0,0)))
  (hsz:v.cells.size=n) (hf:Value.fine v=true) (hn:off+n<=c.size) (hc:BU c off v.cells.toList=c') (k:∀h',h' b=some (true,.cells c' et (0,0))->(∀x,x≠b->h' x=h x)->T (putS O dst undef) ds h') :
  BR E ⟨dst,.store t a x,ty,pos,af,gd⟩ O ds h T:=
 ok_store ht ha hv hb hsz hf hn (k _ (by rw [hc];exact Y.set_same _ _ _ _) λx d=>Y.set_ne _ _ _ d)
def AG{aQ:Type}(h:Y)(v:aZ)(n:Nat)(enc:aQ->Array aZ)(xs:List aQ):Prop:=
 ∃a cap,v=.slice a xs.length cap/\xs.length<=cap/\xs.length<=140737488355328/\(∀i (hi:i<xs.length),∃b off,a=some ⟨b,off,none⟩/\AU h b (off+i*n) n (enc xs[i]))
theorem AG.le{aQ:Type}{h h':Y}(l:h.Le h'){v:aZ}{n:Nat}{enc:aQ->Array aZ}{xs:List aQ}(x:AG h v n enc xs):AG h' v n enc xs:=by
 obtain ⟨a,c,e,f,g,j⟩:=x;refine ⟨a,c,e,f,g,λi k=>?_⟩;obtain ⟨b,d,m,o⟩:=j i k;exact ⟨b,d,m,o.le l⟩
theorem AG.len{aQ:Type}{h:Y}{v:aZ}{n:Nat}{enc:aQ->Array aZ}{xs:List aQ}(x:AG h v n enc xs):xs.length<=140737488355328:=by
 obtain ⟨_,_,_,_,a,_⟩:=x;exact a
theorem AG.nil{aQ:Type}(h:Y)(n:Nat)(enc:aQ->Array aZ):AG h (.slice none 0 0) n enc []:=⟨none,0,rfl,Nat.le_refl _,Nat.zero_le _,λi a=>by simp at a⟩
theorem AJ{aQ:Type}{x:Operand}{t:bA}{n:Nat}{enc:aQ->Array aZ}{xs:List aQ}{v:aZ}(ht:Iw P t=true)(hs:AG h v n enc xs)(hx:AN O x=v)(k:T (putS O dst (.int .i64 xs.length)) ds h):BR E ⟨dst,.call ⟨.builtin .len,#[x],#[t]⟩,ty,pos,af,gd⟩ O ds h T:=by
 obtain ⟨a,b,rfl,_,_,_⟩:=hs;exact NG ht hx k
theorem Js{fn:Func}{R:aZ->Y->Prop}(hr:fn.results=#[])(x:R (.tuple #[]) h):Gf P fn O R [] h:=by
 unfold Gf;rw [hr];exact x
theorem Jt{fn:Func}{R:aZ->Y->Prop}{t:Tmp}{v:aZ}(hr:fn.results=#[.tmp t])(hv:O t=v)(x:R v h):Gf P fn O R [] h:=by
 unfold Gf;rw [hr];subst hv;exact x
theorem outs2{fn:Func}{R:aZ->Y->Prop}{t u:Tmp}{v v':aZ}(hr:fn.results=#[.tmp t,.tmp u])(hv:O t=v)(hv':O u=v')(x:R (.tuple #[v,v']) h):Gf P fn O R [] h:=by
 unfold Gf;rw [hr];subst hv;subst hv';exact x
theorem Zu{fn:Func}{R:aZ->Y->Prop}{t u s:Tmp}{v v' v2:aZ}(hr:fn.results=#[.tmp t,.tmp u,.tmp s])(hv:O t=v)(hv':O u=v')(hv2:O s=v2)(x:R (.tuple #[v,v',v2]) h):Gf P fn O R [] h:=by
 unfold Gf;rw [hr];subst hv;subst hv';subst hv2;exact x
theorem JI{fn:Func}{R:aZ->Y->Prop}{a:Tmp}{t:bA}{b off:Nat}{v:aZ}(hr:fn.results=#[.cell a t])(ha:O a=.pointer (some ⟨b,off,none⟩))(hv:Rd P h t b off v)(x:R v h):Gf P fn O R [] h:=by
 unfold Gf;rw [hr];exact ⟨b,off,v,ha,hv,x⟩
theorem GI{fn:Func}{R:aZ->Y->Prop}{a u:Tmp}{t:bA}{b off:Nat}{v v':aZ}(hr:fn.results=#[.cell a t,.tmp u])(ha:O a=.pointer (some ⟨b,off,none⟩))(hv:Rd P h t b off v)(hv':O u=v')(x:R (.tuple #[v,v']) h):Gf P fn O R [] h:=by
 unfold Gf;rw [hr];subst hv';exact ⟨b,off,v,ha,hv,x⟩
theorem AB{v:aZ}{p:Prop}[Decidable p](hv:v=.bool (decide p))(hp:p):v=.bool true:=by rw [hv,decide_eq_true hp]
theorem AA{v:aZ}{p:Prop}[Decidable p](hv:v=.bool (decide p))(hp:¬p):v=.bool false:=by rw [hv,decide_eq_false hp]
theorem Ae{v:aZ}{b c:Bool}(hv:v=.bool b)(hp:b=c):v=.bool c:=by rw [hv,hp]
theorem Ix{tys:Array bA}{g:FuncId}{fn:Func}(hf:P.funcs[g]? =some fn)(hc:AK fn=true)
  (x:AT E.wk g #[] h λv h'=>T (putS O dst v) ds h'):BR E ⟨dst,.call ⟨.value (.func g),#[],tys⟩,ty,pos,af,gd⟩ O ds h T:=MF hf hc aD x
theorem Ab{tys:Array bA}{g:FuncId}{fn:Func}{x1:Operand}{v1:aZ}(hf:P.funcs[g]? =some fn)(hc:AK fn=true)(h1:AN O x1=v1)
  (x:AT E.wk g #[v1] h λv h'=>T (putS O dst v) ds h'):BR E ⟨dst,.call ⟨.value (.func g),#[x1],tys⟩,ty,pos,af,gd⟩ O ds h T:=MF hf hc (by simp [h1]) x
theorem AP{tys:Array bA}{g:FuncId}{fn:Func}{x1 x2:Operand}{v1 v2:aZ}(hf:P.funcs[g]? =some fn)(hc:AK fn=true)(h1:AN O x1=v1)(h2:AN O x2=v2)
  (x:AT E.wk g #[v1,v2] h λv h'=>T (putS O dst v) ds h'):BR E ⟨dst,.call ⟨.value (.func g),#[x1,x2],tys⟩,ty,pos,af,gd⟩ O ds h T:=MF hf hc (by simp [h1,h2]) x
theorem A1{tys:Array bA}{g:FuncId}{fn:Func}{x1 x2 x3:Operand}{v1 v2 v3:aZ}(hf:P.funcs[g]? =some fn)(hc:AK fn=true)(h1:AN O x1=v1)(h2:AN O x2=v2)(h3:AN O x3=v3)
  (x:AT E.wk g #[v1,v2,v3] h λv h'=>T (putS O dst v) ds h'):BR E ⟨dst,.call ⟨.value (.func g),#[x1,x2,x3],tys⟩,ty,pos,af,gd⟩ O ds h T:=MF hf hc (by simp [h1,h2,h3]) x
theorem PY{tys:Array bA}{g:FuncId}{fn:Func}{x1 x2 x3 x4:Operand}{v1 v2 v3 v4:aZ}(hf:P.funcs[g]? =some fn)(hc:AK fn=true)(h1:AN O x1=v1)(h2:AN O x2=v2)(h3:AN O x3=v3)(h4:AN O x4=v4)
  (x:AT E.wk g #[v1,v2,v3,v4] h λv h'=>T (putS O dst v) ds h'):BR E ⟨dst,.call ⟨.value (.func g),#[x1,x2,x3,x4],tys⟩,ty,pos,af,gd⟩ O ds h T:=MF hf hc (by simp [h1,h2,h3,h4]) x
end
end Go.Ns
namespace Go.Ns
open Go.Conc
section
variable {P:Program} {E:Gb P}
abbrev Sd:=aZ->Y->Prop
def MH(Φ:List Sd)(k:Nat):Sd:=Φ.getD k λ_ _=>True
def Se(o:Oper)(O:Nat->aZ):aZ:=match o.dst with
 | some d=>O d
 | none=>undef
def DQ(ops:List Oper)(o:Oper)(O:Nat->aZ):Prop:=match o.guard with
 | none=>True
 | some (j,want)=>match ops[j]? with
  | some oj=>match oj.dst with
   | some d=>O d=.bool want
   | none=>False
  | none=>False
def VI(ops:List Oper)(Φ:List Sd)(O:Nat->aZ)(h:Y)(j:Nat):Prop:=match ops[j]? with
 | some o=>DQ ops o O->MH Φ j (Se o O) h
 | none=>True
def JJ(ops:List Oper)(Φ:List Sd)(O:Nat->aZ)(h:Y):List Nat->Prop
 | []=>True
 | j ::l=>VI ops Φ O h j/\JJ ops Φ O h l
def Dd(ops:List Oper)(n:Nat):List Nat:=(ops.take n).filterMap (·.dst)
def StepAt(R:Y->Y->Prop)(E:Gb P)(ops:List Oper)(n:Nat)(Φ:List Sd)(O:Nat->aZ)(ds:List Deferred)(h:Y)(k:Nat)(o:Oper)(cl:List Nat):Prop:=
 ∀σ' h',R h h'->(∀t,(Dd ops n).contains t=false->σ' t=O t)->JJ ops Φ σ' h' cl->DQ ops o σ'->
  BR E o σ' ds h' λσ'' ds'' h''=>ds''=ds/\R h' h''/\∃v,σ''=putS σ' o.dst v/\MH Φ k v h''
def N3(R:Y->Y->Prop)(E:Gb P)(ops:List Oper)(n:Nat)(Φ:List Sd)(O:Nat->aZ)(ds:List Deferred)(h:Y)(Q:Post):Nat->Nat->List Oper->List (List Nat)->Prop
 | 0,k,rest,_=>∀σ' h',R h h'->(∀t,(Dd ops n).contains t=false->σ' t=O t)->JJ ops Φ σ' h' (List.range k)->DK E ops.toArray rest σ' ds h' Q
 | m+1,k,o ::rest,cl ::cls=>StepAt R E ops n Φ O ds h k o cl/\N3 R E ops n Φ O ds h Q m (k+1) rest cls
 | _,_,_,_=>False
def IW(o:Oper)(j:Nat):Bool:=o.after.any λe=>Region.binds .any e && e.on==j
def GJ(N:Nat)(ops:List Oper)(n:Nat)(cls:List (List Nat)):Bool:=
 Nat.ble n ops.length && cls.length==n && decide (Dd ops n).Nodup &&
 (List.range ops.length).all λi=>match ops[i]? with
  | none=>false
  | some o=>(o.after.all λe=> !Region.binds .any e || Nat.blt e.on i) &&
   if Nat.blt i n then
    Cy o.dst N && !C2 o.op && (match o.guard with | none=>true | some (j,_)=>IW o j) &&
    ((cls.getD i []).all λj=>Nat.blt j i && (IW o j || (List.range i).any λe=>IW o e && (cls.getD e []).contains j))
   else (List.range i).all λj=>IW o j || (Nat.blt j n && (List.range n).any λe=>IW o e && (cls.getD e []).contains j) || (List.range i).any λe=>Nat.ble n e && Nat.blt j e && IW o e
def UF(N:Nat)(ops:List Oper)(n:Nat)(cls:List (List Nat)):Bool:=
 GJ N ops n cls && (List.range n).all λi=>match ops[i]? with
  | none=>false
  | some o=>o.dst.isSome
theorem JJ.get{ops:List Oper}{Φ:List Sd}{O:Nat->aZ}{h:Y}:∀{l:List Nat},(∀j ∈ l,VI ops Φ O h j)->JJ ops Φ O h l
 | [],_=>trivial
 | j ::l,x=>⟨x j aD,JJ.get λi a=>x i (by simp [a])⟩
theorem N3.at{R:Y->Y->Prop}{ops:List Oper}{n:Nat}{Φ:List Sd}{O:Nat->aZ}{ds:List Deferred}{h:Y}{Q:Post}:∀(m k:Nat)(rest:List Oper)(cls:List (List Nat)),
  N3 R E ops n Φ O ds h Q m k rest cls->(∀i o,i<m->rest[i]? =some o->StepAt R E ops n Φ O ds h (k+i) o (cls.getD i []))/\
   (∀σ' h',R h h'->(∀t,(Dd ops n).contains t=false->σ' t=O t)->JJ ops Φ σ' h' (List.range (k+m))->DK E ops.toArray (rest.drop m) σ' ds h' Q)
 | 0,k,rest,cls,x=>⟨λi o d=>U,x⟩
 | m+1,k,[],cls,x=>by cases cls <;> exact x.elim
 | m+1,k,o ::rest,[],x=>x.elim
 | m+1,k,o ::rest,q ::cls,x=>by
  obtain ⟨e,f⟩:=x;obtain ⟨a,b⟩:=N3.at m (k+1) rest cls f;refine ⟨λi g d c=>?_,λσ' h' j l p=>?_⟩
  ·cases i with
   | zero=>simp at c;subst c;exact e
   | succ i=>have:=a i g U (by simpa using c);rw [show k+(i+1)=k+1+i by omega];simpa using this
  ·rw [List.drop_succ_cons];exact b σ' h' j l (by rw [show k+1+m=k+(m+1) by omega];exact p)
theorem Gi{n:Nat}{p:Nat->Bool}(h:(List.range n).all p=true){i:Nat}(hi:i<n):p i=true:=by
 rw [List.all_eq_true] at h;exact h i (List.mem_range.2 hi)
theorem XI{ops:Array Oper}{N n:Nat}{l:List Oper}{cls:List (List Nat)}(hl:ops=l.toArray)(ok:GJ N l n cls=true) :
  ∀(fuel t i:Nat)(listed:Array Bool),n<=i->i<=l.length->l.length-i<=fuel->listed.size=l.length->(∀j,j<l.length->listed.getD j false=decide (j<i))->
   Region.linearise.go .any ops fuel t listed []=List.range' i (l.length-i):=by
 subst hl;unfold GJ at ok;simp only [Bool.and_eq_true] at ok;obtain ⟨⟨⟨Q,R⟩,T⟩,r⟩:=ok;intro fuel
 induction fuel with
 | zero=>intro t i listed _ _ h0 _ _;rw [show l.length-i=0 by omega];rfl
 | succ fuel z=>
  intro t i listed hn hi hf b f;by_cases M:i=l.length
  ·have hnone:Region.ready .any l.toArray listed=[]:=by
    unfold Region.ready;rw [List.filter_eq_nil_iff];intro j a;have s:j<l.length:=by simpa using a
    have u:listed.getD j true=decide (j<i):=by
     rw [<-f j s];simp [Array.getD_eq_getD_getElem?,b,s]
    rw [u];simp [show j<i by omega]
   simp only [Region.linearise.go];change (match (Region.ready .any l.toArray listed)[t%(Region.ready .any l.toArray listed).length]? with
    | some i=>Region.linearise.go .any l.toArray fuel (t / (Region.ready .any l.toArray listed).length) (listed.setIfInBounds i true) [i]
    | none=>[].reverse)=_
   rw [hnone,show l.length-i=0 by omega];rfl
  have hready:Region.ready .any l.toArray listed=[i]:=by
   unfold Region.ready;have v:∀j,j<l.length->((!listed.getD j true && ((l.toArray[j]?).map (·.after.all λe=> !Region.binds .any e || listed.getD e.on false)).getD false)=decide (j=i)):=by
    intro j a;have u:listed.getD j true=decide (j<i):=by
     rw [<-f j a];simp [Array.getD_eq_getD_getElem?,b,a]
    have c:l[j]? =some l[j]:=List.getElem?_eq_getElem a;have A:=Gi r a;simp only [c,Bool.and_eq_true] at A;rcases Nat.lt_trichotomy j i with B | heq | hgt
    ·rw [u];simp [B];omega
    ·subst heq;rw [u];simp only [Nat.lt_irrefl,decide_false,Bool.not_false,Bool.true_and,decide_true]
     have:l.toArray[j]? =some l[j]:=by simpa using c
     rw [this];simp only [Option.map_some,Option.getD_some];have g:=A.1;rw [Array.all_eq_true] at g ⊢;intro k C
     have:=g k C
     simp only [Bool.or_eq_true,Bool.not_eq_true'] at this ⊢;rcases this with e | e
     ·exact .inl e
     ·right;have W:(l[j].after[k]).on<j:=Nat.blt_eq▸e;rw [f _ U];simpa using W
    ·rw [u];have o:¬j<i:=U
     have p:Nat.blt j n=false:=by
      cases h:Nat.blt j n with
      | false=>rfl
      | true=>have:j<n:=Nat.blt_eq▸h;omega
     have g:=A.2;rw [p] at g;simp only [Bool.false_eq_true,if_false] at g;have d:=Gi g hgt;have w:Nat.blt i n=false:=by
      cases h:Nat.blt i n with
      | false=>rfl
      | true=>have:i<n:=Nat.blt_eq▸h;omega
     rw [w] at d;simp only [Bool.false_and,Bool.or_false,Bool.or_eq_true] at d;obtain ⟨x,X,O,D⟩:∃x,i<=x/\x<j/\IW l[j] x=true:=by
      rcases d with q | q
      ·exact ⟨i,Nat.le_refl _,hgt,q⟩
      ·rw [List.any_eq_true] at q;obtain ⟨e,he,F⟩:=q;simp only [Bool.and_eq_true] at F;have q3:i<e:=Nat.blt_eq▸F.1.2;exact ⟨e,U,List.mem_range.1 he,F.2⟩
     have:l.toArray[j]? =some l[j]:=by simpa using c
     rw [this];simp only [Option.map_some,Option.getD_some];have H:¬j=i:=U
     simp only [H,decide_false,Bool.and_eq_false_iff];right;unfold IW at D;rw [Array.any_eq_true] at D;obtain ⟨k,C,e⟩:=D;simp only [Bool.and_eq_true,beq_iff_eq] at e;rw [Array.all_eq_false];refine ⟨k,C,?_⟩
     have:=f x U
     rw [decide_eq_false U] at this;simp [e.1,e.2,this]
   have:(List.range l.toArray.size).filter (λj=> !listed.getD j true && ((l.toArray[j]?).map (·.after.all λe=> !Region.binds .any e || listed.getD e.on false)).getD false)=(List.range l.length).filter (λj=>decide (j=i)):=by
    rw [List.size_toArray];exact List.filter_congr λj a=>v j (List.mem_range.1 a)
   rw [this];have I:i<l.length:=U
   clear this v z f r
   have:∀m,(List.range m).filter (λj=>decide (j=i))=if i<m then [i] else []:=by
    intro m
    induction m with
    | zero=>simp
    | succ m z=>
     rw [List.range_succ,List.filter_append,z];by_cases o:i<m
     ·have p:i<m+1:=U
      have K:¬m=i:=U
      simp [o,p,K]
     ·by_cases p:m=i
      ·subst p;simp
      ·have K:¬i<m+1:=U
       simp [o,p,K]
   rw [this,aY I]
  simp only [Region.linearise.go];change (match (Region.ready .any l.toArray listed)[t%(Region.ready .any l.toArray listed).length]? with
   | some i=>Region.linearise.go .any l.toArray fuel (t / (Region.ready .any l.toArray listed).length) (listed.setIfInBounds i true) [i]
   | none=>[].reverse)=_
  rw [hready];simp only [List.length_singleton,Nat.mod_one,List.getElem?_cons_zero,Nat.div_one];rw [linearise_go_acc,List.reverse_singleton,List.singleton_append,show l.length-i=(l.length-(i+1))+1 by omega,List.range'_succ];rw [z t (i+1) _ U U U (by simpa using b)];intro j a;rw [Array.getD_eq_getD_getElem?,Array.getElem?_setIfInBounds];by_cases y:i=j
  ·subst y;simp [b,a]
  ·rw [aX y,<-Array.getD_eq_getD_getElem?,f j a];by_cases o:j<i
   ·have:j<i+1:=U
    simp [o,this]
   ·have:¬j<i+1:=U
    simp [o,this]
theorem DQ.congr{l:List Oper}{o:Oper}{O σ':Nat->aZ}(h:∀g w oj d,o.guard=some (g,w)->l[g]? =some oj->oj.dst=some d->σ' d=O d):DQ l o σ'->DQ l o O:=by
 unfold DQ;cases a:o.guard with
 | none=>exact id
 | some x=>
  obtain ⟨g,w⟩:=x;simp only;cases b:l[g]? with
  | none=>exact id
  | some oj=>
   simp only;cases c:oj.dst with
   | none=>exact id
   | some d=>simp only;rw [h g w oj d a b c];exact id
theorem EF{l:List Oper}{n i j:Nat}{oi oj:Oper}{d e:Nat}(nd:(Dd l n).Nodup)(hi:i<n)(hj:j<n)(hij:i≠j)(hoi:l[i]? =some oi)(hoj:l[j]? =some oj)(hd:oi.dst=some d)(he:oj.dst=some e):e≠d:=by
 have a:∀(oi oj:Oper)(d e:Nat)(n:Nat)(l:List Oper)(i j:Nat),(Dd l n).Nodup->j<n->i<j->l[i]? =some oi->l[j]? =some oj->oi.dst=some d->oj.dst=some e->e≠d:=by
  intro oi oj d e n
  induction n with
  | zero=>intro l i j _ hj;omega
  | succ n f=>
   intro l i j nd hj hij hoi hoj hd he;cases l with
   | nil=>simp at hoi
   | cons o l=>
    cases j with
    | zero=>omega
    | succ j=>
     have g:e ∈ Dd l n:=by
      simp only [Dd,List.mem_filterMap];refine ⟨oj,?_,he⟩;have k:(l.take n)[j]? =some oj:=by rw [List.getElem?_take];simp at hoj;simp [show j<n by omega,hoj]
      exact List.mem_of_getElem? k
     cases i with
     | zero=>
      simp at hoi;subst hoi
      have:Dd (o ::l) (n+1)=d ::Dd l n:=by simp [Dd,hd]
      rw [this] at nd;intro m;subst m;exact (List.nodup_cons.1 nd).1 g
     | succ i=>
      have c:(Dd l n).Nodup:=by
       have:Dd (o ::l) (n+1)=(match o.dst with | some x=>x ::Dd l n | none=>Dd l n):=by
        cases b:o.dst <;> simp [Dd,b]
       rw [this] at nd;cases b:o.dst with
       | none=>rw [b] at nd;exact nd
       | some x=>rw [b] at nd;exact (List.nodup_cons.1 nd).2
      exact f l i j c U U (by simpa using hoi) (by simpa using hoj) hd he
 rcases Nat.lt_or_gt_of_ne hij with h | h
 ·exact a oi oj d e n l i j nd hj h hoi hoj hd he
 ·exact λx=>a oj oi e d n l j i nd hi h hoj hoi he hd x.symm
theorem UG{e d:Nat}(h:e≠d):Nat.beq e d=false:=by
 cases a:Nat.beq e d with
 | false=>rfl
 | true=>exact absurd (Nat.eq_of_beq_eq_true a) h
theorem VJ{l:List Oper}{n k d:Nat}{o:Oper}(hk:k<n)(ho:l[k]? =some o)(hd:o.dst=some d):(Dd l n).contains d=true:=by
 rw [List.contains_iff_mem];simp only [Dd,List.mem_filterMap];exact ⟨o,List.mem_of_getElem? (show (l.take n)[k]? =some o by rw [List.getElem?_take];simp [hk,ho]),hd⟩
def HX(D:Nat->Bool)(i:Nat):Nat->Bool:=λj=>if i=j then true else D j
structure SInv(l:List Oper)(n:Nat)(cls:List (List Nat))(J:(Nat->Bool)->(Nat->aZ)->Y->Prop)(listed:Array Bool)(σ':Nat->aZ)(h':Y):Prop where
 inv:J (λj=>listed.getD j false) σ' h'
 size:listed.size=l.length
 clos:∀j,j<n->listed.getD j false=true->∀i ∈ cls.getD j [],i<n/\listed.getD i false=true
 suf:∀j,n<=j->j<l.length->listed.getD j false=false
theorem PZ{id:Nat}{l:List Oper}{O:Nat->aZ}{ds:List Deferred}{h:Y}(n:Nat)(cls:List (List Nat))(J:(Nat->Bool)->(Nat->aZ)->Y->Prop)
  (hm:P.follows .mixedOrders=true) (ok:GJ E.N l n cls=true) (i0:J (λ_=>false) O h)
  (step:∀D σ' h' i o,J D σ' h'->i<n->D i=false->l[i]? =some o->(∀q ∈ cls.getD i [],D q=true)->(∀g w,o.guard=some (g,w)->D g=true)->
   (DQ l o σ'->BR E o σ' ds h' λσ'' ds'' h''=>ds''=ds/\J (HX D i) σ'' h'')/\(¬DQ l o σ'->J (HX D i) (putS σ' o.dst undef) h'))
  {b:Frame} {k:List Item} {cs:List Frame} {t:Array aZ} (hb:b.fn=E.fn) (hr:b.roundOf=E.rd) (hs:BT t E.N O)
  (fin:∀D σ' h',J D σ' h'->(∀i,i<n->D i=true)->∀t',BT t' E.N σ'->E.wk.K (G (Cd b t' ds (.inRegion l.toArray (List.range' n (l.drop n).length) ::k)) cs) h') :
  E.wk.K (G (Cd b t ds (.code (.region id l.toArray true) ::k)) cs) h:=by
 have ok':=ok;unfold GJ at ok;simp only [Bool.and_eq_true] at ok;obtain ⟨⟨⟨ok1,ok2⟩,ok3⟩,ok4⟩:=ok;have nd:(Dd l n).Nodup:=of_decide_eq_true ok3;have hnl:n<=l.length:=Nat.ble_eq▸ok1;have suffix:∀(fuel m:Nat)(listed:Array Bool) (σ':Nat->aZ) (h':Y) (t:Array aZ),SInv l n cls J listed σ' h'->(∀j,j<n->listed.getD j false=true)->listed.toList.count false<=fuel->BT t E.N σ'->
   E.wk.K (G (Cd b t ds (.inRegion l.toArray (Region.linearise.go .any l.toArray fuel m listed []) ::k)) cs) h':=by
  intro fuel m listed σ' h' t I r d p;have s:=I.size;have hL:∀j,j<l.length->listed.getD j false=decide (j<n):=λj a=>by
   by_cases h1:j<n
   ·rw [r j h1];simp [h1]
   ·rw [I.suf j U a];simp [h1]
  have e:Region.linearise.go .any l.toArray fuel m listed []=List.range' n (l.drop n).length:=by
   have T:listed.toList=List.replicate n true++List.replicate (l.length-n) false:=by
    refine List.ext_getElem (by simp [s];omega) λj h1 c=>?_;have h1':j<l.length:=by simpa [s] using h1
    have hb:=hL j h1';have h1'':j<listed.size:=U
    rw [Array.getD_eq_getD_getElem?,Array.getElem?_eq_getElem h1'',Option.getD_some] at hb;rw [Array.getElem_toList,hb,List.getElem_append];split
    ·rename_i W;have h4:j<n:=by simpa using W
     simp [h4]
    ·rename_i W;have h4:¬j<n:=by simpa using W
     simp [h4]
   have hc:l.length-n<=fuel:=by rw [T] at d;simpa [List.count_append,List.count_replicate] using d
   rw [List.length_drop];exact XI (ops:=l.toArray) rfl ok' fuel m n listed (Nat.le_refl _) hnl hc s hL
  rw [e];exact fin _ σ' h' I.inv r t p
 have key:∀(fuel m:Nat)(listed:Array Bool) (σ':Nat->aZ) (h':Y) (t:Array aZ),SInv l n cls J listed σ' h'->listed.toList.count false<=fuel->BT t E.N σ'->
   E.wk.K (G (Cd b t ds (.inRegion l.toArray (Region.linearise.go .any l.toArray fuel m listed []) ::k)) cs) h':=by
  intro fuel
  induction fuel with
  | zero=>
   intro m listed σ' h' t I d p;exact suffix 0 m listed σ' h' t I (by
    intro j a;cases hb:listed.getD j false with
    | true=>rfl
    | false=>
     have s:=I.size;have z:j<listed.size:=U
     have:false ∈ listed.toList:=by
      rw [Array.getD_eq_getD_getElem?,Array.getElem?_eq_getElem z,Option.getD_some] at hb;rw [<-hb];simp
     have:=List.count_pos_iff.2 this
     omega) d p
  | succ fuel ih=>
   intro m listed σ' h' t I d p;by_cases r:∀j,j<n->listed.getD j false=true
   ·exact suffix (fuel+1) m listed σ' h' t I r d p
   have s:=I.size;have hready:∃i0,i0<n/\listed.getD i0 false=false/\∀j,j<i0->listed.getD j false=true:=by
    have hex:∃j,j<n/\listed.getD j false=false:=by
     refine Classical.byContradiction λhc=>r λj a=>?_;cases hb:listed.getD j false with
     | true=>rfl
     | false=>exact absurd ⟨j,a,hb⟩ hc
    obtain ⟨j,a⟩:=hex
    induction j using Nat.strongRecOn with
    | ind j ihj=>
     by_cases hz:∃i,i<j/\listed.getD i false=false
     ·obtain ⟨i,v,hi'⟩:=hz;exact ihj i v ⟨U,hi'⟩
     ·refine ⟨j,a.1,a.2,λi v=>?_⟩;cases hb:listed.getD i false with
      | true=>rfl
      | false=>exact absurd ⟨i,v,hb⟩ hz
   obtain ⟨i0,hi0,hl0,hb0⟩:=hready;have hget:∀j,j<l.length->listed.getD j true=listed.getD j false:=λj a=>by
    have z:j<listed.size:=U
    simp [Array.getD_eq_getD_getElem?,Array.getElem?_eq_getElem z]
   have hmem:∀i,i ∈ Region.ready .any l.toArray listed↔i<l.length/\listed.getD i false=false/\∀o,l[i]? =some o->∀e ∈ o.after,Region.binds .any e=true->listed.getD e.on false=true:=by
    intro i;unfold Region.ready;rw [List.mem_filter,List.mem_range,List.size_toArray];constructor
    ·rintro ⟨v,x⟩;rw [hget i v] at x;have hoi:l.toArray[i]? =some l[i]:=by simp [v]
     rw [hoi] at x;simp only [Option.map_some,Option.getD_some,Bool.and_eq_true,Bool.not_eq_true'] at x;refine ⟨v,x.1,λo C e F H=>?_⟩;rw [List.getElem?_eq_getElem v] at C;cases C
     have:=(Array.all_eq_true_iff_forall_mem.1 x.2) e F
     simpa [H] using this
    ·rintro ⟨v,x1,x2⟩;refine ⟨v,?_⟩;rw [hget i v];have hoi:l.toArray[i]? =some l[i]:=by simp [v]
     rw [hoi];simp only [Option.map_some,Option.getD_some,Bool.and_eq_true,Bool.not_eq_true'];refine ⟨x1,Array.all_eq_true_iff_forall_mem.2 λe F=>?_⟩;cases H:Region.binds .any e with
     | false=>rfl
     | true=>simpa using x2 _ (List.getElem?_eq_getElem v) e F H
   have hi0r:i0 ∈ Region.ready .any l.toArray listed:=by
    rw [hmem];refine ⟨U,hl0,λo C e F H=>?_⟩;have o4:=Gi ok4 (show i0<l.length by omega);simp only [C,Bool.and_eq_true] at o4
    have:=(Array.all_eq_true_iff_forall_mem.1 o4.1) e F
    simp only [H,Bool.not_true,Bool.false_or] at this;exact hb0 _ (Nat.blt_eq▸this)
   simp only [Region.linearise.go];change E.wk.K (G (Cd b t ds (.inRegion l.toArray (match (Region.ready .any l.toArray listed)[m%(Region.ready .any l.toArray listed).length]? with
    | some i=>Region.linearise.go .any l.toArray fuel (m / (Region.ready .any l.toArray listed).length) (listed.setIfInBounds i true) [i]
    | none=>[].reverse) ::k)) cs) h'
   cases v:(Region.ready .any l.toArray listed)[m%(Region.ready .any l.toArray listed).length]? with
   | none=>
    exfalso;have hpos:0<(Region.ready .any l.toArray listed).length:=List.length_pos_of_mem hi0r
    have:=Nat.mod_lt m hpos
    rw [List.getElem?_eq_none_iff] at v;omega
   | some i=>
    simp only [];have him:=(hmem i).1 (List.mem_of_getElem? v);obtain ⟨X,hiu,hie⟩:=him;obtain ⟨o,C⟩:∃o,l[i]? =some o:=⟨_,List.getElem?_eq_getElem X⟩;have o4:=Gi ok4 X;simp only [C,Bool.and_eq_true] at o4;have hin:i<n:=by
     refine Classical.byContradiction λhc=>?_;have c:Nat.blt i n=false:=by
      cases h:Nat.blt i n with
      | false=>rfl
      | true=>exact absurd (Nat.blt_eq▸h) hc
     have o5:=o4.2;rw [c] at o5;simp only [Bool.false_eq_true,if_false] at o5;have o6:=Gi o5 (show i0<i by omega);have onL:∀j,IW o j=true->listed.getD j false=true:=λj a=>by
      unfold IW at a;rw [Array.any_eq_true] at a;obtain ⟨q,u,e⟩:=a;simp only [Bool.and_eq_true,beq_iff_eq] at e
      have:=hie o C _ (Array.getElem_mem u) e.1
      rw [e.2] at this;exact this
     simp only [Bool.or_eq_true,Bool.and_eq_true] at o6;rcases o6 with (o6 | ⟨_,o6⟩) | o6
     rotate_left 2
     ·rw [List.any_eq_true] at o6;obtain ⟨e,F,c⟩:=o6;simp only [Bool.and_eq_true] at c;have W:=onL e c.2;have h4:n<=e:=Nat.ble_eq▸c.1.1;have h5:e<i:=List.mem_range.1 F;rw [I.suf e h4 U] at W;cases W
     ·have:=onL _ o6
      rw [hl0] at this;cases this
     ·rw [List.any_eq_true] at o6;obtain ⟨e,F,c⟩:=o6;simp only [Bool.and_eq_true] at c
      have:=(I.clos e (List.mem_range.1 F) (onL e c.1) i0 (by simpa using c.2)).2
      rw [hl0] at this;cases this
    have hbl:Nat.blt i n=true:=by rw [Nat.blt_eq];exact hin
    have o5:=o4.2;rw [hbl] at o5;simp only [if_true,Bool.and_eq_true,Bool.not_eq_true'] at o5;obtain ⟨⟨⟨d2,d3⟩,d4⟩,d5⟩:=o5;have anyL:∀j,IW o j=true->listed.getD j false=true:=λj a=>by
     unfold IW at a;rw [Array.any_eq_true] at a;obtain ⟨q,u,e⟩:=a;simp only [Bool.and_eq_true,beq_iff_eq] at e
     have:=hie o C _ (Array.getElem_mem u) e.1
     rw [e.2] at this;exact this
    have hgl:∀g w,o.guard=some (g,w)->listed.getD g false=true:=λg w hg=>by
     rw [hg] at d4;exact anyL g d4
    have z:∀j,listed.getD j false=true->j<n:=λj a=>by
     by_cases h1:j<l.length
     ·by_cases c:j<n
      ·exact c
      ·rw [I.suf j U h1] at a;cases a
     ·have:listed.getD j false=false:=by
       rw [Array.getD_eq_getD_getElem?,Array.getElem?_eq_none U];rfl
      rw [this] at a;cases a
    have T:∀j ∈ cls.getD i [],j<n/\listed.getD j false=true:=λj a=>by
     have:=(List.all_eq_true.1 d5) j a
     simp only [Bool.and_eq_true,Bool.or_eq_true] at this;rcases this.2 with h1 | h1
     ·exact ⟨z j (anyL j h1),anyL j h1⟩
     ·rw [List.any_eq_true] at h1;obtain ⟨e,_,c⟩:=h1;simp only [Bool.and_eq_true] at c;have hle:=anyL e c.1;exact I.clos e (z e hle) hle j (by simpa using c.2)
    rw [linearise_go_acc,List.reverse_singleton,List.singleton_append];have A:∀j,(listed.setIfInBounds i true).getD j false=HX (λj=>listed.getD j false) i j:=λj=>by
     show _=if i=j then true else listed.getD j false
     rw [Array.getD_eq_getD_getElem?,Array.getElem?_setIfInBounds];by_cases B:i=j
     ·subst B;simp [s,X]
     ·rw [aX B,aX B,Array.getD_eq_getD_getElem?]
    have next:∀(σ2:Nat->aZ) (c:Y),J (HX (λj=>listed.getD j false) i) σ2 c->SInv l n cls J (listed.setIfInBounds i true) σ2 c:=by
     intro σ2 c hj2;refine ⟨by rw [show (λj=>(listed.setIfInBounds i true).getD j false)=HX (λj=>listed.getD j false) i from funext A];exact hj2,by simpa using s,λj a hjl q u=>?_,λj a hjl=>?_⟩
     ·rw [A] at hjl
      have:q<n/\listed.getD q false=true:=by
       by_cases B:i=j
       ·subst B;exact T q u
       ·exact I.clos j a (by simpa [HX,B] using hjl) q u
      refine ⟨this.1,?_⟩;rw [A];unfold HX;split
      ·rfl
      ·exact this.2
     ·rw [A];unfold HX;rw [aX U];exact I.suf j a hjl
    obtain ⟨stepT,stepF⟩:=step _ σ' h' i o I.inv hin hiu C (λq u=>(T q u).2) hgl;have M:(listed.setIfInBounds i true).toList.count false<=fuel:=by
     rw [Array.toList_setIfInBounds];have R:i<listed.toList.length:=by simpa [s] using X
     rw [List.count_set R];have hlt2:i<listed.size:=by simpa using R
     have W:listed.toList[i]=false:=by
      rw [Array.getD_eq_getD_getElem?,Array.getElem?_eq_getElem hlt2,Option.getD_some] at hiu;simpa using hiu
     rw [W];simp;have h4:=List.count_pos_iff.2 (List.getElem_mem R);rw [W] at h4;have h5:Array.count false listed=listed.toList.count false:=aD
     omega
    have hgN:∀g w og dg,o.guard=some (g,w)->l[g]? =some og->og.dst=some dg->dg<E.N:=λg w og dg hgw hog hdg=>by
     have hgn:=z g (hgl g w hgw);have o6:=Gi ok4 (show g<l.length by omega);simp only [hog,Bool.and_eq_true] at o6;have hbg:Nat.blt g n=true:=by rw [Nat.blt_eq];exact hgn
     have o7:=o6.2;rw [hbg] at o7;simp only [if_true,Bool.and_eq_true] at o7
     have:=o7.1.1.1
     rw [hdg] at this;exact Nat.blt_eq▸this
    have hwant:Region.wanted o (yielded l.toArray t)=true↔DQ l o σ':=by
     unfold Region.wanted DQ;cases hg:o.guard with
     | none=>simp
     | some x=>
      obtain ⟨g,w⟩:=x;simp only [yielded];have e0:l.toArray[g]? =l[g]? :=aD
      rw [e0];cases hog:l[g]? with
      | none=>simp
      | some og=>
       simp only [Option.bind_some];cases hdg:og.dst with
       | none=>simp
       | some dg=>
        simp only [Option.bind_some];have hN:=hgN g w og dg hg hog hdg;have hts:dg<t.size:=by rw [p.1];exact hN
        have hv:=p.2 dg;rw [Array.getD_eq_getD_getElem?,Array.getElem?_eq_getElem hts,Option.getD_some] at hv;rw [Array.getElem?_eq_getElem hts,hv];cases σ' dg <;> simp
    cases hw:Region.wanted o (yielded l.toArray t) with
    | true=>
     have hG:=hwant.1 hw;refine Kg (E:=E) (by simpa using C) hw (.inr d3) d2 p (stepT hG) λσ2 ds2 c y t2 ht2=>?_;obtain ⟨rfl,hj2⟩:=y;exact ih _ _ σ2 c t2 (next σ2 c hj2) M ht2
    | false=>
     have hnG:¬DQ l o σ':=λx=>by rw [hwant.2 x] at hw;cases hw
     refine Wk.go (Cd b (W9 t o.dst undef) ds (.inRegion l.toArray (Region.linearise.go .any l.toArray fuel (m / (Region.ready .any l.toArray listed).length) (listed.setIfInBounds i true) []) ::k)) (λw=>?_) ?_
     ·rw [<-C3 (show l.toArray[i]? =some o by simpa using C),A6];unfold stepG.exec;have hw':((l.toArray[i]?).map (Region.wanted · (yielded l.toArray t))).getD false=false:=by
       rw [show l.toArray[i]? =some o by simpa using C];simp [hw]
      simp only [Cd,hw',Bool.false_eq_true,↓reduceIte];rfl
     ·exact ih _ _ (putS σ' o.dst undef) h' _ (next _ _ (stepF hnG)) M (p.putS d2 undef)
 refine E.wk.closed _ _ rfl λw f=>?_;obtain ⟨m,w',h',es,r1,r2,r3⟩:=JF (P:=P) f (e:=choose (.order b.fn id)) (Q:=λ_ h'=>h'=h) (by exact ⟨λ_=>rfl,λ_ _=>rfl⟩);subst r3;refine ⟨G (Cd b t ds (.inRegion l.toArray (Region.linearise.go .any l.toArray l.length m (Array.replicate l.length false) []) ::k)) cs,w',#[],h',?_,r2.sub λe F=>by simp at F,?_⟩
 ·rw [A6];unfold stepG.exec;have r1':(choose (.order b.fn id)).run P w=.ok m w':=by
   have:=congrArg Prod.fst r1
   simpa [Sem.runT_eq] using this
  simp only [Cd,Bool.not_true,Bool.false_eq_true,↓reduceIte,r1',Region.schedule,hm,Bool.true_or,Region.linearise,List.size_toArray];rfl
 ·refine key l.length m _ O h' t ⟨?_,aD,λj _ a=>?_,λj _ _=>?_⟩ ?_ hs
  ·have e:(λj=>(Array.replicate l.length false).getD j false)=λ_:Nat=>false:=funext λj=>by
    rw [Array.getD_eq_getD_getElem?,Array.getElem?_replicate];split <;> rfl
   rw [e];exact i0
  ·rw [Array.getD_eq_getD_getElem?,Array.getElem?_replicate] at a;split at a <;> cases a
  ·rw [Array.getD_eq_getD_getElem?,Array.getElem?_replicate];split <;> rfl
  ·simp
theorem VK{id:Nat}{l:List Oper}{O:Nat->aZ}{ds:List Deferred}{h:Y}{Q:Post}(n:Nat)(cls:List (List Nat))(J:(Nat->Bool)->(Nat->aZ)->Y->Prop)
  (hm:P.follows .mixedOrders=true) (ok:GJ E.N l n cls=true) (i0:J (λ_=>false) O h)
  (step:∀D σ' h' i o,J D σ' h'->i<n->D i=false->l[i]? =some o->(∀q ∈ cls.getD i [],D q=true)->(∀g w,o.guard=some (g,w)->D g=true)->
   (DQ l o σ'->BR E o σ' ds h' λσ'' ds'' h''=>ds''=ds/\J (HX D i) σ'' h'')/\(¬DQ l o σ'->J (HX D i) (putS σ' o.dst undef) h'))
  (fin:∀D σ' h',J D σ' h'->(∀i,i<n->D i=true)->DK E l.toArray (l.drop n) σ' ds h' Q):Tr E (.region id l.toArray true) O ds h Q:=λb k f m t d e p r s=>
 PZ n cls J hm ok i0 step d e r λD σ' h' u a v c=>fin D σ' h' u a n b k f m v (λj=>aD) d e p c s
theorem BS.mono{W:Wk P}{l f:Nat}{tmps:Array aZ}{a c:Code}{h:Y}{R R':aZ->Y->Prop}(x:BS W l f tmps a c h R)(hr:∀v h',R v h'->R' v h'):BS W l f tmps a c h R':=
 λb d e=>x b d λv h' r=>e v h' (hr v h' r)
theorem BR.mono{o:Oper}{O:Nat->aZ}{ds:List Deferred}{h:Y}{T T2:(Nat->aZ)->List Deferred->Y->Prop}(y:BR E o O ds h T)(ht:∀σ' ds' h',T σ' ds' h'->T2 σ' ds' h'):BR E o O ds h T2:=by
 unfold BR at y ⊢;refine FH _ (λb h' q=>?_) _ y;cases b <;> first | exact ht _ _ _ q | exact AT.mono q λv a r=>ht _ _ _ r | exact BS.mono q λv a r=>ht _ _ _ r | exact q
structure Zv(R:Y->Y->Prop)(l:List Oper)(n:Nat)(cls:List (List Nat))(Φ:List Sd)(O:Nat->aZ)(h:Y)(D:Nat->Bool)(σ':Nat->aZ)(h':Y):Prop where
 le:R h h'
 base:∀t,(Dd l n).contains t=false->σ' t=O t
 lt:∀j,D j=true->j<n
 done:∀j,D j=true->VI l Φ σ' h' j
 clos:∀j,D j=true->∀i ∈ cls.getD j [],D i=true
 grd:∀j o,D j=true->l[j]? =some o->∀g w,o.guard=some (g,w)->D g=true
theorem tr_draw(R:Y->Y->Prop){id:Nat}{l:List Oper}{O:Nat->aZ}{ds:List Deferred}{h:Y}{Q:Post}(n:Nat)(cls:List (List Nat))(Φ:List Sd)
  (hm:P.follows .mixedOrders=true) (ok:UF E.N l n cls=true) (rr:∀h,R h h) (rt:∀a b c,R a b->R b c->R a c) (mono:∀k v h h',R h h'->MH Φ k v h->MH Φ k v h')
  (x:N3 R E l n Φ O ds h Q n 0 l cls):Tr E (.region id l.toArray true) O ds h Q:=by
 obtain ⟨steps,fin⟩:=N3.at n 0 l cls x;simp only [Nat.zero_add] at steps fin;unfold UF at ok;rw [Bool.and_eq_true] at ok;obtain ⟨ok,okd⟩:=ok;have H:=ok;unfold GJ at H;simp only [Bool.and_eq_true] at H;have nd:(Dd l n).Nodup:=of_decide_eq_true H.1.2;refine VK n cls (Zv R l n cls Φ O h) hm ok ⟨rr h,λ_ _=>rfl,λ_ q=>(by cases q),λ_ q=>(by cases q),λ_ q=>(by cases q),λ_ _ q=>(by cases q)⟩ (λD σ' h' i o I s hiu M hcl T=>?_) λD σ' h' I hall=>fin σ' h' I.le I.base (JJ.get λj hj=>I.done j (hall j (List.mem_range.1 hj)));have r:∀j,HX D i j=if i=j then true else D j:=λ_=>rfl
 obtain ⟨d,W⟩:∃d,o.dst=some d:=by
  have:=Gi okd s
  rw [M] at this;exact Option.isSome_iff_exists.1 this
 have next:∀(σ2:Nat->aZ) (h2:Y) (v:aZ),σ2=putS σ' o.dst v->R h' h2->(DQ l o σ2->MH Φ i v h2)->Zv R l n cls Φ O h (HX D i) σ2 h2:=by
  rintro σ2 h2 v rfl B z;have hkeep:∀j t e,j<n->j≠i->l[j]? =some t->t.dst=some e->putS σ' o.dst v e=σ' e:=λj t e hj hji p he=>by
   rw [W];exact upd_ne σ' v (UG (EF nd s hj (λx=>hji x.symm) M p W he))
  refine ⟨rt _ _ _ I.le B,λu hu=>?_,λj f=>?_,λj f=>?_,λj f q hq'=>?_,λj t f p g w F=>?_⟩
  ·rw [<-I.base u hu,W];exact upd_ne σ' v (UG λe=>by rw [e,VJ s M W] at hu;cases hu)
  ·rw [r] at f;by_cases m:i=j
   ·exact m▸s
   ·rw [aX m] at f;exact I.lt j f
  ·rw [r] at f;by_cases m:i=j
   ·subst m;unfold VI;rw [M];intro F
    have:Se o (putS σ' o.dst v)=v:=by simp [Se,W,putS,upd]
    rw [this];exact z F
   ·rw [aX m] at f;have K:=I.done j f;unfold VI at K ⊢;cases p:l[j]? with
    | none=>trivial
    | some t=>
     rw [p] at K;simp only at K ⊢;intro F;have hg':DQ l t σ':=F.congr λg w og dg C X hdg=>by
      have A:=I.grd j t f p g w C;exact hkeep g og dg (I.lt g A) (λe=>by rw [e,hiu] at A;cases A) X hdg
     have hsv:Se t (putS σ' o.dst v)=Se t σ':=by
      unfold Se;cases hdj:t.dst with
      | none=>rfl
      | some e=>exact hkeep j t e (I.lt j f) (λx=>m x.symm) p hdj
     rw [hsv];exact mono _ _ _ _ B (K hg')
  ·rw [r] at f ⊢;split
   ·rfl
   ·by_cases m:i=j
    ·subst m;exact hcl q hq'
    ·rw [aX m] at f;exact I.clos j f q hq'
  ·rw [r] at f ⊢;split
   ·rfl
   ·by_cases m:i=j
    ·subst m;rw [M] at p;cases p;exact T g w F
    ·rw [aX m] at f;exact I.grd j t f p g w F
 refine ⟨λhG=>?_,λhnG=>?_⟩
 ·exact BR.mono (steps i o s M σ' h' I.le I.base (JJ.get λj hj=>I.done j (hcl j hj)) hG) λσ2 ds2 h2 y=>⟨y.1,by
   obtain ⟨_,B,v,hσ,z⟩:=y;exact next σ2 h2 v hσ B λ_=>z⟩
 ·refine next _ _ undef rfl (rr _) λF=>absurd (F.congr λg w og dg C X hdg=>?_) hnG;have hgi:g≠i:=λe=>by have:=T g w C;rw [e,hiu] at this;cases this
  rw [W];exact upd_ne σ' undef (UG (EF nd s (I.lt g (T g w C)) (λx=>hgi x.symm) M X W hdg))
end
end Go.Ns
namespace Go.Ns
open Go.Conc
section
variable {P:Program} {E:Gb P} {O:Nat->aZ} {ds:List Deferred} {h:Y} {T:(Nat->aZ)->List Deferred->Y->Prop}
variable {dst:Option Nat} {ty:bA} {pos:String} {af:Array Edge} {gd:Option (Nat×Bool)}
variable {aQ:Type}
def DR(enc:aQ->Array aZ)(xs:List aQ):List aZ:=xs.flatMap λx=>(enc x).toList
theorem J3(enc:aQ->Array aZ)(xs ys:List aQ):DR enc (xs++ys)=DR enc xs++DR enc ys:=by simp [DR]
theorem EV{enc:aQ->Array aZ}{n:Nat}{xs:List aQ}(hn:∀x ∈ xs,(enc x).size=n):(DR enc xs).length=xs.length*n:=by
 induction xs with
 | nil=>simp [DR]
 | cons x xs a=>
  have:DR enc (x ::xs)=(enc x).toList++DR enc xs:=rfl
  rw [this,List.length_append,a (λy b=>hn y (by simp [b])),List.length_cons,Nat.succ_mul,Array.length_toList,hn x aD];omega
def CS:aZ->Option Nat
 | .slice (some a) _ _=>some a.block
 | _=>none
def AO(h0 h:Y)(v:aZ)(t:bA)(n:Nat)(enc:aQ->Array aZ)(xs:List aQ):Prop:=
 (v=.slice none 0 0/\xs=[])\/∃b cap c,v=.slice (some ⟨b,0,none⟩) xs.length cap/\h0 b=none/\h b=some (true,.cells c t (0,0))/\c.size=cap*n/\xs.length<=cap/\xs.length<=140737488355328/\
  c.toList.take (xs.length*n)=DR enc xs/\∀x ∈ xs,(enc x).size=n
theorem AO.nil(h0 h:Y)(t:bA)(n:Nat)(enc:aQ->Array aZ):AO h0 h (.slice none 0 0) t n enc []:=.inl ⟨rfl,rfl⟩
theorem AO.le{h0 h h':Y}{v:aZ}{t:bA}{n:Nat}{enc:aQ->Array aZ}{xs:List aQ}(x:AO h0 h v t n enc xs)(l:h.Le h'):AO h0 h' v t n enc xs:=by
 rcases x with x | ⟨b,a,c,d,e,f,g⟩
 ·exact .inl x
 ·exact .inr ⟨b,a,c,d,e,l.keep f rfl,g⟩
theorem AO.base{h0 h00 h:Y}{v:aZ}{t:bA}{n:Nat}{enc:aQ->Array aZ}{xs:List aQ}(x:AO h0 h v t n enc xs)(l:h00.Le h0):AO h00 h v t n enc xs:=by
 rcases x with x | ⟨b,a,c,d,e,f,g⟩
 ·exact .inl x
 ·exact .inr ⟨b,a,c,d,l.nothing e,f,g⟩
theorem AO.keep{h0 h h':Y}{v:aZ}{t:bA}{n:Nat}{enc:aQ->Array aZ}{xs:List aQ}(x:AO h0 h v t n enc xs)(l:∀b o,CS v=some b->h b=some o->h' b=some o):AO h0 h' v t n enc xs:=by
 rcases x with x | ⟨b,a,c,d,e,f,g⟩
 ·exact .inl x
 ·exact .inr ⟨b,a,c,d,e,l b _ (by rw [d];rfl) f,g⟩
theorem Pa{enc:aQ->Array aZ}{n:Nat}{xs:List aQ}{l:List aZ}(hn:∀x ∈ xs,(enc x).size=n)(h:l.take (xs.length*n)=DR enc xs){i:Nat}(hi:i<xs.length) :
  (l.drop (i*n)).take n=(enc xs[i]).toList:=by
 induction xs generalizing l i with
 | nil=>simp at hi
 | cons x xs b=>
  have c:=hn x aD;have e:DR enc (x ::xs)=(enc x).toList++DR enc xs:=rfl;have a:((enc x).toList).length=n:=by simp [c]
  have d:l.take n=(enc x).toList:=by
   have:=congrArg (List.take n) h
   rw [e,List.take_take,List.length_cons,Nat.succ_mul,Nat.min_eq_left (Nat.le_add_left _ _),List.take_left' a] at this;exact this
  have f:(l.drop n).take (xs.length*n)=DR enc xs:=by
   have:=congrArg (List.drop n) h
   rw [e,List.drop_left' a,List.drop_take,List.length_cons,Nat.succ_mul,Nat.add_sub_cancel] at this;exact this
  cases i with
  | zero=>simpa using d
  | succ i=>
   have:=b (λy g=>hn y (by simp [g])) f (i:=i) (by simpa using hi)
   rw [List.drop_drop] at this;rw [Nat.succ_mul,Nat.add_comm (i*n) n];simpa using this
theorem AO.sl{h0 h:Y}{v:aZ}{t:bA}{n:Nat}{enc:aQ->Array aZ}{xs:List aQ}(x:AO h0 h v t n enc xs):AG h v n enc xs:=by
 rcases x with ⟨rfl,rfl⟩ | ⟨b,a,c,f,m,g,o,d,j,k,l⟩
 ·exact AG.nil _ _ _
 ·refine ⟨_,a,f,d,j,λi e=>⟨b,0,rfl,true,c,t,(0,0),g,?_,?_⟩⟩
  ·have:i*n+n<=xs.length*n:=by rw [<-Nat.succ_mul];exact Nat.mul_le_mul_right n e
   have:xs.length*n<=a*n:=Nat.mul_le_mul_right n d
   omega
  ·apply Array.ext';rw [Array.toList_extract,List.extract_eq_take_drop,Nat.zero_add,show i*n+n-i*n=n by omega];exact Pa l k e
theorem AG.cells{h:Y}{v:aZ}{n:Nat}{enc:aQ->Array aZ}{ys:List aQ}(x:AG h v n enc ys)(hne:ys≠[]) :
  ∃b off cap p c t f,v=.slice (some ⟨b,off,none⟩) ys.length cap/\h b=some (p,.cells c t f)/\off+ys.length*n<=c.size/\(c.extract off (off+ys.length*n)).toList=DR enc ys/\∀y ∈ ys,(enc y).size=n:=by
 obtain ⟨a,cap,z,_,_,r⟩:=x;have A:0<ys.length:=List.length_pos_iff.2 hne;obtain ⟨b,off,rfl,p,c,t,f,s,F,H⟩:=r 0 A;have d:∀i (g:i<ys.length),off+i*n+n<=c.size/\c.extract (off+i*n) (off+i*n+n)=enc ys[i]:=λi g=>by
  obtain ⟨I,u,B,K,M,N,Q,j,l,m⟩:=r i g;cases B;rw [s] at j;cases j;exact ⟨l,m⟩
 have o:∀y ∈ ys,(enc y).size=n:=λy C=>by
  obtain ⟨i,g,rfl⟩:=List.mem_iff_getElem.1 C;rw [<-(d i g).2,Array.size_extract]
  have:=(d i g).1
  omega
 refine ⟨b,off,cap,p,c,t,f,z,s,?_,?_,o⟩
 ·have:=(d (ys.length-1) U).1
  have e:(ys.length-1)*n+n=ys.length*n:=by rw [<-Nat.succ_mul];congr 1;omega
  omega
 ·have q:∀i,i<=ys.length->(c.toList.drop off).take (i*n)=DR enc (ys.take i):=by
   intro i
   induction i with
   | zero=>intro _;simp [DR]
   | succ i D=>
    intro g;have k:i<ys.length:=g;rw [List.take_succ_eq_append_getElem k,J3,<-D U,Nat.succ_mul,List.take_add];congr 1
    have:=(d i k).2
    have w:=congrArg Array.toList this;rw [Array.toList_extract,List.extract_eq_take_drop,show off+i*n+n-(off+i*n)=n by omega] at w;rw [List.drop_drop,show DR enc [ys[i]]=(enc ys[i]).toList by simp [DR],<-w]
  have:=q ys.length (Nat.le_refl _)
  rw [List.take_length] at this;rw [Array.toList_extract,List.extract_eq_take_drop,show off+ys.length*n-off=ys.length*n by omega];exact this
theorem Eg(vs:List aZ):∀(c:Array aZ)(off:Nat),off+vs.length<=c.size->(BU c off vs).toList=c.toList.take off++vs++c.toList.drop (off+vs.length):=by
 induction vs with
 | nil=>intro c off _;simp [BU]
 | cons v vs d=>
  intro c off a;simp only [List.length_cons] at a;rw [BU,d _ _ (by simp;omega),Array.toList_setIfInBounds];have b:off<c.toList.length:=by simp;omega
  rw [List.take_succ_eq_append_getElem (by simpa using b),List.take_set_of_le (Nat.le_refl _),List.getElem_set_self,List.drop_set_of_lt U];simp only [List.append_assoc,List.length_cons,List.cons_append];rw [show off+1+vs.length=off+(vs.length+1) by omega];rfl
def Iy(P:Program)(s x:bA):Option (bA×Nat×Nat):=match P.underlying s with
 | some (.slice e)=>match P.underlying x with
  | some (.slice _) | some .string=>match B0 P e,BZ P e,P.info? e with
   | some (_,n),some z,some i=>if n=0\/z.size≠n\/i.bytes=0 then none else some (e,n,i.bytes)
   | _,_,_=>none
  | _=>none
 | _=>none
theorem AAd(need:Nat):∀(r c:Nat),c<need->Builtin.growBy need r c<=2*need+512:=by
 intro r
 induction r with
 | zero=>intro c a;unfold Builtin.growBy;omega
 | succ r b=>
  intro c a;unfold Builtin.growBy;rw [aX U];by_cases d:c+(c+768) / 4<need
  ·exact b _ d
  ·cases r with
   | zero=>unfold Builtin.growBy;omega
   | succ r=>unfold Builtin.growBy;rw [aY U];omega
theorem Ov{need old:Nat}(h:old<need):Builtin.nextslicecap need old<=2*need+512:=by
 unfold Builtin.nextslicecap;split
 ·omega
 ·split
  ·omega
  ·exact AAd _ _ _ h
theorem VL{h:Y}{a:Option Addr}{n c:Nat}{Q:Nat->Y->Prop}(q:Q n h):(Builtin.lenOf (.slice a n c)).gh P h Q:=q
theorem G2{h:Y}{v:aZ}{n:Nat}{enc:aQ->Array aZ}{ys:List aQ}{Q:Array aZ->Y->Prop}(x:AG h v n enc ys)(q:Q (DR enc ys).toArray h):(Builtin.firstCells n ys.length v).gh P h Q:=by
 by_cases e:ys=[]
 ·subst e;obtain ⟨a,g,rfl,_,_,_⟩:=x;cases a with
  | none=>exact q
  | some a=>
   show (loadCells a (0*n)).gh P h Q;rw [Nat.zero_mul];exact q
 ·obtain ⟨b,d,g,p,c,t,f,rfl,i,j,k,_⟩:=x.cells e;show (loadCells ⟨b,d,none⟩ (ys.length*n)).gh P h Q;refine ME (a:=⟨b,d,none⟩) rfl i _ 0 #[] (by simpa using j) ?_
  have:(#[]++c.extract (d+0) (d+0+ys.length*n):Array aZ)=(DR enc ys).toArray:=by
   apply Array.ext';simp only [Array.empty_append,Nat.add_zero];exact k
  show Q (#[]++c.extract (d+0) (d+0+ys.length*n)) h;rw [this];exact q
theorem Pb{s x:bA}{o1 o2:Operand}{h0:Y}{v w:aZ}{e n bytes:Nat}{enc:aQ->Array aZ}{xs ys:List aQ}(ht:Iy P s x=some (e,n,bytes))(h1:AN O o1=v)(h2:AN O o2=w)
  (hv:AO h0 h v e n enc xs) (hw:AG h w n enc ys) (l0:∀r,h r=none->h0 r=none) (hb:(2*(xs.length+ys.length)+512)*bytes<=2 ^ 48) (hfine:∀y ∈ ys,(enc y).toList.all (·.oneCell')=true)
  (k:∀v' h',AO h0 h' v' e n enc (xs++ys)->(∀b o,h b=some o->CS v≠some b->h' b=some o)->(CS v'=CS v\/((∃r,CS v'=some r/\h r=none)/\∀b o,h b=some o->h' b=some o))->(∀b c,CS v=some b->h b=some (true,.cells c e (0,0))->∃c',h' b=some (true,.cells c' e (0,0))/\c'.size=c.size)->T (putS O dst v') ds h') :
  BR E ⟨dst,.call ⟨.builtin .append,#[o1,o2],#[s,x]⟩,ty,pos,af,gd⟩ O ds h T:=by
 refine F0 (vs:=#[v,w]) (s:=Builtin.append_ #[s,x] ty #[v,w]) (by simp [h1,h2]) (λ_=>rfl) ?_;unfold Iy at ht;cases hu:P.underlying s with
 | none=>rw [hu] at ht;cases ht
 | some d=>
 rw [hu] at ht;cases d <;> first | (cases ht;done) | skip
 rename_i u
 cases F:P.underlying x with
 | none=>rw [F] at ht;cases ht
 | some dx=>
 have hdx:dx=.string\/∃e',dx=.slice e':=by
  rw [F] at ht;cases dx <;> first | exact .inl rfl | exact .inr ⟨_,rfl⟩ | (cases ht;done)
 have f:(match B0 P u,BZ P u,P.info? u with
   | some (_,n),some z,some i=>if n=0\/z.size≠n\/i.bytes=0 then none else some (u,n,i.bytes)
   | _,_,_=>none)=some (e,n,bytes):=by
  rw [F] at ht;cases dx <;> first | exact ht | (cases ht;done)
 clear ht;cases A:B0 P u with
 | none=>rw [A] at f;cases f
 | some g=>
 obtain ⟨g1,l⟩:=g;cases W:BZ P u with
 | none=>rw [A,W] at f;cases f
 | some z=>
 cases X:P.info? u with
 | none=>rw [A,W,X] at f;cases f
 | some i=>
 rw [A,W,X] at f;simp only at f;by_cases hcond:l=0\/z.size≠l\/i.bytes=0
 ·rw [aY hcond] at f;cases f
 rw [aX hcond] at f;simp only [Option.some.injEq,Prod.mk.injEq] at f;obtain ⟨rfl,rfl,rfl⟩:=f;have hn0:0<l:=U
 have hzs:z.size=l:=U
 have B:∀y ∈ ys,(enc y).size=l:=by
  by_cases H:ys=[]
  ·subst H;simp
  ·obtain ⟨_,_,_,_,_,_,_,_,_,_,_,q⟩:=hw.cells H;exact q
 obtain ⟨wa,wcap,rfl,wlc,wml,wall⟩:=hw;have hw:AG h (.slice wa ys.length wcap) l enc ys:=⟨wa,wcap,rfl,wlc,wml,wall⟩;have hzero:∀{Q:aZ->Y->Prop}{h:Y},(∀v,v.cells=z->Q v h)->(zeroValue u).gh P h Q:=λ{Q h} q=>by
  unfold BZ at W;unfold zeroValue;rw [X] at W;simp only [Option.map_eq_some_iff] at W;obtain ⟨v,hv,e⟩:=W;refine AE _ _ (CU X ?_);rw [hv];exact q v e
 have hcells:∀y ∈ (DR enc ys),y.oneCell'=true:=λy I=>by
  unfold DR at I;rw [List.mem_flatMap] at I;obtain ⟨a,ha,hb⟩:=I;exact List.all_eq_true.1 (hfine a ha) y hb
 have K:=EV B;have hbytes:1<=i.bytes:=U
 have N:xs.length+ys.length<=140737488355328:=by
  have h2:(2*(xs.length+ys.length)+512)*1<=(2*(xs.length+ys.length)+512)*i.bytes:=Nat.mul_le_mul_left _ hbytes;omega
 obtain ⟨base,sCap,rfl,hcase⟩:∃base sCap,v=.slice base xs.length sCap/\((base=none/\xs=[]/\sCap=0)\/∃b c,base=some ⟨b,0,none⟩/\h0 b=none/\h b=some (true,.cells c u (0,0))/\c.size=sCap*l/\xs.length<=sCap/\xs.length<=140737488355328/\c.toList.take (xs.length*l)=DR enc xs/\∀x ∈ xs,(enc x).size=l):=by
  rcases hv with ⟨rfl,rfl⟩ | ⟨b,cap,c,rfl,q⟩
  ·exact ⟨none,0,rfl,.inl ⟨rfl,rfl,rfl⟩⟩
  ·exact ⟨_,cap,rfl,.inr ⟨b,c,rfl,q⟩⟩
 have hsl:=hv.sl;unfold Builtin.append_;simp only [List.getElem?_toArray,List.getElem?_cons_zero,List.getElem?_cons_succ];refine AE _ _ (Ai hu ?_);dsimp only;refine AE _ _ (Dq A ?_);refine AE _ _ (Ai F ?_);refine AE _ _ (FH _ (Q:=λz h'=>z=false/\h'=h) (λz h' q=>?_) h (by rcases hdx with rfl | ⟨e',rfl⟩ <;> exact ⟨rfl,rfl⟩));obtain ⟨rfl,hq⟩:=q;rw [hq];clear hq h';rw [aX aC];refine AE _ _ (VL ?_);by_cases hroom:xs.length+ys.length<=sCap
 ·rw [aY hroom];show Sem.gh P _ h _;simp only [Bool.not_false,if_true];refine AE _ _ (G2 hw ?_);rcases hcase with ⟨rfl,rfl,rfl⟩ | ⟨b,c,rfl,c1,c2,c3,c4,cm,c5,c6⟩
  ·have:ys=[]:=by simpa using hroom
   subst this;refine AE _ _ (Ak ?_);refine Ak ?_;exact k _ h (.inl ⟨rfl,rfl⟩) (λb o hb _=>hb) (.inl rfl) (λb c hb _=>by cases hb)
  ·dsimp only;rw [Il];have C:0+xs.length*l+(DR enc ys).length<=c.size:=by
    rw [K,c3,Nat.zero_add,<-Nat.add_mul];exact Nat.mul_le_mul_right _ hroom
   refine AE _ _ (G1 (a:=⟨b,0+xs.length*l,none⟩) rfl _ 0 c h ?_ c2 (by simpa using C) ?_)
   ·intro y I;exact hcells y (by simpa using I)
   ·refine Ak ?_;refine k _ _ (.inr ⟨b,sCap,_,by rw [List.length_append],c1,Y.set_same _ _ _ _,by rw [G0];exact c3,by rw [List.length_append];exact hroom,by rw [List.length_append];exact N,?_,?_⟩) ?_ (.inl rfl) (λb' c' j D=>?_)
    ·simp only [Nat.zero_add,Nat.add_zero] at C ⊢;rw [Eg _ _ _ C,J3,List.length_append,Nat.add_mul,<-K,c5];have M:=EV c6;rw [<-M,<-List.length_append,List.take_append_of_le_length (Nat.le_refl _),List.take_length]
    ·intro y I;rcases List.mem_append.1 I with q | q
     ·exact c6 y q
     ·exact B y q
    ·intro b' o j H
     have:b'≠b:=λe=>H (by subst e;rfl)
     rw [Y.set_ne _ _ _ this];exact j
    ·cases j;rw [c2] at D;cases D;exact ⟨_,Y.set_same _ _ _ _,by rw [G0]⟩
 ·rw [aX hroom];refine AE _ _ (CU X ?_);have hneed:xs.length+ys.length<=2 ^ 48:=by
   have h1:1<=i.bytes:=U
   have h2:(2*(xs.length+ys.length)+512)*1<=(2*(xs.length+ys.length)+512)*i.bytes:=Nat.mul_le_mul_left _ h1;omega
  have hmax:IntKind.i64.max=9223372036854775807:=by rfl
  rw [aX (by rw [hmax];omega)];refine AE _ _ (CU X ?_);have hcap:Builtin.nextslicecap (xs.length+ys.length) sCap*i.bytes<=2 ^ 48:=Nat.le_trans (Nat.mul_le_mul_right _ (Ov U)) hb;rw [aX U];refine AE _ _ ⟨λhfo=>(by cases hfo),λ_ t=>?_⟩;show Sem.gh P _ h _;have hnc:xs.length+ys.length<=Question.cut (.appendCap (xs.length+ys.length) sCap u) t:=by
   show xs.length+ys.length<=xs.length+ys.length+_;omega
  generalize Question.cut (.appendCap (xs.length+ys.length) sCap u) t=newCap at hnc ⊢;refine AE _ _ (CU X ?_);refine AE _ _ ?_;have hask:∀(m:Nat)(Q:Unit->Y->Prop),Q () h->(askRoom m).gh P h Q:=λm Q q=>by
   unfold askRoom;split
   ·exact ⟨rfl,q⟩
   ·exact q
  refine hask _ _ ?_;refine AE _ _ (G2 hsl ?_);simp only [Bool.not_false,if_true];refine AE _ _ (G2 hw ?_);refine AE _ _ (hzero λvz hvz=>?_);rw [hvz];refine AE _ _ ?_;unfold newRow;refine AE _ _ (λr hr=>?_);refine Ak (Ak ?_);have R:∀x ∈ xs,(enc x).size=l:=by
   rcases hcase with ⟨_,rfl,_⟩ | ⟨_,_,_,_,_,_,_,_,_,q⟩
   ·simp
   ·exact q
  have M:=EV R;refine k _ _ (.inr ⟨r,newCap,_,by rw [List.length_append],l0 _ hr,Y.set_same _ _ _ _,?_,by rw [List.length_append];exact hnc,by rw [List.length_append];exact N,?_,?_⟩) (λb o j _=>?_) (.inr ⟨⟨r,rfl,hr⟩,λb o j=>by rw [Y.set_ne _ _ _ (Y.ne_of (p:=o.1) (o:=o.2) j hr)];exact j⟩) (λb c' _ D=>⟨c',by rw [Y.set_ne _ _ _ (Y.ne_of D hr)];exact D,rfl⟩)
  ·simp only [Array.size_append,List.size_toArray,Builtin.zeroCells,Array.size_map,Array.size_range,M,K,hzs];rw [<-Nat.add_mul,<-Nat.add_mul];congr 1;omega
  ·simp only [Array.toList_append];rw [J3,List.length_append,Nat.add_mul,<-M,<-K,<-List.length_append,List.take_append_of_le_length (Nat.le_refl _),List.take_length]
  ·intro y I;rcases List.mem_append.1 I with q | q
   ·exact R y q
   ·exact B y q
  ·rw [Y.set_ne _ _ _ (Y.ne_of (p:=o.1) (o:=o.2) j hr)];exact j
theorem AAe{s x:bA}{o1 o2:Operand}{h0:Y}{v w:aZ}{e n bytes:Nat}{enc:aQ->Array aZ}{xs ys:List aQ}(ht:Iy P s x=some (e,n,bytes))(h1:AN O o1=v)(h2:AN O o2=w)
  (hv:AO h0 h v e n enc xs) (hw:AG h w n enc ys) (l0:∀r,h r=none->h0 r=none) (hb:(2*(xs.length+ys.length)+512)*bytes<=2 ^ 48) (hfine:∀y ∈ ys,(enc y).toList.all (·.oneCell')=true)
  (k:∀v' h',AO h0 h' v' e n enc (xs++ys)->(∀b o,h b=some o->CS v≠some b->h' b=some o)->(CS v'=CS v\/((∃r,CS v'=some r/\h r=none)/\∀b o,h b=some o->h' b=some o))->T (putS O dst v') ds h') :
  BR E ⟨dst,.call ⟨.builtin .append,#[o1,o2],#[s,x]⟩,ty,pos,af,gd⟩ O ds h T:=
 Pb ht h1 h2 hv hw l0 hb hfine λv' h' a b c _=>k v' h' a b c
end
end Go.Ns
namespace Go.Ns
open Go.Conc
section
variable {P:Program} {E:Gb P} {O:Nat->aZ} {ds:List Deferred} {h:Y} {T:(Nat->aZ)->List Deferred->Y->Prop}
variable {dst:Option Nat} {ty:bA} {pos:String} {af:Array Edge} {gd:Option (Nat×Bool)}
variable {aQ:Type}
theorem Ju{op:BinOp}{t:bA}{x y:Operand}{a b:aZ}{Q:Unit->Y->Prop}{h:Y}(ho:(match op with | .eql=>false | .neq=>false | _=>true)=true)(q:Q () h):(eqGuard op t x y a b).gh P h Q:=by
 unfold eqGuard;cases op <;> first | (cases ho;done) | exact q
theorem DS{k:IntKind}{i:Int}{y:Nat}{code:BoundsCode}{h:Y}{Q:Nat->Y->Prop}(h0:0<=i)(h1:i<=y)(q:Q i.toNat h):(Instr.sliceBound (.int k i) y code).gh P h Q:=by
 unfold Instr.sliceBound;refine AE _ _ (Ak ?_);show Sem.gh P (if 0<=i/\i<=(y:Int) then _ else _) h Q;rw [aY ⟨h0,h1⟩];exact q
theorem AG.part{h:Y}{n:Nat}{enc:aQ->Array aZ}{xs:List aQ}{a:Option Addr}{cap lo hi:Nat}(x:AG h (.slice a xs.length cap) n enc xs)(hlo:lo<=hi)(hhi:hi<=xs.length) :
  AG h (.slice (if cap=lo then a else a.map (·.add (lo*n))) (hi-lo) (cap-lo)) n enc ((xs.take hi).drop lo):=by
 obtain ⟨o,g,f,p,q,j⟩:=x;cases f;have c:((xs.take hi).drop lo).length=hi-lo:=by simp;omega
 refine ⟨_,cap-lo,by rw [c],U,U,λi d=>?_⟩;rw [c] at d;obtain ⟨b,e,k,l⟩:=j (lo+i) U;subst k;have m:((xs.take hi).drop lo)[i]'(by rw [c];exact d)=xs[lo+i]' U:=aD
 rw [m,aX U];refine ⟨b,e+lo*n,by simp [Il],?_⟩;rw [Nat.add_assoc e,<-Nat.add_mul];exact l
theorem Pc{t:bA}{x:Operand}{olo ohi:Option Operand}{n:Nat}{enc:aQ->Array aZ}{xs:List aQ}{v:aZ}(lo hi:Nat)(ht:D0 P t=some n)(hs:AG h v n enc xs)(hx:AN O x=v)
  (hlo:match olo with | none=>lo=0 | some o=>∃kd,AN O o=.int kd lo) (hhi:match ohi with | none=>hi=xs.length | some o=>∃kd,AN O o=.int kd hi) (h1:lo<=hi) (h2:hi<=xs.length)
  (k:∀v',AG h v' n enc ((xs.take hi).drop lo)->T (putS O dst v') ds h):BR E ⟨dst,.slice t x olo ohi none,ty,pos,af,gd⟩ O ds h T:=by
 have f:=hs;obtain ⟨a,b,rfl,l,_,_⟩:=f;unfold BR execOp;simp only [hx];refine Fg ?_;unfold D0 at ht;unfold Instr.sliceAt;cases c:P.underlying t with
 | none=>rw [c] at ht;cases ht
 | some d=>
  rw [c] at ht;cases d <;> first | (cases ht;done) | skip
  rename_i e
  simp only at ht;refine AE _ _ (Ai c ?_);dsimp only;unfold Instr.slice;refine AE _ _ (Ai c ?_);dsimp only;have i:∀(Q:Nat×Nat×Nat->Y->Prop),Q (lo,hi,b) h->(Instr.sliceBounds true xs.length b (olo.map (AN O)) (ohi.map (AN O)) none).gh P h Q:=λQ q=>by
   unfold Instr.sliceBounds;cases ohi with
   | none=>
    simp only at hhi;subst hhi;cases olo with
    | none=>simp only at hlo;subst hlo;exact q
    | some o=>
     obtain ⟨kd,e⟩:=hlo;simp only [Option.map_some,e];refine AE _ _ (Ak (AE _ _ (Ak ?_)));exact AE _ _ (DS U U (by simp only [Int.toNat_natCast];exact q))
   | some m=>
    obtain ⟨j,g⟩:=hhi;cases olo with
    | none=>
     simp only at hlo;subst hlo;simp only [Option.map_some,g];refine AE _ _ (Ak (AE _ _ (DS U U ?_)));exact q
    | some o=>
     obtain ⟨kd,e⟩:=hlo;simp only [Option.map_some,e,g];refine AE _ _ (Ak (AE _ _ (DS U U ?_)));exact AE _ _ (DS U (by simpa using h1) (by simp only [Int.toNat_natCast];exact q))
  refine AE _ _ (i _ ?_);dsimp only;refine AE _ _ (Fy ht (Ak ?_));exact k _ (hs.part h1 h2)
theorem Kk{t:bA}{x:Operand}{olo ohi:Option Operand}{n len cap:Nat}{a:Option Addr}(lo hi:Nat)(ht:D0 P t=some n)(hc:len<=cap)(hx:AN O x=.slice a len cap)
  (hlo:match olo with | none=>lo=0 | some o=>∃kd,AN O o=.int kd lo) (hhi:match ohi with | none=>hi=len | some o=>∃kd,AN O o=.int kd hi) (h1:lo<=hi) (h2:hi<=len)
  (k:T (putS O dst (.slice (if cap=lo then a else a.map (·.add (lo*n))) (hi-lo) (cap-lo))) ds h):BR E ⟨dst,.slice t x olo ohi none,ty,pos,af,gd⟩ O ds h T:=by
 unfold BR execOp;simp only [hx];refine Fg ?_;unfold D0 at ht;unfold Instr.sliceAt;cases b:P.underlying t with
 | none=>rw [b] at ht;cases ht
 | some d=>
  rw [b] at ht;cases d <;> first | (cases ht;done) | skip
  rename_i e
  simp only at ht;refine AE _ _ (Ai b ?_);dsimp only;unfold Instr.slice;refine AE _ _ (Ai b ?_);dsimp only;have f:∀(Q:Nat×Nat×Nat->Y->Prop),Q (lo,hi,cap) h->(Instr.sliceBounds true len cap (olo.map (AN O)) (ohi.map (AN O)) none).gh P h Q:=λQ q=>by
   unfold Instr.sliceBounds;cases ohi with
   | none=>
    simp only at hhi;subst hhi;cases olo with
    | none=>simp only at hlo;subst hlo;exact q
    | some o=>
     obtain ⟨kd,e⟩:=hlo;simp only [Option.map_some,e];refine AE _ _ (Ak (AE _ _ (Ak ?_)));exact AE _ _ (DS U U (by simp only [Int.toNat_natCast];exact q))
   | some i=>
    obtain ⟨g,c⟩:=hhi;cases olo with
    | none=>
     simp only at hlo;subst hlo;simp only [Option.map_some,c];refine AE _ _ (Ak (AE _ _ (DS U U ?_)));exact q
    | some o=>
     obtain ⟨kd,e⟩:=hlo;simp only [Option.map_some,e,c];refine AE _ _ (Ak (AE _ _ (DS U U ?_)));exact AE _ _ (DS U (by simpa using h1) (by simp only [Int.toNat_natCast];exact q))
  refine AE _ _ (f _ ?_);dsimp only;refine AE _ _ (Fy ht (Ak ?_));exact k
theorem VM{t:bA}{x:Operand}{m n b off:Nat}(ht:J2 P t=some (m,n))(hx:AN O x=.pointer (some ⟨b,off,none⟩))(k:T (putS O dst (.slice (some ⟨b,off,none⟩) m m)) ds h) :
  BR E ⟨dst,.slice t x none none none,ty,pos,af,gd⟩ O ds h T:=by
 unfold BR execOp;simp only [hx];refine Fg ?_;unfold J2 at ht;unfold Instr.sliceAt;cases a:P.underlying t with
 | none=>rw [a] at ht;cases ht
 | some d=>
  rw [a] at ht;cases d <;> first | (cases ht;done) | skip
  rename_i e
  simp only [Option.map_eq_some_iff,Prod.mk.injEq] at ht;obtain ⟨f,c,rfl,rfl⟩:=ht;refine AE _ _ (Ai a ?_);dsimp only;refine AE _ _ (Ak ?_);unfold Instr.sliceBounds;simp only [Bool.false_eq_true,↓reduceIte];refine AE _ _ (AE _ _ (Ak (AE _ _ (Ak (AE _ _ (Ak (Ak ?_)))))));refine AE _ _ (Dq c (Ak ?_));simp only [Nat.sub_zero,Nat.zero_mul,Il,Nat.add_zero,ite_self];exact k
theorem JK{xt yt:bA}{x y:Operand}{kd ke:IntKind}{a b r:Int}(hx:AN O x=.int kd a)(hy:AN O y=.int ke b)(h0:0<=b)(hr:a.fdiv (2 ^ (min b.toNat kd.bits))=r)(k:T (putS O dst (.int kd r)) ds h) :
  BR E ⟨dst,.binOp .shr xt x y yt,ty,pos,af,gd⟩ O ds h T:=by
 subst hr;unfold BR execOp;simp only [hx,hy];refine Fg (AE _ _ ?_);refine Ju rfl ?_;show Sem.gh P (if b<0 then _ else _) h _;rw [aX U];exact k
theorem ok_shl{xt yt:bA}{x y:Operand}{kd ke:IntKind}{a b r:Int}(hx:AN O x=.int kd a)(hy:AN O y=.int ke b)(h0:0<=b)(hr:kd.wrap (a*2 ^ (min b.toNat kd.bits))=r)(k:T (putS O dst (.int kd r)) ds h) :
  BR E ⟨dst,.binOp .shl xt x y yt,ty,pos,af,gd⟩ O ds h T:=by
 subst hr;unfold BR execOp;simp only [hx,hy];refine Fg (AE _ _ ?_);refine Ju rfl ?_;show Sem.gh P (if b<0 then _ else _) h _;rw [aX U];exact k
theorem Zw{xt yt:bA}{x y:Operand}{a:Int}(hx:AN O x=.int .i64 a)(hy:AN O y=.int .i64 1)(h0:0<=a)(h1:a<=9223372036854775807)(k:T (putS O dst (.int .i64 (a%2))) ds h) :
  BR E ⟨dst,.binOp .and xt x y yt,ty,pos,af,gd⟩ O ds h T:=HW hx hy (by
 show (pure (Value.int .i64 (IntKind.i64.wrap ((BitVec.ofInt 64 a &&& BitVec.ofInt 64 1).toNat))):Sem aZ)=_;obtain ⟨n,rfl⟩:=Int.eq_ofNat_of_zero_le h0
 have:(BitVec.ofInt 64 (n:Int) &&& BitVec.ofInt 64 1).toNat=n%2:=by
  rw [BitVec.toNat_and];have b:(BitVec.ofInt 64 (n:Int)).toNat=n:=by
   rw [BitVec.toNat_ofInt];omega
  have c:(BitVec.ofInt 64 1).toNat=1:=aC
  rw [b,c,Nat.and_one_is_mod]
 rw [this,IntWalk.i64_in _ U];congr 2) k
def bytesOf(s:bB):List Int:=s.data.toList.map λb=>(b.toNat:Int)
theorem C5(s:bB):(bytesOf s).length=s.size:=by
 unfold bytesOf;rw [List.length_map,Array.length_toList];rfl
def s2bOf(P:Program)(s t:bA):Option bA:=match P.underlying s,P.underlying t with
 | some .string,some (.slice e)=>match P.underlying e with
  | some (.int .u8)=>some e
  | _=>none
 | _,_=>none
theorem ok_convS{s t e:bA}{x:Operand}{a:bB}(hc:s2bOf P s t=some e)(hx:AN O x=.string a)(hs:a.size<=140737488355328)
  (k:∀v h',h.Le h'->AG h' v 1 (λi:Int=>#[.int .u8 i]) (bytesOf a)->T (putS O dst v) ds h'):BR E ⟨dst,.convert s t x,ty,pos,af,gd⟩ O ds h T:=by
 unfold BR execOp;simp only [hx];refine Fg ?_;unfold s2bOf at hc;unfold convert;cases g:P.underlying s with
 | none=>rw [g] at hc;cases hc
 | some d=>
 cases j:P.underlying t with
 | none=>rw [g,j] at hc;cases d <;> cases hc
 | some A=>
 rw [g,j] at hc;cases d <;> first | (cases hc;done) | skip
 cases A <;> first | (cases hc;done) | skip
 rename_i B
 simp only at hc;cases l:P.underlying B with
 | none=>rw [l] at hc;cases hc
 | some C=>
 rw [l] at hc;cases C <;> first | (cases hc;done) | skip
 rename_i D
 cases D <;> first | (cases hc;done) | skip
 cases hc;refine AE _ _ (Ai g (AE _ _ (Ai j ?_)));dsimp only;refine AE _ _ (Ai l ?_);dsimp only;unfold Conv.stringToBytes;refine AE _ _ ⟨λm=>(by cases m),λ_ y=>?_⟩;show Sem.gh P _ h _;have c:a.size<=Question.cut (.appendCap a.size 0 e) y:=by
  show a.size<=a.size+_;omega
 generalize Question.cut (.appendCap a.size 0 e) y=n at c ⊢;refine AE _ _ ?_;unfold newRow;refine AE _ _ (λr z=>?_);refine Ak ?_;refine AE _ _ ?_;unfold markStringish;refine AE _ _ ⟨true,_,_,_,Y.set_same _ _ _ _,?_⟩;refine .inr ⟨aC,_,_,_,Y.set_same _ _ _ _,?_⟩;refine Ak (Ak ?_);have f:(a.data.map λb=>(Value.int .u8 b.toNat)).size=a.size:=by rw [Array.size_map];rfl
 refine k _ _ (λb p o q=>⟨o,?_,.inl rfl⟩) ⟨some ⟨r,0,none⟩,n,by rw [C5],by rw [C5];exact c,by rw [C5];exact hs,λi u=>⟨r,0,rfl,true,_,_,_,Y.set_same _ _ _ _,?_,?_⟩⟩
 ·rw [Y.set_ne _ _ _ (Y.ne_of q z),Y.set_ne _ _ _ (Y.ne_of q z)];exact q
 ·rw [C5] at u;rw [Array.size_append,f];omega
 ·rw [C5] at u;have w:i<a.data.size:=u;apply Array.ext';rw [Array.toList_extract,List.extract_eq_take_drop,Array.toList_append,Nat.zero_add,Nat.mul_one,show i+1-i=1 by omega];have F:i<(a.data.map λb=>(Value.int .u8 b.toNat)).toList.length:=by simpa using w
  rw [List.drop_append_of_le_length U,List.drop_eq_getElem_cons F,List.cons_append,List.take_succ_cons,List.take_zero];simp [bytesOf]
theorem Sf{t:bA}{x ix:Operand}{s:bB}{kd:IntKind}{i:Int}(ht:PW P t=true)(hx:AN O x=.string s)(hi:AN O ix=.int kd i)(h0:0<=i)(h1:i<s.size)(k:T (putS O dst (.int .u8 ((s[i.toNat]' U).toNat:Int))) ds h) :
  BR E ⟨dst,.index t x ix,ty,pos,af,gd⟩ O ds h T:=by
 unfold BR execOp;simp only [hx,hi];refine Fg ?_;unfold PW at ht;unfold Instr.index;cases a:P.underlying t with
 | none=>rw [a] at ht;cases ht
 | some d=>
  rw [a] at ht;refine AE _ _ (Ak ?_);refine AE _ _ (Ai a ?_);cases d <;> first | (cases ht;done) | skip
  dsimp only;rw [aY h0]
  have:s[i.toNat]? =some (s[i.toNat]' U):=by
   rw [getElem?_pos]
  rw [this];exact k
theorem Zx{t:bA}{a:Bool}{n off:Nat}{cs:Array aZ}{v:aZ}{h:Y}{Q:aZ->Y->Prop}(ht:B0 P t=some (a,n))(hv:(if a then some (.agg (cs.extract off (off+n))) else cs[off]?)=some v)(q:Q v h):(part t cs off).gh P h Q:=by
 unfold part;refine AE _ _ (PR ht ?_);cases a with
 | true=>
  simp only [if_true,Option.some.injEq] at hv ⊢;subst hv;exact AE _ _ (Dq ht (Ak q))
 | false=>
  simp only [Bool.false_eq_true,if_false] at hv ⊢;rw [hv];exact q
def VN(P:Program)(t:bA):Option (Nat×Bool×Nat):=match P.underlying t with
 | some (.array m e)=>(B0 P e).map λx=>(m,x.1,x.2)
 | _=>none
theorem NH{t:bA}{x ix:Operand}{cs:Array aZ}{kd:IntKind}{i:Int}{m n:Nat}{a:Bool}{v:aZ}(ht:VN P t=some (m,a,n))(hx:AN O x=.agg cs)(hi:AN O ix=.int kd i)(h0:0<=i)(h1:i<m)
  (hv:(if a then some (.agg (cs.extract (i.toNat * n) (i.toNat * n+n))) else cs[i.toNat * n]?)=some v) (k:T (putS O dst v) ds h):BR E ⟨dst,.index t x ix,ty,pos,af,gd⟩ O ds h T:=by
 unfold BR execOp;simp only [hx,hi];refine Fg ?_;unfold VN at ht;unfold Instr.index;cases c:P.underlying t with
 | none=>rw [c] at ht;cases ht
 | some d=>
  rw [c] at ht;refine AE _ _ (Ak ?_);refine AE _ _ (Ai c ?_);cases d <;> first | (cases ht;done) | skip
  rename_i f e
  simp only [Option.map_eq_some_iff,Prod.mk.injEq] at ht;obtain ⟨g,b,rfl,rfl,rfl⟩:=ht;dsimp only;rw [aY ⟨h0,h1⟩];refine AE _ _ (Dq b ?_);exact Zx b hv k
theorem ok_copy{s x:bA}{o1 o2:Operand}{b off dl cap n:Nat}{e:bA}{enc:aQ->Array aZ}{ys:List aQ}{w:aZ}{c:Array aZ}(ht:D0 P s=some n)(h1:AN O o1=.slice (some ⟨b,off,none⟩) dl cap)(h2:AN O o2=w)
  (hb:h b=some (true,.cells c e (0,0))) (hn:off+dl*n<=c.size) (hw:AG h w n enc ys) (hl:ys.length<=dl) (hfine:∀y ∈ ys,(enc y).toList.all (·.oneCell')=true) (hsz:∀y ∈ ys,(enc y).size=n)
  (k:T (putS O dst (.int .i64 ys.length)) ds (h.set b true (.cells (BU c off (DR enc ys)) e (0,0)))) :
  BR E ⟨dst,.call ⟨.builtin .copy,#[o1,o2],#[s,x]⟩,ty,pos,af,gd⟩ O ds h T:=by
 refine F0 (vs:=#[.slice (some ⟨b,off,none⟩) dl cap,w]) (s:=Builtin.copy_ #[s,x] ty #[.slice (some ⟨b,off,none⟩) dl cap,w]) (by simp [h1,h2]) (λ_=>rfl) ?_;unfold D0 at ht;cases i:P.underlying s with
 | none=>rw [i] at ht;cases ht
 | some d=>
 rw [i] at ht;cases d <;> first | (cases ht;done) | skip
 rename_i t
 simp only at ht;have j:=hw;obtain ⟨u,wcap,rfl,m,o,wall⟩:=j;unfold Builtin.copy_;simp only [List.getElem?_toArray,List.getElem?_cons_zero,List.getElem?_cons_succ];refine AE _ _ (Ai i ?_);dsimp only;refine AE _ _ (VL ?_);refine AE _ _ (Fy ht ?_);have f:Nat.min ys.length dl=ys.length:=Nat.min_eq_left hl;rw [f];refine AE _ _ (G2 hw ?_);have p:=EV hsz;have q:ys.length*n<=dl*n:=Nat.mul_le_mul_right n hl;refine AE _ _ (G1 (a:=⟨b,off,none⟩) rfl _ 0 c h ?_ hb (by simp only [List.toList_toArray];omega) ?_)
 ·intro y g;simp only [List.toList_toArray] at g;unfold DR at g;rw [List.mem_flatMap] at g;obtain ⟨a,r,l⟩:=g;exact List.all_eq_true.1 (hfine a r) y l
 ·refine Ak ?_;simpa [goInt] using k
end
end Go.Ns
namespace Go.Ns
open Go.Conc
section
variable {P:Program} {E:Gb P} {O:Nat->aZ} {ds:List Deferred} {h:Y} {T:(Nat->aZ)->List Deferred->Y->Prop}
variable {dst:Option Nat} {ty:bA} {pos:String} {af:Array Edge} {gd:Option (Nat×Bool)}
def H6(P:Program)(t:bA)(cs:Array aZ)(off:Nat):Option aZ:=match B0 P t with
 | some (true,n)=>some (.agg (cs.extract off (off+n)))
 | some (false,_)=>cs[off]?
 | none=>none
def JL:List (Option Bool)->Option Bool
 | []=>some true
 | some b ::l=>match JL l with
  | some c=>some (b && c)
  | none=>none
 | none ::_=>none
def Pd(P:Program):Nat->bA->aZ->aZ->Option Bool
 | 0,_,_,_=>none
 | d+1,t,x,y=>match P.underlying t,x,y with
  | some .bool,.bool a,.bool b=>some (a==b)
  | some (.int _),.int k a,.int k' b=>if k=k' then some (a==b) else none
  | some .string,.string a,.string b=>some (a==b)
  | some (.struct fields),.agg xs,.agg ys=>if P.stoodInHeld t then none else
   JL (fields.toList.map λf=>if f.name≠ "_" then match H6 P f.type xs f.offset,H6 P f.type ys f.offset with
    | some u,some v=>Pd P d f.type u v
    | _,_=>none else some true)
  | some (.array len e),.agg xs,.agg ys=>match B0 P e with
   | some (_,n)=>JL ((List.range' 0 len).map λi=>match H6 P e xs (i*n),H6 P e ys (i*n) with
    | some u,some v=>Pd P d e u v
    | _,_=>none)
   | none=>none
  | _,_,_=>none
theorem H7{t:bA}{cs:Array aZ}{off:Nat}{v:aZ}{h:Y}{Q:aZ->Y->Prop}(e:H6 P t cs off=some v)(q:Q v h):(part t cs off).gh P h Q:=by
 unfold H6 at e;cases b:B0 P t with
 | none=>rw [b] at e;cases e
 | some x=>
  obtain ⟨a,n⟩:=x;rw [b] at e;refine Zx b ?_ q;cases a <;> simpa using e
theorem VO{aQ:Type}{h:Y}(body:aQ->Option Bool×Unit->Sem (ForInStep (Option Bool×Unit)))(f:aQ->Option Bool)
  (hb:∀a r (Q:ForInStep (Option Bool×Unit)->Y->Prop),f a=some r->Q (if r then .yield (none,()) else .done (some false,())) h->(body a (none,())).gh P h Q) :
  ∀(l:List aQ)(r:Bool)(Q:Option Bool×Unit->Y->Prop),JL (l.map f)=some r->Q (if r then (none,()) else (some false,())) h->(forIn l ((none,()):Option Bool×Unit) body).gh P h Q:=by
 intro l
 induction l with
 | nil=>intro r Q e q;simp [JL] at e;subst e;exact q
 | cons a l i=>
  intro r Q e q;rw [List.forIn_cons];rw [List.map_cons] at e;cases d:f a with
  | none=>rw [d] at e;cases e
  | some b=>
   rw [d] at e;simp only [JL] at e;cases g:JL (l.map f) with
   | none=>rw [g] at e;cases e
   | some c=>
    rw [g] at e;simp only [Option.some.injEq] at e;refine AE _ _ (hb a b _ d ?_);cases b with
    | true=>
     simp only [Bool.true_and] at e;subst e;exact i c Q g q
    | false=>
     simp only [Bool.false_and] at e;subst e;exact q
theorem JM:∀(d D:Nat)(t:bA)(x y:aZ)(r:Bool)(h:Y)(Q:Bool->Y->Prop),d<=D->Pd P d t x y=some r->Q r h->(Op.equalIn D t x y).gh P h Q:=by
 intro d
 induction d with
 | zero=>intro D t x y r h Q _ e;cases e
 | succ d ih=>
  intro D t x y r h Q hD e q;obtain ⟨D,rfl⟩:∃D',D=D'+1:=⟨D-1,U⟩;unfold Pd at e;unfold Op.equalIn;cases hu:P.underlying t with
  | none=>rw [hu] at e;cases e
  | some ty=>
   rw [hu] at e;refine AE _ _ (Ai hu ?_);cases ty with
   | bool=>cases x <;> first | (cases e;done) | (cases y <;> first | (cases e;done) | (cases e;exact q))
   | string=>cases x <;> first | (cases e;done) | (cases y <;> first | (cases e;done) | (cases e;exact q))
   | int k=>
    cases x <;> first | (cases e;done) | skip
    cases y <;> first | (cases e;done) | skip
    simp only at e;split at e
    ·rename_i hk
     cases e;show Sem.gh P (if _ then _ else _) h Q;rw [aY hk];exact q
    ·cases e
   | struct fields=>
    cases x <;> first | (cases e;done) | skip
    cases y <;> first | (cases e;done) | skip
    rename_i xs ys
    simp only at e;split at e
    ·cases e
    rename_i hst
    show Sem.gh P (bind program _) h Q;refine AE _ _ ?_;show Sem.gh P (if P.stoodInHeld t then _ else _) h Q;rw [aX hst];rw [<-Array.forIn_toList];refine AE _ _ (VO _ _ (λf b Q' hf q'=>?_) fields.toList r _ e ?_)
    ·by_cases hn:f.name≠ "_"
     ·rw [aY hn] at hf ⊢;cases h1:H6 P f.type xs f.offset with
      | none=>rw [h1] at hf;cases hf
      | some u=>
       cases h2:H6 P f.type ys f.offset with
       | none=>rw [h1,h2] at hf;cases hf
       | some v=>
        rw [h1,h2] at hf;refine AE _ _ (H7 h1 ?_);refine AE _ _ (H7 h2 ?_);refine AE _ _ (ih D f.type u v b h _ U hf ?_);cases b <;> exact q'
     ·rw [aX hn] at hf ⊢;cases hf;exact q'
    ·cases r <;> exact q
   | array len el=>
    cases x <;> first | (cases e;done) | skip
    cases y <;> first | (cases e;done) | skip
    rename_i xs ys
    simp only at e;cases ht:B0 P el with
    | none=>rw [ht] at e;cases e
    | some z=>
     obtain ⟨a,n⟩:=z;rw [ht] at e;simp only at e;show Sem.gh P (bind (sizeOf el) _) h Q;refine AE _ _ (Dq ht ?_);rw [Std.Legacy.Range.forIn_eq_forIn_range'];rw [show List.range' (Std.Legacy.Range.mk 0 len 1 aC).start (Std.Legacy.Range.mk 0 len 1 aC).size (Std.Legacy.Range.mk 0 len 1 aC).step=List.range' 0 len from by simp [Std.Legacy.Range.size]];refine AE _ _ (VO _ _ (λi b Q' hf q'=>?_) (List.range' 0 len) r _ e ?_)
     ·cases h1:H6 P el xs (i*n) with
      | none=>rw [h1] at hf;cases hf
      | some u=>
       cases h2:H6 P el ys (i*n) with
       | none=>rw [h1,h2] at hf;cases hf
       | some v=>
        rw [h1,h2] at hf;refine AE _ _ (H7 h1 ?_);refine AE _ _ (H7 h2 ?_);refine AE _ _ (ih D el u v b h _ U hf ?_);cases b <;> exact q'
     ·cases r <;> exact q
   | _=>cases x <;> cases y <;> cases e
theorem N4{op:BinOp}{t:bA}{x y:Operand}{xs ys:Array aZ}{h:Y}{Q:Unit->Y->Prop}(hg:P.eqGuardType P.depth t=false)(q:Q () h):(eqGuard op t x y (.agg xs) (.agg ys)).gh P h Q:=by
 have a:∀s,(do
   if !(<-program).eqGuardType (<-program).depth t then return
   if<-Op.eqGuardIn Op.maxDepth t (.agg xs) (.agg ys) then unsupported (.noEntry s):Sem Unit).gh P h Q:=by
  intro s;refine AE _ _ ?_;show Sem.gh P _ h _;refine AE _ _ ?_;show Sem.gh P (if !(P.eqGuardType P.depth t) then _ else _) h _;rw [hg];exact q
 unfold eqGuard;cases op <;> first | exact q | exact a _
theorem Zy{xt yt:bA}{x y:Operand}{xs ys:Array aZ}{r:Bool}(d:Nat)(hd:Nat.ble d 10000=true)(hg:P.eqGuardType P.depth xt=false)(hx:AN O x=.agg xs)(hy:AN O y=.agg ys)(he:Pd P d xt (.agg xs) (.agg ys)=some r)
  (k:T (putS O dst (.bool r)) ds h):BR E ⟨dst,.binOp .eql xt x y yt,ty,pos,af,gd⟩ O ds h T:=by
 unfold BR execOp;simp only [hx,hy];refine Fg (AE _ _ (N4 hg ?_));show Sem.gh P (do pure (Value.bool (<-Op.equal xt (.agg xs) (.agg ys))):Sem aZ) h _;refine AE _ _ ?_;exact JM d _ _ _ _ r h _ (Nat.le_of_ble_eq_true hd) he k
theorem Km{xt yt:bA}{x y:Operand}{xs ys:Array aZ}{r:Bool}(d:Nat)(hd:Nat.ble d 10000=true)(hg:P.eqGuardType P.depth xt=false)(hx:AN O x=.agg xs)(hy:AN O y=.agg ys)(he:Pd P d xt (.agg xs) (.agg ys)=some r)
  (k:T (putS O dst (.bool (!r))) ds h):BR E ⟨dst,.binOp .neq xt x y yt,ty,pos,af,gd⟩ O ds h T:=by
 unfold BR execOp;simp only [hx,hy];refine Fg (AE _ _ (N4 hg ?_));show Sem.gh P (do pure (Value.bool (!(<-Op.equal xt (.agg xs) (.agg ys)))):Sem aZ) h _;refine AE _ _ ?_;exact JM d _ _ _ _ r h _ (Nat.le_of_ble_eq_true hd) he k
end
end Go.Ns
namespace Go.Ns
open Go.Conc
section
variable {P:Program} {E:Gb P} {O:Nat->aZ} {ds:List Deferred} {h:Y} {T:(Nat->aZ)->List Deferred->Y->Prop}
variable {dst:Option Nat} {ty:bA} {pos:String} {af:Array Edge} {gd:Option (Nat×Bool)}
def Jv(f:aZ->Bool):List MapEntry->Nat->Option (Nat×aZ)
 | [],_=>none
 | e ::es,i=>if f e.key then some (i,e.val) else Jv f es (i+1)
theorem VP{d:Nat}{t:bA}{ty:TypeDesc}{k v:aZ}{b:Bool}(hu:P.underlying t=some ty)(e:Instr.sameNow ty k v=some b):Pd P (d+1) t k v=some b:=by
 unfold Pd;rw [hu];unfold Instr.sameNow at e;cases ty <;> first | (cases e;done) | skip
 all_goals (cases k <;> first | (cases e;done) | skip)
 all_goals (cases v <;> first | (cases e;done) | skip)
 all_goals exact e
theorem Pe{d:Nat}{kt:bA}{ty:TypeDesc}{k:aZ}{f:aZ->Bool}{h:Y}{Q:Option (Nat×aZ)->Y->Prop}{es:List MapEntry}(hu:P.underlying kt=some ty)(hd:Nat.ble (d+1) 10000=true)
  (hf:∀e ∈ es,Pd P (d+1) kt k e.key=some (f e.key)) (q:Q (Jv f es 0) h):(Instr.findKey kt k es).gh P h Q:=by
 unfold Instr.findKey;refine AE _ _ (Ai hu ?_);have g:∀(es:List MapEntry)(i:Nat) r,(∀e ∈ es,Pd P (d+1) kt k e.key=some (f e.key))->Instr.findNow ty k es i=some r->r=Jv f es i:=by
  intro es
  induction es with
  | nil=>intro i r _ e;cases e;rfl
  | cons a es j=>
   intro i r hf e;unfold Instr.findNow at e;have o:=hf a aD;cases l:Instr.sameNow ty k a.key with
   | none=>rw [l] at e;cases e
   | some b=>
    rw [l] at e
    have:=VP (d:=d) hu l
    rw [o] at this;cases this;unfold Jv;cases c:f a.key with
    | true=>rw [c] at e;cases e;rfl
    | false=>rw [c] at e;exact j (i+1) r (λm n=>hf m (by simp [n])) e
 have asking:∀(es:List MapEntry)(i:Nat),(∀e ∈ es,Pd P (d+1) kt k e.key=some (f e.key))->Q (Jv f es i) h->(Instr.findAsking kt k es i).gh P h Q:=by
  intro es
  induction es with
  | nil=>intro i _ q;exact q
  | cons a es j=>
   intro i hf q;unfold Instr.findAsking;refine AE _ _ (JM (d+1) _ _ _ _ _ h _ (Nat.le_of_ble_eq_true hd) (hf a aD) ?_);unfold Jv at q;cases c:f a.key with
   | true=>rw [c] at q;exact q
   | false=>rw [c] at q;exact j (i+1) (λm n=>hf m (by simp [n])) q
 cases p:Instr.findNow ty k es 0 with
 | none=>exact asking es 0 hf q
 | some r=>rw [g es 0 r hf p];exact q
def ckP(P:Program):Nat->bA->aZ->Bool
 | 0,_,_=>false
 | d+1,t,v=>match P.underlying t,v with
  | some (.interface _),_=>false
  | some (.array len e),.agg cs=>match B0 P e with
   | some (_,n)=>(List.range' 0 len).all λi=>match H6 P e cs (i*n) with
    | some u=>ckP P d e u
    | none=>false
   | none=>false
  | some (.array _ _),_=>false
  | some (.struct fields),.agg cs=>fields.toList.all λf=>if f.name≠ "_" then match H6 P f.type cs f.offset with
   | some u=>ckP P d f.type u
   | none=>false else true
  | some (.struct _),_=>false
  | some _,_=>true
  | none,_=>false
theorem Zz{aQ:Type}{h:Y}(body:aQ->Unit->Sem (ForInStep Unit)):∀(l:List aQ)(Q:Unit->Y->Prop),(∀a ∈ l,∀(Q:ForInStep Unit->Y->Prop),Q (.yield ()) h->(body a ()).gh P h Q)->Q () h->(forIn l () body).gh P h Q:=by
 intro l
 induction l with
 | nil=>intro Q _ q;exact q
 | cons a l e=>
  intro Q d q;rw [List.forIn_cons];refine AE _ _ (d a aD _ ?_);exact e Q (λb c=>d b (by simp [c])) q
theorem N5:∀(d D:Nat)(emp:Bool)(t:bA)(v:aZ)(h:Y)(Q:Unit->Y->Prop),d<=D->ckP P d t v=true->Q () h->(Instr.checkKey emp D t v).gh P h Q:=by
 intro d
 induction d with
 | zero=>intro D emp t v h Q _ e;cases e
 | succ d ih=>
  intro D emp t v h Q hD e q;obtain ⟨D,rfl⟩:∃D',D=D'+1:=⟨D-1,U⟩;unfold ckP at e;unfold Instr.checkKey;cases hu:P.underlying t with
  | none=>rw [hu] at e;cases e
  | some ty=>
   rw [hu] at e;refine AE _ _ (Ai hu ?_);cases ty with
   | struct fields=>
    cases v <;> first | (cases e;done) | skip
    rename_i cs
    simp only [List.all_eq_true] at e;dsimp only;rw [<-Array.forIn_toList];refine AE _ _ (Zz _ _ _ (λf hf Q' q'=>?_) (Ak q))
    have:=e f hf
    by_cases hn:f.name≠ "_"
    ·rw [aY hn] at this;rw [aY hn];cases h1:H6 P f.type cs f.offset with
     | none=>rw [h1] at this;cases this
     | some u=>
      rw [h1] at this;refine AE _ _ (H7 h1 ?_);exact AE _ _ (ih D emp f.type u h _ U this q')
    ·rw [aX hn];exact q'
   | interface _=>cases e
   | array len el=>
    cases v <;> first | (cases e;done) | skip
    rename_i cs
    simp only at e;cases ht:B0 P el with
    | none=>rw [ht] at e;cases e
    | some g=>
     rw [ht] at e;obtain ⟨g,n⟩:=g;simp only [List.all_eq_true] at e;dsimp only;rw [Std.Legacy.Range.forIn_eq_forIn_range'];rw [show List.range' (Std.Legacy.Range.mk 0 len 1 aC).start (Std.Legacy.Range.mk 0 len 1 aC).size (Std.Legacy.Range.mk 0 len 1 aC).step=List.range' 0 len from by simp [Std.Legacy.Range.size]];refine AE _ _ (Zz _ _ _ (λi hi Q' q'=>?_) (Ak q))
     have:=e i hi
     cases h1:H6 P el cs (i*n) with
     | none=>rw [h1] at this;cases this
     | some u=>
      rw [h1] at this;refine AE _ _ (Dq ht ?_);refine AE _ _ (H7 h1 ?_);exact AE _ _ (ih D emp el u h _ U this q')
   | _=>cases v <;> exact q
section
variable {κ ν:Type} [DecidableEq κ]
def MapAt(h:Y)(r:Nat)(p:Bool)(ek:κ->aZ)(ev:ν->aZ)(M:κ->Option ν):Prop:=
 ∃es clk,h r=some (p,.map es clk)/\∃l:List (κ×ν),es.toList.map (λe=>(e.key,e.val))=l.map (λx=>(ek x.1,ev x.2))/\∀a,M a=l.lookup a
abbrev Cl(h:Y)(r:Nat)(ek:κ->aZ)(ev:ν->aZ)(M:κ->Option ν):Prop:=MapAt h r true ek ev M
theorem LZ{ek:κ->aZ}{ev:ν->aZ}{f:aZ->Bool}{a:κ}(hf:∀b,f (ek b)=decide (a=b)):∀(es:List MapEntry)(l:List (κ×ν))(i:Nat),es.map (λe=>(e.key,e.val))=l.map (λx=>(ek x.1,ev x.2))->
  (Jv f es i).map (·.2)=(l.lookup a).map ev/\(∀j v,Jv f es i=some (j,v)->i<=j/\j<i+es.length/\(∀e,es[j-i]? =some e->e.key=ek a)/\
   ∀(x:ν),(es.modify (j-i) λe=>{ e with key:=ek a,val:=ev x }).map (λe=>(e.key,e.val))=(l.set (j-i) (a,x)).map (λy=>(ek y.1,ev y.2))/\∀b,(l.set (j-i) (a,x)).lookup b=if b=a then some x else l.lookup b):=by
 intro es
 induction es with
 | nil=>
  intro l i e;cases l with
  | nil=>exact ⟨rfl,λj v g=>by cases g⟩
  | cons x l=>simp at e
 | cons D es w=>
  intro l i e;cases l with
  | nil=>simp at e
  | cons x l=>
   obtain ⟨k,F⟩:=x;simp only [List.map_cons,List.cons.injEq,Prod.mk.injEq] at e;obtain ⟨⟨n,s⟩,t⟩:=e;obtain ⟨o,p⟩:=w l (i+1) t;unfold Jv;by_cases c:a=k
   ·subst c;rw [n,hf a];simp only [decide_true,if_true];refine ⟨by simp [s],λj v g=>?_⟩;cases g;refine ⟨Nat.le_refl _,aD,?_,λy=>?_⟩
    ·intro e m;simp at m;subst m;exact n
    ·rw [Nat.sub_self];refine ⟨by simp [t],λb=>?_⟩;simp only [List.set_cons_zero,List.lookup_cons];by_cases d:b=a
     ·subst d;simp
     ·have:(b==a)=false:=by simpa using d
      simp [d,this]
   ·rw [n,hf k];simp only [c,decide_false,Bool.false_eq_true,if_false];have r:(a==k)=false:=by simpa using c
    refine ⟨by rw [o,List.lookup_cons,r],λj v g=>?_⟩;obtain ⟨H,I,z,A⟩:=p j v g;have u:j-i=(j-(i+1))+1:=U
    refine ⟨U,by simp;omega,?_,λy=>?_⟩
    ·intro e m;rw [u] at m;exact z e (by simpa using m)
    ·rw [u];obtain ⟨B,C⟩:=A y;refine ⟨by simp [List.modify_succ_cons,n,s,B],λb=>?_⟩;simp only [List.set_cons_succ,List.lookup_cons];rw [C b];by_cases d:b=k
     ·subst d
      have:¬b=a:=λq=>c q.symm
      simp [this]
     ·have:(b==k)=false:=by simpa using d
      simp [this]
theorem Pf{ek:κ->aZ}{f:aZ->Bool}{ev:ν->aZ}{a:κ}(hf:∀b,f (ek b)=decide (a=b)){es:List MapEntry}{l:List (κ×ν)}(e:es.map (λe=>(e.key,e.val))=l.map (λx=>(ek x.1,ev x.2)))(hn:Jv f es 0=none):l.lookup a=none:=by
 have:=(LZ hf es l 0 e).1
 rw [hn] at this;cases c:l.lookup a with
 | none=>rfl
 | some v=>rw [c] at this;cases this
def MI(P:Program)(t:bA):Option (bA×bA):=match P.underlying t with
 | some (.map k v)=>if (P.underlying k).isSome then some (k,v) else none
 | _=>none
theorem La{t:bA}(k:∀r h',h r=none->h.Le h'->h' r=some (true,.map #[] 0)->(∀b,b≠r->h' b=h b)->T (putS O dst (.map (some r))) ds h'):BR E ⟨dst,.makeMap t none,ty,pos,af,gd⟩ O ds h T:=by
 unfold BR execOp;simp only [];refine Fg ?_;unfold Instr.makeMap;refine AE _ _ (λr a=>?_);exact k r _ a (Y.Le.new a _ _) (Y.set_same _ _ _ _) λb c=>Y.set_ne _ _ _ c
theorem Cl.empty{h:Y}{r:Nat}{ek:κ->aZ}{ev:ν->aZ}(x:h r=some (true,.map #[] 0)):Cl h r ek ev (λ_=>none):=⟨_,_,x,[],rfl,λ_=>rfl⟩
theorem Sg{t kt vt:bA}{x ix:Operand}{ok pm:Bool}{r d:Nat}{ek:κ->aZ}{ev:ν->aZ}{M:κ->Option ν}{a:κ}{z:aZ}(ht:MI P t=some (kt,vt))(hx:AN O x=.map (some r))(hk:AN O ix=ek a)(hm:MapAt h r pm ek ev M)(hd:Nat.ble (d+1) 10000=true)
  (hc:ckP P (d+1) kt (ek a)=true) (he:∀b,Pd P (d+1) kt (ek a) (ek b)=some (decide (a=b))) (hz:(P.info? vt).bind (·.zero)=some z)
  (k:T (putS O dst (if ok then .tuple #[((M a).map ev).getD z,.bool (M a).isSome] else ((M a).map ev).getD z)) ds h):BR E ⟨dst,.lookup t x ix ok,ty,pos,af,gd⟩ O ds h T:=by
 obtain ⟨q,F,H,l,s,D⟩:=hm;unfold MI at ht;cases u:P.underlying t with
 | none=>rw [u] at ht;cases ht
 | some I=>
 rw [u] at ht;cases I <;> first | (cases ht;done) | skip
 rename_i n w
 simp only at ht;split at ht
 rotate_left
 ·cases ht
 rename_i hsome
 simp only [Option.some.injEq,Prod.mk.injEq] at ht;obtain ⟨rfl,rfl⟩:=ht;obtain ⟨K,o⟩:=Option.isSome_iff_exists.1 hsome;let f:aZ->Bool:=λv=>(Pd P (d+1) n (ek a) v).getD false;have A:∀b,f (ek b)=decide (a=b):=λb=>by simp [f,he b]
 have c:∀e ∈ q.toList,∃b v,e.key=ek b/\e.val=ev v:=λe c=>by
  have:(e.key,e.val) ∈ l.map (λx=>(ek x.1,ev x.2)):=by rw [<-s];exact List.mem_map.2 ⟨e,c,rfl⟩
  obtain ⟨x,_,m⟩:=List.mem_map.1 this;simp only [Prod.mk.injEq] at m;exact ⟨x.1,x.2,m.1.symm,m.2.symm⟩
 have B:∀e ∈ q.toList,Pd P (d+1) n (ek a) e.key=some (f e.key):=λe hm=>by
  obtain ⟨b,v,N,_⟩:=c e hm;rw [N,A,he]
 unfold BR execOp;simp only [hx,hk];refine Fg ?_;unfold Instr.lookup;refine AE _ _ (Ai u ?_);dsimp only;refine AE _ _ ⟨pm,_,H,rfl,rfl,?_⟩;refine AE _ _ (Ak ?_);refine AE _ _ (N5 (d+1) 10000 _ _ _ h _ (Nat.le_of_ble_eq_true hd) hc ?_);refine AE _ _ (Pe (d:=d) (f:=f) o hd B ?_);have g:=(LZ A q.toList l 0 s).1;cases p:Jv f q.toList 0 with
 | none=>
  have:=Pf A s p
  rw [D,this] at k;dsimp only;refine AE _ _ (AE _ _ ?_);cases C:P.info? w with
  | none=>rw [C] at hz;cases hz
  | some i=>
   rw [C] at hz;simp only [Option.bind_some] at hz;refine CU C ?_;rw [hz];refine Ak ?_;cases ok <;> exact k
 | some y=>
  obtain ⟨j,v⟩:=y;rw [p] at g;rw [D,<-g] at k;dsimp only;refine AE _ _ (Ak ?_);have Q:(l.lookup a).isSome=true:=by
   cases R:l.lookup a with
   | none=>rw [R] at g;cases g
   | some _=>rfl
  rw [Q] at k;cases ok <;> exact k
theorem Cl.le_other{h h':Y}{r:Nat}{ek:κ->aZ}{ev:ν->aZ}{M:κ->Option ν}(x:Cl h r ek ev M)(e:h' r=h r):Cl h' r ek ev M:=by
 obtain ⟨b,a,c,y⟩:=x;exact ⟨b,a,e.trans c,y⟩
theorem MJ{t kt vt:bA}{om ok ox:Operand}{r d:Nat}{ek:κ->aZ}{ev:ν->aZ}{M:κ->Option ν}{a:κ}{v:ν}(ht:MI P t=some (kt,vt))(hm':AN O om=.map (some r))(hk:AN O ok=ek a)(hv:AN O ox=ev v)(hm:Cl h r ek ev M)(hd:Nat.ble (d+1) 10000=true)
  (hc:ckP P (d+1) kt (ek a)=true) (he:∀b,Pd P (d+1) kt (ek a) (ek b)=some (decide (a=b))) (hs:Instr.sameBits 10000 (ek a) (ek a)=true)
  (k:∀h',Cl h' r ek ev (λb=>if b=a then some v else M b)->(∀b,b≠r->h' b=h b)->T (putS O dst undef) ds h'):BR E ⟨dst,.mapUpdate t om ok ox,ty,pos,af,gd⟩ O ds h T:=by
 obtain ⟨c,N,z,l,w,F⟩:=hm;unfold MI at ht;cases A:P.underlying t with
 | none=>rw [A] at ht;cases ht
 | some Q=>
 rw [A] at ht;cases Q <;> first | (cases ht;done) | skip
 rename_i m R
 simp only at ht;split at ht
 rotate_left
 ·cases ht
 rename_i hsome
 simp only [Option.some.injEq,Prod.mk.injEq] at ht;obtain ⟨rfl,rfl⟩:=ht;obtain ⟨W,n⟩:=Option.isSome_iff_exists.1 hsome;let f:aZ->Bool:=λv=>(Pd P (d+1) m (ek a) v).getD false;have B:∀b,f (ek b)=decide (a=b):=λb=>by simp [f,he b]
 have C:∀e ∈ c.toList,Pd P (d+1) m (ek a) e.key=some (f e.key):=λe o=>by
  have:(e.key,e.val) ∈ l.map (λx=>(ek x.1,ev x.2)):=by rw [<-w];exact List.mem_map.2 ⟨e,o,rfl⟩
  obtain ⟨x,_,p⟩:=List.mem_map.1 this;simp only [Prod.mk.injEq] at p;rw [<-p.1,B,he]
 unfold BR execOp;simp only [hm',hk,hv];refine gh_u ?_;unfold Instr.mapUpdate;refine AE _ _ (Ai A ?_);dsimp only;refine AE _ _ ⟨true,_,z,rfl,rfl,?_⟩;refine AE _ _ (N5 (d+1) 10000 _ _ _ h _ (Nat.le_of_ble_eq_true hd) hc ?_);refine AE _ _ (Pe (d:=d) (f:=f) n hd C ?_);obtain ⟨s1,X⟩:=LZ B c.toList l 0 w;cases q:Jv f c.toList 0 with
 | none=>
  have D:=Pf B w q;dsimp only;refine ⟨_,z,rfl,rfl,rfl,?_⟩;refine Ak (k _ ⟨_,_,Y.set_same _ _ _ _,l++[(a,v)],by simp [w],λb=>?_⟩ (λb g=>Y.set_ne _ _ _ g));show (if b=a then some v else M b)=_;by_cases i:b=a
  ·subst i;simp only [if_true];rw [List.lookup_append,D];simp
  ·rw [aX i,F,List.lookup_append]
   have:(b==a)=false:=by simpa using i
   simp [List.lookup,this]
 | some y=>
  obtain ⟨j,u⟩:=y;obtain ⟨g1,g2,H,g4⟩:=X j u q;obtain ⟨I,K⟩:=g4 v;rw [Nat.sub_zero] at H I K;have hj:j<c.size:=by simpa using g2
  have s:((c[j]?).map (·.key)).getD (ek a)=ek a:=by
   have:c[j]? =c.toList[j]? :=aD
   rw [this];cases hq:c.toList[j]? with
   | none=>rfl
   | some e=>simp [H e hq]
  dsimp only;rw [s];refine AE _ _ ?_;unfold Instr.keyThatStays;rw [aY hs];refine Ak ?_;refine ⟨_,z,rfl,rfl,rfl,?_⟩;refine Ak (k _ ⟨_,_,Y.set_same _ _ _ _,l.set j (a,v),?_,λb=>?_⟩ (λb g=>Y.set_ne _ _ _ g))
  ·rw [Array.toList_modify];exact I
  ·show (if b=a then some v else M b)=_;rw [K b,F b]
end
end
end Go.Ns
