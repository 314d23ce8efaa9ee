/- Rules and walks, part 1 of 6. No conditions. -/
import Derived.Conc.Beside
import Derived.Conc.CrowdBase
import Derived.Conc.CrowdComm
import Derived.Conc.Own2
import Derived.Conc.Own3
import Derived.Conc.RecvAny
import Derived.IntWalk
import Derived.KernelRfl
import Derived.Orders
import Derived.StepT
set_option linter.unusedVariables false
set_option linter.unusedSimpArgs false
set_option linter.unnecessarySimpa false
set_option linter.unusedSectionVars false
set_option linter.constructorNameAsVariable false
namespace Go.Ns
open Go.Conc
theorem aS.{u}{c:Prop}{d:Decidable c}(h:¬c){α:Sort u}{a b:α}:@ite α c d a b=b:=if_neg h
theorem aT.{u}{c:Prop}{d:Decidable c}(h:c){α:Sort u}{a b:α}:@ite α c d a b=a:=if_pos h
abbrev aU:=Value
abbrev aV:=TypeId
abbrev aW:=ByteArray
theorem Y{p:Prop}(h:p:=by omega):p:=h
theorem aB{p:Prop}(h:p:=by kernel_rfl):p:=h
theorem aC{p:Prop}(h:p:=by decide):p:=h
theorem aD{p:Prop}(h:p:=by simp):p:=h
theorem aE{p:Prop}(h:p:=by ((try simp only [Array.size_setIfInBounds]);omega)):p:=h
theorem aF{p:Prop}(h:p:=by simp_all):p:=h
theorem aG{p:Prop}(h:p:=by assumption):p:=h
theorem aH{p:Prop}(h:p:=by simp <;> omega):p:=h
theorem aI{p:Prop}(h:p:=by intro x hx;rfl):p:=h
theorem aJ{p:Prop}(h:p:=by intro y hy;rfl):p:=h
theorem aK{p:Prop}(h:p:=by (intro j hj;omega)):p:=h
theorem aL{p:Prop}(h:p:=by (try simp only [Array.size_setIfInBounds]);omega):p:=h
abbrev V:=Nat->Option (Bool×Obj)
def V.set(h:V)(r:Nat)(p:Bool)(o:Obj):V:=λb=>if b=r then some (p,o) else h b
theorem V.set_same(h:V)(r:Nat)(p:Bool)(o:Obj):h.set r p o r=some (p,o):=by simp [V.set]
theorem V.set_ne(h:V){r b:Nat}(p:Bool)(o:Obj)(hb:b≠r):h.set r p o b=h b:=by simp [V.set,hb]
def Kw:Obj->Bool:=λ_=>false
def V.Le(h h':V):Prop:=∀b p o,h b=some (p,o)->∃o',h' b=some (p,o')/\(o'=o\/(Kw o=true/\Kw o'=true))
theorem V.Le.keep{h h':V}(l:h.Le h'){b:Nat}{p:Bool}{o:Obj}(hb:h b=some (p,o))(ho:Kw o=false):h' b=some (p,o):=by
 obtain ⟨d,c,rfl | ⟨a,_⟩⟩:=l _ _ _ hb
 ·exact c
 ·rw [ho] at a;cases a
theorem V.Le.refl(h:V):h.Le h:=λ_ _ o x=>⟨o,x,.inl rfl⟩
theorem V.Le.trans{a b c:V}(h:a.Le b)(h':b.Le c):a.Le c:=λ_ _ _ x=>by
 obtain ⟨g,d,h2⟩:=h _ _ _ x;obtain ⟨e,f,h4⟩:=h' _ _ _ d;refine ⟨e,f,?_⟩;rcases h2 with rfl | h2
 ·exact h4
 ·rcases h4 with rfl | h4
  ·exact .inr h2
  ·exact .inr ⟨h2.1,h4.2⟩
theorem V.ne_of{h:V}{b r:Nat}{p:Bool}{o:Obj}(hb:h b=some (p,o))(hr:h r=none):b≠r:=by
 intro e;subst e;rw [hr] at hb;cases hb
theorem V.Le.new{h:V}{r:Nat}(hr:h r=none)(p:Bool)(o:Obj):h.Le (h.set r p o):=λb q x a=>by
 rw [V.set_ne h p o (V.ne_of a hr)];exact ⟨x,a,.inl rfl⟩
def D7(w:World)(h:V):Prop:=∀b p o,h b=some (p,o)->w.heap[b]? =some o
theorem D7.lt{w:World}{h:V}(f:D7 w h){b:Nat}{p:Bool}{o:Obj}(hb:h b=some (p,o)):b<w.heap.size:=by
 have:=f b p o hb
 rcases Nat.lt_or_ge b w.heap.size with x | x
 ·exact x
 ·rw [Array.getElem?_eq_none x] at this;cases this
theorem D7.fresh{w:World}{h:V}(f:D7 w h):h w.heap.size=none:=by
 cases a:h w.heap.size with
 | none=>rfl
 | some x=>exact absurd (f.lt (p:=x.1) (o:=x.2) a) (Nat.lt_irrefl _)
def Sg(h:V)(n:Nat)(b:Nat)(wr:Bool):Prop:=(∃p o,h b=some (p,o)/\o.isChan=false/\(wr=true->p=true))\/n<=b
def Cq:Loc->Option Nat
 | .cell a=>some a.block
 | .obj r=>some r
 | _=>none
def UC(h:V)(n:Nat)(e:Event):Prop:=
 e.sync=false/\match e.loc with
  | .cell a=>Sg h n a.block e.write
  | .obj r=>Sg h n r e.write
  | _=>False
def Y8(h:V)(n:Nat)(e:Event):Prop:=UC h n e\/e=⟨.mark .noRoom,false,true⟩
structure Bf(h:V)(w:World)(es:Array Event)(h':V)(w':World):Prop where
 fits0:D7 w h
 fits:D7 w' h'
 frame:∀b,b<w.heap.size->(∀o,h b≠some (true,o))->w'.heap[b]? =w.heap[b]?
 size:w.heap.size<=w'.heap.size
 os:w'.os=w.os
 out:w'.output=w.output
 own:∀b o,h' b=some (true,o)->(∃o',h b=some (true,o'))\/w.heap.size<=b
 ro:∀b o,h' b=some (false,o)->h b=some (false,o)
 keep:∀b p o o',h b=some (true,o')->o'.isChan=true->h' b=some (p,o)->o=o'
 chn:∀b p o,h' b=some (p,o)->o.isChan=true->h b=some (p,o)\/(w.heap.size<=b/\∀e ∈ es,Cq e.loc≠some b)
 evb:∀e ∈ es,∀b,Cq e.loc=some b->b<w'.heap.size
 evs:∀e ∈ es,Y8 h w.heap.size e
theorem Bf.refl{h:V}{w:World}(f:D7 w h):Bf h w #[] h w where
 fits0:=f
 fits:=f
 frame:=λ_ _ _=>rfl
 size:=Nat.le_refl _
 os:=rfl
 out:=rfl
 own:=λ_ o x=>.inl ⟨o,x⟩
 ro:=λ_ _ x=>x
 keep:=λ_ _ _ _ x _ y=>by rw [x] at y;cases y;rfl
 chn:=λ_ _ _ x _=>.inl x
 evb:=λe a=>by simp at a
 evs:=λe a=>by simp at a
theorem Bf.look{h:V}{w:World}(f:D7 w h){es:Array Event}(hb:∀e ∈ es,∀b,Cq e.loc=some b->b<w.heap.size)(hes:∀e ∈ es,Y8 h w.heap.size e):Bf h w es h w where
 fits0:=f
 fits:=f
 frame:=λ_ _ _=>rfl
 size:=Nat.le_refl _
 os:=rfl
 out:=rfl
 own:=λ_ o x=>.inl ⟨o,x⟩
 ro:=λ_ _ x=>x
 keep:=λ_ _ _ _ x _ y=>by rw [x] at y;cases y;rfl
 chn:=λ_ _ _ x _=>.inl x
 evb:=hb
 evs:=hes
theorem Bf.drew{h:V}{w:World}(f:D7 w h)(d:Nat):Bf h w #[] h { w with drawn:=d } where
 fits0:=f
 fits:=f
 frame:=λ_ _ _=>rfl
 size:=Nat.le_refl _
 os:=rfl
 out:=rfl
 own:=λ_ o x=>.inl ⟨o,x⟩
 ro:=λ_ _ x=>x
 keep:=λ_ _ _ _ x _ y=>by rw [x] at y;cases y;rfl
 chn:=λ_ _ _ x _=>.inl x
 evb:=λe a=>by simp at a
 evs:=λe a=>by simp at a
theorem Sg.mono{h h':V}{w:World}{n:Nat}{b:Nat}{wr:Bool}(hn:w.heap.size<=n)
  (own:∀b o,h' b=some (true,o)->(∃o',h b=some (true,o'))\/w.heap.size<=b) (ro:∀b o,h' b=some (false,o)->h b=some (false,o))
  (keep:∀b p o o',h b=some (true,o')->o'.isChan=true->h' b=some (p,o)->o=o') (hb:Sg h' n b wr):Sg h w.heap.size b wr:=by
 rcases hb with ⟨p,o,x,c,y⟩ | x
 ·cases p with
  | true=>
   rcases own b o x with ⟨o',z⟩ | z
   ·refine .inl ⟨true,o',z,?_,λ_=>rfl⟩;cases a:o'.isChan with
    | false=>rfl
    | true=>have:=keep b _ _ o' z a x;subst this;rw [a] at c;cases c
   ·exact .inr z
  | false=>exact .inl ⟨false,o,ro b o x,c,y⟩
 ·exact .inr (Nat.le_trans hn x)
theorem Y8.mono{h h':V}{w:World}{n:Nat}{e:Event}(hn:w.heap.size<=n)
  (own:∀b o,h' b=some (true,o)->(∃o',h b=some (true,o'))\/w.heap.size<=b) (ro:∀b o,h' b=some (false,o)->h b=some (false,o))
  (keep:∀b p o o',h b=some (true,o')->o'.isChan=true->h' b=some (p,o)->o=o') (he:Y8 h' n e):Y8 h w.heap.size e:=by
 rcases he with he | he
 case inr=>exact .inr he
 left;obtain ⟨d,he⟩:=he;refine ⟨d,?_⟩;cases c:e.loc with
 | cell a=>rw [c] at he;exact Sg.mono hn own ro keep he
 | obj r=>rw [c] at he;exact Sg.mono hn own ro keep he
 | output=>rw [c] at he;exact he
 | goroutines=>rw [c] at he;exact he
 | mark m=>rw [c] at he;exact he
theorem Bf.trans{h h₁ h₂:V}{w w₁ w₂:World}{es es':Array Event}(a:Bf h w es h₁ w₁)(b:Bf h₁ w₁ es' h₂ w₂):Bf h w (es++es') h₂ w₂ where
 fits0:=a.fits0
 fits:=b.fits
 frame:=λr l s=>by
  have d:∀o,h₁ r≠some (true,o):=λo x=>by
   rcases a.own r o x with ⟨i,y⟩ | y
   ·exact s i y
   ·exact absurd l (Nat.not_lt.2 y)
  rw [b.frame r (Nat.lt_of_lt_of_le l a.size) d,a.frame r l s]
 size:=Nat.le_trans a.size b.size
 os:=b.os.trans a.os
 out:=b.out.trans a.out
 own:=λr o x=>by
  rcases b.own r o x with ⟨i,y⟩ | y
  ·exact a.own r i y
  ·exact .inr (Nat.le_trans a.size y)
 ro:=λr o x=>a.ro r o (b.ro r o x)
 keep:=λr p o i x y z=>by
  have d:∃q j,h₁ r=some (q,j):=by
   cases p with
   | true=>
    rcases b.own r o z with ⟨H,y1⟩ | y1
    ·exact ⟨_,_,y1⟩
    ·exact absurd (Nat.le_trans a.size y1) (Nat.not_le.2 (a.fits0.lt x))
   | false=>exact ⟨_,_,b.ro r o z⟩
  obtain ⟨q,j,d⟩:=d;have C:=a.keep r q j i x y d;subst C;cases q with
  | true=>exact b.keep r p o j d y z
  | false=>have:=a.ro r j d;rw [x] at this;cases this
 chn:=λr p o x y=>by
  rcases b.chn r p o x y with z | ⟨t,D⟩
  ·rcases a.chn r p o z y with u | ⟨E,F⟩
   ·exact .inl u
   ·refine .inr ⟨E,λe g=>?_⟩;rcases Array.mem_append.1 g with v | v
    ·exact F e v
    ·intro c;have ev:=b.evs e v;have n:∃A,Sg h₁ w₁.heap.size r A:=by
      rcases ev with ev | ev
      case inr=>rw [ev] at c;cases c
      unfold Cq at c;have f:=ev.2;cases k:e.loc with
      | cell K=>rw [k] at c f;cases c;exact ⟨_,f⟩
      | obj N=>rw [k] at c f;cases c;exact ⟨_,f⟩
      | output=>rw [k] at c;cases c
      | goroutines=>rw [k] at c;cases c
      | mark m=>rw [k] at c;cases c
     obtain ⟨A,⟨O,i,d,B,_⟩ | hlt⟩:=n
     ·rw [z] at d;cases d;rw [y] at B;cases B
     ·exact absurd (a.fits.lt z) (Nat.not_lt.2 hlt)
  ·refine .inr ⟨Nat.le_trans a.size t,λe g=>?_⟩;rcases Array.mem_append.1 g with v | v
   ·exact λc=>absurd (a.evb e v r c) (Nat.not_lt.2 t)
   ·exact D e v
 evb:=λe g r c=>by
  rcases Array.mem_append.1 g with x | x
  ·exact Nat.lt_of_lt_of_le (a.evb e x r c) b.size
  ·exact b.evb e x r c
 evs:=λe g=>by
  rcases Array.mem_append.1 g with x | x
  ·exact a.evs e x
  ·exact (b.evs e x).mono a.size a.own a.ro a.keep
theorem Bf.new{h:V}{w:World}(f:D7 w h)(o:Obj):Bf h w #[] (h.set w.heap.size true o) { w with heap:=w.heap.push o } where
 fits0:=f
 fits:=λb p x a=>by
  by_cases e:b=w.heap.size
  ·subst e;rw [V.set_same] at a;cases a;simp
  ·rw [V.set_ne h true o e] at a
   have:=f.lt a
   simp only [Array.getElem?_push];rw [aS e];exact f b p x a
 frame:=λb a _=>by
  simp only [Array.getElem?_push];rw [aS (Nat.ne_of_lt a)]
 size:=aD
 os:=rfl
 out:=rfl
 own:=λb x a=>by
  by_cases e:b=w.heap.size
  ·exact .inr (Nat.le_of_eq e.symm)
  ·rw [V.set_ne h true o e] at a;exact .inl ⟨x,a⟩
 ro:=λb x a=>by
  by_cases e:b=w.heap.size
  ·subst e;rw [V.set_same] at a;cases a
  ·rw [V.set_ne h true o e] at a;exact a
 keep:=λb p x g d _ a=>by
  have e:b≠w.heap.size:=Nat.ne_of_lt (f.lt d);rw [V.set_ne h true o e,d] at a;cases a;rfl
 chn:=λb p x a _=>by
  by_cases e:b=w.heap.size
  ·exact .inr ⟨Nat.le_of_eq e.symm,λe c=>by simp at c⟩
  ·rw [V.set_ne h true o e] at a;exact .inl a
 evb:=λe c=>by simp at c
 evs:=λe c=>by simp at c
theorem Bf.turn{h:V}{w:World}(f:D7 w h){r:Nat}{o o':Obj}(hr:h r=some (true,o))(ho:o.isChan=false)(ho':o'.isChan=false){hp:Array Obj}(hsz:hp.size=w.heap.size)
  (hhere:hp[r]? =some o') (hother:∀b,b≠r->hp[b]? =w.heap[b]?) {es:Array Event} (hb:∀e ∈ es,∀b,Cq e.loc=some b->b<w.heap.size) (hes:∀e ∈ es,Y8 h w.heap.size e) :
  Bf h w es (h.set r true o') { w with heap:=hp } where
 fits0:=f
 fits:=λb p x hb=>by
  by_cases e:b=r
  ·subst e;rw [V.set_same] at hb;cases hb;exact hhere
  ·rw [V.set_ne h true o' e] at hb;exact (hother b e).trans (f b p x hb)
 frame:=λb _ d=>hother b (λe=>d o (e▸hr))
 size:=Nat.le_of_eq hsz.symm
 os:=rfl
 out:=rfl
 own:=λb x hb=>by
  by_cases e:b=r
  ·subst e;exact .inl ⟨o,hr⟩
  ·rw [V.set_ne h true o' e] at hb;exact .inl ⟨x,hb⟩
 ro:=λb x hb=>by
  by_cases e:b=r
  ·subst e;rw [V.set_same] at hb;cases hb
  ·rw [V.set_ne h true o' e] at hb;exact hb
 keep:=λb p x j c a hb=>by
  have e:b≠r:=λe=>by subst e;rw [hr] at c;cases c;rw [ho] at a;cases a
  rw [V.set_ne h true o' e,c] at hb;cases hb;rfl
 chn:=λb p x hb a=>by
  by_cases e:b=r
  ·subst e;rw [V.set_same] at hb;cases hb;rw [ho'] at a;cases a
  ·rw [V.set_ne h true o' e] at hb;exact .inl hb
 evb:=λe g b i=>by rw [hsz];exact hb e g b i
 evs:=hes
def Obj.isCells:Obj->Bool
 | .cells .. =>true
 | _=>false
def frz(f:Nat×Nat)(o n:Nat):Nat×Nat:=if f.1==f.2 then (o,o+n) else (min f.1 o,max f.2 (o+n))
end Go.Ns
namespace Go
open Go.Conc Go.Ns
def Sem.gh{U:Type}(P:Program):Sem U->V->(U->V->Prop)->Prop
 | .pure a,h,Q=>Q a h
 | .load m a k,h,Q=>m=.plain/\a.spot=none/\∃p c t f v,h a.block=some (p,.cells c t f)/\c[a.off]? =some v/\(k v).gh P h Q
 | .store m a v k,h,Q=>m=.plain/\a.spot=none/\v.oneCell'=true/\∃c t f,h a.block=some (true,.cells c t f)/\a.off<c.size/\
   (f.1<=a.off && a.off<f.2)=false/\k.gh P (h.set a.block true (.cells (c.setIfInBounds a.off v) t f)) Q
 | .new o k,h,Q=>∀r,h r=none->(k r).gh P (h.set r true o) Q
 | .shape r k,h,Q=>∃p c t f,h r=some (p,.cells c t f)/\(k (some (t,c.size))).gh P h Q
 | .freeze a n k,h,Q=>(n=0/\k.gh P h Q)\/(n≠0/\∃c t f,h a.block=some (true,.cells c t f)/\k.gh P (h.set a.block true (.cells c t (frz f a.off n))) Q)
 | .frozen a k,h,Q=>∃p c t f,h a.block=some (p,.cells c t f)/\(k (f.1<=a.off && a.off<f.2)).gh P h Q
 | .getObj r k,h,Q=>∃p o,h r=some (p,o)/\Obj.isCells o=false/\o.isChan=false/\(k o).gh P h Q
 | .setObj r o k,h,Q=>∃o',h r=some (true,o')/\Obj.isCells o'=false/\o'.isChan=false/\o.isChan=false/\k.gh P (h.set r true o) Q
 | .choose q k,h,Q=>(q.forced=true->(k 0).gh P h Q)/\(q.forced=false->∀t,(k (q.cut t)).gh P h Q)
 | .program k,h,Q=>(k P).gh P h Q
 | .sys _ _,_,_=>False
 | .mark m k,h,Q=>m=.noRoom/\k.gh P h Q
 | .halt _,_,_=>False
end Go
namespace Go.Ns
open Go.Conc
theorem Ev{U:Type}{P:Program}(e:Sem U){Q Q':U->V->Prop}(hq:∀a h,Q a h->Q' a h):∀h,e.gh P h Q->e.gh P h Q':=by
 induction e with
 | pure a=>intro h x;exact hq _ _ x
 | load m a k b=>rintro h ⟨j,l,p,c,t,f,v,g,d,z⟩;exact ⟨j,l,p,c,t,f,v,g,d,b v h z⟩
 | store m a v k b=>rintro h ⟨j,l,u,c,t,f,g,d,i,z⟩;exact ⟨j,l,u,c,t,f,g,d,i,b _ z⟩
 | new o k b=>intro h x r w;exact b r _ (x r w)
 | shape r k b=>rintro h ⟨p,c,t,f,y,z⟩;exact ⟨p,c,t,f,y,b _ h z⟩
 | freeze a n k b=>
  rintro h (⟨y,z⟩ | ⟨y,c,t,f,d,z⟩)
  ·exact .inl ⟨y,b h z⟩
  ·exact .inr ⟨y,c,t,f,d,b _ z⟩
 | frozen a k b=>rintro h ⟨p,c,t,f,y,z⟩;exact ⟨p,c,t,f,y,b _ h z⟩
 | getObj r k b=>rintro h ⟨p,o,g,d,i,z⟩;exact ⟨p,o,g,d,i,b _ h z⟩
 | setObj r o k b=>rintro h ⟨A,g,d,s,i,z⟩;exact ⟨A,g,d,s,i,b _ z⟩
 | choose q k b=>rintro h ⟨y,z⟩;exact ⟨λx=>b _ h (y x),λx t=>b _ h (z x t)⟩
 | sys c k b=>intro h x;exact x
 | program k b=>intro h x;exact b _ h x
 | mark m k b=>rintro h ⟨y,z⟩;exact ⟨y,b h z⟩
 | halt x=>intro h y;exact y
theorem gh_bind'{U β:Type}{P:Program}(e:Sem U)(f:U->Sem β){Q:β->V->Prop}:∀h,e.gh P h (λa h'=>(f a).gh P h' Q)->(e.bind f).gh P h Q:=by
 induction e with
 | pure a=>intro h x;exact x
 | load m a k b=>rintro h ⟨j,l,p,c,t,f,v,g,d,z⟩;exact ⟨j,l,p,c,t,f,v,g,d,b v h z⟩
 | store m a v k b=>rintro h ⟨j,l,u,c,t,f,g,d,i,z⟩;exact ⟨j,l,u,c,t,f,g,d,i,b _ z⟩
 | new o k b=>intro h x r w;exact b r _ (x r w)
 | shape r k b=>rintro h ⟨p,c,t,f,y,z⟩;exact ⟨p,c,t,f,y,b _ h z⟩
 | freeze a n k b=>
  rintro h (⟨y,z⟩ | ⟨y,c,t,f,d,z⟩)
  ·exact .inl ⟨y,b h z⟩
  ·exact .inr ⟨y,c,t,f,d,b _ z⟩
 | frozen a k b=>rintro h ⟨p,c,t,f,y,z⟩;exact ⟨p,c,t,f,y,b _ h z⟩
 | getObj r k b=>rintro h ⟨p,o,g,d,i,z⟩;exact ⟨p,o,g,d,i,b _ h z⟩
 | setObj r o k b=>rintro h ⟨A,g,d,s,i,z⟩;exact ⟨A,g,d,s,i,b _ z⟩
 | choose q k b=>rintro h ⟨y,z⟩;exact ⟨λx=>b _ h (y x),λx t=>b _ h (z x t)⟩
 | sys c k b=>intro h x;exact x
 | program k b=>intro h x;exact b _ h x
 | mark m k b=>rintro h ⟨y,z⟩;exact ⟨y,b h z⟩
 | halt x=>intro h y;exact y
theorem AG{U β:Type}{P:Program}(e:Sem U)(f:U->Sem β){h:V}{Q:β->V->Prop}(x:e.gh P h (λa h'=>(f a).gh P h' Q)):(e>>=f).gh P h Q:=gh_bind' e f h x
theorem Ao{U:Type}{P:Program}{a:U}{h:V}{Q:U->V->Prop}(x:Q a h):(Pure.pure a:Sem U).gh P h Q:=x
theorem cell?_of_fits{w:World}{h:V}(f:D7 w h){a:Addr}{p:Bool}{c:Array aU}{t:aV}{z:Nat×Nat}{v:aU}(hs:a.spot=none)(hb:h a.block=some (p,.cells c t z))(hc:c[a.off]? =some v) :
  w.cell? a=some v:=by
 unfold World.cell?;rw [f _ _ _ hb];simp [hs,hc]
theorem frozen?_of_fits{w:World}{h:V}(f:D7 w h){a:Addr}{p:Bool}{c:Array aU}{t:aV}{z:Nat×Nat}(hb:h a.block=some (p,.cells c t z)) :
  w.frozen? a=(z.1<=a.off && a.off<z.2):=by
 unfold World.frozen?;rw [f _ _ _ hb]
theorem gh_sound{U:Type}{P:Program}(e:Sem U){Q:U->V->Prop}:∀(h₀ h:V) (w₀ w:World) (es:Array Event),Bf h₀ w₀ es h w->e.gh P h Q->
  ∃a w' h' es',e.runT P w es=(.ok a w',es')/\Bf h₀ w₀ es' h' w'/\Q a h':=by
 induction e with
 | pure a=>intro h₀ h w₀ w es s x;exact ⟨a,w,h,es,rfl,s,x⟩
 | load m a k l=>
  rintro h₀ h w₀ w es s ⟨rfl,O,p,c,t,f,v,u,E,z⟩;have S:=cell?_of_fits s.fits O u E;have B:Bf h₀ w₀ (es.push ⟨.cell a,false,false⟩) h w:=by
   have:=s.trans (Bf.look s.fits (es:=#[⟨.cell a,false,false⟩]) (λe d b C=>by simp at d;subst d;cases C;exact s.fits.lt u) (λe d=>by
    simp at d;subst d;exact .inl ⟨rfl,.inl ⟨p,_,u,rfl,λx=>by cases x⟩⟩))
   simpa using this
  obtain ⟨b,w',h',es',g,i,j⟩:=l v h₀ h w₀ w _ B z;exact ⟨b,w',h',es',by simp only [Sem.runT,S];exact g,i,j⟩
 | store m a v k l=>
  rintro h₀ h w₀ w es s ⟨rfl,O,X,c,t,f,u,E,F,z⟩;have S:=cell?_of_fits s.fits O u (v:=c[a.off]) (by simp [E]);have T:=(frozen?_of_fits s.fits u).trans F;have D:=s.fits.lt u;have A:=s.fits _ _ _ u;have H:Bf h w #[⟨.cell a,true,false⟩] (h.set a.block true (.cells (c.setIfInBounds a.off v) t f)) (w.setCell a v):=by
   refine Bf.turn s.fits u rfl rfl aD ?_ ?_ (λe d b C=>by simp at d;subst d;cases C;exact D) ?_
   ·simp only [Array.getElem?_modify];simp [A,O]
   ·intro b K;simp only [Array.getElem?_modify];rw [aS (λe=>K e.symm)]
   ·intro e d;simp at d;subst d;exact .inl ⟨rfl,.inl ⟨true,_,u,rfl,λ_=>rfl⟩⟩
  have B:=s.trans H;obtain ⟨b,w',h',es',g,i,j⟩:=l h₀ _ w₀ _ _ B z;refine ⟨b,w',h',es',?_,i,j⟩;have W:(es++ #[⟨.cell a,true,false⟩]:Array Event)=es.push ⟨.cell a,true,false⟩:=aD
  rw [W] at g;cases v <;> first | (simp only [Value.oneCell'] at X;cases X;done) | (simp only [Sem.runT,S,T];exact g)
 | new o k l=>
  intro h₀ h w₀ w es s x;have B:=s.trans (Bf.new s.fits o);obtain ⟨b,w',h',es',g,i,j⟩:=l w.heap.size h₀ _ w₀ _ _ B (x w.heap.size s.fits.fresh);exact ⟨b,w',h',es',by simp only [Sem.runT];simpa using g,i,j⟩
 | shape r k l=>
  rintro h₀ h w₀ w es s ⟨p,c,t,f,y,z⟩;have hs:w.shape? r=some (t,c.size):=by unfold World.shape?;rw [s.fits _ _ _ y]
  obtain ⟨b,w',h',es',g,i,j⟩:=l _ h₀ _ w₀ _ _ s z;exact ⟨b,w',h',es',by simp only [Sem.runT,hs];exact g,i,j⟩
 | freeze a n k l=>
  rintro h₀ h w₀ w es s (⟨rfl,z⟩ | ⟨hn,c,t,f,y,z⟩)
  ·obtain ⟨b,w',h',es',g,i,j⟩:=l h₀ _ w₀ _ _ s z;exact ⟨b,w',h',es',by simp only [Sem.runT,World.freeze];exact g,i,j⟩
  ·have A:=s.fits _ _ _ y;have H:Bf h w #[] (h.set a.block true (.cells c t (frz f a.off n))) (w.freeze a n):=by
    unfold World.freeze;rw [aS hn];refine Bf.turn s.fits y rfl rfl aD ?_ ?_ (λe d b C=>by simp at d) (λe d=>by simp at d)
    ·rw [Array.getElem?_modify];simp only [if_true,A,Option.map_some];obtain ⟨f1,f2⟩:=f;rfl
    ·intro b K;rw [Array.getElem?_modify,aS (λe=>K e.symm)]
   have B:=s.trans H;rw [Array.append_empty] at B;obtain ⟨b,w',h',es',g,i,j⟩:=l h₀ _ w₀ _ _ B z;exact ⟨b,w',h',es',by simp only [Sem.runT];exact g,i,j⟩
 | frozen a k l=>
  rintro h₀ h w₀ w es s ⟨p,c,t,f,y,z⟩;have T:=frozen?_of_fits s.fits y;obtain ⟨b,w',h',es',g,i,j⟩:=l _ h₀ _ w₀ _ _ s z;exact ⟨b,w',h',es',by simp only [Sem.runT,T];exact g,i,j⟩
 | getObj r k l=>
  rintro h₀ h w₀ w es s ⟨p,o,u,E,F,z⟩;have B:Bf h₀ w₀ (es.push ⟨.obj r,false,false⟩) h w:=by
   have:=s.trans (Bf.look s.fits (es:=#[⟨.obj r,false,false⟩]) (λe d b C=>by simp at d;subst d;cases C;exact s.fits.lt u) (λe d=>by
    simp at d;subst d;exact .inl ⟨rfl,.inl ⟨p,_,u,F,λx=>by cases x⟩⟩))
   simpa using this
  obtain ⟨b,w',h',es',g,i,j⟩:=l o h₀ _ w₀ _ _ B z;refine ⟨b,w',h',es',?_,i,j⟩;have hg:=s.fits _ _ _ u;simp only [Sem.runT,hg];cases o <;> first | (simp [Obj.isCells] at E;done) | (simp [Go.Obj.isChan] at F;done) | exact g
 | setObj r o k l=>
  rintro h₀ h w₀ w es s ⟨o',u,E,N,F,z⟩;have A:=s.fits _ _ _ u;have D:=s.fits.lt u;have H:Bf h w #[⟨.obj r,true,false⟩] (h.set r true o) { w with heap:=w.heap.setIfInBounds r o }:=by
   refine Bf.turn s.fits u N F aD ?_ ?_ (λe d b C=>by simp at d;subst d;cases C;exact D) ?_
   ·simp [D]
   ·intro b K;rw [Array.getElem?_setIfInBounds_ne (λe=>K e.symm)]
   ·intro e d;simp at d;subst d;exact .inl ⟨rfl,.inl ⟨true,_,u,N,λ_=>rfl⟩⟩
  have B:=s.trans H;obtain ⟨b,w',h',es',g,i,j⟩:=l h₀ _ w₀ _ _ B z;refine ⟨b,w',h',es',?_,i,j⟩;have W:(es++ #[⟨.obj r,true,false⟩]:Array Event)=es.push ⟨.obj r,true,false⟩:=aD
  rw [W] at g;simp only [Sem.runT,A];cases o' <;> first | (simp [Obj.isCells] at E;done) | (rw [F];exact g)
 | choose q k l=>
  rintro h₀ h w₀ w es s ⟨y,z⟩;cases R:q.forced with
  | true=>
   obtain ⟨b,w',h',es',g,i,j⟩:=l 0 h₀ _ w₀ _ _ s (y R);exact ⟨b,w',h',es',by simp only [Sem.runT,R];exact g,i,j⟩
  | false=>
   have B:=s.trans (Bf.drew s.fits (w.drawn+1));obtain ⟨b,w',h',es',g,i,j⟩:=l _ h₀ _ w₀ _ _ B (z R (w.tape w.drawn q));exact ⟨b,w',h',es',by simp only [Sem.runT,R];simpa using g,i,j⟩
 | sys c k l=>intro h₀ h w₀ w es s x;exact x.elim
 | program k l=>
  intro h₀ h w₀ w es s x;obtain ⟨b,w',h',es',g,i,j⟩:=l P h₀ _ w₀ _ _ s x;exact ⟨b,w',h',es',by simp only [Sem.runT];exact g,i,j⟩
 | mark m k l=>
  rintro h₀ h w₀ w es s ⟨rfl,z⟩;have B:Bf h₀ w₀ (es.push ⟨.mark .noRoom,false,true⟩) h w:=by
   have:=s.trans (Bf.look s.fits (es:=#[⟨.mark .noRoom,false,true⟩]) (λe d b C=>by simp at d;subst d;cases C) (λe d=>by
    simp at d;subst d;exact .inr rfl))
   simpa using this
  obtain ⟨b,w',h',es',g,i,j⟩:=l h₀ _ w₀ _ _ B z;exact ⟨b,w',h',es',by simp only [Sem.runT];exact g,i,j⟩
 | halt x=>intro h₀ h w₀ w es s y;exact y.elim
theorem In{U:Type}{P:Program}{e:Sem U}{Q:U->V->Prop}{h:V}{w:World}(f:D7 w h)(x:e.gh P h Q) :
  ∃a w' h' es,e.runT P w #[]=(.ok a w',es)/\Bf h w es h' w'/\Q a h':=gh_sound e h h w w #[] (Bf.refl f) x
end Go.Ns
namespace Go.Ns
open Go.Conc
def Sh(P:Program)(main:Bool)(K:Goroutine->V->Prop):Prop:=
 ∀g h,g.status=.running->(∀w,D7 w h->∃g' w' es h',stepG P main g w=.go g' w' es/\Bf h w es h' w'/\K g' h')->K g h
structure Wk(P:Program) where
 main:Bool
 K:Goroutine->V->Prop
 closed:Sh P main K
section
variable {P:Program} {W:Wk P}
theorem Wk.move{fr fr':Frame}{cs cs':List Frame}{h:V}(hs:∀w,stepG P W.main (G fr cs) w=.go (G fr' cs') w)(hk:W.K (G fr' cs') h):W.K (G fr cs) h:=
 W.closed _ _ rfl λw f=>⟨_,w,#[],h,hs w,Bf.refl f,hk⟩
theorem Wk.go{fr:Frame}(fr':Frame){cs:List Frame}{h:V}(hs:∀w,stepG P W.main (G fr cs) w=.go (G fr' cs) w)(hk:W.K (G fr' cs) h):W.K (G fr cs) h:=Wk.move hs hk
def Cc(b:Frame)(t:Array aU)(ds:List Deferred)(todo:List Item):Frame:={ b with tmps:=t,todo:=todo,defers:=ds,mode:=.run }
def Dq(b:Frame)(t:Array aU)(ds:List Deferred)(todo:List Item):Frame:={ b with tmps:=t,todo:=todo,defers:=ds,mode:=.returning }
def BX(t:Array aU)(N:Nat)(O:Nat->aU):Prop:=t.size=N/\∀i,t.getD i undef=O i
def upd(O:Nat->aU)(d:Nat)(v:aU):Nat->aU:=λi=>bif Nat.beq i d then v else O i
theorem upd_same(O:Nat->aU)(d:Nat)(v:aU):upd O d v d=v:=by simp [upd]
theorem upd_ne(O:Nat->aU){d i:Nat}(v:aU)(h:Nat.beq i d=false):upd O d v i=O i:=by simp [upd,h]
theorem BX.put{t:Array aU}{N:Nat}{O:Nat->aU}(s:BX t N O){d:Nat}(hd:Nat.blt d N=true)(v:aU):BX (t.setIfInBounds d v) N (upd O d v):=by
 refine ⟨by simp [s.1],λi=>?_⟩;have a:d<t.size:=by rw [s.1];exact Nat.blt_eq▸hd
 by_cases e:i=d
 ·subst e;rw [upd_same];simp [Array.getD_eq_getD_getElem?,a]
 ·have b:Nat.beq i d=false:=by
   cases c:Nat.beq i d with
   | false=>rfl
   | true=>exact absurd (Nat.eq_of_beq_eq_true c) e
  rw [upd_ne O v b,<-s.2 i];simp [Array.getD_eq_getD_getElem?,Array.getElem?_setIfInBounds_ne (λx=>e x.symm)]
def AL(O:Nat->aU):Operand->aU
 | .tmp t=>O t
 | .const v=>v
 | .global g=>.pointer (some ⟨g,0,none⟩)
 | .func f=>.func (.func f) #[] #[]
theorem Jb{b:Frame}{t:Array aU}{ds:List Deferred}{k:List Item}{N:Nat}{O:Nat->aU}(s:BX t N O):(Cc b t ds k).eval=AL O:=by
 funext x;cases x with
 | tmp i=>exact s.2 i
 | const v=>rfl
 | global g=>rfl
 | func f=>rfl
abbrev Lv:=Option Code->Array aU->List Deferred->V->Prop
structure Lf(W:Wk P)(b:Frame)(cs:List Frame)(aN:Lv):Prop where
 stop:∀t ds h,aN none t ds h->W.K (G (Cc b t ds []) cs) h
 ret:∀t ds h k,aN (some .ret) t ds h->W.K (G (Cc b t ds (.code .ret ::k)) cs) h
 exit:∀id t ds h k,exitTo id k=none->aN (some (.exit id)) t ds h->W.K (G (Cc b t ds (.code (.exit id) ::k)) cs) h
def C2(W:Wk P)(aN:Lv)(b:Frame)(k:List Item)(cs:List Frame):Exit->Array aU->List Deferred->V->Prop
 | .normal,t,ds,h=>W.K (G (Cc b t ds k) cs) h
 | .exit id,t,ds,h=>match exitTo id k with
  | some k'=>W.K (G (Cc b t ds k') cs) h
  | none=>aN (some (.exit id)) t ds h
 | .ret,t,ds,h=>aN (some .ret) t ds h
 | _,_,_,_=>False
theorem C2.push{aN:Lv}{b:Frame}{x:Item}{k:List Item}{cs:List Frame}{e:Exit}{t:Array aU}{ds:List Deferred}{h:V}(hx:x.plain=true)(he:e≠.normal)
  (a:C2 W aN b k cs e t ds h):C2 W aN b (x ::k) cs e t ds h:=by
 cases e with
 | normal=>exact absurd rfl he
 | exit id=>
  have:exitTo id (x ::k)=exitTo id k:=by cases x <;> simp_all [exitTo,Item.plain]
  simp only [C2,this] at a ⊢;exact a
 | ret=>exact a
 | goto l=>exact a
 | panic c=>exact a
 | outgrown=>exact a
structure F8(P:Program) where
 wk:Wk P
 fn:FuncId
 rd:Option Nat
 N:Nat
abbrev Post:=Exit->(Nat->aU)->List Deferred->V->Prop
def Tr(E:F8 P)(c:Code)(O:Nat->aU)(ds:List Deferred)(h:V)(Q:Post):Prop:=
 ∀(b:Frame)(k:List Item)(cs:List Frame)(aN:Lv)(t:Array aU),b.fn=E.fn->b.roundOf=E.rd->Lf E.wk b cs aN->BX t E.N O->
  (∀e σ' ds' h',Q e σ' ds' h'->∀t',BX t' E.N σ'->C2 E.wk aN b k cs e t' ds' h')->E.wk.K (G (Cc b t ds (.code c ::k)) cs) h
def DI(E:F8 P)(ops:Array Oper)(l:List Oper)(O:Nat->aU)(ds:List Deferred)(h:V)(Q:Post):Prop:=
 ∀(i:Nat)(b:Frame)(k:List Item)(cs:List Frame)(aN:Lv)(t:Array aU),(∀j,l[j]? =ops[i+j]?)->b.fn=E.fn->b.roundOf=E.rd->Lf E.wk b cs aN->BX t E.N O->
  (∀e σ' ds' h',Q e σ' ds' h'->∀t',BX t' E.N σ'->C2 E.wk aN b k cs e t' ds' h')->E.wk.K (G (Cc b t ds (.inRegion ops (List.range' i l.length) ::k)) cs) h
variable {E:F8 P} {O:Nat->aU} {ds:List Deferred} {h:V} {Q:Post}
theorem N9{c:Code}{Q':Post}(hq:∀e O ds h,Q e O ds h->Q' e O ds h)(x:Tr E c O ds h Q):Tr E c O ds h Q':=
 λb k d f t g i j l m=>x b k d f t g i j l λe σ' a n q=>m e σ' a n (hq _ _ _ _ q)
theorem A0{main:Bool}{b:Frame}{t:Array aU}{ds:List Deferred}{k:List Item}{cs:List Frame}{w:World}:stepG P main (G (Cc b t ds k) cs) w=stepG.exec P main true (Cc b t ds k) cs none w:=rfl
theorem tr_skip(q:Q .normal O ds h):Tr E .skip O ds h Q:=λb k d e t _ _ _ a c=>
 Wk.go _ (λw=>by rw [A0];simp [stepG.exec,Cc,G]) (c _ _ _ _ q t a)
theorem tr_label{l:Nat}(q:Q .normal O ds h):Tr E (.label l) O ds h Q:=λb k d e t _ _ _ a c=>
 Wk.go _ (λw=>by rw [A0];simp [stepG.exec,Cc,G]) (c _ _ _ _ q t a)
theorem tr_ret(q:Q .ret O ds h):Tr E .ret O ds h Q:=λb k e f t _ _ a c d=>a.ret t ds h k (d _ _ _ _ q t c)
theorem tr_exit{id:Nat}(q:Q (.exit id) O ds h):Tr E (.exit id) O ds h Q:=λb k f g t _ _ c d e=>by
 have:=e _ _ _ _ q t d
 cases a:exitTo id k with
 | none=>simp only [C2,a] at this;exact c.exit id t ds h k a this
 | some i=>
  simp only [C2,a] at this;exact Wk.go _ (λw=>by rw [A0];simp [stepG.exec,Cc,G,a]) this
theorem tr_seq{x y:Code}(a:Tr E x O ds h (λe σ' ds' h'=>match e with | .normal=>Tr E y σ' ds' h' Q | e=>Q e σ' ds' h')):Tr E (.seq x y) O ds h Q:=by
 intro b k g i t j m n o d;refine Wk.go (Cc b t ds (.code x ::.code y ::k)) (λw=>by rw [A0];simp [stepG.exec,Cc,G]) ?_;refine a b (.code y ::k) g i t j m n o λe σ' ds' h' q f c=>?_;cases e with
 | normal=>exact q b k g i f j m n c d
 | exit id=>exact C2.push rfl aD (d _ _ _ _ q f c)
 | ret=>exact C2.push rfl aD (d _ _ _ _ q f c)
 | goto l=>exact C2.push rfl aD (d _ _ _ _ q f c)
 | panic l=>exact C2.push rfl aD (d _ _ _ _ q f c)
 | outgrown=>exact C2.push rfl aD (d _ _ _ _ q f c)
theorem A6{x y:Code}(aP:(Nat->aU)->List Deferred->V->Prop)(a:Tr E x O ds h (λe σ' ds' h'=>match e with | .normal=>aP σ' ds' h' | e=>Q e σ' ds' h'))
  (r:∀σ' ds' h',aP σ' ds' h'->Tr E y σ' ds' h' Q):Tr E (.seq x y) O ds h Q:=
 tr_seq (N9 (λe σ' ds' h' q=>by cases e <;> first | exact r _ _ _ q | exact q) a)
theorem YU{c:Operand}{x y:Code}{t:Bool}(hc:AL O c=.bool t)(a:Tr E (if t then x else y) O ds h Q):Tr E (.cond c x y) O ds h Q:=by
 intro b k g i d j l m e n;refine Wk.go (Cc b d ds (.code (if t then x else y) ::k)) (λw=>?_) (a b k g i d j l m e n);have f:(Cc b d ds (.code (.cond c x y) ::k)).eval c=.bool t:=by rw [Jb e];exact hc
 simp only [Cc] at f;rw [A0];simp [stepG.exec,Cc,G,f]
theorem C6{c:Operand}{x y:Code}(hc:AL O c=.bool true)(a:Tr E x O ds h Q):Tr E (.cond c x y) O ds h Q:=YU hc a
theorem BU{c:Operand}{x y:Code}(hc:AL O c=.bool false)(a:Tr E y O ds h Q):Tr E (.cond c x y) O ds h Q:=YU hc a
theorem AR{c:Operand}{x y:Code}{p:Prop}[Decidable p](hc:AL O c=.bool (decide p))(a:p->Tr E x O ds h Q)(a':¬p->Tr E y O ds h Q):Tr E (.cond c x y) O ds h Q:=by
 by_cases b:p
 ·exact C6 (by rw [hc];simp [b]) (a b)
 ·exact BU (by rw [hc];simp [b]) (a' b)
theorem Bw{c:Operand}{x y:Code}{t:Bool}(hc:AL O c=.bool t)(a:t=true->Tr E x O ds h Q)(a':t=false->Tr E y O ds h Q):Tr E (.cond c x y) O ds h Q:=by
 cases t with
 | true=>exact C6 hc (a rfl)
 | false=>exact BU hc (a' rfl)
theorem tr_block{id:Nat}{c:Code}(a:Tr E c O ds h (λe σ' ds' h'=>match e with | .normal=>Q .normal σ' ds' h' | .exit id'=>if id'=id then Q .normal σ' ds' h' else Q (.exit id') σ' ds' h' | e=>Q e σ' ds' h')) :
  Tr E (.block id c) O ds h Q:=by
 intro b k m n t o p r s i;refine Wk.go (Cc b t ds (.code c ::.inBlock id ::k)) (λw=>by rw [A0];simp [stepG.exec,Cc,G]) ?_;refine a b (.inBlock id ::k) m n t o p r s λe σ' ds' h' q g d=>?_;cases e with
 | normal=>exact Wk.go (Cc b g ds' k) (λw=>by rw [A0];simp [stepG.exec,Cc,G]) (i _ _ _ _ q g d)
 | exit id'=>
  by_cases f:id'=id
  ·simp only [f,if_true] at q
   have:=i _ _ _ _ q g d
   simp only [C2,exitTo,f,beq_self_eq_true,if_true];exact this
  ·simp only [f,if_false] at q
   have:=i _ _ _ _ q g d
   have j:(id==id')=false:=by simp;exact λh=>f h.symm
   simp only [C2,exitTo,j] at this ⊢;exact this
 | ret=>exact i _ _ _ _ q g d
 | goto l=>exact i _ _ _ _ q g d
 | panic l=>exact i _ _ _ _ q g d
 | outgrown=>exact i _ _ _ _ q g d
theorem tr_scope{c:Code}(a:Tr E c O ds h Q):Tr E (.scope c) O ds h Q:=by
 intro b k i j t m n o p r;refine Wk.go (Cc b t ds (.code c ::.inScope c ::k)) (λw=>by rw [A0];simp [stepG.exec,Cc,G]) ?_;refine a b (.inScope c ::k) i j t m n o p λe σ' d s q g f=>?_
 have:=r _ _ _ _ q g f
 cases e with
 | normal=>exact Wk.go (Cc b g d k) (λw=>by rw [A0];simp [stepG.exec,Cc,G]) this
 | exit id=>simp only [C2,exitTo] at this ⊢;exact this
 | ret=>exact this
 | goto l=>exact this.elim
 | panic l=>exact this.elim
 | outgrown=>exact this.elim
theorem Ag{c:Code}(aQ:Nat->(Nat->aU)->List Deferred->V->Prop){n:Nat}(i0:aQ n O ds h)
  (round:∀n O ds h,aQ n O ds h->Tr E c O ds h (λe σ' ds' h'=>match e with | .normal=>∃m,m<n/\aQ m σ' ds' h' | e=>Q e σ' ds' h')):Tr E (.loop c) O ds h Q:=by
 intro b k o p t r s u g f;refine Wk.go (Cc b t ds (.code c ::.inLoop c ::k)) (λw=>by rw [A0];simp [stepG.exec,Cc,G]) ?_;have i:∀n O ds h t,aQ n O ds h->BX t E.N O->E.wk.K (G (Cc b t ds (.code c ::.inLoop c ::k)) o) h:=by
  intro n
  induction n using Nat.strongRecOn with
  | ind n v=>
   intro O ds h t x g;refine round n O ds h x b (.inLoop c ::k) o p t r s u g λe σ' ds' h' q d a=>?_;cases e with
   | normal=>
    obtain ⟨m,y,j⟩:=q;exact Wk.go (Cc b d ds' (.code c ::.inLoop c ::k)) (λw=>by rw [A0];simp [stepG.exec,Cc,G]) (v m y _ _ _ _ j a)
   | exit id=>exact C2.push rfl aD (f _ _ _ _ q d a)
   | ret=>exact C2.push rfl aD (f _ _ _ _ q d a)
   | goto l=>exact C2.push rfl aD (f _ _ _ _ q d a)
   | panic l=>exact C2.push rfl aD (f _ _ _ _ q d a)
   | outgrown=>exact C2.push rfl aD (f _ _ _ _ q d a)
 exact i n O ds h t i0 g
theorem Y9{id:Nat}{l:List Oper}(a:DI E l.toArray l O ds h Q):Tr E (.region id l.toArray false) O ds h Q:=by
 intro b k c d t e f g i j;refine Wk.go (Cc b t ds (.inRegion l.toArray (List.range' 0 l.length) ::k)) (λw=>?_) (a 0 b k c d t aD e f g i j);rw [A0];simp [stepG.exec,Cc,G,List.range_eq_range']
theorem trL_nil{ops:Array Oper}(q:Q .normal O ds h):DI E ops [] O ds h Q:=by
 intro i b k d e t f g j l a c;exact Wk.go (Cc b t ds k) (λw=>by rw [A0];simp [stepG.exec,Cc,G]) (c _ _ _ _ q t a)
def AW(W:Wk P)(f:FuncId)(args:Array aU)(h:V)(R:aU->V->Prop):Prop:=
 ∀(c:Frame)(cs:List Frame),(∀v h',R v h'->W.K (G (c.finish v) cs) h')->W.K (G (Frame.enter P f args .normal) (c ::cs)) h
theorem AW.mono{f:FuncId}{args:Array aU}{R R':aU->V->Prop}(x:AW W f args h R)(hr:∀v h',R v h'->R' v h'):AW W f args h R':=
 λc a b=>x c a λv h' r=>b v h' (hr v h' r)
def Bu(W:Wk P)(l:Nat)(f:FuncId)(tmps:Array aU)(assign body:Code)(h:V)(R:aU->V->Prop):Prop:=
 ∀(c:Frame)(cs:List Frame),(∀v h',R v h'->W.K (G (c.finish v) cs) h')->W.K (G (Frame.round l f tmps assign body .normal) (c ::cs)) h
def ZA(t:Array aU)(dst:Option Nat)(v:aU):Array aU:=match dst with
 | some d=>t.setIfInBounds d v
 | none=>t
def putS(O:Nat->aU)(dst:Option Nat)(v:aU):Nat->aU:=match dst with
 | some d=>upd O d v
 | none=>O
def DK(dst:Option Nat)(N:Nat):Bool:=match dst with
 | some d=>Nat.blt d N
 | none=>true
def EK:Op->Bool
 | .defer _=>true
 | _=>false
def Upon(E:F8 P)(o:Oper)(O:Nat->aU)(ds:List Deferred)(T:(Nat->aU)->List Deferred->V->Prop):Next->V->Prop
 | .value v,h=>T (putS O o.dst v) ds h
 | .skip,h=>T (putS O o.dst undef) ds h
 | .enter f args,h=>AW E.wk f args h λv h'=>T (putS O o.dst v) ds h'
 | .round l f tmps a c,h=>Bu E.wk l f tmps a c h λv h'=>T (putS O o.dst v) ds h'
 | .defer d,h=>T (putS O o.dst undef) (d ::ds) h
 | _,_=>False
theorem Bf.sub{h h':V}{w w':World}{es es':Array Event}(s:Bf h w es h' w')(hs:∀e ∈ es',e ∈ es):Bf h w es' h' w':=
 { s with evs:=λe a=>s.evs e (hs e a),evb:=λe a=>s.evb e (hs e a),chn:=λb p o x y=>(s.chn b p o x y).imp id λz=>⟨z.1,λe a=>z.2 e (hs e a)⟩ }
theorem DJ{b:Frame}{t:Array aU}{ds:List Deferred}{ops:Array Oper}{i:Nat}{rest:List Nat}{k:List Item}{o:Oper}(ho:ops[i]? =some o)(v:aU) :
  (Cc b t ds (.inRegion ops (i ::rest) ::k)).finish v=Cc b (ZA t o.dst v) ds (.inRegion ops rest ::k):=by
 cases a:o.dst <;> simp [Frame.finish,Cc,ho,a,ZA]
theorem BX.putS{t:Array aU}{N:Nat}{O:Nat->aU}(s:BX t N O){dst:Option Nat}(hd:DK dst N=true)(v:aU) :
  BX (ZA t dst v) N (putS O dst v):=by
 cases dst with
 | none=>exact s
 | some d=>exact s.put hd v
theorem OA{b:Frame}{t:Array aU}{ds:List Deferred}{ops:Array Oper}{i:Nat}{rest:List Nat}{k:List Item}{cs:List Frame}{o:Oper}{T:(Nat->aU)->List Deferred->V->Prop}
  (ho:ops[i]? =some o) (hw:Region.wanted o (yielded ops t)=true) (hdf:b.roundOf=none\/EK o.op=false) (hd:DK o.dst E.N=true) (hs:BX t E.N O)
  (x:(execOp (AL O) o).gh P h (Upon E o O ds T))
  (hT:∀σ' ds' h',T σ' ds' h'->∀t',BX t' E.N σ'->E.wk.K (G (Cc b t' ds' (.inRegion ops rest ::k)) cs) h') :
  E.wk.K (G (Cc b t ds (.inRegion ops (i ::rest) ::k)) cs) h:=by
 refine E.wk.closed _ _ rfl λw f=>?_;obtain ⟨A,j,h',p,n,B,m⟩:=In f x;have r:=Jb (b:=b) (ds:=ds) (k:=.inRegion ops (i ::rest) ::k) hs;have s:stepG P E.wk.main (G (Cc b t ds (.inRegion ops (i ::rest) ::k)) cs) w=
   stepG.apply P true (Cc b t ds (.inRegion ops (i ::rest) ::k)) cs none (execOp (AL O) o) w:=by
  rw [<-r];have u:((ops[i]?).map (Region.wanted · (yielded ops t))).getD false=true:=by simp [ho,hw]
  rw [A0];unfold stepG.exec;simp only [Cc,u,↓reduceIte];unfold stepG.oper;simp only [Frame.oper?,ho];rcases hdf with e | e
  ·simp only [e]
  ·cases C:o.op <;> first | rfl | (rw [C] at e;cases e;done) | (cases b.roundOf <;> rfl)
 have hseen:∀q:Bool,∀e ∈ seen P b.fn (if q then #[] else p),e ∈ p:=λq e y=>by
  have:=mem_seen y
  cases q with
  | true=>simp at this
  | false=>simpa using this
 have g:∀q:Bool,Bf h w (seen P b.fn (if q then #[] else p)++ #[]) h' j:=λq=>by
  refine B.sub λe y=>hseen q e (by simpa using y)
 rw [s];cases A with
 | value v=>
  refine ⟨_,j,_,h',?_,g (b.kind==.early),hT _ _ _ m _ (hs.putS hd v)⟩;simp only [stepG.apply,n,if_true];rw [DJ ho];rfl
 | skip=>
  refine ⟨_,j,_,h',?_,g (b.kind==.early),hT _ _ _ m _ (hs.putS hd undef)⟩;simp only [stepG.apply,n,if_true];rw [DJ ho];rfl
 | enter D args=>
  refine ⟨_,j,_,h',?_,g (b.kind==.early),m (Cc b t ds (.inRegion ops (i ::rest) ::k)) cs λv z q=>?_⟩
  ·simp only [stepG.apply,n,if_true];rfl
  ·rw [DJ ho];exact hT _ _ _ q _ (hs.putS hd v)
 | round l D tmps a c=>
  refine ⟨_,j,_,h',?_,g (b.kind==.early),m (Cc b t ds (.inRegion ops (i ::rest) ::k)) cs λv z q=>?_⟩
  ·simp only [stepG.apply,n,if_true];rfl
  ·rw [DJ ho];exact hT _ _ _ q _ (hs.putS hd v)
 | defer d=>
  refine ⟨_,j,_,h',?_,g (b.kind==.early),hT _ _ _ m _ (hs.putS hd undef)⟩;simp only [stepG.apply,n,if_true];show GStep.go (G ((Cc b t (d ::ds) (.inRegion ops (i ::rest) ::k)).finish undef) cs) j _=_;rw [DJ ho];rfl
 | _=>exact m.elim
theorem trL_op{ops:Array Oper}{o:Oper}{l:List Oper}(hg:o.guard=none)(hdf:E.rd=none\/EK o.op=false)(hd:DK o.dst E.N=true)
  (x:(execOp (AL O) o).gh P h (Upon E o O ds λσ' ds' h'=>DI E ops l σ' ds' h' Q)):DI E ops (o ::l) O ds h Q:=by
 intro i b k e f t c g d m n p;have q:ops[i]? =some o:=by simpa using (c 0).symm
 refine OA (E:=E) (rest:=List.range' (i+1) l.length) q (by simp [Region.wanted,hg]) (d▸hdf) hd n x λσ' ds' h' y r a=>?_;exact y (i+1) b k e f r (λj=>by have:=c (j+1);simpa [Nat.add_assoc,Nat.add_comm 1 j] using this) g d m a p
theorem Si{ops:Array Oper}{o:Oper}{l:List Oper}{j d:Nat}{want:Bool}{oj:Oper}(hg:o.guard=some (j,want))(hj:ops[j]? =some oj)(hjd:oj.dst=some d)(hv:O d=.bool want)(hdj:Nat.blt d E.N=true)
  (hdf:E.rd=none\/EK o.op=false) (hd:DK o.dst E.N=true)
  (x:(execOp (AL O) o).gh P h (Upon E o O ds λσ' ds' h'=>DI E ops l σ' ds' h' Q)):DI E ops (o ::l) O ds h Q:=by
 intro i b k n p t g q m r c s;have u:ops[i]? =some o:=by simpa using (g 0).symm
 have v:yielded ops t j=some want:=by
  have a:d<t.size:=by rw [c.1];exact Nat.blt_eq▸hdj
  have e:=c.2 d;rw [hv] at e;have w:t[d]? =some (.bool want):=by
   simp only [Array.getD_eq_getD_getElem?,Array.getElem?_eq_getElem a,Option.getD_some] at e;rw [Array.getElem?_eq_getElem a,e]
  simp [yielded,hj,hjd,w]
 refine OA (E:=E) (rest:=List.range' (i+1) l.length) u (by simp [Region.wanted,hg,v]) (m▸hdf) hd c x λσ' ds' h' y z f=>?_;exact y (i+1) b k n p z (λj=>by have:=g (j+1);simpa [Nat.add_assoc,Nat.add_comm 1 j] using this) q m r f s
theorem OT{ops:Array Oper}{o:Oper}{l:List Oper}{j d:Nat}{want is:Bool}{oj:Oper}(hg:o.guard=some (j,want))(hj:ops[j]? =some oj)(hjd:oj.dst=some d)(hv:O d=.bool is)(hdj:Nat.blt d E.N=true)(hne:want≠is)
  (hd:DK o.dst E.N=true) (x:DI E ops l (putS O o.dst undef) ds h Q):DI E ops (o ::l) O ds h Q:=by
 intro i b k n p t g q r s c u;have m:ops[i]? =some o:=by simpa using (g 0).symm
 have v:yielded ops t j=some is:=by
  have a:d<t.size:=by rw [c.1];exact Nat.blt_eq▸hdj
  have e:=c.2 d;rw [hv] at e;have y:t[d]? =some (.bool is):=by
   simp only [Array.getD_eq_getD_getElem?,Array.getElem?_eq_getElem a,Option.getD_some] at e;rw [Array.getElem?_eq_getElem a,e]
  simp [yielded,hj,hjd,y]
 refine Wk.go (Cc b (ZA t o.dst undef) ds (.inRegion ops (List.range' (i+1) l.length) ::k)) (λw=>?_) ?_
 ·have f:((ops[i]?).map (Region.wanted · (yielded ops t))).getD false=false:=by
   simp only [m,Option.map_some,Option.getD_some,Region.wanted,hg,v];cases want <;> cases is <;> simp_all
  rw [<-DJ m (rest:=List.range' (i+1) l.length),List.length_cons,List.range'_succ,A0];unfold stepG.exec;simp only [Cc,f,Bool.false_eq_true,↓reduceIte];rfl
 ·exact x (i+1) b k n p _ (λj=>by have:=g (j+1);simpa [Nat.add_assoc,Nat.add_comm 1 j] using this) q r s (c.putS hd undef) u
end
end Go.Ns
namespace Go.Ns
open Go.Conc
theorem Mg{h:V}{n:Nat}{e:Event}(x:UC h n e):MemAct.ofEvent e=.access e/\(MemAct.ofEvent e).touch? =some ⟨e.loc,e.write,.plain⟩:=by
 obtain ⟨c,b⟩:=x;obtain ⟨l,d,f⟩:=e;simp only at c b;subst c;cases l with
 | cell a=>exact ⟨rfl,rfl⟩
 | obj r=>cases d <;> exact ⟨rfl,rfl⟩
 | output=>exact b.elim
 | goroutines=>exact b.elim
 | mark m=>exact b.elim
theorem Lg{h:V}{n:Nat}{e:Event}(x:UC h n e):∃b,Cq e.loc=some b/\Sg h n b e.write:=by
 obtain ⟨_,c⟩:=x;cases d:e.loc with
 | cell a=>rw [d] at c;exact ⟨_,rfl,c⟩
 | obj r=>rw [d] at c;exact ⟨_,rfl,c⟩
 | output=>rw [d] at c;exact c.elim
 | goroutines=>rw [d] at c;exact c.elim
 | mark m=>rw [d] at c;exact c.elim
theorem BY{t u:Trace}{k:Nat}{a:Touch}(h:touchAt (t++u) k=some a):(k<t.size/\touchAt t k=some a)\/(t.size<=k/\∃op ∈ u,(t++u)[k]? =some op/\op.act.touch? =some a):=by
 obtain ⟨op,b,c⟩:=touch_of h;rcases getElem?_append_cases b with ⟨x,y⟩ | ⟨x,y⟩
 ·exact .inl ⟨x,by rw [touchAt_of y];exact c⟩
 ·exact .inr ⟨x,op,y,b,c⟩
def Kx(hs:Nat->V)(i:Nat)(h:V):Nat->V:=λj=>if j=i then h else hs j
theorem Ew(hs:Nat->V)(i:Nat)(h:V):Kx hs i h i=h:=by simp [Kx]
theorem G1(hs:Nat->V){i j:Nat}(h:V)(e:j≠i):Kx hs i h j=hs j:=by simp [Kx,e]
structure HS(w:World)(n:Nat)(hs:Nat->V):Prop where
 fits:∀i,i<n->D7 w (hs i)
 disj:∀i j b o x,i<n->j<n->i≠j->hs i b=some (true,o)->hs j b=some x->False
theorem HS.at{w:World}{n:Nat}{hs:Nat->V}(h:HS w n hs)(d:Nat):HS (w.at d) n hs:=⟨h.fits,h.disj⟩
theorem HS.step{w w':World}{n:Nat}{hs:Nat->V}(h:HS w n hs){i:Nat}(hi:i<n){es:Array Event}{h':V}(s:Bf (hs i) w es h' w'):HS w' n (Kx hs i h') where
 fits:=λj q=>by
  by_cases e:j=i
  ·subst e;rw [Ew];exact s.fits
  ·rw [G1 hs h' e];intro b p o r;rw [s.frame b ((h.fits j q).lt r) λk x=>h.disj i j b k (p,o) hi q (λy=>e y.symm) x r];exact h.fits j q b p o r
 disj:=λa c b o x l m d g f=>by
  by_cases t:a=i
  ·subst t;rw [Ew] at g;rw [G1 hs h' (λy=>d y.symm)] at f;rcases s.own b o g with ⟨k,z⟩ | z
   ·exact h.disj a c b k x l m d z f
   ·exact absurd ((h.fits c m).lt (p:=x.1) (o:=x.2) f) (Nat.not_lt.2 z)
  ·rw [G1 hs h' t] at g;by_cases u:c=i
   ·subst u;rw [Ew] at f;obtain ⟨p,k⟩:=x;cases p with
    | true=>
     rcases s.own b k f with ⟨v,z⟩ | z
     ·exact h.disj a c b o _ l m d g z
     ·exact absurd ((h.fits a l).lt g) (Nat.not_lt.2 z)
    | false=>exact h.disj a c b o _ l m d g (s.ro b k f)
   ·rw [G1 hs h' u] at f;exact h.disj a c b o x l m d g f
structure TI(t:Trace)(n B:Nat)(hs:Nat->V):Prop where
 words:Wordless t
 clean:∀said,¬Race said t
 low:∀k a b,touchAt t k=some a->Cq a.loc=some b->b<B
 num:∀op ∈ t,op.g<n
 own:∀i b o k a,i<n->hs i b=some (true,o)->touchAt t k=some a->Cq a.loc=some b->Knows t i k
 ro:∀i b o k a,i<n->hs i b=some (false,o)->touchAt t k=some a->Cq a.loc=some b->a.write=true->Knows t i k
 chn:∀i b p o k a,i<n->hs i b=some (p,o)->o.isChan=true->touchAt t k=some a->Cq a.loc=some b->a.kind=.atomic
theorem TI.knows{t:Trace}{n B:Nat}{hs:Nat->V}(T:TI t n B hs){i b:Nat}{p:Bool}{o:Obj}{k:Nat}{a:Touch}(hi:i<n)(hb:hs i b=some (p,o))(hk:touchAt t k=some a)(hl:Cq a.loc=some b)
  (hw:p=true\/a.write=true):Knows t i k:=by
 cases p with
 | true=>exact T.own i b o k a hi hb hk hl
 | false=>exact T.ro i b o k a hi hb hk hl (hw.elim (λx=>by cases x) id)
theorem TI.step{t:Trace}{n:Nat}{hs:Nat->V}{w w':World}(T:TI t n w.heap.size hs)(H:HS w n hs){i:Nat}(hi:i<n){es:Array Event}{h':V}(s:Bf (hs i) w es h' w')(fn:FuncId)(pos:String) :
  TI (t++MemOp.ofEvents i fn pos es) n w'.heap.size (Kx hs i h'):=by
 have R:∀d ∈ MemOp.ofEvents i fn pos es,d.g=i:=λd c=>by obtain ⟨e,_,rfl⟩:=Go.Conc.mem_ofEvents c;rfl
 have S:∀d ∈ MemOp.ofEvents i fn pos es,∀a,d.act.touch? =some a->∃e ∈ es,a=⟨e.loc,e.write,.plain⟩/\UC (hs i) w.heap.size e:=by
  intro d c a u;obtain ⟨e,B,rfl⟩:=Go.Conc.mem_ofEvents c;rcases s.evs e B with h0 | h0
  ·have D:=Mg h0;simp only [D.2,Option.some.injEq] at u;exact ⟨e,B,u.symm,h0⟩
  ·rw [h0] at u;cases u
 have hother:∀j b p o,j<n->j≠i->hs j b=some (p,o)->∀d ∈ MemOp.ofEvents i fn pos es,∀a,d.act.touch? =some a->Cq a.loc=some b->p=false/\a.write=false/\o.isChan=false:=by
  intro j b p o v E h d c a u l;obtain ⟨e,B,rfl,F⟩:=S d c a u;obtain ⟨b',A,r⟩:=Lg F;simp only at l;rw [l] at A;cases A;rcases r with ⟨U,K,x,y,z⟩ | x
  ·have hp:p=false:=by
    cases p with
    | false=>rfl
    | true=>exact (H.disj j i b o _ v hi E h x).elim
   have N:U=false:=by
    cases U with
    | false=>rfl
    | true=>exact (H.disj i j b K _ hi v (λq=>E q.symm) x h).elim
   refine ⟨hp,?_,?_⟩
   ·cases O:e.write with
    | false=>rfl
    | true=>rw [z O] at N;cases N
   ·have e1:=H.fits j v b p o h;have X:=H.fits i hi b U K x;rw [e1] at X;cases X;exact y
  ·exact absurd ((H.fits j v).lt h) (Nat.not_lt.2 x)
 refine ⟨?_,?_,?_,?_,?_,?_,?_⟩
 ·refine T.words.append λd c m W=>?_;obtain ⟨e,B,rfl⟩:=Go.Conc.mem_ofEvents c;rcases s.evs e B with h0 | h0
  ·simp only [(Mg h0).1] at W;cases W
  ·rw [h0] at W;cases W;exact rfl
 ·intro said;refine noRace_append (T.clean said) R λk a f d c b h C=>?_;obtain ⟨e,B,rfl,F⟩:=S d c b h;obtain ⟨P,Q,r⟩:=Lg F;obtain ⟨c1,_,c3,_⟩:=C;have l:Cq a.loc=some P:=by rw [c1];exact Q
  rcases r with ⟨p,o,x,_,z⟩ | x
  ·refine T.knows hi x f l ?_;cases p with
   | true=>exact .inl rfl
   | false=>
    rcases c3 with c3 | c3
    ·exact .inr c3
    ·have:=z c3;cases this
  ·exact absurd (T.low k a P f l) (Nat.not_lt.2 x)
 ·intro k a b f l;rcases BY f with ⟨_,f⟩ | ⟨_,d,c,_,u⟩
  ·exact Nat.lt_of_lt_of_le (T.low k a b f l) s.size
  ·obtain ⟨e,B,rfl,_⟩:=S d c a u;exact s.evb e B b l
 ·intro d c;rcases Array.mem_append.1 c with x | x
  ·exact T.num d x
  ·rw [R d x];exact hi
 ·intro j b o k a v h f l;by_cases e:j=i
  ·subst e;rw [Ew] at h;rcases BY f with ⟨_,f⟩ | ⟨_,d,c,D,_⟩
   ·rcases s.own b o h with ⟨K,x⟩ | x
    ·exact (T.own j b K k a v x f l).app _
    ·exact absurd (T.low k a b f l) (Nat.not_lt.2 x)
   ·have:=knows_own D;rw [R d c] at this;exact this
  ·rw [G1 hs h' e] at h;rcases BY f with ⟨_,f⟩ | ⟨_,d,c,_,u⟩
   ·exact (T.own j b o k a v h f l).app _
   ·have:=(hother j b true o v e h d c a u l).1;cases this
 ·intro j b o k a v h f l O;by_cases e:j=i
  ·subst e;rw [Ew] at h;rcases BY f with ⟨_,f⟩ | ⟨_,d,c,D,_⟩
   ·exact (T.ro j b o k a v (s.ro b o h) f l O).app _
   ·have:=knows_own D;rw [R d c] at this;exact this
  ·rw [G1 hs h' e] at h;rcases BY f with ⟨_,f⟩ | ⟨_,d,c,_,u⟩
   ·exact (T.ro j b o k a v h f l O).app _
   ·have:=(hother j b false o v e h d c a u l).2.1;rw [O] at this;cases this
 ·intro j b p o k a v h C f l;by_cases e:j=i
  ·subst e;rw [Ew] at h;rcases BY f with ⟨_,f⟩ | ⟨_,d,c,_,u⟩
   ·rcases s.chn b p o h C with x | x
    ·exact T.chn j b p o k a v x C f l
    ·exact absurd (T.low k a b f l) (Nat.not_lt.2 x.1)
   ·obtain ⟨e,B,rfl,F⟩:=S d c a u;obtain ⟨b',A,r⟩:=Lg F;simp only at l;rw [l] at A;cases A;rcases s.chn b p o h C with x | x
    ·rcases r with ⟨U,K,y,z,_⟩ | y
     ·rw [x] at y;cases y;rw [C] at z;cases z
     ·exact absurd (s.fits0.lt x) (Nat.not_lt.2 y)
    ·exact absurd l (x.2 e B)
  ·rw [G1 hs h' e] at h;rcases BY f with ⟨_,f⟩ | ⟨_,d,c,_,u⟩
   ·exact T.chn j b p o k a v h C f l
   ·have:=(hother j b p o v e h d c a u l).2.2;rw [C] at this;cases this
theorem TI.mute{t u:Trace}{n B:Nat}{hs:Nat->V}(T:TI t n B hs)(hn:∀op ∈ u,op.act.touch? =none)(hw:Wordless u)(hg:∀op ∈ u,op.g<n):TI (t++u) n B hs:=by
 have c:∀k a,touchAt (t++u) k=some a->touchAt t k=some a:=λk a d=>by
  rcases BY d with ⟨_,d⟩ | ⟨_,op,e,_,l⟩
  ·exact d
  ·rw [hn op e] at l;cases l
 refine ⟨T.words.append hw,?_,λk a b d=>T.low k a b (c k a d),?_,λi b o k a h f d m=>(T.own i b o k a h f (c k a d) m).app _,
  λi b o k a h f d m hw=>(T.ro i b o k a h f (c k a d) m hw).app _,λi b p o k a h f q d=>T.chn i b p o k a h f q (c k a d)⟩
 ·rintro said ⟨i,j,r,⟨a,b,l,f,q⟩,s,v⟩;refine T.clean said ⟨i,j,r,⟨a,b,c i a l,c j b f,q⟩,λx=>s (hb_app u x),λx=>v (hb_app u x)⟩
 ·intro op e;rcases Array.mem_append.1 e with x | x
  ·exact T.num op x
  ·exact hg op x
end Go.Ns
namespace Go.Ns
open Go.Conc
section
variable {P:Program} {Post:aU->World->Prop}
def Bl(P:Program)(Post:aU->World->Prop)(m:Machine)(t:Trace):Prop:=
 ∃N last o w t',runNT P (N+1) m t=(.ended o w,t')/\runN P N m=.next last/\step P last=.ended o w/\Conc.Good P Post last o w t'
theorem Bl.step{m m':Machine}{t ops:Trace}(hs:stepT P m=(.next m',ops))(h:Bl P Post m' (t++ops)):Bl P Post m t:=by
 obtain ⟨n,last,o,w,a,b,c,d,e⟩:=h;exact ⟨n+1,last,o,w,a,by rw [runNT_succ_next hs];exact b,by rw [runN_succ_next hs];exact c,d,e⟩
def Io(Post:aU->World->Prop)(os:Os)(out:Array (Nat×aW)):aU->World->Prop:=λv w=>Post v w/\w.os=os/\w.output=out
theorem Bl.at{m:Machine}{t:Trace}{os os':Os}{out out':Array (Nat×aW)}(e:os'=os)(e':out'=out)(h:Bl P (Io Post os' out') m t):Bl P (Io Post os out) m t:=by subst e e';exact h
structure H7(P:Program)(g:Goroutine)(h:V)(gs:Array Goroutine)(w:World)(q:Nat->Nat)(t:Trace):Prop where
 here:gs[0]? =some g
 old:∀j x,0<j->gs[j]? =some x->QuitsIn P (q j) x
 fits:D7 w h
 words:Wordless t
 clean:∀said,¬Race said t
 low:∀k a b,touchAt t k=some a->Cq a.loc=some b->b<w.heap.size
 num:∀op ∈ t,op.g<gs.size
 known:∀k a,touchAt t k=some a->Knows t 0 k
 chn:∀b p o k a,h b=some (p,o)->o.isChan=true->touchAt t k=some a->Cq a.loc=some b->a.kind=.atomic
def Dz(P:Program)(Post:aU->World->Prop)(g:Goroutine)(h:V):Prop:=
 ∀gs w sl q t,H7 P g h gs w q t->Bl P (Io Post w.os w.output) (crowd gs w sl) t
def only(h:V):Nat->V:=λj=>if j=0 then h else λ_=>none
theorem H7.HS{g:Goroutine}{h:V}{gs:Array Goroutine}{w:World}{q:Nat->Nat}{t:Trace}(B:H7 P g h gs w q t):HS w gs.size (only h) where
 fits:=λi _=>by
  unfold only;split
  ·exact B.fits
  ·intro b p o x;cases x
 disj:=λi j b o x _ _ d a c=>by
  unfold only at a c;split at a
  ·split at c
   ·omega
   ·cases c
  ·cases a
theorem H7.TI{g:Goroutine}{h:V}{gs:Array Goroutine}{w:World}{q:Nat->Nat}{t:Trace}(B:H7 P g h gs w q t):TI t gs.size w.heap.size (only h) where
 words:=B.words
 clean:=B.clean
 low:=B.low
 num:=B.num
 own:=λi b o k a _ c d _=>by
  unfold only at c;split at c
  ·rename_i e;subst e;exact B.known k a d
  ·cases c
 ro:=λi b o k a _ c d _ _=>by
  unfold only at c;split at c
  ·rename_i e;subst e;exact B.known k a d
  ·cases c
 chn:=λi b p o k a _ c=>by
  unfold only at c;split at c
  ·exact B.chn b p o k a c
  ·cases c
theorem H7.lt{g:Goroutine}{h:V}{gs:Array Goroutine}{w:World}{q:Nat->Nat}{t:Trace}(B:H7 P g h gs w q t):0<gs.size:=(Array.getElem?_eq_some_iff.1 B.here).1
theorem H7.step{g g':Goroutine}{h h':V}{gs:Array Goroutine}{w w':World}{q:Nat->Nat}{t:Trace}(B:H7 P g h gs w q t){es:Array Event}(s:Bf h w es h' w')(fn:FuncId)(pos:String)(wk:Goroutine->Goroutine)
  (hwk:∀j x,0<j->gs[j]? =some x->wk x=x):H7 P g' h' ((gs.map wk).setIfInBounds 0 g') w' q (t++MemOp.ofEvents 0 fn pos es):=by
 have n:Bf (only h 0) w es h' w':=s;have T':=B.TI.step B.HS B.lt n fn pos;refine ⟨by simp [B.lt],?_,s.fits,T'.words,T'.clean,T'.low,by simpa using T'.num,?_,?_⟩
 ·intro j x i l;have c:0≠j:=Y
  rw [Array.getElem?_setIfInBounds_ne c,Array.getElem?_map] at l;obtain ⟨y,m,rfl⟩:=Option.map_eq_some_iff.1 l;rw [hwk j y i m];exact B.old j y i m
 ·intro k a d;rcases BY d with ⟨_,d⟩ | ⟨_,v,f,r,_⟩
  ·exact (B.known k a d).app _
  ·have:=knows_own r
   obtain ⟨e,_,rfl⟩:=Go.Conc.mem_ofEvents f;exact this
 ·intro b p o k a u;refine T'.chn 0 b p o k a B.lt ?_;rw [Ew];exact u
theorem H7.quit{g:Goroutine}{h:V}{gs:Array Goroutine}{w:World}{q:Nat->Nat}{t:Trace}(B:H7 P g h gs w q t)(hg:g.status=.running){i k d:Nat}{x x':Goroutine}(hi:0<i)(hx:gs[i]? =some x)(hq:QuitsIn P k x') :
  H7 P g h ((gs.map (woken P x x' (w.at d))).setIfInBounds i x') (w.at d) (Go.ConcN.upd q i k) t:=by
 refine ⟨?_,?_,B.fits,B.words,B.clean,B.low,by simpa using B.num,B.known,B.chn⟩
 ·rw [Array.getElem?_setIfInBounds_ne Y,Array.getElem?_map,B.here];simp [woken_running hg]
 ·intro j y f b;by_cases e:i=j
  ·subst e;have c:i<gs.size:=(Array.getElem?_eq_some_iff.1 hx).1;rw [Array.getElem?_setIfInBounds_self_of_lt (by simpa using c)] at b;obtain rfl:=Option.some.inj b;rw [Go.ConcN.upd_same];exact hq
  ·rw [Array.getElem?_setIfInBounds_ne e,Array.getElem?_map] at b;obtain ⟨z,l,rfl⟩:=Option.map_eq_some_iff.1 b;have a:=B.old j z f l;rw [woken_quits a,Go.ConcN.upd_ne q k (Ne.symm e)];exact a
theorem H7.awake{g:Goroutine}{h:V}{gs:Array Goroutine}{w:World}{q:Nat->Nat}{t:Trace}(B:H7 P g h gs w q t)(hg:g.status=.running):∀x ∈ gs,awake x:=by
 intro x b;obtain ⟨i,a,rfl⟩:=Array.mem_iff_getElem.1 b;rcases Nat.eq_zero_or_pos i with rfl | hpos
 ·have:gs[0]=g:=by have:=B.here;simpa [Array.getElem?_eq_getElem a] using this
  rw [this];exact awake_of (.inl hg)
 ·exact awake_of ((B.old i _ hpos (Array.getElem?_eq_getElem a)).status.elim .inl λx=>.inr (.inr x))
theorem RU{g:Goroutine}{h:V}(hg:g.status=.running)
  (go:∀gs w w₀ sl sl₀ q t,H7 P g h gs w q t->stepT P (crowd gs w₀ sl₀)=runT P (crowd gs w sl) 0->Bl P (Io Post w.os w.output) (crowd gs w₀ sl₀) t):Dz P Post g h:=by
 have n:∀μ gs w sl q t,Go.ConcN.sumTo gs.size q=μ->H7 P g h gs w q t->Bl P (Io Post w.os w.output) (crowd gs w sl) t:=by
  intro μ
  induction μ using Nat.strongRecOn with
  | ind μ y=>
   intro gs w sl q t hμ B;obtain ⟨i,x,d,b,j,l,c⟩:=crowd_pick (P:=P) (w:=w) (sl:=sl) (B.awake hg) ⟨0,g,B.here,hg⟩;rcases Nat.eq_zero_or_pos i with rfl | hpos
   ·have B':H7 P g h gs (w.at d) q t:=⟨B.here,B.old,B.fits,B.words,B.clean,B.low,B.num,B.known,B.chn⟩;exact go gs (w.at d) w b sl q t B' c
   ·have m:=B.old i x hpos j;have o:(i==0)=false:=by simp;omega
    have p:i<gs.size:=(Array.getElem?_eq_some_iff.1 j).1;cases a:q i with
    | zero=>rw [a] at m;rw [show x.status=.finished from m] at l;cases l
    | succ k=>
     rw [a] at m;rcases m with z | ⟨_,u,f,r⟩
     ·rw [z] at l;cases l
     have hrunT:=runT_crowd_go (P:=P) (sl:=b) (i:=i) j (by rw [o];exact f (w.at d));have s:((gs.map (woken P x u (w.at d))).setIfInBounds i u).size=gs.size:=aD
     have v:Go.ConcN.sumTo gs.size (Go.ConcN.upd q i k)+(k+1)=Go.ConcN.sumTo gs.size q+k:=by
      have:=Go.ConcN.sumTo_upd q k id p
      simpa [a] using this
     refine Bl.step (c.trans hrunT) ?_;have e:t++MemOp.ofEvents i x.frame.fn x.frame.place #[]=t:=by simp [MemOp.ofEvents]
     rw [e];exact y (Go.ConcN.sumTo gs.size (Go.ConcN.upd q i k)) Y _ _ _ (Go.ConcN.upd q i k) _ (by rw [s]) (B.quit hg hpos j r)
 intro gs w sl q t B;exact n _ gs w sl q t rfl B
theorem Kh:Sh P true (Dz P Post):=by
 intro g h b c;refine RU b λm w w₀ sl sl₀ q t B d=>?_;obtain ⟨n,o,p,r,e,a,f⟩:=c w B.fits;have hrunT:=runT_crowd_go (P:=P) (sl:=sl) (i:=0) B.here (show stepG P (0==0) g w=_ from e);refine Bl.step (d.trans hrunT) (Bl.at a.os a.out (f _ _ _ q _ (B.step a _ _ _ λj x k l=>woken_quits (B.old j x k l))))
theorem V9{g:Goroutine}{h:V}(hg:g.status=.running)
  (hs:∀w,D7 w h->∃v w' es h',stepG P true g w=.ended (.done v) w' es/\Bf h w es h' w'/\Post v w'):Dz P Post g h:=by
 refine RU hg λm w w₀ sl sl₀ q t B n=>?_;obtain ⟨v,w',es,h',o,d,r⟩:=hs w B.fits;have hrunT:=runT_many_ended (P:=P) (sl:=sl) (i:=0) B.here (show stepG P (0==0) g w=_ from o);have B':=B.step (g':=g) d g.frame.fn g.frame.place id λ_ _ _ _=>rfl;have a:=n.trans hrunT;refine ⟨0,crowd m w₀ sl₀,.done v,w',t++MemOp.ofEvents 0 g.frame.fn g.frame.place es,by simp [runNT,a],rfl,by simp [step,a],?_⟩;refine ⟨v,rfl,⟨r,d.os,d.out⟩,B'.clean,?_,?_,?_⟩
 ·intro i g' b e s;obtain ⟨x,c,_,_⟩:=s;obtain ⟨p,z,k,l,hb⟩:=B'.known i x c;refine ⟨p,by simp [Trace.g?,k,l],?_⟩;rcases hb with rfl | hb
  ·exfalso;apply e
   have:(t++MemOp.ofEvents 0 g.frame.fn g.frame.place es).g? i=some z.g:=by simp [Trace.g?,k]
   rw [this] at b;cases b;exact l
  ·exact hb
 ·refine ⟨λx c=>?_,rfl⟩;obtain ⟨j,f⟩:=List.mem_iff_getElem?.1 c;rw [List.getElem?_drop] at f;exact ⟨_,(B.old (1+j) x Y (by simpa [crowd] using f)).leaves⟩
 ·intro j x c f;refine ⟨q j,?_⟩;rw [B'.words.deaf j];exact (B.old j x Y c).hears _ _
end
end Go.Ns
namespace Go.Ns
open Go.Conc
inductive WA where
 | leaf
 | node (f:World->WA)
section
variable {P:Program}
def RV(P:Program)(main:Bool)(Stop:Goroutine->V->Prop):WA->Goroutine->V->Prop
 | .leaf,g,h=>Stop g h
 | .node f,g,h=>Stop g h\/(g.status=.running/\∀w,D7 w h->∃g' w' es h',stepG P main g w=.go g' w' es/\Bf h w es h' w'/\RV P main Stop (f w) g' h')
def Ei(P:Program)(main:Bool)(Stop:Goroutine->V->Prop)(g:Goroutine)(h:V):Prop:=∃T,RV P main Stop T g h
theorem Ei.stop{main:Bool}{Stop:Goroutine->V->Prop}{g:Goroutine}{h:V}(x:Stop g h):Ei P main Stop g h:=⟨.leaf,x⟩
theorem Lh(main:Bool)(Stop:Goroutine->V->Prop):Sh P main (Ei P main Stop):=by
 intro g h i j;have a:∀w,∃T,D7 w h->∃b c d e,stepG P main g w=.go b c d/\Bf h w d e c/\RV P main Stop T b e:=by
  intro w;by_cases f:D7 w h
  ·obtain ⟨b,c,d,e,k,l,T,m⟩:=j w f;exact ⟨T,λ_=>⟨b,c,d,e,k,l,m⟩⟩
  ·exact ⟨.leaf,λx=>absurd x f⟩
 exact ⟨.node λw=>Classical.choose (a w),.inr ⟨i,λw f=>Classical.choose_spec (a w) f⟩⟩
theorem Ei.elim{main:Bool}{K:Goroutine->V->Prop}(hK:Sh P main K){g:Goroutine}{h:V}(x:Ei P main K g h):K g h:=by
 obtain ⟨T,x⟩:=x
 induction T generalizing g h with
 | leaf=>exact x
 | node f a=>
  rcases x with x | ⟨b,x⟩
  ·exact x
  ·refine hK g h b λw c=>?_;obtain ⟨d,e,i,j,k,l,m⟩:=x w c;exact ⟨d,e,i,j,k,l,a w m⟩
def V.Sub(h1 h:V):Prop:=∀b p o,h1 b=some (p,o)->∃p0,h b=some (p0,o)/\(p=true->p0=true)
def V.Apart(a b:V):Prop:=∀r o x,a r=some (true,o)->b r=some x->False
structure V.Split(h h1 h2:V):Prop where
 left:h1.Sub h
 right:h2.Sub h
 one:h1.Apart h2
 two:h2.Apart h1
def V.join(h h2:V):V:=λb=>match h b with
 | some x=>some x
 | none=>h2 b
theorem V.Apart.mono{a b a' b':V}(x:a.Apart b)(ha:a'.Sub a)(hb:b'.Sub b):a'.Apart b':=λr o y c d=>by
 obtain ⟨h,e,f⟩:=ha r true o c;obtain rfl:=f rfl;obtain ⟨i,g,_⟩:=hb r y.1 y.2 d;exact x r o _ e g
theorem V.Sub.refl(a:V):a.Sub a:=λ_ p _ x=>⟨p,x,id⟩
theorem V.Apart.join_right{a x y:V}(h1:a.Apart x)(h2:a.Apart y):a.Apart (x.join y):=λr o z c b=>by
 unfold V.join at b;cases d:x r with
 | some u=>exact h1 r o u c d
 | none=>rw [d] at b;exact h2 r o z c b
theorem V.Apart.join_left{a x y:V}(h1:x.Apart a)(h2:y.Apart a):(x.join y).Apart a:=λr o z b d=>by
 unfold V.join at b;cases c:x r with
 | some u=>rw [c] at b;cases b;exact h1 r o z c d
 | none=>rw [c] at b;exact h2 r o z b d
theorem V.join_some{x y:V}{r:Nat}{p:Bool}{o:Obj}(h:x.join y r=some (p,o)):x r=some (p,o)\/y r=some (p,o):=by
 unfold V.join at h;cases a:x r with
 | some u=>rw [a] at h;exact .inl h
 | none=>rw [a] at h;exact .inr h
theorem D7.sub{w:World}{h h1:V}(f:D7 w h)(s:h1.Sub h):D7 w h1:=λb p o x=>by
 obtain ⟨a,y,_⟩:=s b p o x;exact f b a o y
theorem D7.join{w:World}{x y:V}(f:D7 w x)(g:D7 w y):D7 w (x.join y):=λb p o z=>(V.join_some z).elim (f b p o) (g b p o)
def V.Compat(h hm:V):Prop:=∀b p o q o',h b=some (p,o)->hm b=some (q,o')->p=false/\q=false/\o=o'
theorem V.compat{w:World}{h k hm:V}(f:D7 w h)(f':D7 w k)(a:h.Apart k)(a':k.Apart h)(s:hm.Sub k):h.Compat hm:=λb p o q c x y=>by
 obtain ⟨e,z,g⟩:=s b q c y;have i:=f b p o x;have d:=f' b e c z;rw [i] at d;refine ⟨?_,?_,by cases d;rfl⟩
 ·cases p with
  | false=>rfl
  | true=>exact (a b o _ x z).elim
 ·cases q with
  | false=>rfl
  | true=>obtain rfl:=g rfl;exact (a' b c _ z x).elim
def V.cut(h:V)(r:Nat):V:=λb=>if b=r then none else h b
inductive FC (aP:Type) where
 | send (c:Nat) (m:aP) (next:FC aP)
 | recv (c:Nat) (next:Option aP->FC aP)
 | close (c:Nat) (next:FC aP)
 | spawn (child next:FC aP)
 | make (next:Nat->FC aP)
 | stop
 | done
 | never
def FC.isDone{aP:Type}:FC aP->Prop
 | .done=>True
 | _=>False
variable {aP:Type} {Rep:Nat->aP->aU->V->Prop} {KS:Goroutine->V->Prop}
structure Sj(P:Program)(main:Bool)(Rep:Nat->aP->aU->V->Prop)(c:Nat)(m:aP)(Next:Goroutine->V->Prop)(fr:Frame)(cs:List Frame)(v z:aU)(hm h1 h:V):Prop where
 step:∀w,D7 w h->stepG P main (G fr cs) w=.comm (G fr cs) #[scase c v z] true .send w #[]
 split:V.Split h h1 hm
 rep:Rep c m v hm
 next:Next (G (fr.finish undef) cs) h1
structure Ky(P:Program)(main:Bool)(Rep:Nat->aP->aU->V->Prop)(c:Nat)(Next:Option aP->Goroutine->V->Prop)(fr:Frame)(cs:List Frame)(z:aU)(ok:Bool)(h:V):Prop where
 step:∀w,D7 w h->stepG P main (G fr cs) w=.comm (G fr cs) #[rcase c z] true (.recv ok) w #[]
 some:∀m v hm,Rep c m v hm->h.Compat hm->Next (some m) (G (fr.finish (recvd ok v true)) cs) (h.join hm)
 none:Next none (G (fr.finish (recvd ok z false)) cs) h
structure YV(P:Program)(main:Bool)(c:Nat)(Next:Goroutine->V->Prop)(fr:Frame)(cs:List Frame)(fr':Frame)(cs':List Frame)(h:V):Prop where
 step:∀w s r,D7 w h->w.heap[c]? =some (.chan 0 #[] false s r false)->stepG P main (G fr cs) w=.go (G fr' cs') { w with heap:=w.heap.setIfInBounds c (.chan 0 #[] true s r false) } #[⟨.obj c,false,true⟩,⟨.obj c,true,true⟩]
 wake:mayWake P (G fr cs)=true
 next:Next (G fr' cs') h
structure Sm(P:Program)(main:Bool)(Child Next:Goroutine->V->Prop)(fr:Frame)(cs:List Frame)(fr':Frame)(d:Deferred)(hc h1 h:V):Prop where
 step:∀w,D7 w h->stepG P main (G fr cs) w=.spawn (G fr' cs) (born P d) w #[]
 split:V.Split h h1 hc
 next:Next (G fr' cs) h1
 child:Child (born P d) hc
def FR(P:Program)(Rep:Nat->aP->aU->V->Prop)(KS:Goroutine->V->Prop):FC aP->Bool->Goroutine->V->Prop
 | .send c m nx,main=>Ei P main λg h=>∃fr cs v z hm h1,g=G fr cs/\Sj P main Rep c m (FR P Rep KS nx main) fr cs v z hm h1 h
 | .recv c f,main=>Ei P main λg h=>∃fr cs z ok,g=G fr cs/\Ky P main Rep c (λo=>FR P Rep KS (f o) main) fr cs z ok h
 | .close c nx,main=>Ei P main λg h=>∃fr cs fr' cs',g=G fr cs/\YV P main c (FR P Rep KS nx main) fr cs fr' cs' h
 | .spawn ch nx,main=>Ei P main λg h=>∃fr cs fr' d hc h1,g=G fr cs/\Sm P main (FR P Rep KS ch false) (FR P Rep KS nx main) fr cs fr' d hc h1 h
 | .make f,main=>Ei P main λg h=>g.status=.running/\∃c,h c=some (true,.chan 0 #[] false 0 0 false)/\FR P Rep KS (f c) main g (h.cut c)
 | .stop,main=>Ei P main KS
 | .never,main=>Ei P main λg _=>g.status=.running
 | .done,_=>λg _=>∃n,QuitsIn P n g
def H8(P:Program)(Rep:Nat->aP->aU->V->Prop)(KS:Goroutine->V->Prop):FC aP->Bool->Goroutine->V->Prop
 | .send c m nx,main=>λg h=>∃fr cs v z hm h1,g=G fr cs/\Sj P main Rep c m (FR P Rep KS nx main) fr cs v z hm h1 h
 | .recv c f,main=>λg h=>∃fr cs z ok,g=G fr cs/\Ky P main Rep c (λo=>FR P Rep KS (f o) main) fr cs z ok h
 | .close c nx,main=>λg h=>∃fr cs fr' cs',g=G fr cs/\YV P main c (FR P Rep KS nx main) fr cs fr' cs' h
 | .spawn ch nx,main=>λg h=>∃fr cs fr' d hc h1,g=G fr cs/\Sm P main (FR P Rep KS ch false) (FR P Rep KS nx main) fr cs fr' d hc h1 h
 | .make f,main=>λg h=>g.status=.running/\∃c,h c=some (true,.chan 0 #[] false 0 0 false)/\FR P Rep KS (f c) main g (h.cut c)
 | .stop,_=>KS
 | .done,_=>λ_ _=>False
 | .never,_=>λg _=>g.status=.running
theorem HN{s:FC aP}{main:Bool}(hs:¬s.isDone):FR P Rep KS s main=Ei P main (H8 P Rep KS s main):=by
 cases s <;> first | rfl | exact absurd trivial hs
inductive H9 where
 | low
 | leave (n:Nat)
 | walk (T:WA)
inductive RLt:H9->H9->Prop
 | low (T:WA):RLt .low (.walk T)
 | leave (n:Nat):RLt (.leave n) (.leave (n+1))
 | walk (f:World->WA) (w:World):RLt (.walk (f w)) (.walk (.node f))
theorem rlt_wf(r:H9):Acc RLt r:=by
 have a:Acc RLt .low:=⟨_,λy b=>by cases b⟩;cases r with
 | low=>exact a
 | leave n=>
  induction n with
  | zero=>exact ⟨_,λy b=>by cases b⟩
  | succ n c=>exact ⟨_,λy b=>by cases b;exact c⟩
 | walk T=>
  induction T with
  | leaf=>exact ⟨_,λy b=>by cases b;exact a⟩
  | node f c=>exact ⟨_,λy b=>by
    cases b with
    | low=>exact a
    | walk f w=>exact c w⟩
def Sn(n:Nat)(r' r:Nat->H9):Prop:=∃i,i<n/\RLt (r' i) (r i)/\∀j,j<n->j≠i->r' j=r j
theorem ranks_wf(n:Nat):∀r,Acc (Sn n) r:=by
 induction n with
 | zero=>exact λr=>⟨_,λy ⟨i,k,_⟩=>Y⟩
 | succ n g=>
  have c:∀a:H9,Acc RLt a->∀r,Acc (Sn n) r->r n=a->Acc (Sn (n+1)) r:=by
   intro a l
   induction l with
   | intro a _ m=>
    intro r o
    induction o with
    | intro r p d=>
     intro e;refine ⟨_,λy ⟨i,k,b,h⟩=>?_⟩;rcases Nat.lt_or_ge i n with hin | hin
     ·exact d y ⟨i,hin,b,λj q f=>h j Y f⟩ (by rw [h n Y Y,e])
     ·obtain rfl:i=n:=Y
      exact m (y i) (e▸b) y (g y) rfl
  exact λr=>c (r n) (rlt_wf _) r (g r) rfl
structure Hq(aP:Type) where
 n:Nat
 s:Nat->FC aP
 kn:Nat->Nat->Prop
 cl:Nat->Bool
 ck:Nat->Nat->Prop
def Hq.meet(N:Hq aP)(i j:Nat)(si sj:FC aP):Hq aP:=
 { N with s:=λx=>if x=i then si else if x=j then sj else N.s x,kn:=λx y=>if x=i\/x=j then N.kn i y\/N.kn j y\/(y=i/\si.isDone)\/(y=j/\sj.isDone) else N.kn x y }
def Hq.shut(N:Hq aP)(i c:Nat)(nx:FC aP):Hq aP:=
 { N with s:=λx=>if x=i then nx else N.s x,cl:=λx=>if x=c then true else N.cl x,ck:=λx y=>if x=c then N.kn i y\/(y=i/\nx.isDone) else N.ck x y }
def Hq.hear(N:Hq aP)(j c:Nat)(nx:FC aP):Hq aP:=
 { N with s:=λx=>if x=j then nx else N.s x,kn:=λx y=>if x=j then N.kn j y\/N.ck c y else N.kn x y }
def Hq.hire(N:Hq aP)(i:Nat)(ch nx:FC aP):Hq aP:=
 { N with n:=N.n+1,s:=λx=>if x=N.n then ch else if x=i then nx else N.s x,kn:=λx y=>if y=N.n then False else if x=N.n then N.kn i y else N.kn x y,ck:=λx y=>if y=N.n then False else N.ck x y }
def Hq.mk'(N:Hq aP)(i c:Nat)(nx:FC aP):Hq aP:=
 { N with s:=λx=>if x=i then nx else N.s x,cl:=λx=>if x=c then false else N.cl x }
inductive Jc:Hq aP->Hq aP->Prop
 | hire {N:Hq aP} {i:Nat} {ch nx:FC aP}:i<N.n->N.s i=.spawn ch nx->Jc N (N.hire i ch nx)
 | meet {N:Hq aP} {i j c:Nat} {m:aP} {nx:FC aP} {f:Option aP->FC aP}:i<N.n->j<N.n->i≠j->N.s i=.send c m nx->N.s j=.recv c f->Jc N (N.meet i j nx (f (some m)))
 | shut {N:Hq aP} {i c:Nat} {nx:FC aP}:i<N.n->N.s i=.close c nx->Jc N (N.shut i c nx)
 | hear {N:Hq aP} {j c:Nat} {f:Option aP->FC aP}:j<N.n->N.s j=.recv c f->N.cl c=true->Jc N (N.hear j c (f none))
def Jd(used:Nat->Prop)(cl:Nat->Bool)(i:Nat):FC aP->Prop
 | .send c _ _=>used c/\cl c=false
 | .recv c _=>used c
 | .close c _=>used c/\cl c=false
 | .spawn _ _=>True
 | .make _=>True
 | .stop=>False
 | .done=>i≠0
 | .never=>False
inductive Gx:(Nat->Prop)->Hq aP->Prop
 | stop (used:Nat->Prop) (N:Hq aP):0<N.n->N.s 0=.stop->(∀j,0<j->j<N.n->N.s j=.done/\N.kn 0 j)->Gx used N
 | step (used:Nat->Prop) (N:Hq aP):0<N.n->((∃N',Jc N N')\/∃i f,i<N.n/\N.s i=.make f)->(∀i,i<N.n->Jd used N.cl i (N.s i))->(∀N',Jc N N'->Gx used N')->
   (∀i f c,i<N.n->N.s i=.make f->¬used c->Gx (λx=>used x\/x=c) (N.mk' i c (f c)))->Gx used N
theorem Gx.plain{used:Nat->Prop}(N:Hq aP)(h0:0<N.n)(he:∃N',Jc N N')(hf:∀i,i<N.n->Jd used N.cl i (N.s i))(hs:∀N',Jc N N'->Gx used N')(nm:∀i f,i<N.n->N.s i≠.make f):Gx used N:=
 .step used N h0 (.inl he) hf hs λi f _ a e _=>absurd e (nm i f a)
theorem Gx.sendOpen{used:Nat->Prop}{N:Hq aP}(h:Gx used N){j c:Nat}{m:aP}{nx:FC aP}(hj:j<N.n)(hs:N.s j=.send c m nx):N.cl c=false:=by
 cases h with
 | stop _ _ d b a=>
  rcases Nat.eq_zero_or_pos j with rfl | hp
  ·rw [hs] at b;cases b
  ·rw [(a j hp hj).1] at hs;cases hs
 | step _ _ _ _ a _ _=>have:=a j hj;rw [hs] at this;exact this.2
end
end Go.Ns
namespace Go.Ns
open Go.Conc
section
theorem UD{t u:Trace}{k:Nat}{x:MemOp}(h:u[k]? =some x):(t++u)[t.size+k]? =some x:=by
 rw [Array.getElem?_append_right Y];simpa using h
theorem Ip{t u:Trace}{g k q:Nat}{y:MemOp}(hk:Knows t g k)(hq:t.size<=q)(hy:(t++u)[q]? =some y)(hg:y.g=g):HappensBefore (t++u) k q:=hk.hb_new hq hy hg
theorem OU{t:Trace}{k q r g:Nat}{z:MemOp}(h1:HappensBefore t k q)(h2:HappensBefore t q r)(hz:t[r]? =some z)(hg:z.g=g):Knows t g k:=⟨r,z,hz,hg,.inr (h1.trans h2)⟩
theorem J9{t:Trace}(hw:Wordless t){i j:Nat}(h:Notices t i j){x y:MemOp}(hi:t[i]? =some x)(hj:t[j]? =some y):HappensBefore t i j:=.single (.inr ⟨h,hw.heard hi,hw.heard hj⟩)
theorem ZB{t:Trace}{i j c s:Nat}{f1 f2 f3 f4:FuncId}{p1 p2 p3 p4:String}{u:Trace}
  (hu:u=#[{ g:=i,fn:=f1,pos:=p1,act:=.send c s },{ g:=j,fn:=f2,pos:=p2,act:=.recv c s 0 },{ g:=i,fn:=f3,pos:=p3,act:=.sendDone c s },{ g:=j,fn:=f4,pos:=p4,act:=.recvDone c s }])
  (hw:Wordless (t++u)) {k:Nat} (hk:Knows t i k\/Knows t j k):Knows (t++u) i k/\Knows (t++u) j k:=by
 subst hu;have a:=UD (t:=t) (u:=#[{ g:=i,fn:=f1,pos:=p1,act:=.send c s },{ g:=j,fn:=f2,pos:=p2,act:=.recv c s 0 },{ g:=i,fn:=f3,pos:=p3,act:=.sendDone c s },{ g:=j,fn:=f4,pos:=p4,act:=.recvDone c s }]) (k:=0) rfl;have b:=UD (t:=t) (u:=#[{ g:=i,fn:=f1,pos:=p1,act:=.send c s },{ g:=j,fn:=f2,pos:=p2,act:=.recv c s 0 },{ g:=i,fn:=f3,pos:=p3,act:=.sendDone c s },{ g:=j,fn:=f4,pos:=p4,act:=.recvDone c s }]) (k:=1) rfl;have d:=UD (t:=t) (u:=#[{ g:=i,fn:=f1,pos:=p1,act:=.send c s },{ g:=j,fn:=f2,pos:=p2,act:=.recv c s 0 },{ g:=i,fn:=f3,pos:=p3,act:=.sendDone c s },{ g:=j,fn:=f4,pos:=p4,act:=.recvDone c s }]) (k:=2) rfl;have e:=UD (t:=t) (u:=#[{ g:=i,fn:=f1,pos:=p1,act:=.send c s },{ g:=j,fn:=f2,pos:=p2,act:=.recv c s 0 },{ g:=i,fn:=f3,pos:=p3,act:=.sendDone c s },{ g:=j,fn:=f4,pos:=p4,act:=.recvDone c s }]) (k:=3) rfl;refine ⟨?_,?_⟩
 ·rcases hk with hk | hk
  ·exact hk.app _
  ·refine OU (Ip hk Y b rfl) (J9 hw (.room (c:=c) (k:=s) (cap:=0) (act?_of b) ?_) b d) d rfl;exact act?_of d
 ·rcases hk with hk | hk
  ·exact OU (Ip hk Y a rfl) (J9 hw (.handOver (c:=c) (k:=s) (act?_of a) (act?_of e)) a e) e rfl
  ·exact hk.app _
theorem TI.redist{t u:Trace}{n n' B:Nat}{hs hs':Nat->V}(T:TI t n B hs)(hn:∀op ∈ u,op.act.touch? =none)(hw:Wordless u)(hg:∀op ∈ t++u,op.g<n')
  (src:∀j b p o,j<n'->hs' j b=some (p,o)->∃j0,j0<n/\(∃p0,hs j0 b=some (p0,o)/\(p=true->p0=true))/\∀k,Knows t j0 k->Knows (t++u) j k):TI (t++u) n' B hs':=by
 have c:∀k a,touchAt (t++u) k=some a->touchAt t k=some a:=λk a d=>by
  rcases BY d with ⟨_,d⟩ | ⟨_,op,q,_,m⟩
  ·exact d
  ·rw [hn op q] at m;cases m
 refine ⟨T.words.append hw,?_,λk a b d=>T.low k a b (c k a d),hg,?_,?_,?_⟩
 ·rintro said ⟨i,j,r,⟨a,b,m,f,s⟩,w,A⟩;refine T.clean said ⟨i,j,r,⟨a,b,c i a m,c j b f,s⟩,λx=>w (hb_app u x),λx=>A (hb_app u x)⟩
 ·intro i b o k a h f d l;obtain ⟨j0,e,⟨p0,x,y⟩,z⟩:=src i b true o h f;obtain rfl:=y rfl;exact z k (T.own j0 b o k a e x (c k a d) l)
 ·intro i b o k a h f d l v;obtain ⟨j0,e,⟨p0,x,y⟩,z⟩:=src i b false o h f;exact z k (T.knows e x (c k a d) l (.inr v))
 ·intro i b p o k a h f s d l;obtain ⟨j0,e,⟨p0,x,y⟩,z⟩:=src i b p o h f;exact T.chn j0 b p0 o k a e x s (c k a d) l
theorem TI.atomic{t u:Trace}{n B c g:Nat}{hs:Nat->V}(T:TI t n B hs)(hg:g<n)(hu:∀op ∈ u,op.g=g)(ha:∀op ∈ u,∀a,op.act.touch? =some a->Cq a.loc=some c/\a.kind=.atomic)(hw:Wordless u)
  (hc:c<B) (free:∀i,i<n->hs i c=none) (atom:∀k a,touchAt t k=some a->Cq a.loc=some c->a.kind=.atomic):TI (t++u) n B hs:=by
 refine ⟨T.words.append hw,?_,?_,?_,?_,?_,?_⟩
 ·intro said;refine noRace_append (T.clean said) hu λk a e op d b h m=>?_;obtain ⟨s,v⟩:=ha op d b h;have w:=atom k a e (by rw [m.1];exact s);obtain ⟨_,_,_,h4⟩:=m;rw [v,w] at h4;rcases h4 with h4 | h4 | ⟨_,h4,_⟩ <;> cases h4
 ·intro k a b e f;rcases BY e with ⟨_,e⟩ | ⟨_,op,d,_,l⟩
  ·exact T.low k a b e f
  ·rw [(ha op d a l).1] at f;cases f;exact hc
 ·intro op d;rcases Array.mem_append.1 d with x | x
  ·exact T.num op x
  ·rw [hu op x];exact hg
 ·intro i b o k a j h e f;rcases BY e with ⟨_,e⟩ | ⟨_,op,d,_,l⟩
  ·exact (T.own i b o k a j h e f).app _
  ·rw [(ha op d a l).1] at f;cases f;rw [free i j] at h;cases h
 ·intro i b o k a j h e f q;rcases BY e with ⟨_,e⟩ | ⟨_,op,d,_,l⟩
  ·exact (T.ro i b o k a j h e f q).app _
  ·rw [(ha op d a l).1] at f;cases f;rw [free i j] at h;cases h
 ·intro i b p o k a j h r e f;rcases BY e with ⟨_,e⟩ | ⟨_,op,d,_,l⟩
  ·exact T.chn i b p o k a j h r e f
  ·rw [(ha op d a l).1] at f;cases f;rw [free i j] at h;cases h
theorem TI.raise{t:Trace}{n B B':Nat}{hs:Nat->V}(T:TI t n B hs)(h:B<=B'):TI t n B' hs:=
 { T with low:=λk a b c d=>Nat.lt_of_lt_of_le (T.low k a b c d) h }
end
end Go.Ns
namespace Go.Ns
open Go.Conc
section
variable {P:Program} {aP:Type} {Rep:Nat->aP->aU->V->Prop} {KS:Goroutine->V->Prop}
inductive OB (P:Program) (Rep:Nat->aP->aU->V->Prop) (KS:Goroutine->V->Prop) (s:FC aP) (cl:Nat->Bool) (main:Bool) (g:Goroutine) (h:V):H9->Prop
 | walk (T:WA):¬s.isDone->RV P main (H8 P Rep KS s main) T g h->OB P Rep KS s cl main g h (.walk T)
 | leave (k:Nat):s=.done->QuitsIn P k g->OB P Rep KS s cl main g h (.leave k)
 | psend {c:Nat} {m:aP} {nx:FC aP} {fr:Frame} {cs:List Frame} {v z:aU} {hm h1:V}:s=.send c m nx->cl c=false->g=parked (G fr cs) #[scase c v z] .send->Sj P main Rep c m (FR P Rep KS nx main) fr cs v z hm h1 h->OB P Rep KS s cl main g h .low
 | precv {c:Nat} {f:Option aP->FC aP} {fr:Frame} {cs:List Frame} {z:aU} {ok:Bool}:s=.recv c f->cl c=false->g=parked (G fr cs) #[rcase c z] (.recv ok)->Ky P main Rep c (λo=>FR P Rep KS (f o) main) fr cs z ok h->OB P Rep KS s cl main g h .low
 | wokn {c:Nat} {f:Option aP->FC aP} {fr:Frame} {cs:List Frame} {z:aU} {ok:Bool}:s=.recv c f->cl c=true->g={ parked (G fr cs) #[rcase c z] (.recv ok) with status:=.running }->Ky P main Rep c (λo=>FR P Rep KS (f o) main) fr cs z ok h->OB P Rep KS s cl main g h .low
theorem Ga{s:FC aP}{cl:Nat->Bool}{main:Bool}{g:Goroutine}{h:V}(x:FR P Rep KS s main g h):∃r,OB P Rep KS s cl main g h r:=by
 by_cases a:s.isDone
 ·cases s <;> first | exact a.elim | skip
  obtain ⟨n,b⟩:=x;exact ⟨_,.leave n rfl b⟩
 ·rw [HN a] at x;obtain ⟨T,c⟩:=x;exact ⟨_,.walk T a c⟩
theorem Li{s:FC aP}{main:Bool}{g:Goroutine}{h:V}(hs:¬s.isDone)(h0:s≠.stop)(x:H8 P Rep KS s main g h):g.status=.running:=by
 cases s with
 | send c m d=>obtain ⟨a,b,_,_,_,_,rfl,_⟩:=x;rfl
 | recv c f=>obtain ⟨a,b,_,_,rfl,_⟩:=x;rfl
 | close c d=>obtain ⟨a,b,_,_,rfl,_⟩:=x;rfl
 | spawn e d=>obtain ⟨a,b,_,_,_,_,rfl,_⟩:=x;rfl
 | make f=>exact x.1
 | stop=>exact absurd rfl h0
 | done=>exact absurd trivial hs
 | never=>exact x
theorem By{s:FC aP}{main:Bool}{g:Goroutine}{h:V}{T:WA}(hs:¬s.isDone)(h0:s≠.stop)(x:RV P main (H8 P Rep KS s main) T g h):g.status=.running:=by
 cases T with
 | leaf=>exact Li hs h0 x
 | node f=>exact x.elim (Li hs h0) (·.1)
theorem OB.status{s:FC aP}{cl:Nat->Bool}{main:Bool}{g:Goroutine}{h:V}{r:H9}(x:OB P Rep KS s cl main g h r)(h0:s≠.stop):g.status=.running\/g.status=.blocked\/g.status=.finished:=by
 cases x with
 | walk T b c=>exact .inl (By b h0 c)
 | leave k b d=>exact d.status.elim .inl λx=>.inr (.inr x)
 | psend _ _ a _=>rw [a];exact .inr (.inl rfl)
 | precv _ _ a _=>rw [a];exact .inr (.inl rfl)
 | wokn _ _ a _=>rw [a];exact .inl rfl
theorem OB.keep{s:FC aP}{cl:Nat->Bool}{main:Bool}{g:Goroutine}{h:V}{r:H9}(x:OB P Rep KS s cl main g h r)(h0:s≠.stop){w:World}{used:Nat->Prop}{i:Nat}(hf:Jd used cl i s)
  (hc:∀c,used c->∃n,w.heap[c]? =some (.chan 0 #[] (cl c) n n false)) (a a':Goroutine):woken P a a' w g=g:=by
 cases x with
 | walk T d j=>exact woken_running (By d h0 j)
 | leave k d l=>exact woken_quits l
 | psend d b e _=>
  subst d;obtain ⟨n,f⟩:=hc _ hf.1;rw [b] at f;rw [e];exact woken_send_open a a' f
 | precv d b e _=>
  subst d;obtain ⟨n,f⟩:=hc _ hf;rw [b] at f;rw [e];exact woken_recv_open a a' f
 | wokn _ _ e _=>rw [e];exact woken_running rfl
structure FD(P:Program)(Rep:Nat->aP->aU->V->Prop)(KS:Goroutine->V->Prop)(used:Nat->Prop)(N:Hq aP)(gs:Array Goroutine)(w:World)(t:Trace)(hs:Nat->V)(r:Nat->H9):Prop where
 size:gs.size=N.n
 apart:HS w N.n hs
 tr:TI t N.n w.heap.size hs
 sit:∀i g,gs[i]? =some g->OB P Rep KS (N.s i) N.cl (i==0) g (hs i) (r i)
 chans:∀c,used c->∃s,w.heap[c]? =some (.chan 0 #[] (N.cl c) s s false)
 free:∀c i,used c->i<N.n->hs i c=none
 atom:∀c k a,used c->touchAt t k=some a->Cq a.loc=some c->a.kind=.atomic
 nomeet:∀(i j:Nat)(gi gj:Goroutine)(c:Nat)(v z:aU)(sh:CommShape)(z':aU)(sh':CommShape),gs[i]? =some (parked gi #[scase c v z] sh)->gs[j]? =some (parked gj #[rcase c z'] sh')->False
 kn:∀i j,i<N.n->j<N.n->N.kn i j->N.s j=.done/\∀k a,touchAt t k=some a->t.g? k=some j->Knows t i k
 ck:∀c,used c->N.cl c=true->∃p op,t[p]? =some op/\op.act=.close c/\∀x,x<N.n->N.ck c x->N.s x=.done/\∀k a,touchAt t k=some a->t.g? k=some x->Before t k p
variable {used:Nat->Prop} {N:Hq aP} {gs:Array Goroutine} {w:World} {t:Trace} {hs:Nat->V} {r:Nat->H9}
theorem FD.at(aQ:FD P Rep KS used N gs w t hs r)(d:Nat):FD P Rep KS used N gs (w.at d) t hs r:=
 { aQ with apart:=aQ.apart.at d,tr:=aQ.tr,chans:=aQ.chans }
theorem g?_app{t u:Trace}{k g:Nat}(h:(t++u).g? k=some g)(hk:k<t.size):t.g? k=some g:=by
 simp only [Trace.g?,getElem?_append_old hk] at h ⊢;exact h
theorem kn_app{u:Trace}{x y g:Nat}(hk:∀k a,touchAt t k=some a->t.g? k=some y->Knows t x k)(hu:∀op ∈ u,op.g=g\/op.act.touch? =none)(hy:y≠g) :
  ∀k a,touchAt (t++u) k=some a->(t++u).g? k=some y->Knows (t++u) x k:=by
 intro k a b c;rcases BY b with ⟨d,b⟩ | ⟨_,op,f,i,h⟩
 ·exact (hk k a b (g?_app c d)).app _
 ·rcases hu op f with e | e
  ·have:(t++u).g? k=some op.g:=by simp [Trace.g?,i]
   rw [this] at c;cases c;exact absurd e hy
  ·rw [e] at h;cases h
theorem ck_app{u:Trace}{x g p:Nat}(hk:∀k a,touchAt t k=some a->t.g? k=some x->Before t k p)(hu:∀op ∈ u,op.g=g\/op.act.touch? =none)(hx:x≠g) :
  ∀k a,touchAt (t++u) k=some a->(t++u).g? k=some x->Before (t++u) k p:=by
 intro k a b c;rcases BY b with ⟨d,b⟩ | ⟨_,op,f,i,h⟩
 ·exact (hk k a b (g?_app c d)).app _
 ·rcases hu op f with e | e
  ·have:(t++u).g? k=some op.g:=by simp [Trace.g?,i]
   rw [this] at c;cases c;exact absurd e hx
  ·rw [e] at h;cases h
def EL(r:Nat->H9)(i:Nat)(x:H9):Nat->H9:=λj=>if j=i then x else r j
theorem DV{gs:Array Goroutine}{i:Nat}{g':Goroutine}{f:Goroutine->Goroutine}{j:Nat}{x:Goroutine}(h:((gs.map f).setIfInBounds i g')[j]? =some x) :
  (j=i/\x=g')\/(j≠i/\∃y,gs[j]? =some y/\x=f y):=by
 by_cases e:i=j
 ·subst e;by_cases a:i<gs.size
  ·rw [Array.getElem?_setIfInBounds_self_of_lt (by simpa using a)] at h;exact .inl ⟨rfl,(Option.some.inj h).symm⟩
  ·rw [Array.getElem?_eq_none (by simp;omega)] at h;cases h
 ·rw [Array.getElem?_setIfInBounds_ne e,Array.getElem?_map] at h;obtain ⟨y,b,rfl⟩:=Option.map_eq_some_iff.1 h;exact .inr ⟨λx=>e x.symm,y,b,rfl⟩
theorem Ej{gs:Array Goroutine}{i:Nat}{g':Goroutine}{j:Nat}{x:Goroutine}(h:(gs.setIfInBounds i g')[j]? =some x):(j=i/\x=g')\/(j≠i/\gs[j]? =some x):=by
 have:((gs.map id).setIfInBounds i g')[j]? =some x:=by simpa using h
 rcases DV this with x | ⟨a,y,b,rfl⟩
 ·exact .inl x
 ·exact .inr ⟨a,b⟩
theorem FD.step(aQ:FD P Rep KS used N gs w t hs r)(hf:∀i,i<N.n->Jd used N.cl i (N.s i)){i:Nat}{g g':Goroutine}{w':World}{es:Array Event}{h':V}{x:H9}(hi:gs[i]? =some g)(hnd:¬(N.s i).isDone)
  (s:Bf (hs i) w es h' w') (hg':g'.status=.running) (hx:OB P Rep KS (N.s i) N.cl (i==0) g' h' x) (fn:FuncId) (pos:String) :
  FD P Rep KS used N ((gs.map (woken P g g' w')).setIfInBounds i g') w' (t++MemOp.ofEvents i fn pos es) (Kx hs i h') (EL r i x):=by
 have m:i<N.n:=by rw [<-aQ.size];exact (Array.getElem?_eq_some_iff.1 hi).1
 have F:∀c,used c->∃s,w'.heap[c]? =some (.chan 0 #[] (N.cl c) s s false):=λc d=>by
  obtain ⟨n,C⟩:=aQ.chans c d;have f:c<w.heap.size:=(Array.getElem?_eq_some_iff.1 C).1;refine ⟨n,?_⟩;rw [s.frame c f (λo y=>by rw [aQ.free c i d m] at y;cases y)];exact C
 have hstop:∀j,j<N.n->N.s j≠.stop:=λj u e=>by have:=hf j u;rw [e] at this;exact this
 have hu:∀D ∈ MemOp.ofEvents i fn pos es,D.g=i\/D.act.touch? =none:=λD A=>by obtain ⟨e,_,rfl⟩:=Go.Conc.mem_ofEvents A;exact .inl rfl
 have hkeep:∀j y,j≠i->gs[j]? =some y->woken P g g' w' y=y:=λj y _ u=>by
  have H:j<N.n:=by rw [<-aQ.size];exact (Array.getElem?_eq_some_iff.1 u).1
  exact (aQ.sit j y u).keep (hstop j H) (hf j H) F g g'
 refine ⟨by simpa using aQ.size,aQ.apart.step m s,aQ.tr.step aQ.apart m s fn pos,?_,F,?_,?_,?_,?_,?_⟩
 ·intro j y U;rcases DV U with ⟨rfl,rfl⟩ | ⟨h,R,l,rfl⟩
  ·rw [Ew,EL,aT rfl];exact hx
  ·rw [hkeep j R h l,G1 hs h' h,EL,aS h];exact aQ.sit j R l
 ·intro c j d u;by_cases e:j=i
  ·subst e;rw [Ew];cases hq:h' c with
   | none=>rfl
   | some y=>
    obtain ⟨p,o⟩:=y;obtain ⟨n,C⟩:=aQ.chans c d;have f:c<w.heap.size:=(Array.getElem?_eq_some_iff.1 C).1;cases p with
    | true=>
     rcases s.own c o hq with ⟨o',z⟩ | z
     ·rw [aQ.free c j d u] at z;cases z
     ·omega
    | false=>have:=s.ro c o hq;rw [aQ.free c j d u] at this;cases this
  ·rw [G1 hs h' e];exact aQ.free c j d u
 ·intro c k a d q W;rcases BY q with ⟨_,q⟩ | ⟨_,D,A,_,E⟩
  ·exact aQ.atom c k a d q W
  ·obtain ⟨e,X,rfl⟩:=Go.Conc.mem_ofEvents A;have K:UC (hs i) w.heap.size e:=by
    rcases s.evs e X with h0 | h0
    ·exact h0
    ·rw [h0] at E;cases E
   simp only [(Mg K).2,Option.some.injEq] at E;subst E;obtain ⟨b,S,O⟩:=Lg K;simp only at W;rw [W] at S;cases S;obtain ⟨n,C⟩:=aQ.chans c d;have f:c<w.heap.size:=(Array.getElem?_eq_some_iff.1 C).1;rcases O with ⟨p,o,z,_⟩ | z
   ·rw [aQ.free c i d m] at z;cases z
   ·omega
 ·intro a b ga gb c v z T z' sh' B Q;have hpark:∀(k:Nat)(y g0:Goroutine)(cs:Array CommCase)(T:CommShape),y=parked g0 cs T->((gs.map (woken P g g' w')).setIfInBounds i g')[k]? =some y->gs[k]? =some y:=by
   intro k y g0 cs T X q;rcases DV q with ⟨rfl,rfl⟩ | ⟨h,R,l,rfl⟩
   ·rw [X] at hg';cases hg'
   ·rw [hkeep k R h l];exact l
  exact aQ.nomeet a b ga gb c v z T z' sh' (hpark a _ _ _ _ rfl B) (hpark b _ _ _ _ rfl Q)
 ·intro a b E S q;obtain ⟨B,Q⟩:=aQ.kn a b E S q;exact ⟨B,kn_app Q hu (λe=>hnd (by rw [<-e,B];trivial))⟩
 ·intro c d f;obtain ⟨p,D,B,Q,h3⟩:=aQ.ck c d f;refine ⟨p,D,by rw [getElem?_append_old (lt_size_of_getElem? B)];exact B,Q,λy U q=>?_⟩;obtain ⟨h4,h5⟩:=h3 y U q;exact ⟨h4,ck_app h5 hu (λe=>hnd (by rw [<-e,h4];trivial))⟩
theorem FD.quit(aQ:FD P Rep KS used N gs w t hs r)(hf:∀i,i<N.n->Jd used N.cl i (N.s i)){i k:Nat}{g g':Goroutine}(hi:gs[i]? =some g)(hd:N.s i=.done)(hq:QuitsIn P k g') :
  FD P Rep KS used N ((gs.map (woken P g g' w)).setIfInBounds i g') w t hs (EL r i (.leave k)):=by
 have hstop:∀j,j<N.n->N.s j≠.stop:=λj m e=>by have:=hf j m;rw [e] at this;exact this
 have hkeep:∀j y,j≠i->gs[j]? =some y->woken P g g' w y=y:=λj y _ m=>by
  have l:j<N.n:=by rw [<-aQ.size];exact (Array.getElem?_eq_some_iff.1 m).1
  exact (aQ.sit j y m).keep (hstop j l) (hf j l) aQ.chans g g'
 refine ⟨by simpa using aQ.size,aQ.apart,aQ.tr,?_,aQ.chans,aQ.free,aQ.atom,?_,aQ.kn,aQ.ck⟩
 ·intro j y A;rcases DV A with ⟨rfl,rfl⟩ | ⟨f,o,d,rfl⟩
  ·rw [EL,aT rfl];exact .leave k hd hq
  ·rw [hkeep j o f d,EL,aS f];exact aQ.sit j o d
 ·intro a b B C c v z p D q E F;have hpark:∀(k:Nat)(y u:Goroutine)(x:Array CommCase)(p:CommShape),y=parked u x p->((gs.map (woken P g g' w)).setIfInBounds i g')[k]? =some y->gs[k]? =some y:=by
   intro k y u x p H K;rcases DV K with ⟨rfl,rfl⟩ | ⟨f,o,d,rfl⟩
   ·rw [H] at hq;rcases hq.status with h | h <;> cases h
   ·rw [hkeep k o f d];exact d
  exact aQ.nomeet a b B C c v z p D q (hpark a _ _ _ _ rfl E) (hpark b _ _ _ _ rfl F)
end
end Go.Ns
namespace Go.Ns
open Go.Conc
section
variable {P:Program} {aP:Type} {Rep:Nat->aP->aU->V->Prop} {KS:Goroutine->V->Prop}
variable {used:Nat->Prop} {N:Hq aP} {gs:Array Goroutine} {w:World} {t:Trace} {hs:Nat->V} {r:Nat->H9}
theorem HF{a b:Goroutine}{c c':Nat}{z z' v:aU}{sh sh':CommShape}(h:parked a #[rcase c z] sh=parked b #[scase c' v z'] sh'):False:=by
 simp [parked,rcase,scase] at h
theorem RW{a b:Goroutine}{c c':Nat}{z z':aU}{sh sh':CommShape}(h:parked a #[rcase c z] sh=parked b #[rcase c' z'] sh'):a.frame=b.frame/\a.callers=b.callers/\a.dying=b.dying/\c=c'/\z=z'/\sh=sh':=by
 simp only [parked,Goroutine.mk.injEq,rcase,Option.some.injEq,Prod.mk.injEq] at h;obtain ⟨e,f,_,g,d,i⟩:=h;simp at d;exact ⟨e,f,g,d.1,d.2,i⟩
theorem RX{a b:Goroutine}{c c':Nat}{v v' z z':aU}{sh sh':CommShape}(h:parked a #[scase c v z] sh=parked b #[scase c' v' z'] sh'):a.frame=b.frame/\a.callers=b.callers/\a.dying=b.dying/\c=c'/\v=v'/\z=z'/\sh=sh':=by
 simp only [parked,Goroutine.mk.injEq,scase,Option.some.injEq,Prod.mk.injEq] at h;obtain ⟨e,f,_,g,d,i⟩:=h;simp at d;exact ⟨e,f,g,d.1,d.2.1,d.2.2,i⟩
theorem RY{g:Goroutine}{fr:Frame}{cs:List Frame}(h1:g.frame=fr)(h2:g.callers=cs)(h3:g.dying=none)(v:aU):Go.Conc.served g v=G (fr.finish v) cs:=by
 simp [Go.Conc.served,G,h1,h2,h3]
theorem RZ{h:V}{c:Nat}{o:Obj}{d:Nat}(f:D7 w h)(hc:h c=none):D7 { w.at d with heap:=w.heap.setIfInBounds c o } h:=λb p x a=>by
 have g:c≠b:=λe=>by subst e;rw [hc] at a;cases a
 show (w.heap.setIfInBounds c o)[b]? =_;rw [Array.getElem?_setIfInBounds_ne g];exact f b p x a
theorem ZC{cl:Nat->Bool}(hc:∀c,used c->∃s,w.heap[c]? =some (.chan 0 #[] (cl c) s s false)){c s d:Nat}{b:Bool}(hu:used c) :
  ∀c',used c'->∃n,(({ w.at d with heap:=w.heap.setIfInBounds c (.chan 0 #[] b s s false) }:World)).heap[c']? =some (.chan 0 #[] (if c'=c then b else cl c') n n false):=by
 intro c' a
 show∃n,(w.heap.setIfInBounds c (.chan 0 #[] b s s false))[c']? =_
 by_cases e:c'=c
 ·subst e;obtain ⟨n,g⟩:=hc c' a;have f:c'<w.heap.size:=(Array.getElem?_eq_some_iff.1 g).1;rw [aT rfl];exact ⟨s,by simp [f]⟩
 ·rw [aS e,Array.getElem?_setIfInBounds_ne (λx=>e x.symm)];exact hc c' a
theorem FD.park(aQ:FD P Rep KS used N gs w t hs r){i:Nat}{g:Goroutine}(hi:i<N.n){x:Goroutine}(hx:x=parked g #[] .send\/True)(hsit:OB P Rep KS (N.s i) N.cl (i==0) x (hs i) .low)
  (hno:∀(j:Nat)(gj:Goroutine),gs[j]? =some gj->(∀g0 c v z sh g1 z' sh',x=parked g0 #[scase c v z] sh->gj=parked g1 #[rcase c z'] sh'->False)/\(∀g0 c v z sh g1 z' sh',gj=parked g0 #[scase c v z] sh->x=parked g1 #[rcase c z'] sh'->False)) :
  FD P Rep KS used N (gs.setIfInBounds i x) w t hs (EL r i .low):=by
 refine ⟨by simpa using aQ.size,aQ.apart,aQ.tr,?_,aQ.chans,aQ.free,aQ.atom,?_,aQ.kn,aQ.ck⟩
 ·intro j y m;rcases Ej m with ⟨rfl,rfl⟩ | ⟨f,h⟩
  ·rw [EL,aT rfl];exact hsit
  ·rw [EL,aS f];exact aQ.sit j y h
 ·intro a b o p c v z sh z' sh' q l;rcases Ej q with ⟨u,e⟩ | ⟨u,e⟩
  ·rcases Ej l with ⟨k,d⟩ | ⟨k,d⟩
   ·rw [<-d] at e;exact HF e.symm
   ·exact (hno b _ d).1 _ _ _ _ _ _ _ _ e.symm rfl
  ·rcases Ej l with ⟨k,d⟩ | ⟨k,d⟩
   ·exact (hno a _ e).2 _ _ _ _ _ _ _ _ rfl d.symm
   ·exact aQ.nomeet a b o p c v z sh z' sh' e d
theorem FD.meet(aQ:FD P Rep KS used N gs w t hs r){i j c s d:Nat}{m:aP}{nx:FC aP}{f:Option aP->FC aP}(hi:i<N.n)(hj:j<N.n)(hij:i≠j)(hsi:N.s i=.send c m nx)(hsj:N.s j=.recv c f)(hu:used c)
  (hcl:N.cl c=false)
  {fr:Frame} {cs:List Frame} {v z:aU} {hm h1:V} (A:Sj P (i==0) Rep c m (FR P Rep KS nx (i==0)) fr cs v z hm h1 (hs i))
  {fr':Frame} {cs':List Frame} {z':aU} {ok:Bool} (B:Ky P (j==0) Rep c (λo=>FR P Rep KS (f o) (j==0)) fr' cs' z' ok (hs j))
  {gs':Array Goroutine} (gi:gs'[i]? =some (G (fr.finish undef) cs)) (gj:gs'[j]? =some (G (fr'.finish (recvd ok v true)) cs')) (gk:∀k,k≠i->k≠j->gs'[k]? =gs[k]?) (hsz:gs'.size=gs.size)
  {f1 f2 f3 f4:FuncId} {p1 p2 p3 p4:String} {u:Trace}
  (hu':u=#[{ g:=i,fn:=f1,pos:=p1,act:=.send c s },{ g:=j,fn:=f2,pos:=p2,act:=.recv c s 0 },{ g:=i,fn:=f3,pos:=p3,act:=.sendDone c s },{ g:=j,fn:=f4,pos:=p4,act:=.recvDone c s }]) :
  ∃hs' r',FD P Rep KS used (N.meet i j nx (f (some m))) gs' { w.at d with heap:=w.heap.setIfInBounds c (.chan 0 #[] false (s+1) (s+1) false) } (t++u) hs' r':=by
 have hmute:∀U ∈ u,U.act.touch? =none:=by
  subst hu';intro U E;simp at E;rcases E with rfl | rfl | rfl | rfl <;> rfl
 have hwu:Wordless u:=by
  subst hu';intro U E mk hmk;simp at E;rcases E with rfl | rfl | rfl | rfl <;> cases hmk
 have hgu:∀U ∈ u,U.g=i\/U.g=j:=by
  subst hu';intro U E;simp at E;rcases E with rfl | rfl | rfl | rfl <;> simp
 have hW:=aQ.tr.words.append hwu;have K:∀k,Knows t i k\/Knows t j k->Knows (t++u) i k/\Knows (t++u) j k:=λk l=>ZB hu' hW l;have aij:(hs i).Apart (hs j):=λb o x y z=>aQ.apart.disj i j b o x hi hj hij y z;have aji:(hs j).Apart (hs i):=λb o x y z=>aQ.apart.disj j i b o x hj hi (λe=>hij e.symm) y z;have hcomp:(hs j).Compat hm:=V.compat (aQ.apart.fits j hj) (aQ.apart.fits i hi) aji aij A.split.right;obtain ⟨ri,hri⟩:=Ga (cl:=N.cl) A.next;obtain ⟨rj,hrj⟩:=Ga (cl:=N.cl) (B.some m v hm A.rep hcomp);have hji:j≠i:=λe=>hij e.symm;let hs':Nat->V:=λx=>if x=i then h1 else if x=j then (hs j).join hm else hs x
 have ei:hs' i=h1:=aT rfl;have ej:hs' j=(hs j).join hm:=by show (if j=i then _ else if j=j then _ else _)=_;rw [aS hji,aT rfl]
 have ek:∀k,k≠i->k≠j->hs' k=hs k:=λk h1 h2=>by show (if k=i then _ else if k=j then _ else _)=_;rw [aS h1,aS h2]
 have hfree:∀F k,used F->k<N.n->hs' k F=none:=by
  intro F k H l;have fi:=aQ.free F i H hi;by_cases e:k=i
  ·subst e;rw [ei];cases X:h1 F with
   | none=>rfl
   | some y=>obtain ⟨p0,h2,_⟩:=A.split.left F y.1 y.2 X;rw [fi] at h2;cases h2
  ·by_cases S:k=j
   ·subst S;rw [ej];cases X:(hs k).join hm F with
    | none=>rfl
    | some y=>
     rcases V.join_some (p:=y.1) (o:=y.2) X with h2 | h2
     ·rw [aQ.free F k H l] at h2;cases h2
     ·obtain ⟨p0,W,_⟩:=A.split.right F y.1 y.2 h2;rw [fi] at W;cases W
   ·rw [ek k e S];exact aQ.free F k H l
 have hsrc:∀k b p o,k<N.n->hs' k b=some (p,o)->∃j0,j0<N.n/\(∃p0,hs j0 b=some (p0,o)/\(p=true->p0=true))/\∀q,Knows t j0 q->Knows (t++u) k q:=by
  intro k b p o l O;by_cases e:k=i
  ·subst e;rw [ei] at O;exact ⟨k,l,A.split.left b p o O,λq X=>X.app _⟩
  ·by_cases S:k=j
   ·subst S;rw [ej] at O;rcases V.join_some O with h2 | h2
    ·exact ⟨k,l,⟨p,h2,id⟩,λq X=>X.app _⟩
    ·exact ⟨i,hi,A.split.right b p o h2,λq X=>(K q (.inl X)).2⟩
   ·rw [ek k e S] at O;exact ⟨k,l,⟨p,O,id⟩,λq X=>X.app _⟩
 have Q:∀a b,a<N.n->b<N.n->a≠b->(hs a).Apart (hs b):=λa b C O D r o x y z=>aQ.apart.disj a b r o x C O D y z;have hap':∀a b,a<N.n->b<N.n->a≠b->(hs' a).Apart (hs' b):=by
  intro a b C O D;by_cases ea:a=i
  ·subst ea;rw [ei];by_cases eb:b=j
   ·subst eb;rw [ej];exact V.Apart.join_right ((Q a b C O D).mono A.split.left (V.Sub.refl _)) A.split.one
   ·rw [ek b (λe=>D e.symm) eb];exact (Q a b C O D).mono A.split.left (V.Sub.refl _)
  ·by_cases ea2:a=j
   ·subst ea2;rw [ej];by_cases eb:b=i
    ·subst eb;rw [ei];exact V.Apart.join_left ((Q a b C O D).mono (V.Sub.refl _) A.split.left) A.split.two
    ·rw [ek b eb (λe=>D e.symm)];exact V.Apart.join_left (Q a b C O D) ((Q i b hi O (λe=>eb e.symm)).mono A.split.right (V.Sub.refl _))
   ·rw [ek a ea ea2];by_cases eb:b=i
    ·subst eb;rw [ei];exact (Q a b C O D).mono (V.Sub.refl _) A.split.left
    ·by_cases eb2:b=j
     ·subst eb2;rw [ej];exact V.Apart.join_right (Q a b C O D) ((Q a i C hi ea).mono (V.Sub.refl _) A.split.right)
     ·rw [ek b eb eb2];exact Q a b C O D
 have hnd:∀y,N.s y=.done->y≠i/\y≠j:=λy hy=>⟨(λe=>by rw [e,hsi] at hy;cases hy),(λe=>by rw [e,hsj] at hy;cases hy)⟩;have htouch:∀k a,touchAt (t++u) k=some a->touchAt t k=some a:=λk a C=>by
  rcases BY C with ⟨_,C⟩ | ⟨_,U,E,_,h2⟩
  ·exact C
  ·rw [hmute U E] at h2;cases h2
 have hg? :∀k a y,touchAt t k=some a->(t++u).g? k=some y->t.g? k=some y:=λk a y C R=>by
  obtain ⟨U,h2,_⟩:=touch_of C;exact g?_app R (lt_size_of_getElem? h2)
 have hown:∀k a y,touchAt t k=some a->t.g? k=some y->Knows t y k:=λk a y C R=>by
  obtain ⟨U,h2,_⟩:=touch_of C
  have:=knows_own h2
  simp [Trace.g?,h2] at R;rw [R] at this;exact this
 refine ⟨hs',EL (EL r j rj) i ri,⟨by rw [hsz];exact aQ.size,⟨?_,?_⟩,?_,?_,?_,hfree,?_,?_,?_,?_⟩⟩
 ·intro k l;refine RZ (h:=hs' k) ?_ (hfree c k hu l);by_cases e:k=i
  ·subst e;rw [ei];exact (aQ.apart.fits k l).sub A.split.left
  ·by_cases S:k=j
   ·subst S;rw [ej];exact (aQ.apart.fits k l).join ((aQ.apart.fits i hi).sub A.split.right)
   ·rw [ek k e S];exact aQ.apart.fits k l
 ·exact λa b r o x C O D y z=>hap' a b C O D r o x y z
 ·have:=aQ.tr.redist hmute hwu (n':=N.n) (hs':=hs') (λU E=>by
   rcases Array.mem_append.1 E with x | x
   ·exact aQ.tr.num U x
   ·rcases hgu U x with e | e <;> rw [e] <;> assumption) hsrc
  exact this.raise aD
 ·intro k g l;show OB P Rep KS (if k=i then nx else if k=j then f (some m) else N.s k) N.cl (k==0) g (hs' k) _;by_cases e:k=i
  ·subst e;rw [gi] at l;cases l;rw [aT rfl,ei,EL,aT rfl];exact hri
  ·by_cases S:k=j
   ·subst S;rw [gj] at l;cases l;rw [aS e,aT rfl,ej,EL,aS e,EL,aT rfl];exact hrj
   ·rw [gk k e S] at l;rw [aS e,aS S,ek k e S,EL,aS e,EL,aS S];exact aQ.sit k g l
 ·intro F H;obtain ⟨n,hn⟩:=ZC aQ.chans (s:=s+1) (d:=d) (b:=false) hu F H;refine ⟨n,?_⟩;rw [hn];by_cases e:F=c
  ·subst e;rw [aT rfl];show some (Obj.chan 0 #[] false n n false)=some (Obj.chan 0 #[] (N.cl F) n n false);rw [hcl]
  ·rw [aS e];rfl
 ·exact λF k a H l=>aQ.atom F k a H (htouch k a l)
 ·intro a b ga gb F v' z1 sh z2 sh' h2 W;have hold:∀(k:Nat)(g0:Goroutine)(cs0:Array CommCase)(sh0:CommShape),gs'[k]? =some (parked g0 cs0 sh0)->gs[k]? =some (parked g0 cs0 sh0):=by
   intro k g0 cs0 sh0 l;by_cases e:k=i
   ·subst e;rw [gi] at l;simp [G,parked] at l
   ·by_cases S:k=j
    ·subst S;rw [gj] at l;simp [G,parked] at l
    ·rw [gk k e S] at l;exact l
  exact aQ.nomeet a b ga gb F v' z1 sh z2 sh' (hold _ _ _ _ h2) (hold _ _ _ _ W)
 ·intro x y hx hy l;have hdone:∀{y},N.s y=.done->(N.meet i j nx (f (some m))).s y=.done:=λ{y} h=>by
   obtain ⟨h2,W⟩:=hnd y h;show (if y=i then nx else if y=j then f (some m) else N.s y)=_;rw [aS h2,aS W];exact h
  by_cases e:x=i\/x=j
  ·have hk':N.kn i y\/N.kn j y\/(y=i/\nx.isDone)\/(y=j/\(f (some m)).isDone):=by
    have:(if x=i\/x=j then N.kn i y\/N.kn j y\/(y=i/\nx.isDone)\/(y=j/\(f (some m)).isDone) else N.kn x y):=l
    rw [aT e] at this;exact this
   have fin:(∀q a,touchAt t q=some a->t.g? q=some y->Knows t i q\/Knows t j q)->∀q a,touchAt (t++u) q=some a->(t++u).g? q=some y->Knows (t++u) x q:=by
    intro h q a C R;have T:=htouch q a C
    have:=K q (h q a T (hg? q a y T R))
    rcases e with e | e <;> subst e
    ·exact this.1
    ·exact this.2
   rcases hk' with h | h | ⟨h,h'⟩ | ⟨h,h'⟩
   ·obtain ⟨h2,W⟩:=aQ.kn i y hi hy h;exact ⟨hdone h2,fin λq a C R=>.inl (W q a C R)⟩
   ·obtain ⟨h2,W⟩:=aQ.kn j y hj hy h;exact ⟨hdone h2,fin λq a C R=>.inr (W q a C R)⟩
   ·subst h;refine ⟨?_,fin λq a C R=>.inl (hown q a y C R)⟩;show (if y=y then nx else _)=_;rw [aT rfl];cases nx <;> first | rfl | exact h'.elim
   ·subst h;refine ⟨?_,fin λq a C R=>.inr (hown q a y C R)⟩;show (if y=i then nx else if y=y then f (some m) else _)=_;rw [aS hji,aT rfl];cases X:f (some m) <;> first | rfl | (rw [X] at h';exact h'.elim)
  ·have hk':N.kn x y:=by
    have:(if x=i\/x=j then N.kn i y\/N.kn j y\/(y=i/\nx.isDone)\/(y=j/\(f (some m)).isDone) else N.kn x y):=l
    rw [aS e] at this;exact this
   obtain ⟨h2,W⟩:=aQ.kn x y hx hy hk';exact ⟨hdone h2,λq a C R=>by
    have T:=htouch q a C;exact (W q a T (hg? q a y T R)).app _⟩
 ·intro F H hcl';obtain ⟨p,U,h2,W,h4⟩:=aQ.ck F H hcl';refine ⟨p,U,by rw [getElem?_append_old (lt_size_of_getElem? h2)];exact h2,W,λy hy l=>?_⟩;obtain ⟨h5,h6⟩:=h4 y hy l;obtain ⟨h7,h8⟩:=hnd y h5;refine ⟨?_,λq a C R=>?_⟩
  ·show (if y=i then nx else if y=j then f (some m) else N.s y)=_;rw [aS h7,aS h8];exact h5
  ·have T:=htouch q a C;exact (h6 q a T (hg? q a y T R)).app _
end
end Go.Ns
namespace Go.Ns
open Go.Conc
section
variable {P:Program} {aP:Type} {Rep:Nat->aP->aU->V->Prop} {KS:Goroutine->V->Prop}
variable {used:Nat->Prop} {N:Hq aP} {gs:Array Goroutine} {w:World} {t:Trace} {hs:Nat->V} {r:Nat->H9}
theorem WB(t:Trace){k y:Nat}{a:Touch}(ha:touchAt t k=some a)(hg:t.g? k=some y):Knows t y k:=by
 obtain ⟨c,b,_⟩:=touch_of ha
 have:=knows_own b
 simp [Trace.g?,b] at hg;rw [hg] at this;exact this
theorem done_of{s:FC aP}(h:s.isDone):s=.done:=by cases s <;> first | rfl | exact h.elim
theorem FD.hear(aQ:FD P Rep KS used N gs w t hs r){j c:Nat}{f:Option aP->FC aP}(hj:j<N.n)(hsj:N.s j=.recv c f)(hu:used c)(hcl:N.cl c=true)
  {fr':Frame} {cs':List Frame} {z':aU} {ok:Bool} (B:Ky P (j==0) Rep c (λo=>FR P Rep KS (f o) (j==0)) fr' cs' z' ok (hs j)) {fn:FuncId} {pos:String} {u:Trace} (hu':u=#[{ g:=j,fn:=fn,pos:=pos,act:=.recvClosed c }]) :
  ∃r',FD P Rep KS used (N.hear j c (f none)) (gs.setIfInBounds j (G (fr'.finish (recvd ok z' false)) cs')) w (t++u) hs r':=by
 have hmute:∀v ∈ u,v.act.touch? =none:=by
  subst hu';intro v d;simp at d;subst d;rfl
 have Q:Wordless u:=by
  subst hu';intro v d mk W;simp at d;subst d;cases W
 have hW:=aQ.tr.words.append Q;have R:∀y,N.s y=.done->y≠j:=λy D e=>by rw [e,hsj] at D;cases D
 have htouch:∀k a,touchAt (t++u) k=some a->touchAt t k=some a:=λk a i=>by
  rcases BY i with ⟨_,i⟩ | ⟨_,v,d,_,l⟩
  ·exact i
  ·rw [hmute v d] at l;cases l
 have hg? :∀k a y,touchAt t k=some a->(t++u).g? k=some y->t.g? k=some y:=λk a y i A=>by
  obtain ⟨v,l,_⟩:=touch_of i;exact g?_app A (lt_size_of_getElem? l)
 obtain ⟨rj,X⟩:=Ga (cl:=N.cl) B.none;have a0:(t++u)[t.size+0]? =some { g:=j,fn:=fn,pos:=pos,act:=.recvClosed c }:=by subst hu';exact UD rfl
 refine ⟨EL r j rj,⟨by show _=N.n;simpa using aQ.size,aQ.apart,aQ.tr.mute hmute Q (λv d=>by subst hu';simp at d;subst d;exact hj),?_,aQ.chans,aQ.free,λS k a F z=>aQ.atom S k a F (htouch k a z),?_,?_,?_⟩⟩
 ·intro k g z;show OB P Rep KS (if k=j then f none else N.s k) N.cl (k==0) g (hs k) _;rcases Ej z with ⟨rfl,rfl⟩ | ⟨H,m⟩
  ·rw [aT rfl,EL,aT rfl];exact X
  ·rw [aS H,EL,aS H];exact aQ.sit k g m
 ·intro a b ga gb S v' z1 sh z2 sh' l C;have E:∀(k:Nat)(g0:Goroutine)(K:Array CommCase)(O:CommShape),(gs.setIfInBounds j (G (fr'.finish (recvd ok z' false)) cs'))[k]? =some (parked g0 K O)->gs[k]? =some (parked g0 K O):=by
   intro k g0 K O z;rcases Ej z with ⟨rfl,e⟩ | ⟨H,m⟩
   ·simp [G,parked] at e
   ·exact m
  exact aQ.nomeet a b ga gb S v' z1 sh z2 sh' (E _ _ _ _ l) (E _ _ _ _ C)
 ·intro x y hx D z;have hdone:∀{y},N.s y=.done->(N.hear j c (f none)).s y=.done:=λ{y} h=>by
   show (if y=j then f none else N.s y)=_;rw [aS (R y h)];exact h
  by_cases e:x=j
  ·have m:N.kn j y\/N.ck c y:=by
    have:(if x=j then N.kn j y\/N.ck c y else N.kn x y):=z
    rw [aT e] at this;exact this
   subst e;rcases m with h | h
   ·obtain ⟨l,C⟩:=aQ.kn x y hx D h;exact ⟨hdone l,λq a i A=>(C q a (htouch q a i) (hg? q a y (htouch q a i) A)).app _⟩
   ·obtain ⟨p,v,l,C,h4⟩:=aQ.ck c hu hcl;obtain ⟨U,h6⟩:=h4 y D h;refine ⟨hdone U,λq a i A=>?_⟩;have hb:=h6 q a (htouch q a i) (hg? q a y (htouch q a i) A);have hp:(t++u)[p]? =some v:=by rw [getElem?_append_old (lt_size_of_getElem? l)];exact l
    have hn:HappensBefore (t++u) p (t.size+0):=J9 hW (.closed (c:=c) (by rw [act?_of hp,C]) (act?_of a0)) hp a0;exact ⟨_,_,a0,rfl,.inr ((hb.app _).hb hn)⟩
  ·have m:N.kn x y:=by
    have:(if x=j then N.kn j y\/N.ck c y else N.kn x y):=z
    rw [aS e] at this;exact this
   obtain ⟨l,C⟩:=aQ.kn x y hx D m;exact ⟨hdone l,λq a i A=>(C q a (htouch q a i) (hg? q a y (htouch q a i) A)).app _⟩
 ·intro S F T;obtain ⟨p,v,l,C,h4⟩:=aQ.ck S F T;refine ⟨p,v,by rw [getElem?_append_old (lt_size_of_getElem? l)];exact l,C,λy D z=>?_⟩;obtain ⟨U,h6⟩:=h4 y D z;refine ⟨?_,λq a i A=>(h6 q a (htouch q a i) (hg? q a y (htouch q a i) A)).app _⟩;show (if y=j then f none else N.s y)=_;rw [aS (R y U)];exact U
theorem FD.shut(aQ:FD P Rep KS used N gs w t hs r)(hf:∀i,i<N.n->Jd used N.cl i (N.s i)){i c s:Nat}{nx:FC aP}(hi:i<N.n)(hsi:N.s i=.close c nx)(hu:used c)(hcw:w.heap[c]? =some (.chan 0 #[] false s s false))
  (hgood:Gx used (N.shut i c nx)) {g:Goroutine} (hgi:gs[i]? =some g) {fr':Frame} {cs':List Frame} (hmw:mayWake P g=true) (hx:FR P Rep KS nx (i==0) (G fr' cs') (hs i)) {fn:FuncId} {pos:String} {u:Trace} (hu':u=#[{ g:=i,fn:=fn,pos:=pos,act:=.access ⟨.obj c,false,true⟩ },{ g:=i,fn:=fn,pos:=pos,act:=.close c }]) :
  ∃r',FD P Rep KS used (N.shut i c nx) ((gs.map (woken P g (G fr' cs') { w with heap:=w.heap.setIfInBounds c (.chan 0 #[] true s s false) })).setIfInBounds i (G fr' cs')) { w with heap:=w.heap.setIfInBounds c (.chan 0 #[] true s s false) }
   (t++u) hs r':=by
 have hu1:∀C ∈ u,C.g=i:=by
  subst hu';intro C l;simp at l;rcases l with rfl | rfl <;> rfl
 have hu2:∀C ∈ u,∀a,C.act.touch? =some a->Cq a.loc=some c/\a.kind=.atomic:=by
  subst hu';intro C l a O;simp at l;rcases l with rfl | rfl
  ·cases O;exact ⟨rfl,rfl⟩
  ·cases O
 have hwu:Wordless u:=by
  subst hu';intro C l mk hmk;simp at l;rcases l with rfl | rfl <;> cases hmk
 have hlt:c<w.heap.size:=(Array.getElem?_eq_some_iff.1 hcw).1;have hT:=aQ.tr.atomic hi hu1 hu2 hwu hlt (λk D=>aQ.free c k hu D) (λk a=>aQ.atom c k a hu);obtain ⟨ri,hri⟩:=Ga (cl:=λx=>if x=c then true else N.cl x) hx;have hstop:∀j,j<N.n->N.s j≠.stop:=λj hj e=>by have:=hf j hj;rw [e] at this;exact this
 have Q:∀o,used o->∃n,({ w with heap:=w.heap.setIfInBounds c (.chan 0 #[] true s s false) }:World).heap[o]? =some (.chan 0 #[] (if o=c then true else N.cl o) n n false):=λo R=>by
  by_cases e:o=c
  ·subst e;exact ⟨s,by simp [hlt]⟩
  ·rw [aS e]
   show∃n,(w.heap.setIfInBounds c _)[o]? =_
   rw [Array.getElem?_setIfInBounds_ne (λx=>e x.symm)];exact aQ.chans o R
 have hopen:∀j o (m:aP) nx',j<N.n->N.s j=.send o m nx'->o≠c:=λj o m nx' hj h e=>by
  have hji:j≠i:=λe2=>by rw [e2,hsi] at h;cases h
  have hj':j<(N.shut i c nx).n:=hj
  have:=hgood.sendOpen hj' (c:=o) (m:=m) (nx:=nx') (by show (if j=i then nx else N.s j)=_;rw [aS hji];exact h)
  have f:(if o=c then true else N.cl o)=false:=this;rw [aT e] at f;cases f
 have hothers:∀j y,j≠i->gs[j]? =some y->OB P Rep KS (N.s j) (λx=>if x=c then true else N.cl x) (j==0) (woken P g (G fr' cs') { w with heap:=w.heap.setIfInBounds c (.chan 0 #[] true s s false) } y) (hs j) (r j):=by
  intro j y hji S;have hjl:j<N.n:=by rw [<-aQ.size];exact (Array.getElem?_eq_some_iff.1 S).1
  generalize hrk:r j=rk;have E:=aQ.sit j y S;rw [hrk] at E;cases E with
  | walk T z f=>rw [woken_running (By z (hstop j hjl) f)];exact .walk T z f
  | leave k z f=>rw [woken_quits f];exact .leave k z f
  | psend z f v U=>
   have F:=hopen j _ _ _ hjl z;have A:=hf j hjl;rw [z] at A;obtain ⟨n,H⟩:=Q _ A.1;rw [aS F,f] at H;rw [v,woken_send_open g _ H,<-v];exact .psend z (by simp [F,f]) v U
  | @precv o f' _ _ _ _ z f v U=>
   have A:=hf j hjl;rw [z] at A;obtain ⟨n,H⟩:=Q _ A;by_cases e:o=c
   ·subst e;rw [aT rfl] at H;refine .wokn z aD ?_ U;rw [v];unfold woken;rw [aT (by rw [hmw];rfl)];exact again_recv_closed H
   ·rw [aS e,f] at H;rw [v,woken_recv_open g _ H,<-v];exact .precv z (by simp [e,f]) v U
  | @wokn c2 f' _ _ _ _ z f v U=>
   rw [show woken P g (G fr' cs') { w with heap:=w.heap.setIfInBounds c (.chan 0 #[] true s s false) } y=y from woken_running (by rw [v])];refine .wokn z ?_ v U;by_cases e:c2=c
   ·exact aT e
   ·exact (aS e).trans f
 have hnd:∀y,N.s y=.done->y≠i:=λy S e=>by rw [e,hsi] at S;cases S
 have hup:∀C ∈ u,C.g=i\/C.act.touch? =none:=λC l=>.inl (hu1 C l);have a1:(t++u)[t.size+1]? =some { g:=i,fn:=fn,pos:=pos,act:=.close c }:=by subst hu';exact UD rfl
 have hdone:∀{y},N.s y=.done->(N.shut i c nx).s y=.done:=λ{y} h=>by
  show (if y=i then nx else N.s y)=_;rw [aS (hnd y h)];exact h
 refine ⟨EL r i ri,⟨by show _=N.n;simpa using aQ.size,⟨λk D=>?_,aQ.apart.disj⟩,hT.raise aD,?_,Q,aQ.free,?_,?_,?_,?_⟩⟩
 ·exact RZ (d:=w.drawn) (aQ.apart.fits k D) (aQ.free c k hu D)
 ·intro k y D;show OB P Rep KS (if k=i then nx else N.s k) _ (k==0) y (hs k) _;rcases DV D with ⟨rfl,rfl⟩ | ⟨F,y',K,rfl⟩
  ·rw [aT rfl,EL,aT rfl];exact hri
  ·rw [aS F,EL,aS F];exact hothers k y' F K
 ·intro o k a R D hl;rcases BY D with ⟨_,D⟩ | ⟨_,C,l,_,O⟩
  ·exact aQ.atom o k a R D hl
  ·exact (hu2 C l a O).2
 ·intro a b ga gb o v' z1 sh z2 sh' m1 m2;have hold:∀(k:Nat)(g0:Goroutine)(cs0:Array CommCase)(sh0:CommShape),((gs.map (woken P g (G fr' cs') { w with heap:=w.heap.setIfInBounds c (.chan 0 #[] true s s false) })).setIfInBounds i (G fr' cs'))[k]? =some (parked g0 cs0 sh0)->gs[k]? =some (parked g0 cs0 sh0):=by
   intro k g0 cs0 sh0 D;rcases DV D with ⟨rfl,e⟩ | ⟨F,y',K,e⟩
   ·simp [G,parked] at e
   ·have W:k<N.n:=by rw [<-aQ.size];exact (Array.getElem?_eq_some_iff.1 K).1
    have E:=aQ.sit k y' K;have B:(woken P g (G fr' cs') { w with heap:=w.heap.setIfInBounds c (.chan 0 #[] true s s false) } y').status=.blocked:=by rw [<-e];rfl
    generalize hrk:r k=rk at E;cases E with
    | walk T z f=>rw [woken_running (By z (hstop k W) f),By z (hstop k W) f] at B;cases B
    | leave q z f=>rw [woken_quits f] at B;rcases f.status with h | h <;> rw [h] at B <;> cases B
    | psend z f v U=>
     have hne2:=hopen k _ _ _ W z;have A:=hf k W;rw [z] at A;obtain ⟨n,H⟩:=Q _ A.1;rw [aS hne2,f] at H;rw [v,woken_send_open g _ H] at e;rw [K,v,e]
    | @precv c2 f' _ _ _ _ z f v U=>
     have A:=hf k W;rw [z] at A;obtain ⟨n,H⟩:=Q _ A;by_cases e2:c2=c
     ·subst e2;rw [aT rfl] at H;rw [v] at B;unfold woken at B;rw [aT (by rw [hmw];rfl),again_recv_closed H] at B;cases B
     ·rw [aS e2,f] at H;rw [v,woken_recv_open g _ H] at e;rw [K,v,e]
    | wokn z f v U=>
     rw [woken_running (by rw [v]),v] at B;cases B
  exact aQ.nomeet a b ga gb o v' z1 sh z2 sh' (hold _ _ _ _ m1) (hold _ _ _ _ m2)
 ·intro x y hx S D;obtain ⟨f,v⟩:=aQ.kn x y hx S D;exact ⟨hdone f,kn_app v hup (hnd y f)⟩
 ·intro o R hcl';by_cases e:o=c
  ·subst e;refine ⟨_,_,a1,rfl,λy S D=>?_⟩;have hk':N.kn i y\/(y=i/\nx.isDone):=by
    have:(if o=o then N.kn i y\/(y=i/\nx.isDone) else N.ck o y):=D
    rw [aT rfl] at this;exact this
   have fin:∀k,Knows t i k->Before (t++u) k (t.size+1):=
    λk D=>.inr (Ip D Y a1 rfl)
   rcases hk' with h | ⟨h,h'⟩
   ·obtain ⟨f,v⟩:=aQ.kn i y hi S h;refine ⟨hdone f,λq a O hg=>?_⟩;rcases BY O with ⟨X,O⟩ | ⟨_,C,l,h5,_⟩
    ·exact fin q (v q a O (g?_app hg X))
    ·have h6:(t++u).g? q=some C.g:=by simp only [Trace.g?,h5,Option.map_some]
     rw [h6,hu1 C l] at hg;cases hg;exact absurd rfl (hnd i f)
   ·subst h;refine ⟨by show (if y=y then nx else N.s y)=_;rw [aT rfl];exact done_of h',λq a O hg=>?_⟩;rcases BY O with ⟨X,O⟩ | ⟨hge,C,l,h5,h6⟩
    ·exact fin q (WB t O (g?_app hg X))
    ·have hq:q<t.size+2:=by
      have h8:=lt_size_of_getElem? h5;subst hu';simpa using h8
     rcases Nat.lt_or_ge q (t.size+1) with h7 | h7
     ·refine .inr (hb_po Y h5 a1 ?_);exact hu1 C l
     ·have:q=t.size+1:=Y
      subst this;exact .inl rfl
  ·have hcl2:N.cl o=true:=by
    have:(if o=c then true else N.cl o)=true:=hcl'
    rw [aS e] at this;exact this
   obtain ⟨p,C,f,v,U⟩:=aQ.ck o R hcl2;refine ⟨p,C,by rw [getElem?_append_old (lt_size_of_getElem? f)];exact f,v,λy S D=>?_⟩;have hk':N.ck o y:=by
    have:(if o=c then N.kn i y\/(y=i/\nx.isDone) else N.ck o y):=D
    rw [aS e] at this;exact this
   obtain ⟨h5,h6⟩:=U y S hk';exact ⟨hdone h5,ck_app h6 hup (hnd y h5)⟩
end
end Go.Ns
namespace Go.Ns
open Go.Conc
section
variable {P:Program} {aP:Type} {Rep:Nat->aP->aU->V->Prop} {KS:Goroutine->V->Prop}
variable {used:Nat->Prop} {N:Hq aP} {gs:Array Goroutine} {w:World} {t:Trace} {hs:Nat->V} {r:Nat->H9}
theorem NR{gs:Array Goroutine}{x:Goroutine}{j:Nat}{y:Goroutine}(h:(gs.push x)[j]? =some y):(j=gs.size/\y=x)\/(j≠gs.size/\gs[j]? =some y):=by
 rw [Array.getElem?_push] at h;split at h
 ·rename_i e;exact .inl ⟨e,(Option.some.inj h).symm⟩
 ·rename_i e;exact .inr ⟨e,h⟩
theorem FD.hire(aQ:FD P Rep KS used N gs w t hs r){i:Nat}{ch nx:FC aP}(hi:i<N.n)(hsi:N.s i=.spawn ch nx){fr:Frame}{cs:List Frame}{fr':Frame}{d:Deferred}{hc h1:V}
  (A:Sm P (i==0) (FR P Rep KS ch false) (FR P Rep KS nx (i==0)) fr cs fr' d hc h1 (hs i)) {f1 f2:FuncId} {p1 p2:String} {u:Trace}
  (hu':u=#[{ g:=i,fn:=f1,pos:=p1,act:=.go N.n },{ g:=N.n,fn:=f2,pos:=p2,act:=.start }]) :
  ∃hs' r',FD P Rep KS used (N.hire i ch nx) ((gs.setIfInBounds i (G fr' cs)).push (born P d)) w (t++u) hs' r':=by
 have hmute:∀v ∈ u,v.act.touch? =none:=by
  subst hu';intro v f;simp at f;rcases f with rfl | rfl <;> rfl
 have hwu:Wordless u:=by
  subst hu';intro v f mk hmk;simp at f;rcases f with rfl | rfl <;> cases hmk
 have hgu:∀v ∈ u,v.g=i\/v.g=N.n:=by
  subst hu';intro v f;simp at f;rcases f with rfl | rfl <;> simp
 have hW:=aQ.tr.words.append hwu;have a0:(t++u)[t.size+0]? =some { g:=i,fn:=f1,pos:=p1,act:=.go N.n }:=by subst hu';exact UD rfl
 have a1:(t++u)[t.size+1]? =some { g:=N.n,fn:=f2,pos:=p2,act:=.start }:=by subst hu';exact UD rfl
 have K:∀k,Knows t i k->Knows (t++u) N.n k:=λk B=>
  OU (Ip B Y a0 rfl) (J9 hW (.spawn (child:=N.n) (act?_of a0) (act?_of a1) (by simp only [Trace.g?,a1,Option.map_some])) a0 a1) a1 rfl
 obtain ⟨ri,hri⟩:=Ga (cl:=N.cl) A.next;obtain ⟨rc,hrc⟩:=Ga (cl:=N.cl) A.child;have hin:i≠N.n:=Nat.ne_of_lt hi;have hn0:(N.n==0)=false:=by simp;omega
 let hs':Nat->V:=λx=>if x=N.n then hc else if x=i then h1 else hs x
 have U:hs' N.n=hc:=aT rfl;have W:hs' i=h1:=by show (if i=N.n then _ else if i=i then _ else _)=_;rw [aS hin,aT rfl]
 have Q:∀k,k≠N.n->k≠i->hs' k=hs k:=λk h1 j=>by show (if k=N.n then _ else if k=i then _ else _)=_;rw [aS h1,aS j]
 have E:∀a b,a<N.n->b<N.n->a≠b->(hs a).Apart (hs b):=λa b l F m r o x y z=>aQ.apart.disj a b r o x l F m y z;have hap':∀a b,a<N.n+1->b<N.n+1->a≠b->(hs' a).Apart (hs' b):=by
  intro a b l F m;by_cases ea:a=N.n
  ·subst ea;rw [U];by_cases O:b=i
   ·subst O;rw [W];exact A.split.two
   ·rw [Q b (λe=>m e.symm) O];exact (E i b hi Y (λe=>O e.symm)).mono A.split.right (V.Sub.refl _)
  ·by_cases X:a=i
   ·subst X;rw [W];by_cases O:b=N.n
    ·subst O;rw [U];exact A.split.one
    ·rw [Q b O (λe=>m e.symm)];exact (E a b hi Y m).mono A.split.left (V.Sub.refl _)
   ·rw [Q a ea X];by_cases O:b=N.n
    ·subst O;rw [U];exact (E a i Y hi X).mono (V.Sub.refl _) A.split.right
    ·by_cases eb2:b=i
     ·subst eb2;rw [W];exact (E a b Y hi m).mono (V.Sub.refl _) A.split.left
     ·rw [Q b O eb2];exact E a b Y Y m
 have hnd:∀y,N.s y=.done->y≠i:=λy R e=>by rw [e,hsi] at R;cases R
 have hdone:∀{y},y<N.n->N.s y=.done->(N.hire i ch nx).s y=.done:=λ{y} R h=>by
  show (if y=N.n then ch else if y=i then nx else N.s y)=_;rw [aS (Nat.ne_of_lt R),aS (hnd y h)];exact h
 have htouch:∀k a,touchAt (t++u) k=some a->touchAt t k=some a:=λk a l=>by
  rcases BY l with ⟨_,l⟩ | ⟨_,v,f,_,j⟩
  ·exact l
  ·rw [hmute v f] at j;cases j
 have hg? :∀k a y,touchAt t k=some a->(t++u).g? k=some y->t.g? k=some y:=λk a y l hg=>by
  obtain ⟨v,j,_⟩:=touch_of l;exact g?_app hg (lt_size_of_getElem? j)
 have hfree:∀C k,used C->k<N.n+1->hs' k C=none:=by
  intro C k D B;have fi:=aQ.free C i D hi;by_cases e:k=N.n
  ·subst e;rw [U];cases hq:hc C with
   | none=>rfl
   | some y=>obtain ⟨p0,j,_⟩:=A.split.right C y.1 y.2 hq;rw [fi] at j;cases j
  ·by_cases S:k=i
   ·subst S;rw [W];cases hq:h1 C with
    | none=>rfl
    | some y=>obtain ⟨p0,j,_⟩:=A.split.left C y.1 y.2 hq;rw [fi] at j;cases j
   ·rw [Q k e S];exact aQ.free C k D Y
 refine ⟨hs',EL (EL r N.n rc) i ri,⟨?_,⟨?_,λa b r o x l F m y z=>hap' a b l F m r o x y z⟩,?_,?_,aQ.chans,hfree,λC k a D B=>aQ.atom C k a D (htouch k a B),?_,?_,?_⟩⟩
 ·show _=N.n+1;simp [aQ.size]
 ·intro k B;have c:k<N.n+1:=B;by_cases e:k=N.n
  ·subst e;rw [U];exact (aQ.apart.fits i hi).sub A.split.right
  ·by_cases S:k=i
   ·subst S;rw [W];exact (aQ.apart.fits k hi).sub A.split.left
   ·rw [Q k e S];exact aQ.apart.fits k Y
 ·refine aQ.tr.redist hmute hwu (λv f=>?_) ?_
  ·show v.g<N.n+1;rcases Array.mem_append.1 f with x | x
   ·have:=aQ.tr.num v x;omega
   ·rcases hgu v x with e | e <;> omega
  ·intro k b p o B F;have c:k<N.n+1:=B;by_cases e:k=N.n
   ·subst e;rw [U] at F;exact ⟨i,hi,A.split.right b p o F,K⟩
   ·by_cases S:k=i
    ·subst S;rw [W] at F;exact ⟨k,hi,A.split.left b p o F,λq hq=>hq.app _⟩
    ·rw [Q k e S] at F;exact ⟨k,Y,⟨p,F,id⟩,λq hq=>hq.app _⟩
 ·intro k g B;show OB P Rep KS (if k=N.n then ch else if k=i then nx else N.s k) N.cl (k==0) g (hs' k) _;rcases NR B with ⟨e,rfl⟩ | ⟨e,c⟩
  ·have e':k=N.n:=by rw [e];simp [aQ.size]
   subst e';rw [aT rfl,U,EL,aS (λx=>hin x.symm),EL,aT rfl,hn0];exact hrc
  ·have e':k≠N.n:=λx=>e (by rw [x];simp [aQ.size]);rcases Ej c with ⟨rfl,rfl⟩ | ⟨hne,H⟩
   ·rw [aS e',aT rfl,W,EL,aT rfl];exact hri
   ·rw [aS e',aS hne,Q k e' hne,EL,aS hne,EL,aS e'];exact aQ.sit k g H
 ·intro a b ga gb C v' z1 sh z2 sh' m1 m2;have T:∀(k:Nat)(g0:Goroutine)(cs0:Array CommCase)(sh0:CommShape),((gs.setIfInBounds i (G fr' cs)).push (born P d))[k]? =some (parked g0 cs0 sh0)->gs[k]? =some (parked g0 cs0 sh0):=by
   intro k g0 cs0 sh0 B;rcases NR B with ⟨_,e⟩ | ⟨_,c⟩
   ·simp [born,parked] at e
   ·rcases Ej c with ⟨_,e⟩ | ⟨_,H⟩
    ·simp [G,parked] at e
    ·exact H
  exact aQ.nomeet a b ga gb C v' z1 sh z2 sh' (T _ _ _ _ m1) (T _ _ _ _ m2)
 ·intro x y hx R B;have hx':x<N.n+1:=hx;have hy':y<N.n+1:=R;have c:if y=N.n then False else if x=N.n then N.kn i y else N.kn x y:=B
  by_cases ey:y=N.n
  ·rw [aT ey] at c;exact c.elim
  ·rw [aS ey] at c;by_cases ex:x=N.n
   ·subst ex;rw [aT rfl] at c;obtain ⟨j,h3⟩:=aQ.kn i y hi Y c;exact ⟨hdone Y j,λq a l hg=>K q (h3 q a (htouch q a l) (hg? q a y (htouch q a l) hg))⟩
   ·rw [aS ex] at c;obtain ⟨j,h3⟩:=aQ.kn x y Y Y c;exact ⟨hdone Y j,λq a l hg=>(h3 q a (htouch q a l) (hg? q a y (htouch q a l) hg)).app _⟩
 ·intro C D hcl';obtain ⟨p,v,j,h3,h4⟩:=aQ.ck C D hcl';refine ⟨p,v,by rw [getElem?_append_old (lt_size_of_getElem? j)];exact j,h3,λy R B=>?_⟩;have hy':y<N.n+1:=R;have c:if y=N.n then False else N.ck C y:=B
  by_cases ey:y=N.n
  ·rw [aT ey] at c;exact c.elim
  ·rw [aS ey] at c;obtain ⟨h5,h6⟩:=h4 y Y c;exact ⟨hdone Y h5,λq a l hg=>(h6 q a (htouch q a l) (hg? q a y (htouch q a l) hg)).app _⟩
end
section
variable {P:Program} {aP:Type} {Rep:Nat->aP->aU->V->Prop} {Post:aU->World->Prop}
variable {used:Nat->Prop}
theorem OB.chans{KS:Goroutine->V->Prop}{s:FC aP}{cl cl':Nat->Bool}{main:Bool}{g:Goroutine}{h:V}{r:H9}{i:Nat}(x:OB P Rep KS s cl main g h r)(hf:Jd used cl i s)(e:∀c,used c->cl' c=cl c):OB P Rep KS s cl' main g h r:=by
 cases x with
 | walk T a b=>exact .walk T a b
 | leave k a b=>exact .leave k a b
 | psend a b d f=>subst a;exact .psend rfl (by rw [e _ hf.1];exact b) d f
 | precv a b d f=>subst a;exact .precv rfl (by rw [e _ hf];exact b) d f
 | wokn a b d f=>subst a;exact .wokn rfl (by rw [e _ hf];exact b) d f
theorem FD.make{KS:Goroutine->V->Prop}{N:Hq aP}{gs:Array Goroutine}{w:World}{t:Trace}{hs:Nat->V}{r:Nat->H9}(aQ:FD P Rep KS used N gs w t hs r)(hf:∀i,i<N.n->Jd used N.cl i (N.s i)){i c:Nat}{nx:FC aP}(hi:i<N.n)
  (hnd:N.s i≠.done) {g:Goroutine} (hgi:gs[i]? =some g) (hc:hs i c=some (true,.chan 0 #[] false 0 0 false)) (hx:FR P Rep KS nx (i==0) g ((hs i).cut c)) :
  ¬used c/\∃hs' r',FD P Rep KS (λx=>used x\/x=c) (N.mk' i c nx) gs w t hs' r':=by
 have K:¬used c:=λq=>by have:=aQ.free c i q hi;rw [hc] at this;cases this
 have d:∀j b p o,Kx hs i ((hs i).cut c) j b=some (p,o)->hs j b=some (p,o):=by
  intro j b p o f;unfold Kx at f;split at f
  ·rename_i e;subst e
   unfold V.cut at f;split at f
   ·cases f
   ·exact f
  ·exact f
 have z:∀x,used x->(if x=c then false else N.cl x)=N.cl x:=λx q=>aS λe=>by subst e;exact K q
 have hnone:∀x j,(used x\/x=c)->j<N.n->Kx hs i ((hs i).cut c) j x=none:=by
  intro x j O m;unfold Kx;split
  ·unfold V.cut;split
   ·rfl
   ·rename_i e;exact aQ.free x i (O.elim id λq=>absurd q e) hi
  ·rename_i C
   rcases O with q | rfl
   ·exact aQ.free x j q m
   ·cases f:hs j x with
    | none=>rfl
    | some y=>exact (aQ.apart.disj i j x _ y hi m (λe=>C e.symm) hc f).elim
 have hdone:∀{y},N.s y=.done->(N.mk' i c nx).s y=.done:=λ{y} h=>by
  show (if y=i then nx else N.s y)=_;rw [aS λe=>by subst e;exact hnd h];exact h
 obtain ⟨Q,D⟩:=Ga (cl:=(N.mk' i c nx).cl) hx;refine ⟨K,Kx hs i ((hs i).cut c),EL r i Q,⟨aQ.size,⟨λj m b p o f=>aQ.apart.fits j m b p o (d j b p o f),λa b q o x T f E A v=>?_⟩,?_,?_,?_,hnone,?_,aQ.nomeet,?_,?_⟩⟩
 ·obtain ⟨p,y⟩:=x;exact aQ.apart.disj a b q o _ T f E (d _ _ _ _ A) (d _ _ _ _ v)
 ·exact ⟨aQ.tr.words,aQ.tr.clean,aQ.tr.low,aQ.tr.num,λj b o k a m f=>aQ.tr.own j b o k a m (d _ _ _ _ f),λj b o k a m f=>aQ.tr.ro j b o k a m (d _ _ _ _ f),λj b p o k a m f=>aQ.tr.chn j b p o k a m (d _ _ _ _ f)⟩
 ·intro k R u;have F:k<N.n:=by rw [<-aQ.size];exact (Array.getElem?_eq_some_iff.1 u).1
  show OB P Rep KS (if k=i then nx else N.s k) _ (k==0) R (Kx hs i _ k) (EL r i Q k);by_cases e:k=i
  ·subst e;rw [hgi] at u;cases u;rw [aT rfl,EL,aT rfl];unfold Kx;rw [aT rfl];exact D
  ·rw [aS e,EL,aS e];unfold Kx;rw [aS e];exact (aQ.sit k R u).chans (hf k F) z
 ·rintro x (q | rfl)
  ·obtain ⟨s,A⟩:=aQ.chans x q;exact ⟨s,by show w.heap[x]? =some (.chan 0 #[] (if x=c then false else N.cl x) s s false);rw [z x q];exact A⟩
  ·exact ⟨0,by show w.heap[x]? =some (.chan 0 #[] (if x=x then false else N.cl x) 0 0 false);rw [aT rfl];exact aQ.apart.fits i hi _ _ _ hc⟩
 ·rintro x k a (q | rfl) A v
  ·exact aQ.atom x k a q A v
  ·exact aQ.tr.chn i x _ _ k a hi hc rfl A v
 ·intro x y hx B u;obtain ⟨v,H⟩:=aQ.kn x y hx B u;exact ⟨hdone v,H⟩
 ·rintro x (q | rfl) hx
  ·have l:(if x=c then false else N.cl x)=true:=hx;rw [z x q] at l;obtain ⟨p,U,v,H,S⟩:=aQ.ck x q l;exact ⟨p,U,v,H,λy B u=>⟨hdone (S y B u).1,(S y B u).2⟩⟩
  ·have l:(if x=x then false else N.cl x)=true:=hx;rw [aT rfl] at l;cases l
theorem FD.runs{KS:Goroutine->V->Prop}{N:Hq aP}{gs:Array Goroutine}{w:World}{t:Trace}{hs:Nat->V}{r:Nat->H9}(aQ:FD P Rep KS used N gs w t hs r)(hf:∀i,i<N.n->Jd used N.cl i (N.s i))(he:∃N',Jc N N') :
  ∃(i:Nat)(g:Goroutine),gs[i]? =some g/\g.status=.running:=by
 have b:∀i,i<N.n->∃g,gs[i]? =some g:=λi q=>⟨_,Array.getElem?_eq_getElem (by rw [aQ.size];exact q)⟩;obtain ⟨N',h⟩:=he;cases h with
 | @hire i K C q hs=>
  obtain ⟨g,d⟩:=b i q;refine ⟨i,g,d,?_⟩;have x:=aQ.sit i g d;generalize r i=v at x;cases x with
  | walk T a l=>exact By a (λe=>by rw [hs] at e;cases e) l
  | leave k a _=>rw [hs] at a;cases a
  | psend a _ _ _=>rw [hs] at a;cases a
  | precv a _ _ _=>rw [hs] at a;cases a
  | wokn a _ _ _=>rw [hs] at a;cases a
 | @shut i c C q hs=>
  obtain ⟨g,d⟩:=b i q;refine ⟨i,g,d,?_⟩;have x:=aQ.sit i g d;generalize r i=v at x;cases x with
  | walk T a l=>exact By a (λe=>by rw [hs] at e;cases e) l
  | leave k a _=>rw [hs] at a;cases a
  | psend a _ _ _=>rw [hs] at a;cases a
  | precv a _ _ _=>rw [hs] at a;cases a
  | wokn a _ _ _=>rw [hs] at a;cases a
 | @hear j c f z hs A=>
  obtain ⟨g,d⟩:=b j z;refine ⟨j,g,d,?_⟩;have x:=aQ.sit j g d;generalize r j=v at x;cases x with
  | walk T a l=>exact By a (λe=>by rw [hs] at e;cases e) l
  | leave k a _=>rw [hs] at a;cases a
  | psend a _ _ _=>rw [hs] at a;cases a
  | precv a l _ _=>rw [hs] at a;cases a;rw [A] at l;cases l
  | wokn a _ u _=>rw [u]
 | @meet i j c m C f q z E hs p=>
  obtain ⟨g,d⟩:=b i q;obtain ⟨B,o⟩:=b j z;have x:=aQ.sit i g d;have y:=aQ.sit j B o;generalize r i=v at x;generalize r j=F at y;cases x with
  | walk T a l=>exact ⟨i,g,d,By a (λe=>by rw [hs] at e;cases e) l⟩
  | leave k a _=>rw [hs] at a;cases a
  | precv a _ _ _=>rw [hs] at a;cases a
  | wokn a _ _ _=>rw [hs] at a;cases a
  | psend a l u O=>
   cases y with
   | walk T a l=>exact ⟨j,B,o,By a (λe=>by rw [p] at e;cases e) l⟩
   | leave k a _=>rw [p] at a;cases a
   | psend a _ _ _=>rw [p] at a;cases a
   | wokn a _ u _=>exact ⟨j,B,o,by rw [u]⟩
   | precv D Q H R=>
    rw [hs] at a;cases a;rw [p] at D;cases D;rw [u] at d;rw [H] at o;exact (aQ.nomeet _ _ _ _ _ _ _ _ _ _ d o).elim
theorem FD.runs'{KS:Goroutine->V->Prop}{N:Hq aP}{gs:Array Goroutine}{w:World}{t:Trace}{hs:Nat->V}{r:Nat->H9}(aQ:FD P Rep KS used N gs w t hs r)(hf:∀i,i<N.n->Jd used N.cl i (N.s i))
  (he:(∃N',Jc N N')\/∃i f,i<N.n/\N.s i=.make f):∃(i:Nat)(g:Goroutine),gs[i]? =some g/\g.status=.running:=by
 rcases he with he | ⟨i,f,b,hs⟩
 ·exact aQ.runs hf he
 ·refine ⟨i,_,Array.getElem?_eq_getElem (by rw [aQ.size];exact b),?_⟩;have x:=aQ.sit i _ (Array.getElem?_eq_getElem (by rw [aQ.size];exact b));generalize r i=d at x;cases x with
  | walk T a c=>exact By a (λe=>by rw [hs] at e;cases e) c
  | leave k a _=>rw [hs] at a;cases a
  | psend a _ _ _=>rw [hs] at a;cases a
  | precv a _ _ _=>rw [hs] at a;cases a
  | wokn a _ _ _=>rw [hs] at a;cases a
theorem Ey(g:Nat)(fn:FuncId)(pos:String):MemOp.ofEvents g fn pos #[]=#[]:=rfl
set_option maxHeartbeats 1000000 in
theorem net_runs{N:Hq aP}(hN:Gx used N):∀r gs w sl t hs,FD P Rep (Dz P Post) used N gs w t hs r->Bl P (Io Post w.os w.output) (crowd gs w sl) t:=by
 induction hN with
 | stop used N h0 hs0 hrest=>
  intro r gs w sl t hs R;obtain ⟨g,hg⟩:∃g,gs[0]? =some g:=⟨_,Array.getElem?_eq_getElem (by rw [R.size];exact h0)⟩;have x:=R.sit 0 g hg;generalize hr0:r 0=r0 at x;have hok:Dz P Post g (hs 0):=by
   cases x with
   | walk T l q=>
    rw [hs0] at q;exact Ei.elim Kh ⟨T,q⟩
   | leave k l _=>rw [hs0] at l;cases l
   | psend l _ _ _=>rw [hs0] at l;cases l
   | precv l _ _ _=>rw [hs0] at l;cases l
   | wokn l _ _ _=>rw [hs0] at l;cases l
  refine hok gs w sl (λj=>match r j with | .leave k=>k | _=>0) t ⟨hg,?_,R.apart.fits 0 h0,R.tr.words,R.tr.clean,R.tr.low,by rw [R.size];exact R.tr.num,?_,λb p o k a hb=>R.tr.chn 0 b p o k a h0 hb⟩
  ·intro j y S hy;have F:j<N.n:=by rw [<-R.size];exact (Array.getElem?_eq_some_iff.1 hy).1
   have y1:=R.sit j y hy;have hd:=(hrest j S F).1;generalize r j=rk at y1;cases y1 with
   | walk T l q=>rw [hd] at l;exact absurd trivial l
   | leave k l q=>exact q
   | psend l _ _ _=>rw [hd] at l;cases l
   | precv l _ _ _=>rw [hd] at l;cases l
   | wokn l _ _ _=>rw [hd] at l;cases l
  ·intro k a hk;obtain ⟨op,l,_⟩:=touch_of hk;have hg1:t.g? k=some op.g:=by simp [Trace.g?,l]
   have hlt:=R.tr.num op (mem_of_getElem? l);rcases Nat.eq_zero_or_pos op.g with e | e
   ·have:=knows_own l;rw [e] at this;exact this
   ·exact (R.kn 0 op.g h0 hlt (hrest op.g e hlt).2).2 k a hk hg1
 | step used N h0 he hf hgd hmk ih ihm=>
  intro r
  induction ranks_wf N.n r with
  | intro r _ ihr=>
  intro gs w sl t hs R;by_cases hmake:∃i f g,i<N.n/\N.s i=.make f/\gs[i]? =some g/\H8 P Rep (Dz P Post) (.make f) (i==0) g (hs i)
  ·obtain ⟨i,f,g,hi,hsi,hgi,_,c,hc,hd⟩:=hmake;obtain ⟨hu,hs',r',hI⟩:=R.make hf hi (λe=>by rw [hsi] at e;cases e) hgi hc hd;exact ihm i f c hi hsi hu r' gs w sl t hs' hI
  have hstop:∀j,j<N.n->N.s j≠.stop:=λj S e=>by have:=hf j S;rw [e] at this;exact this
  have haw:∀g ∈ gs,awake g:=by
   intro g hg;obtain ⟨i,hi,rfl⟩:=Array.mem_iff_getElem.1 hg;exact awake_of ((R.sit i _ (Array.getElem?_eq_getElem hi)).status (hstop i (by rw [<-R.size];exact hi)))
  obtain ⟨i,g,d,sl',hi,hg,hst⟩:=crowd_pick (P:=P) (w:=w) (sl:=sl) haw (R.runs' hf he);have D:i<N.n:=by rw [<-R.size];exact (Array.getElem?_eq_some_iff.1 hi).1
  have I1:=R.at d;have H:(w.at d).os=w.os/\(w.at d).output=w.output:=⟨rfl,rfl⟩;generalize w.at d=w1 at I1 hst H;have parks:∀{U cs cases shape},(∀x,stepG P (i==0) g w1=x->x=.comm (G U cs) cases true shape w1 #[])->(∀cc ∈ cases,NoWays w1 (gs.setIfInBounds i ph) cc)->
    OB P Rep (Dz P Post) (N.s i) N.cl (i==0) (parked (G U cs) cases shape) (hs i) .low->RLt .low (r i)->
    (∀(j:Nat)(gj:Goroutine),gs[j]? =some gj->(∀g0 c v z sh g1 z' sh',parked (G U cs) cases shape=parked g0 #[scase c v z] sh->gj=parked g1 #[rcase c z'] sh'->False)/\(∀g0 c v z sh g1 z' sh',gj=parked g0 #[scase c v z] sh->parked (G U cs) cases shape=parked g1 #[rcase c z'] sh'->False))->
    Bl P (Io Post w.os w.output) (crowd gs w sl) t:=by
   intro U cs cases shape hstep hw hsit hlt hno;have C:=crowd_waits (P:=P) (sl:=sl') hi (hstep _ rfl) hw;refine Bl.step (hst.trans C) (Bl.at H.1 H.2 ?_);rw [Ey,Array.append_empty];exact ihr _ ⟨i,D,by rw [EL,aT rfl];exact hlt,λj _ S=>by rw [EL,aS S]⟩ _ _ _ _ _ (I1.park (g:=g) D (.inr trivial) hsit hno)
  have recvs:∀{c f U cs z ok},N.s i=.recv c f->Ky P (i==0) Rep c (λo=>FR P Rep (Dz P Post) (f o) (i==0)) U cs z ok (hs i)->stepG P (i==0) g w1=stepG P (i==0) (G U cs) w1->
    (N.cl c=false->RLt .low (r i))->Bl P (Io Post w.os w.output) (crowd gs w sl) t:=by
   intro c f U cs z ok hsi B hsame hlow;have K:=hf i D;rw [hsi] at K;have hstep:stepG P (i==0) g w1=.comm (G U cs) #[rcase c z] true (.recv ok) w1 #[]:=hsame.trans (B.step w1 (I1.apart.fits i D));obtain ⟨s,W⟩:=I1.chans c K;cases hcl:N.cl c with
   | true=>
    rw [hcl] at W;have hp:partners (gs.setIfInBounds i ph) c true=[]:=partners_nil λj gj S=>by
     rcases getElem?_stand gs i j gj S with ⟨_,rfl⟩ | ⟨_,hj'⟩
     ·rfl
     ·have F:j<N.n:=by rw [<-R.size];exact (Array.getElem?_eq_some_iff.1 hj').1
      have y:=I1.sit j gj hj';generalize r j=rk at y;cases y with
      | walk T l q=>exact offersAt_of_not_blocked (by rw [By l (hstop j F) q];simp) _ _
      | leave k l q=>exact offersAt_of_not_blocked (by rcases q.status with h | h <;> rw [h] <;> simp) _ _
      | @psend c' _ _ _ _ _ _ _ _ l q E _=>
       rw [E,offersAt_parked_send]
       have:c'≠c:=λe=>by rw [e,hcl] at q;cases q
       rw [aS this]
      | precv l q E _=>rw [E];exact offersAt_parked_recv' _ _ _ _ _
      | wokn l q E _=>exact offersAt_of_not_blocked (by rw [E];simp) _ _
    have C:=crowd_recv_closed (P:=P) (sl:=sl') hi hstep W hp;rw [finishComm_recv,Ey,Array.empty_append] at C;obtain ⟨r',hI⟩:=I1.hear D hsi K hcl B (fn:=U.fn) (pos:=U.place) rfl;exact Bl.step (hst.trans C) (Bl.at H.1 H.2 (ih _ (.hear D hsi hcl) r' _ _ _ _ _ hI))
   | false=>
    rw [hcl] at W;by_cases hp:partners (gs.setIfInBounds i ph) c true=[]
    ·refine parks (λx hx=>by rw [<-hx];exact hstep) (λcc hcc=>?_) (.precv hsi hcl rfl B) (hlow hcl) ?_
     ·simp at hcc;subst hcc;exact ways_recv_none W hp
     ·intro j gj S;refine ⟨λg0 c' v z1 sh g1 z2 sh' l _=>HF l,λg0 c' v z1 sh g1 z2 sh' l q=>?_⟩;obtain ⟨_,_,_,rfl,_,_⟩:=RW q;have X:j≠i:=λe=>by subst e;rw [hi] at S;cases S;rw [l] at hg;cases hg
      have:(j,0) ∈ partners (gs.setIfInBounds i ph) c true:=mem_partners.2 ⟨gj,stand_get X S,by rw [l,offersAt_parked_send,aT rfl];simp⟩
      rw [hp] at this;cases this
    ·have hall:∀j k,(j,k) ∈ partners (gs.setIfInBounds i ph) c true->k=0/\j≠i/\∃gj vj zj shj,gs[j]? =some (parked gj #[scase c vj zj] shj):=by
      intro j k hjk;obtain ⟨gj,S,Q⟩:=mem_partners.1 hjk;rcases getElem?_stand gs i j gj S with ⟨_,rfl⟩ | ⟨X,hj'⟩
      ·rw [offersAt_ph] at Q;cases Q
      ·have F:j<N.n:=by rw [<-R.size];exact (Array.getElem?_eq_some_iff.1 hj').1
       have y:=I1.sit j gj hj';generalize r j=rk at y;cases y with
       | walk T l q=>rw [offersAt_of_not_blocked (by rw [By l (hstop j F) q];simp)] at Q;cases Q
       | leave k l q=>rw [offersAt_of_not_blocked (by rcases q.status with h | h <;> rw [h] <;> simp)] at Q;cases Q
       | @psend c' _ _ _ _ _ _ _ _ l q E _=>
        rw [E,offersAt_parked_send] at Q;by_cases e:c'=c
        ·subst e;rw [aT rfl] at Q;rw [E] at hj';exact ⟨by simpa using Q,X,_,_,_,_,hj'⟩
        ·rw [aS e] at Q;cases Q
       | precv l q E _=>rw [E,offersAt_parked_recv'] at Q;cases Q
       | wokn l q E _=>rw [offersAt_of_not_blocked (by rw [E];simp)] at Q;cases Q
     obtain ⟨j,gj,vj,zj,shj,d',X,S,C⟩:=crowd_recv_meets_some (P:=P) (sl:=sl') hi hstep W hp hall;have F:j<N.n:=by rw [<-R.size];exact (Array.getElem?_eq_some_iff.1 S).1
     have y:=I1.sit j _ S;generalize r j=rk at y;cases y with
     | walk T l q=>have:=By l (hstop j F) q;cases this
     | leave k l q=>rcases q.status with h | h <;> cases h
     | precv l q E _=>exact (HF E.symm).elim
     | wokn l q E _=>have:=congrArg Goroutine.status E;cases this
     | @psend c' m nx fr2 cs2 v2 z2 hm h1' l q E A=>
      obtain ⟨e1,e2,e3,rfl,rfl,rfl,rfl⟩:=RX E;rw [finishComm_recv,finishComm_send,Ey,Array.empty_append,RY e1 e2 e3] at C;have hij:i≠j:=λe=>X e.symm;obtain ⟨hs',r',hI⟩:=I1.meet (d:=d') F D X l hsi K hcl A B (gs':=(gs.setIfInBounds j (G (fr2.finish undef) cs2)).setIfInBounds i (G (U.finish (recvd ok vj true)) cs))
       (by rw [Array.getElem?_setIfInBounds_ne hij];simp [R.size,F]) (by simp [R.size,D])
       (λk hk1 hk2=>by rw [Array.getElem?_setIfInBounds_ne (λe=>hk2 e.symm),Array.getElem?_setIfInBounds_ne (λe=>hk1 e.symm)]) aD (s:=s) rfl
      exact Bl.step (hst.trans C) (Bl.at H.1 H.2 (ih _ (.meet F D X l hsi) r' _ _ _ _ _ hI))
  have x:=I1.sit i g hi;generalize hri:r i=ri at x;cases x with
  | leave k l q=>
   cases k with
   | zero=>rw [show g.status=.finished from q] at hg;cases hg
   | succ k=>
    rcases q with q | ⟨_,g',hstp,hq⟩
    ·rw [q] at hg;cases hg
    have hi0:(i==0)=false:=by
     have h9:=hf i D;rw [l] at h9;have h10:i≠0:=h9;simpa using h10
    have C:=runT_crowd_go (P:=P) (sl:=sl') (i:=i) hi (by rw [hi0];exact hstp w1);refine Bl.step (hst.trans C) (Bl.at H.1 H.2 ?_);rw [Ey,Array.append_empty];exact ihr _ ⟨i,D,by rw [EL,aT rfl,hri];exact .leave k,λj _ S=>by rw [EL,aS S]⟩ _ _ _ _ _ (I1.quit hf hi l hq)
  | psend l q E _=>rw [E] at hg;cases hg
  | precv l q E _=>rw [E] at hg;cases hg
  | wokn l q E B=>
   refine recvs l B ?_ (λe=>by rw [q] at e;cases e);rw [E,stepG_tries];rfl
  | walk T hnd hT=>
   have hcase:H8 P Rep (Dz P Post) (N.s i) (i==0) g (hs i)\/∃f,T=.node f/\∀w,D7 w (hs i)->∃g' w' es h',stepG P (i==0) g w=.go g' w' es/\Bf (hs i) w es h' w'/\RV P (i==0) (H8 P Rep (Dz P Post) (N.s i) (i==0)) (f w) g' h':=by
    cases T with
    | leaf=>exact .inl hT
    | node f=>exact hT.imp id λx=>⟨f,rfl,x.2⟩
   rcases hcase with hS | ⟨f,rfl,hstp⟩
   ·have hlow:RLt .low (r i):=by rw [hri];exact .low T
    have K:=hf i D;cases O:N.s i with
    | stop=>exact absurd O (hstop i D)
    | never=>rw [O] at K;exact K.elim
    | done=>rw [O] at hnd;exact absurd trivial hnd
    | make f=>rw [O] at hS;exact absurd ⟨i,f,g,D,O,hi,hS⟩ hmake
    | recv c f=>
     rw [O] at hS;obtain ⟨U,cs,z,ok,rfl,B⟩:=hS;exact recvs O B rfl (λ_=>hlow)
    | close c nx=>
     rw [O] at hS K;obtain ⟨U,cs,fr',cs',rfl,A⟩:=hS;obtain ⟨s,W⟩:=I1.chans c K.1;rw [K.2] at W;have hstep:=A.step w1 s s (I1.apart.fits i D) W;have C:=runT_crowd_go (P:=P) (sl:=sl') (i:=i) hi hstep;have eU:MemOp.ofEvents i (G U cs).frame.fn (G U cs).frame.place #[⟨.obj c,false,true⟩,⟨.obj c,true,true⟩]=#[{ g:=i,fn:=U.fn,pos:=U.place,act:=.access ⟨.obj c,false,true⟩ },{ g:=i,fn:=U.fn,pos:=U.place,act:=.close c }]:=by simp [MemOp.ofEvents,MemAct.ofEvent,G]
     have hst':Jc N (N.shut i c nx):=.shut D O;have hgood:Gx used (N.shut i c nx):=hgd _ hst';obtain ⟨r',hI⟩:=I1.shut hf D O K.1 W hgood hi A.wake A.next eU;exact Bl.step (hst.trans C) (Bl.at H.1 H.2 (ih _ hst' r' _ _ _ _ _ hI))
    | spawn ch nx=>
     rw [O] at hS;obtain ⟨U,cs,fr',d',hc,l,rfl,A⟩:=hS;have C:=runT_crowd_spawn (P:=P) (sl:=sl') (i:=i) hi (A.step w1 (I1.apart.fits i D));obtain ⟨hs',r',hI⟩:=I1.hire D O A (u:=(MemOp.ofEvents i (G U cs).frame.fn (G U cs).frame.place #[]).push { g:=i,fn:=(G U cs).frame.fn,pos:=(G U cs).frame.place,act:=.go gs.size } |>.push { g:=gs.size,fn:=(born P d').frame.fn,pos:=(G U cs).frame.place,act:=.start }) (by rw [Ey,R.size];rfl);exact Bl.step (hst.trans C) (Bl.at H.1 H.2 (ih _ (.hire D O) r' _ _ _ _ _ hI))
    | send c m nx=>
     rw [O] at hS K;obtain ⟨U,cs,v,z,hm,l,rfl,A⟩:=hS;obtain ⟨s,W⟩:=I1.chans c K.1;rw [K.2] at W;have hstep:=A.step w1 (I1.apart.fits i D);by_cases hp:partners (gs.setIfInBounds i ph) c false=[]
     ·refine parks (λx hx=>by rw [<-hx];exact hstep) (λcc hcc=>?_) (.psend O K.2 rfl A) hlow ?_
      ·simp at hcc;subst hcc;exact ways_send_none W aD hp
      ·intro j gj S;refine ⟨λg0 c' v1 z1 sh g1 z2 sh' l q=>?_,λg0 c' v1 z1 sh g1 z2 sh' _ q=>HF q.symm⟩;obtain ⟨_,_,_,rfl,_,_,_⟩:=RX l;have X:j≠i:=λe=>by subst e;rw [hi] at S;cases S;rw [q] at hg;cases hg
       have:(j,0) ∈ partners (gs.setIfInBounds i ph) c false:=mem_partners.2 ⟨gj,stand_get X S,by rw [q,offersAt_parked_recv,aT rfl];simp⟩
       rw [hp] at this;cases this
     ·have hall:∀j k,(j,k) ∈ partners (gs.setIfInBounds i ph) c false->k=0/\j≠i/\∃gj zj shj,gs[j]? =some (parked gj #[rcase c zj] shj):=by
       intro j k hjk;obtain ⟨gj,S,Q⟩:=mem_partners.1 hjk;rcases getElem?_stand gs i j gj S with ⟨_,rfl⟩ | ⟨X,hj'⟩
       ·rw [offersAt_ph] at Q;cases Q
       ·have F:j<N.n:=by rw [<-R.size];exact (Array.getElem?_eq_some_iff.1 hj').1
        have y:=I1.sit j gj hj';generalize r j=rk at y;cases y with
        | walk T l q=>rw [offersAt_of_not_blocked (by rw [By l (hstop j F) q];simp)] at Q;cases Q
        | leave k l q=>rw [offersAt_of_not_blocked (by rcases q.status with h | h <;> rw [h] <;> simp)] at Q;cases Q
        | psend l q E _=>rw [E,offersAt_parked_send'] at Q;cases Q
        | @precv c' _ _ _ _ _ l q E _=>
         rw [E,offersAt_parked_recv] at Q;by_cases e:c'=c
         ·subst e;rw [aT rfl] at Q;rw [E] at hj';exact ⟨by simpa using Q,X,_,_,_,hj'⟩
         ·rw [aS e] at Q;cases Q
        | wokn l q E _=>rw [offersAt_of_not_blocked (by rw [E];simp)] at Q;cases Q
      obtain ⟨j,gj,zj,shj,d',X,S,C⟩:=crowd_send_meets_some (P:=P) (sl:=sl') hi hstep W hp hall;have F:j<N.n:=by rw [<-R.size];exact (Array.getElem?_eq_some_iff.1 S).1
      have y:=I1.sit j _ S;generalize r j=rk at y;cases y with
      | walk T l q=>have:=By l (hstop j F) q;cases this
      | leave k l q=>rcases q.status with h | h <;> cases h
      | psend l q E _=>exact (HF E).elim
      | wokn l q E _=>have:=congrArg Goroutine.status E;cases this
      | @precv c' f fr2 cs2 z2 ok k1 k2 k3 B=>
       obtain ⟨e1,e2,e3,rfl,rfl,rfl⟩:=RW k3;rw [finishComm_recv,finishComm_send,Ey,Array.empty_append,RY e1 e2 e3] at C;have hij:i≠j:=λe=>X e.symm;obtain ⟨hs',r',hI⟩:=I1.meet (d:=d') D F hij O k1 K.1 K.2 A B (gs':=(gs.setIfInBounds j (G (fr2.finish (recvd ok v true)) cs2)).setIfInBounds i (G (U.finish undef) cs))
        (by simp [R.size,D]) (by rw [Array.getElem?_setIfInBounds_ne hij];simp [R.size,F])
        (λk hk1 hk2=>by rw [Array.getElem?_setIfInBounds_ne (λe=>hk1 e.symm),Array.getElem?_setIfInBounds_ne (λe=>hk2 e.symm)]) aD (s:=s) rfl
       exact Bl.step (hst.trans C) (Bl.at H.1 H.2 (ih _ (.meet D F hij O k1) r' _ _ _ _ _ hI))
   ·obtain ⟨g',w',es,h',l,q,E⟩:=hstp w1 (I1.apart.fits i D);have C:=runT_crowd_go (P:=P) (sl:=sl') (i:=i) hi l;refine Bl.step (hst.trans C) (Bl.at (q.os.trans H.1) (q.out.trans H.2) ?_);refine ihr _ ⟨i,D,by rw [EL,aT rfl,hri];exact .walk f w1,λj _ S=>by rw [EL,aS S]⟩ _ _ _ _ _ (I1.step hf hi hnd q (By hnd (hstop i D) E) (.walk (f w1) hnd E) _ _)
end
end Go.Ns
namespace Go.Ns
open Go.Conc
section
variable {P:Program}
def isAggD:TypeDesc->Bool
 | .struct _=>true
 | .array _ _=>true
 | _=>false
def Bz(P:Program)(t:aV):Option (Bool×Nat):=
 match P.underlying t with
 | none=>none
 | some d=>match P.info? t with
  | none=>none
  | some i=>some (isAggD d,i.size)
theorem Ra{t:aV}{a:Bool}{n:Nat}(h:Bz P t=some (a,n)):∃d i,P.underlying t=some d/\P.info? t=some i/\isAggD d=a/\i.size=n:=by
 unfold Bz at h;cases b:P.underlying t with
 | none=>rw [b] at h;cases h
 | some d=>
  cases c:P.info? t with
  | none=>rw [b] at h;simp only [c] at h;cases h
  | some i=>
   rw [b] at h;simp only [c,Option.some.injEq,Prod.mk.injEq] at h;exact ⟨d,i,rfl,rfl,h.1,h.2⟩
theorem Ak{t:aV}{d:TypeDesc}{h:V}{Q:TypeDesc->V->Prop}(ht:P.underlying t=some d)(x:Q d h):(underlying t).gh P h Q:=by
 unfold underlying;refine AG _ _ ?_;show (match P.underlying t with | some d=>(pure d:Sem TypeDesc) | none=>stuck "no such type").gh P h Q;rw [ht];exact x
theorem Cy{t:aV}{i:TypeInfo}{h:V}{Q:TypeInfo->V->Prop}(ht:P.info? t=some i)(x:Q i h):(typeInfo t).gh P h Q:=by
 unfold typeInfo;refine AG _ _ ?_;show (match P.info? t with | some i=>(pure i:Sem TypeInfo) | none=>stuck "no such type").gh P h Q;rw [ht];exact x
theorem OV{t:aV}{a:Bool}{n:Nat}{h:V}{Q:Bool->V->Prop}(ht:Bz P t=some (a,n))(x:Q a h):(isAgg t).gh P h Q:=by
 obtain ⟨d,i,b,c,rfl,rfl⟩:=Ra ht;unfold isAgg;refine AG _ _ (Ak b ?_);cases d <;> exact x
theorem Do{t:aV}{a:Bool}{n:Nat}{h:V}{Q:Nat->V->Prop}(ht:Bz P t=some (a,n))(x:Q n h):(sizeOf t).gh P h Q:=by
 obtain ⟨d,i,c,b,rfl,rfl⟩:=Ra ht;unfold sizeOf;exact AG _ _ (Cy b x)
theorem YW{a:Addr}{p:Bool}{c:Array aU}{t:aV}{f:Nat×Nat}{v:aU}{h:V}{Q:aU->V->Prop}(hs:a.spot=none)(hb:h a.block=some (p,.cells c t f))(hc:c[a.off]? =some v)(x:Q v h):(load a).gh P h Q:=
 ⟨rfl,hs,p,c,t,f,v,hb,hc,x⟩
theorem UE{a:Addr}(n:Nat)(h:a.spot=none):(a.add n).spot=none:=by unfold Addr.add;split <;> simp [h]
theorem Mh(a:Addr)(n:Nat):(a.add n).block=a.block:=by unfold Addr.add;split <;> rfl
theorem Ss(a:Addr)(n:Nat):(a.add n).off=a.off+n:=by
 unfold Addr.add;split
 ·rename_i e;subst e;rfl
 ·rfl
theorem IA(b off n:Nat):(Addr.add ⟨b,off,none⟩ n)=⟨b,off+n,none⟩:=by
 unfold Addr.add;split
 ·rename_i e;subst e;rfl
 ·rfl
theorem Lj{a:Addr}{p:Bool}{c:Array aU}{t:aV}{f:Nat×Nat}{h:V}{Q:Array aU->V->Prop}(hs:a.spot=none)(hb:h a.block=some (p,.cells c t f)) :
  ∀(n i:Nat)(acc:Array aU),a.off+i+n<=c.size->Q (acc++c.extract (a.off+i) (a.off+i+n)) h->(loadCellsFrom a i n acc).gh P h Q:=by
 intro n
 induction n with
 | zero=>
  intro i acc _ x
  have:acc++c.extract (a.off+i) (a.off+i+0)=acc:=by simp;omega
  rw [this] at x;exact x
 | succ n d=>
  intro i acc k x;unfold loadCellsFrom;refine AG _ _ (YW (v:=c[a.off+i]) (UE i hs) (by rw [Mh];exact hb) (by rw [Ss];simp) ?_);refine d (i+1) (acc.push c[a.off+i]) Y ?_;have e:acc++c.extract (a.off+i) (a.off+i+(n+1))=acc.push c[a.off+i]++c.extract (a.off+(i+1)) (a.off+(i+1)+n):=by
   apply Array.ext';simp only [Array.toList_append,Array.toList_push,Array.toList_extract,List.extract_eq_take_drop,List.append_assoc];congr 1;have g:a.off+i+(n+1)-(a.off+i)=n+1:=Y
   have j:a.off+(i+1)+n-(a.off+(i+1))=n:=Y
   rw [g,j];have b:a.off+i<c.toList.length:=by simp;omega
   rw [List.drop_eq_getElem_cons b,List.take_succ_cons];simp [Nat.add_assoc]
  rw [<-e];exact x
def Rd(P:Program)(h:V)(t:aV)(b off:Nat)(v:aU):Prop:=
 ∃p c ty f,h b=some (p,.cells c ty f)/\((∃n,Bz P t=some (false,n)/\c[off]? =some v)\/∃n,Bz P t=some (true,n)/\off+n<=c.size/\v=.agg (c.extract off (off+n)))
theorem Rd.one{h:V}{t:aV}{n b off:Nat}{v:aU}{p:Bool}{c:Array aU}{ty:aV}{f:Nat×Nat}(ht:Bz P t=some (false,n))(hb:h b=some (p,.cells c ty f))(hc:c[off]? =some v):Rd P h t b off v:=
 ⟨p,c,ty,f,hb,.inl ⟨n,ht,hc⟩⟩
theorem Rd.agg{h:V}{t:aV}{n b off:Nat}{vs:Array aU}{p:Bool}{c:Array aU}{ty:aV}{f:Nat×Nat}(ht:Bz P t=some (true,n))(hb:h b=some (p,.cells c ty f))(hn:off+n<=c.size)(hv:c.extract off (off+n)=vs):Rd P h t b off (.agg vs):=
 ⟨p,c,ty,f,hb,.inr ⟨n,ht,hn,by rw [hv]⟩⟩
theorem OW{h:V}{t:aV}{b off:Nat}{v:aU}{Q:aU->V->Prop}(r:Rd P h t b off v)(x:Q v h):(loadVar t ⟨b,off,none⟩).gh P h Q:=by
 obtain ⟨p,c,j,f,e,⟨n,d,g⟩ | ⟨n,d,i,rfl⟩⟩:=r
 ·unfold loadVar;refine AG _ _ (OV d ?_);exact YW rfl e g x
 ·unfold loadVar;refine AG _ _ (OV d ?_);refine AG _ _ (Do d ?_);refine AG _ _ (Lj (a:=⟨b,off,none⟩) rfl e n 0 #[] (by simpa using i) ?_);exact Ao (by simpa using x)
def BV(c:Array aU)(off:Nat):List aU->Array aU
 | []=>c
 | v ::vs=>BV (c.setIfInBounds off v) (off+1) vs
theorem GS(vs:List aU):∀(c:Array aU)(off:Nat),(BV c off vs).size=c.size:=by
 induction vs with
 | nil=>intro c off;rfl
 | cons v vs a=>intro c off;simp [BV,a]
theorem gh_store{a:Addr}{v:aU}{c:Array aU}{t:aV}{h:V}{Q:Unit->V->Prop}(hs:a.spot=none)(hv:v.oneCell'=true)(hb:h a.block=some (true,.cells c t (0,0)))(ho:a.off<c.size)
  (x:Q () (h.set a.block true (.cells (c.setIfInBounds a.off v) t (0,0)))):(store a v).gh P h Q:=
 ⟨rfl,hs,hv,c,t,(0,0),hb,ho,aD,x⟩
theorem set_set(h:V)(r:Nat)(p q:Bool)(o o':Obj):(h.set r p o).set r q o'=h.set r q o':=by
 funext b;unfold V.set;split <;> rfl
theorem GT{a:Addr}{t:aV}{Q:Unit->V->Prop}(hs:a.spot=none):∀(vs:List aU)(i:Nat)(c:Array aU)(h:V),(∀v ∈ vs,v.oneCell'=true)->h a.block=some (true,.cells c t (0,0))->a.off+i+vs.length<=c.size->
  Q () (h.set a.block true (.cells (BV c (a.off+i) vs) t (0,0)))->(storeCells a vs i).gh P h Q:=by
 intro vs
 induction vs with
 | nil=>
  intro i c h _ d _ x
  have:h.set a.block true (.cells (BV c (a.off+i) []) t (0,0))=h:=by
   funext b;unfold V.set;split
   ·rename_i e;subst e;exact d.symm
   ·rfl
  rw [this] at x;unfold storeCells;exact x
 | cons v vs g=>
  intro i c h f d j x;unfold storeCells;simp only [List.length_cons] at j;refine AG _ _ (gh_store (UE i hs) (f v aD) (by rw [Mh];exact d) (by rw [Ss];omega) ?_);rw [Mh,Ss];refine g (i+1) (c.setIfInBounds (a.off+i) v) _ (λy k=>f y (by simp [k])) (V.set_same _ _ _ _) (by simp;omega) ?_;rw [set_set];exact x
def Value.fine(v:aU):Bool:=v.cells.toList.all λx=>x.oneCell'
theorem UF{h:V}{t:aV}{b off:Nat}{v:aU}{g:Bool}{n:Nat}{c:Array aU}{ty:aV}{Q:Unit->V->Prop}(ht:Bz P t=some (g,n))(hb:h b=some (true,.cells c ty (0,0)))(hsz:v.cells.size=n)(hv:Value.fine v=true)
  (hn:off+n<=c.size) (x:Q () (h.set b true (.cells (BV c off v.cells.toList) ty (0,0)))):(storeVar t ⟨b,off,none⟩ v).gh P h Q:=by
 unfold storeVar;refine AG _ _ (Do ht ?_);rw [aS (by rw [hsz];simp)];refine GT (a:=⟨b,off,none⟩) rfl _ 0 c h ?_ hb ?_ ?_
 ·intro y d;unfold Value.fine at hv;exact List.all_eq_true.1 hv y d
 ·show off+0+v.cells.toList.length<=c.size;simp;omega
 ·exact x
def Ki(P:Program)(O:Nat->aU)(h:V):List ResultVar->(List aU->Prop)->Prop
 | [],Q=>Q []
 | .tmp t ::l,Q=>Ki P O h l λvs=>Q (O t ::vs)
 | .cell a t ::l,Q=>∃b off v,O a=.pointer (some ⟨b,off,none⟩)/\Rd P h t b off v/\Ki P O h l λvs=>Q (v ::vs)
def KA(vs:List aU):aU:=match vs with
 | [v]=>v
 | vs=>.tuple vs.toArray
theorem WC{fn:Func}{t:Array aU}{N:Nat}{O:Nat->aU}{h:V}{R:aU->V->Prop}(hs:BX t N O)(x:Ki P O h fn.results.toList λvs=>R (KA vs) h):(results fn t).gh P h R:=by
 unfold results;refine AG _ _ ?_;have d:∀(l:List ResultVar)(Q:List aU->Prop)(K:List aU->V->Prop),(∀vs,Q vs->K vs h)->Ki P O h l Q->
   (l.mapM (m:=Sem) fun | .tmp u=>pure (t.getD u undef) | .cell a g=>do loadVar g (<-asAddr (t.getD a undef))).gh P h K:=by
  intro l
  induction l with
  | nil=>intro Q K c x;rw [List.mapM_nil];exact c _ x
  | cons r l i=>
   intro Q K c x;rw [List.mapM_cons];cases r with
   | tmp u=>
    refine AG _ _ (Ao ?_);refine AG _ _ (i (λvs=>Q (O u ::vs)) (λvs f=>K (t.getD u undef ::vs) f) (λvs q=>by rw [hs.2 u];exact c _ q) x)
   | cell a g=>
    obtain ⟨b,j,v,k,n,o⟩:=x;refine AG _ _ (AG _ _ ?_);rw [hs.2 a,k];refine OW n ?_;exact AG _ _ (i (λvs=>Q (v ::vs)) (λvs f=>K (v ::vs) f) (λvs q=>c _ q) o)
 rw [Array.mapM_eq_mapM_toList,map_eq_pure_bind];refine AG _ _ (d fn.results.toList _ _ (λvs q=>Ao ?_) x);show (pure (if h:vs.toArray.size=1 then vs.toArray[0] else .tuple vs.toArray):Sem aU).gh P h R;have e:(if h:vs.toArray.size=1 then vs.toArray[0] else .tuple vs.toArray)=KA vs:=by
  match vs with
  | []=>rfl
  | [v]=>rfl
  | v ::u ::l=>simp [KA]
 rw [e];exact q
end
end Go.Ns
namespace Go.Ns
open Go.Conc
section
variable {P:Program} {W:Wk P}
def Fk(P:Program)(fn:Func)(O:Nat->aU)(R:aU->V->Prop):List Deferred->V->Prop
 | [],h=>Ki P O h fn.results.toList λvs=>R (KA vs) h
 | d ::ds,h=>∃r,d={ target:=.collected r,args:=#[] }/\∃o,h r=some (true,.deferred (some o))/\o=[]/\Fk P fn O R ds (h.set r true (.deferred none))
theorem Kz{main:Bool}{b:Frame}{t:Array aU}{ds:List Deferred}{k:List Item}{cs:List Frame}{w:World}:stepG P main (G (Dq b t ds k) cs) w=unwind P main (Dq b t ds k) cs none w:=rfl
theorem Nv{r:Nat}{ds:List Deferred}{h:V}{Q:List Deferred->V->Prop}(hr:h r=some (true,.deferred (some ds)))(x:Q ds (h.set r true (.deferred none))):(Instr.takeDeferred r).gh P h Q:=by
 unfold Instr.takeDeferred;refine AG _ _ ⟨true,_,hr,rfl,rfl,?_⟩;exact AG _ _ ⟨_,hr,rfl,rfl,rfl,x⟩
theorem K0{O:Nat->aU}{h:V}(l:List ResultVar):∀{Q Q':List aU->Prop},(∀vs,Q vs->Q' vs)->Ki P O h l Q->Ki P O h l Q':=by
 induction l with
 | nil=>intro Q Q' c x;exact c _ x
 | cons r l e=>
  intro Q Q' c x;cases r with
  | tmp u=>exact e (λvs y=>c _ y) x
  | cell a j=>obtain ⟨b,d,v,f,g,i⟩:=x;exact ⟨b,d,v,f,g,e (λvs y=>c _ y) i⟩
theorem NS{f:FuncId}{fn:Func}(hf:P.funcs[f]? =some fn){b:Frame}(hb:b.fn=f){N:Nat}{O:Nat->aU}{R:aU->V->Prop}{cs:List Frame}
  (fin:∀(t:Array aU)(k:List Item)(v:aU)(h h':V),R v h'->(∀w,D7 w h->∃w' es,(results fn t).runT P w #[]=(.ok v w',es)/\Bf h w es h' w')->W.K (G (Dq b t [] k) cs) h) :
  ∀(ds:List Deferred)(h:V)(t:Array aU)(k:List Item),BX t N O->Fk P fn O R ds h->W.K (G (Dq b t ds k) cs) h:=by
 intro ds
 induction ds with
 | nil=>
  intro h t k n x;have p:∀(l:List ResultVar)(Q:List aU->Prop),Ki P O h l Q->∃c,Q c/\Ki P O h l (λg=>g=c):=by
   intro l
   induction l with
   | nil=>intro Q x;exact ⟨[],x,rfl⟩
   | cons r l m=>
    intro Q x;cases r with
    | tmp u=>
     obtain ⟨c,i,j⟩:=m _ x;refine ⟨O u ::c,i,?_⟩;show Ki P O h l λg=>O u ::g=O u ::c;exact K0 l (λg e=>by rw [e]) j
    | cell a H=>
     obtain ⟨b,q,v,C,D,E⟩:=x;obtain ⟨c,i,j⟩:=m _ E;refine ⟨v ::c,i,b,q,v,C,D,?_⟩;exact K0 l (λg e=>by rw [e]) j
  obtain ⟨c,i,j⟩:=p _ _ x;refine fin t k (KA c) h h i λw f=>?_;obtain ⟨a,w',h',es,s,y,z,A⟩:=In f (WC n (R:=λv h'=>v=KA c/\h'=h) (by
   exact K0 _ (λg e=>by rw [e];exact ⟨rfl,rfl⟩) j))
  subst z;subst A;exact ⟨w',es,s,y⟩
 | cons d ds m=>
  rintro h t k n ⟨r,rfl,o,F,rfl,x⟩;refine W.closed _ _ rfl λw f=>?_;obtain ⟨calls,w',h',es,s,y,z,A⟩:=In f (Nv (P:=P) (Q:=λl h'=>l=[]/\h'=h.set r true (.deferred none)) F ⟨rfl,rfl⟩);subst z;subst A;refine ⟨G (Dq b t ds k) cs,w',_,_,?_,y.sub (es':=seen P b.fn es++ #[]) λe B=>?_,m _ t k n x⟩
  ·rw [Kz];unfold unwind;simp only [Dq,s,GStep.after];rfl
  ·rw [Array.append_empty] at B;exact mem_seen B
theorem WD{f:FuncId}{fn:Func}{c:Code}{args:Array aU}{h:V}{R:aU->V->Prop}(hf:P.funcs[f]? =some fn)(hb:fn.body=some c)(hsz:args.size<=fn.ntmps)
  (x:Tr ⟨W,f,none,fn.ntmps⟩ c (λi=>args.getD i undef) [] h (λe O ds h'=>(e=.normal\/e=.ret)/\Fk P fn O R ds h')):AW W f args h R:=by
 intro o p s;have u:Frame.enter P f args .normal=Cc (Frame.enter P f args .normal) (args++Array.replicate (fn.ntmps-args.size) undef) [] [.code c]:=by
  simp [Frame.enter,Cc,hf,hb]
 rw [u];let y:Lv:=λj t ds h'=>(j=none\/j=some .ret)/\∃O,BX t fn.ntmps O/\Fk P fn O R ds h';have d:∀O ds h' t k,BX t fn.ntmps O->Fk P fn O R ds h'->W.K (G (Dq (Frame.enter P f args .normal) t ds k) (o ::p)) h':=by
  intro O ds h' t k g a;refine NS (W:=W) (R:=R) hf (b:=Frame.enter P f args .normal) rfl (λt k v h h' z l=>?_) ds h' t k g a;refine W.closed _ _ rfl λw A=>?_;obtain ⟨B,C,D,E⟩:=l w A;refine ⟨G (o.finish v) p,B,_,h',?_,E.sub (es':=seen P f C++ #[]) λe n=>?_,s v h' z⟩
  ·rw [Kz];unfold unwind;have q:(Dq (Frame.enter P f args .normal) t [] k).fn=f:=rfl;have F:(Dq (Frame.enter P f args .normal) t [] k).kind=.normal:=rfl;have H:(Dq (Frame.enter P f args .normal) t [] k).mode=.returning:=rfl;have N:(Dq (Frame.enter P f args .normal) t [] k).defers=[]:=rfl;have Q:(Dq (Frame.enter P f args .normal) t [] k).tmps=t:=rfl;simp only [N,H,q,hf,Q,D,GStep.after,doReturn,F];rfl
  ·rw [Array.append_empty] at n;exact mem_seen n
 refine x (Frame.enter P f args .normal) [] (o ::p) y _ rfl rfl ⟨?_,?_,?_⟩ ⟨by simp;omega,λi=>?_⟩ ?_
 ·rintro t ds h' ⟨_,O,g,a⟩;exact Wk.go (Dq (Frame.enter P f args .normal) t ds []) (λw=>by rw [A0];simp [stepG.exec,Cc,Dq,G,Frame.enter]) (d O ds h' t [] g a)
 ·rintro t ds h' k ⟨_,O,g,a⟩;exact Wk.go (Dq (Frame.enter P f args .normal) t ds (.code .ret ::k)) (λw=>by rw [A0];simp [stepG.exec,Cc,Dq,G,Frame.enter]) (d O ds h' t _ g a)
 ·rintro id t ds h' k _ ⟨h1 | h1,_⟩ <;> cases h1
 ·by_cases S:i<args.size
  ·simp [Array.getD_eq_getD_getElem?,Array.getElem?_append_left S]
  ·simp only [Array.getD_eq_getD_getElem?];rw [Array.getElem?_append_right Y,Array.getElem?_eq_none (show args.size<=i by omega),Array.getElem?_replicate];split <;> rfl
 ·rintro e O ds h' ⟨n,a⟩ r m;rcases n with rfl | rfl
  ·refine Wk.go (Dq (Frame.enter P f args .normal) r ds []) (λw=>by rw [A0];simp [stepG.exec,Cc,Dq,G,Frame.enter]) (d O ds h' r [] m a)
  ·exact ⟨.inr rfl,O,m,a⟩
def AJ(fn:Func):Bool:= !(fn.name== "runtime.NumGoroutine") && fn.body.isSome
theorem NT{f:FuncId}{fn:Func}{args:Array aU}{h:V}{Q:Next->V->Prop}(hf:P.funcs[f]? =some fn)(hc:AJ fn=true)(x:Q (.enter f args) h):(callFunc f args).gh P h Q:=by
 unfold AJ at hc;simp only [Bool.and_eq_true,Bool.not_eq_true'] at hc;unfold callFunc;refine AG _ _ ?_;show (match P.funcs[f]? with | none=>_ | some fn=>_:Sem Next).gh P h Q;rw [hf];simp only [];rw [aS (by rw [hc.1];simp),aS (by cases a:fn.body with | none=>rw [a] at hc;simp at hc | some c=>simp)];exact x
variable {E:F8 P} {O:Nat->aU} {ds:List Deferred} {h:V} {T:(Nat->aU)->List Deferred->V->Prop}
def BS(E:F8 P)(o:Oper)(O:Nat->aU)(ds:List Deferred)(h:V)(T:(Nat->aU)->List Deferred->V->Prop):Prop:=(execOp (AL O) o).gh P h (Upon E o O ds T)
theorem DW{dst:Option Nat}{f:Operand}{args:Array Operand}{tys:Array aV}{ty:aV}{pos:String}{af:Array Edge}{gd:Option (Nat×Bool)}{g:FuncId}{fn:Func}{first cap:Array aU}{vs:Array aU}
  (hv:AL O f=.func (.func g) first cap) (hf:P.funcs[g]? =some fn) (hc:AJ fn=true) (ha:first++args.map (AL O)++cap=vs)
  (x:AW E.wk g vs h λv h'=>T (putS O dst v) ds h'):BS E ⟨dst,.call ⟨.value f,args,tys⟩,ty,pos,af,gd⟩ O ds h T:=by
 unfold BS execOp;simp only [];refine AG _ _ ?_;unfold resolve;simp only [hv,Deferred.ofValue];refine Ao ?_;subst ha;exact NT hf hc x
theorem KB{dst:Option Nat}{args:Array Operand}{tys:Array aV}{ty:aV}{pos:String}{af:Array Edge}{gd:Option (Nat×Bool)}{g:FuncId}{fn:Func}{vs:Array aU}
  (hf:P.funcs[g]? =some fn) (hc:AJ fn=true) (ha:args.map (AL O)=vs) (x:AW E.wk g vs h λv h'=>T (putS O dst v) ds h'):BS E ⟨dst,.call ⟨.value (.func g),args,tys⟩,ty,pos,af,gd⟩ O ds h T:=
 DW (first:=#[]) (cap:=#[]) rfl hf hc (by rw [ha];simp) x
end
end Go.Ns
namespace Go.Ns
open Go.Conc
section
variable {P:Program} {E:F8 P} {O:Nat->aU} {ds:List Deferred} {h:V} {T:(Nat->aU)->List Deferred->V->Prop}
variable {dst:Option Nat} {ty:aV} {pos:String} {af:Array Edge} {gd:Option (Nat×Bool)}
theorem GC{ops:Array Oper}{o:Oper}{l:List Oper}{Q:Post}(hg:o.guard=none)(hdf:EK o.op=false)(hd:DK o.dst E.N=true)
  (x:BS E o O ds h λσ' ds' h'=>DI E ops l σ' ds' h' Q):DI E ops (o ::l) O ds h Q:=trL_op hg (.inr hdf) hd x
theorem Su{x:Operand}{v:aU}(hx:AL O x=v)(k:T (putS O dst v) ds h):BS E ⟨dst,.move x,ty,pos,af,gd⟩ O ds h T:=by
 subst hx;exact k
theorem Mi{x:Operand}{v:aU}(hx:AL O x=v)(k:T (putS O dst v) ds h):BS E ⟨dst,.assign x,ty,pos,af,gd⟩ O ds h T:=by
 subst hx;exact k
theorem FE{s:Sem aU}{Q:Next->V->Prop}(x:s.gh P h λv h'=>Q (.value v) h'):(do pure (.value (<-s)):Sem Next).gh P h Q:=AG _ _ (Ev _ (λ_ _ y=>y) _ x)
theorem gh_u{s:Sem Unit}{Q:Next->V->Prop}(x:s.gh P h λ_ h'=>Q .skip h'):(do s;pure .skip:Sem Next).gh P h Q:=AG _ _ (Ev _ (λ_ _ y=>y) _ x)
theorem Ax{c a b:Operand}{t:Bool}{v:aU}(hc:AL O c=.bool t)(hv:(if t then AL O a else AL O b)=v)(k:T (putS O dst v) ds h):BS E ⟨dst,.pick c a b,ty,pos,af,gd⟩ O ds h T:=by
 unfold BS execOp;simp only [hc,asBool];subst hv;exact k
theorem OX{op:BinOp}{t:aV}{x y:Operand}{k:IntKind}{a:Int}{b:aU}{Q:Unit->V->Prop}(q:Q () h):(eqGuard op t x y (.int k a) b).gh P h Q:=by
 unfold eqGuard;split <;> exact q
theorem E8{op:BinOp}{xt yt:aV}{x y:Operand}{k:IntKind}{a b:Int}{v:aU}(hx:AL O x=.int k a)(hy:AL O y=.int k b)(hv:binOp op xt (.int k a) (.int k b)=pure v)(kk:T (putS O dst v) ds h) :
  BS E ⟨dst,.binOp op xt x y yt,ty,pos,af,gd⟩ O ds h T:=by
 unfold BS execOp;simp only [hx,hy];refine FE (AG _ _ (OX ?_));rw [hv];exact kk
theorem C9{xt yt:aV}{x y:Operand}{a b:Int}(hx:AL O x=.int .i64 a)(hy:AL O y=.int .i64 b)(hr: -9223372036854775808<=a+b/\a+b<=9223372036854775807)(k:T (putS O dst (.int .i64 (a+b))) ds h) :
  BS E ⟨dst,.binOp .add xt x y yt,ty,pos,af,gd⟩ O ds h T:=E8 hx hy (by
 show (pure (Value.int .i64 (IntKind.i64.wrap (a+b))):Sem aU)=_;rw [IntWalk.i64_in _ hr]) k
theorem A1{xt yt:aV}{x y:Operand}{a b:Int}(hx:AL O x=.int .i64 a)(hy:AL O y=.int .i64 b)(hr: -9223372036854775808<=a-b/\a-b<=9223372036854775807)(k:T (putS O dst (.int .i64 (a-b))) ds h) :
  BS E ⟨dst,.binOp .sub xt x y yt,ty,pos,af,gd⟩ O ds h T:=E8 hx hy (by
 show (pure (Value.int .i64 (IntKind.i64.wrap (a-b))):Sem aU)=_;rw [IntWalk.i64_in _ hr]) k
theorem IB{xt yt:aV}{x y:Operand}{a b:Int}(hx:AL O x=.int .i64 a)(hy:AL O y=.int .i64 b)(hr: -9223372036854775808<=a*b/\a*b<=9223372036854775807)(k:T (putS O dst (.int .i64 (a*b))) ds h) :
  BS E ⟨dst,.binOp .mul xt x y yt,ty,pos,af,gd⟩ O ds h T:=E8 hx hy (by
 show (pure (Value.int .i64 (IntKind.i64.wrap (a*b))):Sem aU)=_;rw [IntWalk.i64_in _ hr]) k
theorem Iq{xt yt:aV}{x y:Operand}{a b:Int}(hx:AL O x=.int .i64 a)(hy:AL O y=.int .i64 b)(ha:0<=a)(ha':a<=9223372036854775807)(hb:0<b)(k:T (putS O dst (.int .i64 (a / b))) ds h) :
  BS E ⟨dst,.binOp .quo xt x y yt,ty,pos,af,gd⟩ O ds h T:=E8 hx hy (by
 show (if b=0 then _ else (pure (Value.int .i64 (IntKind.i64.wrap (a.tdiv b))):Sem aU))=_;rw [aS Y,Int.tdiv_eq_ediv_of_nonneg ha];have c:0<=a / b:=Int.ediv_nonneg ha Y;have d:a / b<=a:=Int.ediv_le_self b ha;rw [IntWalk.i64_in _ Y]) k
theorem WE{xt yt:aV}{x y:Operand}{a b:Int}(hx:AL O x=.int .i64 a)(hy:AL O y=.int .i64 b)(ha:0<=a)(hb:0<b)(k:T (putS O dst (.int .i64 (a%b))) ds h) :
  BS E ⟨dst,.binOp .rem xt x y yt,ty,pos,af,gd⟩ O ds h T:=E8 hx hy (by
 show (if b=0 then _ else (pure (Value.int .i64 (a.tmod b)):Sem aU))=_;rw [aS Y,Int.tmod_eq_emod_of_nonneg ha]) k
theorem Am{xt yt:aV}{x y:Operand}{kd:IntKind}{a b:Int}(hx:AL O x=.int kd a)(hy:AL O y=.int kd b)(k:T (putS O dst (.bool (decide (a<b)))) ds h):BS E ⟨dst,.binOp .lss xt x y yt,ty,pos,af,gd⟩ O ds h T:=
 E8 hx hy (by simp [binOp,Op.intCmp]) k
theorem CX{xt yt:aV}{x y:Operand}{kd:IntKind}{a b:Int}(hx:AL O x=.int kd a)(hy:AL O y=.int kd b)(k:T (putS O dst (.bool (decide (a<=b)))) ds h):BS E ⟨dst,.binOp .leq xt x y yt,ty,pos,af,gd⟩ O ds h T:=
 E8 hx hy (by simp [binOp,Op.intCmp]) k
theorem CR{xt yt:aV}{x y:Operand}{kd:IntKind}{a b:Int}(hx:AL O x=.int kd a)(hy:AL O y=.int kd b)(k:T (putS O dst (.bool (decide (b<a)))) ds h):BS E ⟨dst,.binOp .gtr xt x y yt,ty,pos,af,gd⟩ O ds h T:=
 E8 hx hy (by simp [binOp,Op.intCmp]) k
theorem CD{xt yt:aV}{x y:Operand}{kd:IntKind}{a b:Int}(hx:AL O x=.int kd a)(hy:AL O y=.int kd b)(k:T (putS O dst (.bool (decide (b<=a)))) ds h):BS E ⟨dst,.binOp .geq xt x y yt,ty,pos,af,gd⟩ O ds h T:=
 E8 hx hy (by simp [binOp,Op.intCmp]) k
theorem BN{xt yt:aV}{x y:Operand}{kd:IntKind}{a b:Int}(hx:AL O x=.int kd a)(hy:AL O y=.int kd b)(k:T (putS O dst (.bool (decide (a=b)))) ds h):BS E ⟨dst,.binOp .eql xt x y yt,ty,pos,af,gd⟩ O ds h T:=
 E8 hx hy (by simp only [binOp,Op.intCmp,ne_eq,not_true_eq_false,↓reduceIte];congr 2) k
theorem Av{xt yt:aV}{x y:Operand}{kd:IntKind}{a b:Int}(hx:AL O x=.int kd a)(hy:AL O y=.int kd b)(k:T (putS O dst (.bool (decide (¬a=b)))) ds h):BS E ⟨dst,.binOp .neq xt x y yt,ty,pos,af,gd⟩ O ds h T:=
 E8 hx hy (by simp only [binOp,Op.intCmp,ne_eq,not_true_eq_false,↓reduceIte];congr 2;rw [decide_not];rfl) k
theorem Cf{xt:aV}{x:Operand}{b:Bool}(hx:AL O x=.bool b)(k:T (putS O dst (.bool (!b))) ds h):BS E ⟨dst,.unOp .not xt x,ty,pos,af,gd⟩ O ds h T:=by
 unfold BS execOp;simp only [hx,Op.unary];exact k
theorem A3{xt:aV}{x:Operand}{p:Prop}[Decidable p](hx:AL O x=.bool (decide p))(k:T (putS O dst (.bool (decide (¬p)))) ds h):BS E ⟨dst,.unOp .not xt x,ty,pos,af,gd⟩ O ds h T:=
 Cf hx (by rw [<-decide_not];exact k)
theorem ok_neg{xt:aV}{x:Operand}{a:Int}(hx:AL O x=.int .i64 a)(hr: -9223372036854775807<=a/\a<=9223372036854775807)(k:T (putS O dst (.int .i64 (-a))) ds h):BS E ⟨dst,.unOp .neg xt x,ty,pos,af,gd⟩ O ds h T:=by
 unfold BS execOp;simp only [hx,Op.unary,Op.intArith];rw [IntWalk.i64_in _ Y];have e:(0:Int)-a= -a:=Y
 rw [e];exact k
theorem Sv{xt yt:aV}{x y:Operand}{a b:aW}(hx:AL O x=.string a)(hy:AL O y=.string b)(k:T (putS O dst (.bool (a.toList==b.toList))) ds h):BS E ⟨dst,.binOp .eql xt x y yt,ty,pos,af,gd⟩ O ds h T:=by
 unfold BS execOp;simp only [hx,hy];exact k
def CM(P:Program)(s:aV)(f:Nat):Option Nat:=
 match P.underlying s with
 | some (.struct fields)=>match fields[f]? with
  | some fl=>match P.info? fl.type with
   | some i=>if i.size=0 then none else some fl.offset
   | none=>none
  | none=>none
 | _=>none
theorem AE{s:aV}{x:Operand}{f o b off:Nat}(hf:CM P s f=some o)(hx:AL O x=.pointer (some ⟨b,off,none⟩))(k:T (putS O dst (.pointer (some ⟨b,off+o,none⟩))) ds h) :
  BS E ⟨dst,.fieldAddr s x f,ty,pos,af,gd⟩ O ds h T:=by
 unfold BS execOp;simp only [hx];refine FE ?_;unfold CM at hf;unfold Instr.fieldAt;cases c:P.underlying s with
 | none=>rw [c] at hf;cases hf
 | some d=>
  refine AG _ _ (Ak c ?_);rw [c] at hf;cases d <;> first | (cases hf;done) | skip
  rename_i fields
  simp only at hf ⊢;cases a:fields[f]? with
  | none=>rw [a] at hf;cases hf
  | some j=>
   rw [a] at hf;simp only at hf ⊢;cases e:P.info? j.type with
   | none=>rw [e] at hf;cases hf
   | some i=>
    rw [e] at hf;simp only at hf;by_cases g:i.size=0
    ·rw [aT g] at hf;cases hf
    ·rw [aS g] at hf;cases hf;refine AG _ _ (Ao ?_);refine AG _ _ ?_;unfold fieldPlace;refine AG _ _ ?_;unfold sizeOf;refine AG _ _ (Cy e (Ao ?_));rw [aS g,IA];exact k
def Dl(P:Program)(t:aV):Option Nat:=
 match P.underlying t with
 | some (.slice e)=>(Bz P e).map (·.2)
 | _=>none
def IN(P:Program)(t:aV):Option (Nat×Nat):=
 match P.underlying t with
 | some (.array n e)=>(Bz P e).map λx=>(n,x.2)
 | _=>none
theorem GD{e:aV}{n:Nat}{Q:Nat->V->Prop}(he:(Bz P e).map (·.2)=some n)(q:Q n h):(sizeOf e).gh P h Q:=by
 cases a:Bz P e with
 | none=>rw [a] at he;cases he
 | some x=>rw [a] at he;cases he;exact Do a q
theorem AK{t:aV}{x ix:Operand}{n b off len cap:Nat}{kd:IntKind}{i:Int}(ht:Dl P t=some n)(hx:AL O x=.slice (some ⟨b,off,none⟩) len cap)(hi:AL O ix=.int kd i)(h0:0<=i)(h1:i<len)
  (k:T (putS O dst (.pointer (some ⟨b,off+i.toNat * n,none⟩))) ds h):BS E ⟨dst,.indexAddr t x ix,ty,pos,af,gd⟩ O ds h T:=by
 unfold BS execOp;simp only [hx,hi];refine FE ?_;unfold Dl at ht;unfold Instr.indexAt;cases a:P.underlying t with
 | none=>rw [a] at ht;cases ht
 | some d=>
  rw [a] at ht;cases d <;> first | (cases ht;done) | skip
  rename_i e
  refine AG _ _ (Ao ?_);refine AG _ _ (Ak a ?_);dsimp only;refine AG _ _ (Ao ?_);dsimp only;refine AG _ _ (Ak a ?_);dsimp only;rw [aT ⟨h0,h1⟩];refine AG _ _ (GD ht (Ao ?_));rw [IA];exact k
theorem BG{t:aV}{x ix:Operand}{n m b off:Nat}{kd:IntKind}{i:Int}(ht:IN P t=some (m,n))(hx:AL O x=.pointer (some ⟨b,off,none⟩))(hi:AL O ix=.int kd i)(h0:0<=i)(h1:i<m)
  (k:T (putS O dst (.pointer (some ⟨b,off+i.toNat * n,none⟩))) ds h):BS E ⟨dst,.indexAddr t x ix,ty,pos,af,gd⟩ O ds h T:=by
 unfold BS execOp;simp only [hx,hi];refine FE ?_;unfold IN at ht;unfold Instr.indexAt;cases a:P.underlying t with
 | none=>rw [a] at ht;cases ht
 | some d=>
  rw [a] at ht;cases d <;> first | (cases ht;done) | skip
  rename_i e
  simp only [Option.map_eq_some_iff,Prod.mk.injEq] at ht;obtain ⟨f,c,rfl,rfl⟩:=ht;refine AG _ _ (Ao ?_);refine AG _ _ (Ak a ?_);dsimp only;refine AG _ _ (Ao ?_);refine AG _ _ (Ao ?_);dsimp only;refine AG _ _ (Ak a ?_);dsimp only;rw [aT ⟨h0,h1⟩];refine AG _ _ (Do c (Ao ?_));rw [IA];exact k
theorem B8{t:aV}{x:Operand}{b off:Nat}{v:aU}(hx:AL O x=.pointer (some ⟨b,off,none⟩))(hr:Rd P h t b off v)(k:T (putS O dst v) ds h):BS E ⟨dst,.load t x,ty,pos,af,gd⟩ O ds h T:=by
 unfold BS execOp;simp only [hx];refine FE ?_;unfold Instr.loadAt;exact AG _ _ (Ao (OW hr k))
theorem ok_store{t:aV}{a x:Operand}{b off n:Nat}{g:Bool}{v:aU}{c:Array aU}{et:aV}(ht:Bz P t=some (g,n))(ha:AL O a=.pointer (some ⟨b,off,none⟩))(hv:AL O x=v)(hb:h b=some (true,.cells c et (0,0)))
  (hsz:v.cells.size=n) (hf:Value.fine v=true) (hn:off+n<=c.size) (k:T (putS O dst undef) ds (h.set b true (.cells (BV c off v.cells.toList) et (0,0)))):BS E ⟨dst,.store t a x,ty,pos,af,gd⟩ O ds h T:=by
 unfold BS execOp;simp only [ha,hv];refine gh_u ?_;unfold Instr.storeAt;exact AG _ _ (Ao (UF ht hb hsz hf hn k))
def Bb(P:Program)(t:aV):Option (Array aU):=
 match P.info? t with
 | some i=>i.zero.map (·.cells)
 | none=>none
theorem ok_alloc{t:aV}{z:Array aU}(hz:Bb P t=some z)(k:∀r,h r=none->T (putS O dst (.pointer (some ⟨r,0,none⟩))) ds (h.set r true (.cells z t (0,0)))):BS E ⟨dst,.alloc t,ty,pos,af,gd⟩ O ds h T:=by
 unfold BS execOp;refine FE ?_;unfold Bb at hz;unfold Instr.alloc zeroValue;cases a:P.info? t with
 | none=>rw [a] at hz;cases hz
 | some i=>
  rw [a] at hz;simp only [Option.map_eq_some_iff] at hz;obtain ⟨v,b,rfl⟩:=hz;refine AG _ _ (AG _ _ (Cy a ?_));rw [b];refine Ao ?_;refine AG _ _ ?_;unfold newVar newRow;refine AG _ _ ?_;exact λr c=>k r c
theorem ok_box{t:aV}{x:Operand}{c:Array aU}(hx:(AL O x).cells=c)(k:∀r,h r=none->T (putS O dst (.pointer (some ⟨r,0,none⟩))) ds (h.set r true (.cells c t (0,0)))):BS E ⟨dst,.box t x,ty,pos,af,gd⟩ O ds h T:=by
 unfold BS execOp;refine FE ?_;unfold Instr.box newVar newRow;subst hx;refine AG _ _ (AG _ _ ?_);exact λr a=>k r a
theorem ok_field{t:aV}{x:Operand}{f:Nat}{v:aU}(hv:(Instr.field t (AL O x) f).gh P h λu h'=>u=v/\h'=h)(k:T (putS O dst v) ds h):BS E ⟨dst,.field t x f,ty,pos,af,gd⟩ O ds h T:=by
 unfold BS execOp;exact FE (Ev _ (λu h' ⟨a,b⟩=>by subst a;subst b;exact k) _ hv)
theorem WF{x:Operand}{n:Nat}{vs:Array aU}{v:aU}(hx:AL O x=.tuple vs)(hv:vs[n]? =some v)(k:T (putS O dst v) ds h):BS E ⟨dst,.extract x n,ty,pos,af,gd⟩ O ds h T:=by
 unfold BS execOp;simp only [hx];refine FE ?_;unfold Instr.extract;simp only [hv];exact k
theorem Ek{f:Fn}{first cap:Array Operand}{v:aU}(hv:Value.func f (first.map (AL O)) (cap.map (AL O))=v)(k:T (putS O dst v) ds h):BS E ⟨dst,.makeFunc f first cap,ty,pos,af,gd⟩ O ds h T:=by
 subst hv;exact k
theorem Cz{x:Operand}{a:Addr}(hx:AL O x=.pointer (some a))(k:T (putS O dst (.pointer (some a))) ds h):BS E ⟨dst,.nilCheck x,ty,pos,af,gd⟩ O ds h T:=by
 unfold BS execOp;simp only [hx];exact k
def DX(P:Program)(t:aV):Option (List (Nat×Nat)):=
 match P.underlying t with
 | some (.struct fields)=>fields.toList.mapM λf=>(Bz P f.type).map λx=>(f.offset,x.2)
 | _=>none
theorem OY(l:List Field):∀{ps:List (Nat×Nat)}{Q:List (Nat×Nat)->V->Prop},(l.mapM λf=>(Bz P f.type).map λx=>(f.offset,x.2))=some ps->Q ps h->
  (l.mapM (m:=Sem) λf=>do pure (f.offset,<-sizeOf f.type)).gh P h Q:=by
 induction l with
 | nil=>intro ps Q e q;simp at e;subst e;exact q
 | cons f l c=>
  intro ps Q e q;rw [List.mapM_cons] at e ⊢;cases a:Bz P f.type with
  | none=>rw [a] at e;simp at e
  | some x=>
   rw [a] at e;simp only [Option.map_some,Option.bind_eq_bind,Option.bind_some,Option.bind_eq_some_iff] at e;obtain ⟨g,d,b⟩:=e;simp at b;subst b;refine AG _ _ (AG _ _ (Do a (Ao ?_)));exact AG _ _ (c d q)
theorem Ap{t:aV}{parts:Array (Nat×Operand)}{ps:List (Nat×Nat)}{z cells:Array aU}(hp:DX P t=some ps)(hz:Bb P t=some z)(hf:Instr.fill (ps.toArray[·]?) z (parts.map λ(i,x)=>(i,AL O x)).toList=some cells)
  (k:T (putS O dst (.agg cells)) ds h):BS E ⟨dst,.build t parts,ty,pos,af,gd⟩ O ds h T:=by
 unfold BS execOp;refine FE ?_;unfold Bb at hz;unfold DX at hp;unfold Instr.build zeroValue;cases a:P.info? t with
 | none=>rw [a] at hz;cases hz
 | some i=>
  rw [a] at hz;simp only [Option.map_eq_some_iff] at hz;obtain ⟨v,c,rfl⟩:=hz;refine AG _ _ (AG _ _ (Cy a ?_));rw [c];refine Ao ?_;cases b:P.underlying t with
  | none=>rw [b] at hp;cases hp
  | some d=>
   rw [b] at hp;cases d <;> first | (cases hp;done) | skip
   rename_i fields
   refine AG _ _ (Ak b ?_);simp only at hp ⊢;rw [Array.mapM_eq_mapM_toList,map_eq_pure_bind];refine AG _ _ (AG _ _ (OY _ hp (Ao ?_)));simp only [hf];exact k
def Dj(P:Program)(t:aV):Option (Nat×Array aU×aV):=
 match P.underlying t with
 | some (.slice e)=>match Bz P e,Bb P e with
  | some x,some z=>some (x.2,z,e)
  | _,_=>none
 | _=>none
theorem QS{t:aV}{len n:Nat}{z cells:Array aU}{e:aV}{parts:Array (Nat×Operand)}(hs:Dj P t=some (n,z,e))(hl:len*n<=2 ^ 24)(hn:(len*n=0)=False)
  (hf:Instr.fill (λi=>some (i*n,n)) ((Array.range (len*n)).map (z[·%z.size]!)) (parts.map λ(i,x)=>(i,AL O x)).toList=some cells)
  (k:∀r,h r=none->T (putS O dst (.slice (some ⟨r,0,none⟩) len len)) ds (h.set r true (.cells cells e (0,0)))):BS E ⟨dst,.buildSlice t len parts,ty,pos,af,gd⟩ O ds h T:=by
 unfold BS execOp;refine FE ?_;unfold Dj at hs;unfold Instr.buildSlice;cases c:P.underlying t with
 | none=>rw [c] at hs;cases hs
 | some d=>
  rw [c] at hs;cases d <;> first | (cases hs;done) | skip
  rename_i f
  simp only at hs;cases b:Bz P f with
  | none=>rw [b] at hs;cases hs
  | some x=>
   cases a:Bb P f with
   | none=>rw [b,a] at hs;cases hs
   | some m=>
    rw [b,a] at hs;simp only [Option.some.injEq,Prod.mk.injEq] at hs;obtain ⟨rfl,rfl,rfl⟩:=hs;refine AG _ _ (Ak c ?_);refine AG _ _ (GD (by rw [b];rfl) ?_);rw [aS (Nat.not_lt.2 hl)];dsimp only at hn ⊢;rw [aS (by rw [hn];exact id)];unfold Bb at a;unfold zeroValue;cases g:P.info? f with
    | none=>rw [g] at a;cases a
    | some i=>
    rw [g] at a;simp only [Option.map_eq_some_iff] at a;obtain ⟨v,j,rfl⟩:=a;refine AG _ _ (AG _ _ (Cy g ?_));rw [j];refine Ao ?_;refine AG _ _ (Ao ?_);dsimp only at hf ⊢;rw [hf];dsimp only;refine AG _ _ ?_;unfold newRow;refine AG _ _ ?_;exact λr l=>k r l
theorem FS{b:Builtin}{args:Array Operand}{tys:Array aV}{vs:Array aU}{s:Sem aU}(ha:args.map (AL O)=vs)(hb:∀cs,builtin b tys ty cs vs=(do pure (.value (<-s))))
  (x:s.gh P h λv h'=>T (putS O dst v) ds h'):BS E ⟨dst,.call ⟨.builtin b,args,tys⟩,ty,pos,af,gd⟩ O ds h T:=by
 unfold BS execOp;simp only [];refine AG _ _ ?_;unfold resolve;simp only [ha];refine Ao ?_;show (builtin b tys ty _ vs).gh P h _;rw [hb];exact FE x
def IO(P:Program)(t:aV):Bool:=match P.underlying t with
 | some (.slice _)=>true
 | _=>false
theorem OZ{x:Operand}{t:aV}{a:Option Addr}{len cap:Nat}(ht:IO P t=true)(hx:AL O x=.slice a len cap)(k:T (putS O dst (.int .i64 len)) ds h):BS E ⟨dst,.call ⟨.builtin .len,#[x],#[t]⟩,ty,pos,af,gd⟩ O ds h T:=by
 refine FS (vs:=#[.slice a len cap]) (s:=Builtin.len_ #[t] ty #[.slice a len cap]) (by simp [hx]) (λ_=>rfl) ?_;unfold IO at ht;unfold Builtin.len_;simp only [List.getElem?_toArray,List.getElem?_cons_zero];cases b:P.underlying t with
 | none=>rw [b] at ht;cases ht
 | some d=>
  rw [b] at ht;refine AG _ _ (Ak b ?_);cases d <;> first | (cases ht;done) | exact k
def Lk(P:Program)(t:aV):Bool:=match P.underlying t with
 | some .string=>true
 | _=>false
theorem KC{x:Operand}{t:aV}{s:aW}(ht:Lk P t=true)(hx:AL O x=.string s)(k:T (putS O dst (.int .i64 s.size)) ds h):BS E ⟨dst,.call ⟨.builtin .len,#[x],#[t]⟩,ty,pos,af,gd⟩ O ds h T:=by
 refine FS (vs:=#[.string s]) (s:=Builtin.len_ #[t] ty #[.string s]) (by simp [hx]) (λ_=>rfl) ?_;unfold Lk at ht;unfold Builtin.len_;simp only [List.getElem?_toArray,List.getElem?_cons_zero];cases a:P.underlying t with
 | none=>rw [a] at ht;cases ht
 | some d=>
  rw [a] at ht;refine AG _ _ (Ak a ?_);cases d <;> first | (cases ht;done) | exact k
theorem Mj{x y:Operand}{tys:Array aV}{a b:Int}{kd:IntKind}(hx:AL O x=.int kd a)(hy:AL O y=.int kd b)(k:T (putS O dst (.int kd (min a b))) ds h):BS E ⟨dst,.call ⟨.builtin .min,#[x,y],tys⟩,ty,pos,af,gd⟩ O ds h T:=by
 refine FS (vs:=#[.int kd a,.int kd b]) (s:=Builtin.min_ tys ty #[.int kd a,.int kd b]) (by simp [hx,hy]) (λ_=>rfl) ?_;have e:min a b=if b<a then b else a:=Y
 rw [e] at k;exact k
theorem Oa{x y:Operand}{tys:Array aV}{a b:Int}{kd:IntKind}(hx:AL O x=.int kd a)(hy:AL O y=.int kd b)(k:T (putS O dst (.int kd (max a b))) ds h):BS E ⟨dst,.call ⟨.builtin .max,#[x,y],tys⟩,ty,pos,af,gd⟩ O ds h T:=by
 refine FS (vs:=#[.int kd a,.int kd b]) (s:=Builtin.max_ tys ty #[.int kd a,.int kd b]) (by simp [hx,hy]) (λ_=>rfl) ?_;have e:max a b=if b>a then b else a:=Y
 rw [e] at k;exact k
def Mk(P:Program)(t:aV):Option IntKind:=match P.underlying t with
 | some (.int k)=>some k
 | _=>none
theorem Bi{s t:aV}{x:Operand}{kd kt:IntKind}{a r:Int}(hs:(P.underlying s).isSome=true)(ht:Mk P t=some kt)(hx:AL O x=.int kd a)(hr:kt.wrap a=r)(k:T (putS O dst (.int kt r)) ds h):BS E ⟨dst,.convert s t x,ty,pos,af,gd⟩ O ds h T:=by
 unfold BS execOp;simp only [hx];refine FE ?_;unfold Mk at ht;unfold convert;cases c:P.underlying s with
 | none=>rw [c] at hs;cases hs
 | some d=>
  refine AG _ _ (Ak c ?_);cases b:P.underlying t with
  | none=>rw [b] at ht;cases ht
  | some e=>
   rw [b] at ht;refine AG _ _ (Ak b ?_);subst hr;cases e <;> first | (cases ht;done) | (cases ht;cases d <;> exact k)
end
end Go.Ns
namespace Go.Ns
open Go.Conc
section
variable {P:Program} {E:F8 P} {O:Nat->aU} {ds:List Deferred} {h:V} {T:(Nat->aU)->List Deferred->V->Prop}
variable {dst:Option Nat} {ty:aV} {pos:String} {af:Array Edge} {gd:Option (Nat×Bool)}
def AN(h:V)(b off n:Nat)(vs:Array aU):Prop:=∃p c t f,h b=some (p,.cells c t f)/\off+n<=c.size/\c.extract off (off+n)=vs
theorem AN.le{h h':V}(l:h.Le h'){b off n:Nat}{vs:Array aU}(x:AN h b off n vs):AN h' b off n vs:=by
 obtain ⟨p,c,t,f,a,y⟩:=x;exact ⟨p,c,t,f,l.keep a rfl,y⟩
theorem AN.same{h h':V}{b off n:Nat}{vs:Array aU}(x:AN h b off n vs)(e:h' b=h b):AN h' b off n vs:=by
 obtain ⟨p,c,t,f,a,y⟩:=x;exact ⟨p,c,t,f,e.trans a,y⟩
theorem AN.box{h:V}{b:Nat}{p:Bool}{c:Array aU}{t:aV}{f:Nat×Nat}(hb:h b=some (p,.cells c t f)){n:Nat}(hn:c.size=n):AN h b 0 n c:=⟨p,c,t,f,hb,Y,by subst hn;simp⟩
theorem AN.get{h:V}{b off n o:Nat}{vs:Array aU}{v:aU}(x:AN h b off n vs)(hv:vs[o]? =some v):∃p c t f,h b=some (p,.cells c t f)/\c[off+o]? =some v:=by
 obtain ⟨p,c,t,f,a,d,rfl⟩:=x;refine ⟨p,c,t,f,a,?_⟩;rw [Array.getElem?_extract] at hv;split at hv
 ·exact hv
 ·cases hv
theorem BO{t:aV}{b off n m o:Nat}{vs:Array aU}{v:aU}(ht:Bz P t=some (false,m))(x:AN h b off n vs)(hv:vs[o]? =some v):Rd P h t b (off+o) v:=by
 obtain ⟨p,c,ty,f,a,d⟩:=x.get hv;exact Rd.one ht a d
theorem BR{t:aV}{b off n m:Nat}{vs:Array aU}{v:aU}(ht:Bz P t=some (false,m))(x:AN h b off n vs)(hv:vs[0]? =some v):Rd P h t b off v:=by
 have:=BO (o:=0) ht x hv
 exact this
theorem Eg{t:aV}{b off n m o:Nat}{vs ws:Array aU}(ht:Bz P t=some (true,m))(x:AN h b off n vs)(hm:o+m<=n)(hv:vs.extract o (o+m)=ws):Rd P h t b (off+o) (.agg ws):=by
 obtain ⟨p,c,ty,f,a,d,rfl⟩:=x;refine Rd.agg ht a Y ?_;rw [<-hv,Array.extract_extract];congr 1
 ·omega
theorem AF{t:aV}{b off n:Nat}{vs:Array aU}(ht:Bz P t=some (true,n))(x:AN h b off n vs):Rd P h t b off (.agg vs):=by
 obtain ⟨p,c,ty,f,a,d,rfl⟩:=x;exact Rd.agg ht a d rfl
theorem V.Le.nothing{h h':V}(l:h.Le h'){r:Nat}(hr:h' r=none):h r=none:=by
 cases a:h r with
 | none=>rfl
 | some x=>obtain ⟨c,b,_⟩:=l r x.1 x.2 a;rw [b] at hr;cases hr
theorem V.Le.upd{h h' h'':V}(l:h.Le h'){b:Nat}(hb:h b=none)(ho:∀x,x≠b->h'' x=h' x):h.Le h'':=λx p o a=>by
 rw [ho x (V.ne_of a hb)];exact l x p o a
theorem ok_box'{t:aV}{x:Operand}{c:Array aU}{v:aU}(hx:AL O x=v)(hc:v.cells=c)
  (k:∀r h',h r=none->h.Le h'->h' r=some (true,.cells c t (0,0))->(∀b,b≠r->h' b=h b)->T (putS O dst (.pointer (some ⟨r,0,none⟩))) ds h'):BS E ⟨dst,.box t x,ty,pos,af,gd⟩ O ds h T:=
 ok_box (by rw [hx];exact hc) λr a=>k r _ a (V.Le.new a _ _) (V.set_same _ _ _ _) λb d=>V.set_ne _ _ _ d
theorem AS{t:aV}{z:Array aU}(hz:Bb P t=some z)
  (k:∀r h',h r=none->h.Le h'->h' r=some (true,.cells z t (0,0))->(∀b,b≠r->h' b=h b)->T (putS O dst (.pointer (some ⟨r,0,none⟩))) ds h'):BS E ⟨dst,.alloc t,ty,pos,af,gd⟩ O ds h T:=
 ok_alloc hz λr a=>k r _ a (V.Le.new a _ _) (V.set_same _ _ _ _) λb c=>V.set_ne _ _ _ c
theorem Ac{t:aV}{a x:Operand}{b off n:Nat}{g:Bool}{v:aU}{c c':Array aU}{et:aV}(ht:Bz P t=some (g,n))(ha:AL O a=.pointer (some ⟨b,off,none⟩))(hv:AL O x=v)(hb:h b=some (true,.cells c et (0,0)))
  (hsz:v.cells.size=n) (hf:Value.fine v=true) (hn:off+n<=c.size) (hc:BV c off v.cells.toList=c') (k:∀h',h' b=some (true,.cells c' et (0,0))->(∀x,x≠b->h' x=h x)->T (putS O dst undef) ds h') :
  BS E ⟨dst,.store t a x,ty,pos,af,gd⟩ O ds h T:=
 ok_store ht ha hv hb hsz hf hn (k _ (by rw [hc];exact V.set_same _ _ _ _) λx d=>V.set_ne _ _ _ d)
def AD{U:Type}(h:V)(v:aU)(n:Nat)(enc:U->Array aU)(xs:List U):Prop:=
 ∃a cap,v=.slice a xs.length cap/\xs.length<=cap/\xs.length<=140737488355328/\(∀i (hi:i<xs.length),∃b off,a=some ⟨b,off,none⟩/\AN h b (off+i*n) n (enc xs[i]))
theorem AD.le{U:Type}{h h':V}(l:h.Le h'){v:aU}{n:Nat}{enc:U->Array aU}{xs:List U}(x:AD h v n enc xs):AD h' v n enc xs:=by
 obtain ⟨a,c,e,f,g,j⟩:=x;refine ⟨a,c,e,f,g,λi k=>?_⟩;obtain ⟨b,d,m,o⟩:=j i k;exact ⟨b,d,m,o.le l⟩
theorem AD.len{U:Type}{h:V}{v:aU}{n:Nat}{enc:U->Array aU}{xs:List U}(x:AD h v n enc xs):xs.length<=140737488355328:=by
 obtain ⟨_,_,_,_,a,_⟩:=x;exact a
theorem AD.nil{U:Type}(h:V)(n:Nat)(enc:U->Array aU):AD h (.slice none 0 0) n enc []:=⟨none,0,rfl,Nat.le_refl _,Nat.zero_le _,λi a=>by simp at a⟩
theorem AO{U:Type}{x:Operand}{t:aV}{n:Nat}{enc:U->Array aU}{xs:List U}{v:aU}(ht:IO P t=true)(hs:AD h v n enc xs)(hx:AL O x=v)(k:T (putS O dst (.int .i64 xs.length)) ds h):BS E ⟨dst,.call ⟨.builtin .len,#[x],#[t]⟩,ty,pos,af,gd⟩ O ds h T:=by
 obtain ⟨a,b,rfl,_,_,_⟩:=hs;exact OZ ht hx k
theorem HO{fn:Func}{R:aU->V->Prop}(hr:fn.results=#[])(x:R (.tuple #[]) h):Fk P fn O R [] h:=by
 unfold Fk;rw [hr];exact x
theorem JS{fn:Func}{R:aU->V->Prop}{t:Tmp}{v:aU}(hr:fn.results=#[.tmp t])(hv:O t=v)(x:R v h):Fk P fn O R [] h:=by
 unfold Fk;rw [hr];subst hv;exact x
theorem outs2{fn:Func}{R:aU->V->Prop}{t u:Tmp}{v v':aU}(hr:fn.results=#[.tmp t,.tmp u])(hv:O t=v)(hv':O u=v')(x:R (.tuple #[v,v']) h):Fk P fn O R [] h:=by
 unfold Fk;rw [hr];subst hv;subst hv';exact x
theorem Ll{fn:Func}{R:aU->V->Prop}{t u s:Tmp}{v v' v2:aU}(hr:fn.results=#[.tmp t,.tmp u,.tmp s])(hv:O t=v)(hv':O u=v')(hv2:O s=v2)(x:R (.tuple #[v,v',v2]) h):Fk P fn O R [] h:=by
 unfold Fk;rw [hr];subst hv;subst hv';subst hv2;exact x
theorem HP{fn:Func}{R:aU->V->Prop}{a:Tmp}{t:aV}{b off:Nat}{v:aU}(hr:fn.results=#[.cell a t])(ha:O a=.pointer (some ⟨b,off,none⟩))(hv:Rd P h t b off v)(x:R v h):Fk P fn O R [] h:=by
 unfold Fk;rw [hr];exact ⟨b,off,v,ha,hv,x⟩
theorem D0{fn:Func}{R:aU->V->Prop}{a u:Tmp}{t:aV}{b off:Nat}{v v':aU}(hr:fn.results=#[.cell a t,.tmp u])(ha:O a=.pointer (some ⟨b,off,none⟩))(hv:Rd P h t b off v)(hv':O u=v')(x:R (.tuple #[v,v']) h):Fk P fn O R [] h:=by
 unfold Fk;rw [hr];subst hv';exact ⟨b,off,v,ha,hv,x⟩
theorem WG{fn:Func}{R:aU->V->Prop}{a u s:Tmp}{t:aV}{b off:Nat}{v v' v2:aU}(hr:fn.results=#[.cell a t,.tmp u,.tmp s])(ha:O a=.pointer (some ⟨b,off,none⟩))(hv:Rd P h t b off v)(hv':O u=v')(hv2:O s=v2)(x:R (.tuple #[v,v',v2]) h):Fk P fn O R [] h:=by
 unfold Fk;rw [hr];subst hv';subst hv2;exact ⟨b,off,v,ha,hv,x⟩
theorem AB{v:aU}{p:Prop}[Decidable p](hv:v=.bool (decide p))(hp:p):v=.bool true:=by rw [hv,decide_eq_true hp]
theorem AA{v:aU}{p:Prop}[Decidable p](hv:v=.bool (decide p))(hp:¬p):v=.bool false:=by rw [hv,decide_eq_false hp]
theorem Au{v:aU}{b c:Bool}(hv:v=.bool b)(hp:b=c):v=.bool c:=by rw [hv,hp]
theorem Fl{tys:Array aV}{g:FuncId}{fn:Func}(hf:P.funcs[g]? =some fn)(hc:AJ fn=true)
  (x:AW E.wk g #[] h λv h'=>T (putS O dst v) ds h'):BS E ⟨dst,.call ⟨.value (.func g),#[],tys⟩,ty,pos,af,gd⟩ O ds h T:=KB hf hc aD x
theorem Ae{tys:Array aV}{g:FuncId}{fn:Func}{x1:Operand}{v1:aU}(hf:P.funcs[g]? =some fn)(hc:AJ fn=true)(h1:AL O x1=v1)
  (x:AW E.wk g #[v1] h λv h'=>T (putS O dst v) ds h'):BS E ⟨dst,.call ⟨.value (.func g),#[x1],tys⟩,ty,pos,af,gd⟩ O ds h T:=KB hf hc (by simp [h1]) x
theorem AT{tys:Array aV}{g:FuncId}{fn:Func}{x1 x2:Operand}{v1 v2:aU}(hf:P.funcs[g]? =some fn)(hc:AJ fn=true)(h1:AL O x1=v1)(h2:AL O x2=v2)
  (x:AW E.wk g #[v1,v2] h λv h'=>T (putS O dst v) ds h'):BS E ⟨dst,.call ⟨.value (.func g),#[x1,x2],tys⟩,ty,pos,af,gd⟩ O ds h T:=KB hf hc (by simp [h1,h2]) x
theorem Ai{tys:Array aV}{g:FuncId}{fn:Func}{x1 x2 x3:Operand}{v1 v2 v3:aU}(hf:P.funcs[g]? =some fn)(hc:AJ fn=true)(h1:AL O x1=v1)(h2:AL O x2=v2)(h3:AL O x3=v3)
  (x:AW E.wk g #[v1,v2,v3] h λv h'=>T (putS O dst v) ds h'):BS E ⟨dst,.call ⟨.value (.func g),#[x1,x2,x3],tys⟩,ty,pos,af,gd⟩ O ds h T:=KB hf hc (by simp [h1,h2,h3]) x
theorem CB{tys:Array aV}{g:FuncId}{fn:Func}{x1 x2 x3 x4:Operand}{v1 v2 v3 v4:aU}(hf:P.funcs[g]? =some fn)(hc:AJ fn=true)(h1:AL O x1=v1)(h2:AL O x2=v2)(h3:AL O x3=v3)(h4:AL O x4=v4)
  (x:AW E.wk g #[v1,v2,v3,v4] h λv h'=>T (putS O dst v) ds h'):BS E ⟨dst,.call ⟨.value (.func g),#[x1,x2,x3,x4],tys⟩,ty,pos,af,gd⟩ O ds h T:=KB hf hc (by simp [h1,h2,h3,h4]) x
theorem UG{tys:Array aV}{g:FuncId}{fn:Func}{x1 x2 x3 x4 x5:Operand}{v1 v2 v3 v4 v5:aU}(hf:P.funcs[g]? =some fn)(hc:AJ fn=true)(h1:AL O x1=v1)(h2:AL O x2=v2)(h3:AL O x3=v3)(h4:AL O x4=v4)(h5:AL O x5=v5)
  (x:AW E.wk g #[v1,v2,v3,v4,v5] h λv h'=>T (putS O dst v) ds h'):BS E ⟨dst,.call ⟨.value (.func g),#[x1,x2,x3,x4,x5],tys⟩,ty,pos,af,gd⟩ O ds h T:=KB hf hc (by simp [h1,h2,h3,h4,h5]) x
end
end Go.Ns
namespace Go.Ns
open Go.Conc
section
variable {P:Program} {E:F8 P}
abbrev QT:=aU->V->Prop
def Lm(Φ:List QT)(k:Nat):QT:=Φ.getD k λ_ _=>True
def IP(o:Oper)(O:Nat->aU):aU:=match o.dst with
 | some d=>O d
 | none=>undef
def Ck(ops:List Oper)(o:Oper)(O:Nat->aU):Prop:=match o.guard with
 | none=>True
 | some (j,want)=>match ops[j]? with
  | some oj=>match oj.dst with
   | some d=>O d=.bool want
   | none=>False
  | none=>False
def UH(ops:List Oper)(Φ:List QT)(O:Nat->aU)(h:V)(j:Nat):Prop:=match ops[j]? with
 | some o=>Ck ops o O->Lm Φ j (IP o O) h
 | none=>True
def Ir(ops:List Oper)(Φ:List QT)(O:Nat->aU)(h:V):List Nat->Prop
 | []=>True
 | j ::l=>UH ops Φ O h j/\Ir ops Φ O h l
def DA(ops:List Oper)(n:Nat):List Nat:=(ops.take n).filterMap (·.dst)
def StepAt(R:V->V->Prop)(E:F8 P)(ops:List Oper)(n:Nat)(Φ:List QT)(O:Nat->aU)(ds:List Deferred)(h:V)(k:Nat)(o:Oper)(cl:List Nat):Prop:=
 ∀σ' h',R h h'->(∀t,(DA ops n).contains t=false->σ' t=O t)->Ir ops Φ σ' h' cl->Ck ops o σ'->
  BS E o σ' ds h' λσ'' ds'' h''=>ds''=ds/\R h' h''/\∃v,σ''=putS σ' o.dst v/\Lm Φ k v h''
def Lp(R:V->V->Prop)(E:F8 P)(ops:List Oper)(n:Nat)(Φ:List QT)(O:Nat->aU)(ds:List Deferred)(h:V)(Q:Post):Nat->Nat->List Oper->List (List Nat)->Prop
 | 0,k,rest,_=>∀σ' h',R h h'->(∀t,(DA ops n).contains t=false->σ' t=O t)->Ir ops Φ σ' h' (List.range k)->DI E ops.toArray rest σ' ds h' Q
 | m+1,k,o ::rest,cl ::cls=>StepAt R E ops n Φ O ds h k o cl/\Lp R E ops n Φ O ds h Q m (k+1) rest cls
 | _,_,_,_=>False
def Hr(o:Oper)(j:Nat):Bool:=o.after.any λe=>Region.binds .any e && e.on==j
def Ez(N:Nat)(ops:List Oper)(n:Nat)(cls:List (List Nat)):Bool:=
 Nat.ble n ops.length && cls.length==n && decide (DA ops n).Nodup &&
 (List.range ops.length).all λi=>match ops[i]? with
  | none=>false
  | some o=>(o.after.all λe=> !Region.binds .any e || Nat.blt e.on i) &&
   if Nat.blt i n then
    DK o.dst N && !EK o.op && (match o.guard with | none=>true | some (j,_)=>Hr o j) &&
    ((cls.getD i []).all λj=>Nat.blt j i && (Hr o j || (List.range i).any λe=>Hr o e && (cls.getD e []).contains j))
   else (List.range i).all λj=>Hr o j || (Nat.blt j n && (List.range n).any λe=>Hr o e && (cls.getD e []).contains j) || (List.range i).any λe=>Nat.ble n e && Nat.blt j e && Hr o e
def Ob(N:Nat)(ops:List Oper)(n:Nat)(cls:List (List Nat)):Bool:=
 Ez N ops n cls && (List.range n).all λi=>match ops[i]? with
  | none=>false
  | some o=>o.dst.isSome
theorem Ir.get{ops:List Oper}{Φ:List QT}{O:Nat->aU}{h:V}:∀{l:List Nat},(∀j ∈ l,UH ops Φ O h j)->Ir ops Φ O h l
 | [],_=>trivial
 | j ::l,x=>⟨x j aD,Ir.get λi a=>x i (by simp [a])⟩
theorem Lp.at{R:V->V->Prop}{ops:List Oper}{n:Nat}{Φ:List QT}{O:Nat->aU}{ds:List Deferred}{h:V}{Q:Post}:∀(m k:Nat)(rest:List Oper)(cls:List (List Nat)),
  Lp R E ops n Φ O ds h Q m k rest cls->(∀i o,i<m->rest[i]? =some o->StepAt R E ops n Φ O ds h (k+i) o (cls.getD i []))/\
   (∀σ' h',R h h'->(∀t,(DA ops n).contains t=false->σ' t=O t)->Ir ops Φ σ' h' (List.range (k+m))->DI E ops.toArray (rest.drop m) σ' ds h' Q)
 | 0,k,rest,cls,x=>⟨λi o d=>Y,x⟩
 | m+1,k,[],cls,x=>by cases cls <;> exact x.elim
 | m+1,k,o ::rest,[],x=>x.elim
 | m+1,k,o ::rest,q ::cls,x=>by
  obtain ⟨e,f⟩:=x;obtain ⟨a,b⟩:=Lp.at m (k+1) rest cls f;refine ⟨λi g d c=>?_,λσ' h' j l p=>?_⟩
  ·cases i with
   | zero=>simp at c;subst c;exact e
   | succ i=>have:=a i g Y (by simpa using c);rw [show k+(i+1)=k+1+i by omega];simpa using this
  ·rw [List.drop_succ_cons];exact b σ' h' j l (by rw [show k+1+m=k+(m+1) by omega];exact p)
theorem GE{n:Nat}{p:Nat->Bool}(h:(List.range n).all p=true){i:Nat}(hi:i<n):p i=true:=by
 rw [List.all_eq_true] at h;exact h i (List.mem_range.2 hi)
theorem WH{ops:Array Oper}{N n:Nat}{l:List Oper}{cls:List (List Nat)}(hl:ops=l.toArray)(ok:Ez N l n cls=true) :
  ∀(fuel t i:Nat)(listed:Array Bool),n<=i->i<=l.length->l.length-i<=fuel->listed.size=l.length->(∀j,j<l.length->listed.getD j false=decide (j<i))->
   Region.linearise.go .any ops fuel t listed []=List.range' i (l.length-i):=by
 subst hl;unfold Ez at ok;simp only [Bool.and_eq_true] at ok;obtain ⟨⟨⟨S,T⟩,U⟩,r⟩:=ok;intro fuel
 induction fuel with
 | zero=>intro t i listed _ _ h0 _ _;rw [show l.length-i=0 by omega];rfl
 | succ fuel z=>
  intro t i listed hn hi hf b f;by_cases Q:i=l.length
  ·have hnone:Region.ready .any l.toArray listed=[]:=by
    unfold Region.ready;rw [List.filter_eq_nil_iff];intro j a;have s:j<l.length:=by simpa using a
    have u:listed.getD j true=decide (j<i):=by
     rw [<-f j s];simp [Array.getD_eq_getD_getElem?,b,s]
    rw [u];simp [show j<i by omega]
   simp only [Region.linearise.go];change (match (Region.ready .any l.toArray listed)[t%(Region.ready .any l.toArray listed).length]? with
    | some i=>Region.linearise.go .any l.toArray fuel (t / (Region.ready .any l.toArray listed).length) (listed.setIfInBounds i true) [i]
    | none=>[].reverse)=_
   rw [hnone,show l.length-i=0 by omega];rfl
  have hready:Region.ready .any l.toArray listed=[i]:=by
   unfold Region.ready;have v:∀j,j<l.length->((!listed.getD j true && ((l.toArray[j]?).map (·.after.all λe=> !Region.binds .any e || listed.getD e.on false)).getD false)=decide (j=i)):=by
    intro j a;have u:listed.getD j true=decide (j<i):=by
     rw [<-f j a];simp [Array.getD_eq_getD_getElem?,b,a]
    have c:l[j]? =some l[j]:=List.getElem?_eq_getElem a;have A:=GE r a;simp only [c,Bool.and_eq_true] at A;rcases Nat.lt_trichotomy j i with B | heq | hgt
    ·rw [u];simp [B];omega
    ·subst heq;rw [u];simp only [Nat.lt_irrefl,decide_false,Bool.not_false,Bool.true_and,decide_true]
     have:l.toArray[j]? =some l[j]:=by simpa using c
     rw [this];simp only [Option.map_some,Option.getD_some];have g:=A.1;rw [Array.all_eq_true] at g ⊢;intro k C
     have:=g k C
     simp only [Bool.or_eq_true,Bool.not_eq_true'] at this ⊢;rcases this with e | e
     ·exact .inl e
     ·right;have W:(l[j].after[k]).on<j:=Nat.blt_eq▸e;rw [f _ Y];simpa using W
    ·rw [u];have o:¬j<i:=Y
     have p:Nat.blt j n=false:=by
      cases h:Nat.blt j n with
      | false=>rfl
      | true=>have:j<n:=Nat.blt_eq▸h;omega
     have g:=A.2;rw [p] at g;simp only [Bool.false_eq_true,if_false] at g;have d:=GE g hgt;have w:Nat.blt i n=false:=by
      cases h:Nat.blt i n with
      | false=>rfl
      | true=>have:i<n:=Nat.blt_eq▸h;omega
     rw [w] at d;simp only [Bool.false_and,Bool.or_false,Bool.or_eq_true] at d;obtain ⟨x,X,R,D⟩:∃x,i<=x/\x<j/\Hr l[j] x=true:=by
      rcases d with q | q
      ·exact ⟨i,Nat.le_refl _,hgt,q⟩
      ·rw [List.any_eq_true] at q;obtain ⟨e,he,F⟩:=q;simp only [Bool.and_eq_true] at F;have q3:i<e:=Nat.blt_eq▸F.1.2;exact ⟨e,Y,List.mem_range.1 he,F.2⟩
     have:l.toArray[j]? =some l[j]:=by simpa using c
     rw [this];simp only [Option.map_some,Option.getD_some];have H:¬j=i:=Y
     simp only [H,decide_false,Bool.and_eq_false_iff];right;unfold Hr at D;rw [Array.any_eq_true] at D;obtain ⟨k,C,e⟩:=D;simp only [Bool.and_eq_true,beq_iff_eq] at e;rw [Array.all_eq_false];refine ⟨k,C,?_⟩
     have:=f x Y
     rw [decide_eq_false Y] at this;simp [e.1,e.2,this]
   have:(List.range l.toArray.size).filter (λj=> !listed.getD j true && ((l.toArray[j]?).map (·.after.all λe=> !Region.binds .any e || listed.getD e.on false)).getD false)=(List.range l.length).filter (λj=>decide (j=i)):=by
    rw [List.size_toArray];exact List.filter_congr λj a=>v j (List.mem_range.1 a)
   rw [this];have K:i<l.length:=Y
   clear this v z f r
   have:∀m,(List.range m).filter (λj=>decide (j=i))=if i<m then [i] else []:=by
    intro m
    induction m with
    | zero=>simp
    | succ m z=>
     rw [List.range_succ,List.filter_append,z];by_cases o:i<m
     ·have p:i<m+1:=Y
      have O:¬m=i:=Y
      simp [o,p,O]
     ·by_cases p:m=i
      ·subst p;simp
      ·have O:¬i<m+1:=Y
       simp [o,p,O]
   rw [this,aT K]
  simp only [Region.linearise.go];change (match (Region.ready .any l.toArray listed)[t%(Region.ready .any l.toArray listed).length]? with
   | some i=>Region.linearise.go .any l.toArray fuel (t / (Region.ready .any l.toArray listed).length) (listed.setIfInBounds i true) [i]
   | none=>[].reverse)=_
  rw [hready];simp only [List.length_singleton,Nat.mod_one,List.getElem?_cons_zero,Nat.div_one];rw [linearise_go_acc,List.reverse_singleton,List.singleton_append,show l.length-i=(l.length-(i+1))+1 by omega,List.range'_succ];rw [z t (i+1) _ Y Y Y (by simpa using b)];intro j a;rw [Array.getD_eq_getD_getElem?,Array.getElem?_setIfInBounds];by_cases y:i=j
  ·subst y;simp [b,a]
  ·rw [aS y,<-Array.getD_eq_getD_getElem?,f j a];by_cases o:j<i
   ·have:j<i+1:=Y
    simp [o,this]
   ·have:¬j<i+1:=Y
    simp [o,this]
theorem Ck.congr{l:List Oper}{o:Oper}{O σ':Nat->aU}(h:∀g w oj d,o.guard=some (g,w)->l[g]? =some oj->oj.dst=some d->σ' d=O d):Ck l o σ'->Ck l o O:=by
 unfold Ck;cases a:o.guard with
 | none=>exact id
 | some x=>
  obtain ⟨g,w⟩:=x;simp only;cases b:l[g]? with
  | none=>exact id
  | some oj=>
   simp only;cases c:oj.dst with
   | none=>exact id
   | some d=>simp only;rw [h g w oj d a b c];exact id
theorem Dm{l:List Oper}{n i j:Nat}{oi oj:Oper}{d e:Nat}(nd:(DA l n).Nodup)(hi:i<n)(hj:j<n)(hij:i≠j)(hoi:l[i]? =some oi)(hoj:l[j]? =some oj)(hd:oi.dst=some d)(he:oj.dst=some e):e≠d:=by
 have a:∀(oi oj:Oper)(d e:Nat)(n:Nat)(l:List Oper)(i j:Nat),(DA l n).Nodup->j<n->i<j->l[i]? =some oi->l[j]? =some oj->oi.dst=some d->oj.dst=some e->e≠d:=by
  intro oi oj d e n
  induction n with
  | zero=>intro l i j _ hj;omega
  | succ n f=>
   intro l i j nd hj hij hoi hoj hd he;cases l with
   | nil=>simp at hoi
   | cons o l=>
    cases j with
    | zero=>omega
    | succ j=>
     have g:e ∈ DA l n:=by
      simp only [DA,List.mem_filterMap];refine ⟨oj,?_,he⟩;have k:(l.take n)[j]? =some oj:=by rw [List.getElem?_take];simp at hoj;simp [show j<n by omega,hoj]
      exact List.mem_of_getElem? k
     cases i with
     | zero=>
      simp at hoi;subst hoi
      have:DA (o ::l) (n+1)=d ::DA l n:=by simp [DA,hd]
      rw [this] at nd;intro m;subst m;exact (List.nodup_cons.1 nd).1 g
     | succ i=>
      have c:(DA l n).Nodup:=by
       have:DA (o ::l) (n+1)=(match o.dst with | some x=>x ::DA l n | none=>DA l n):=by
        cases b:o.dst <;> simp [DA,b]
       rw [this] at nd;cases b:o.dst with
       | none=>rw [b] at nd;exact nd
       | some x=>rw [b] at nd;exact (List.nodup_cons.1 nd).2
      exact f l i j c Y Y (by simpa using hoi) (by simpa using hoj) hd he
 rcases Nat.lt_or_gt_of_ne hij with h | h
 ·exact a oi oj d e n l i j nd hj h hoi hoj hd he
 ·exact λx=>a oj oi e d n l j i nd hi h hoj hoi he hd x.symm
theorem K3{e d:Nat}(h:e≠d):Nat.beq e d=false:=by
 cases a:Nat.beq e d with
 | false=>rfl
 | true=>exact absurd (Nat.eq_of_beq_eq_true a) h
theorem Oc{l:List Oper}{n k d:Nat}{o:Oper}(hk:k<n)(ho:l[k]? =some o)(hd:o.dst=some d):(DA l n).contains d=true:=by
 rw [List.contains_iff_mem];simp only [DA,List.mem_filterMap];exact ⟨o,List.mem_of_getElem? (show (l.take n)[k]? =some o by rw [List.getElem?_take];simp [hk,ho]),hd⟩
def Gb(D:Nat->Bool)(i:Nat):Nat->Bool:=λj=>if i=j then true else D j
structure SInv(l:List Oper)(n:Nat)(cls:List (List Nat))(J:(Nat->Bool)->(Nat->aU)->V->Prop)(listed:Array Bool)(σ':Nat->aU)(h':V):Prop where
 inv:J (λj=>listed.getD j false) σ' h'
 size:listed.size=l.length
 clos:∀j,j<n->listed.getD j false=true->∀i ∈ cls.getD j [],i<n/\listed.getD i false=true
 suf:∀j,n<=j->j<l.length->listed.getD j false=false
theorem Od{id:Nat}{l:List Oper}{O:Nat->aU}{ds:List Deferred}{h:V}(n:Nat)(cls:List (List Nat))(J:(Nat->Bool)->(Nat->aU)->V->Prop)
  (hm:P.follows .mixedOrders=true) (ok:Ez E.N l n cls=true) (i0:J (λ_=>false) O h)
  (step:∀D σ' h' i o,J D σ' h'->i<n->D i=false->l[i]? =some o->(∀q ∈ cls.getD i [],D q=true)->(∀g w,o.guard=some (g,w)->D g=true)->
   (Ck l o σ'->BS E o σ' ds h' λσ'' ds'' h''=>ds''=ds/\J (Gb D i) σ'' h'')/\(¬Ck l o σ'->J (Gb D i) (putS σ' o.dst undef) h'))
  {b:Frame} {k:List Item} {cs:List Frame} {t:Array aU} (hb:b.fn=E.fn) (hr:b.roundOf=E.rd) (hs:BX t E.N O)
  (fin:∀D σ' h',J D σ' h'->(∀i,i<n->D i=true)->∀t',BX t' E.N σ'->E.wk.K (G (Cc b t' ds (.inRegion l.toArray (List.range' n (l.drop n).length) ::k)) cs) h') :
  E.wk.K (G (Cc b t ds (.code (.region id l.toArray true) ::k)) cs) h:=by
 have ok':=ok;unfold Ez at ok;simp only [Bool.and_eq_true] at ok;obtain ⟨⟨⟨ok1,ok2⟩,ok3⟩,ok4⟩:=ok;have nd:(DA l n).Nodup:=of_decide_eq_true ok3;have hnl:n<=l.length:=Nat.ble_eq▸ok1;have suffix:∀(fuel m:Nat)(listed:Array Bool) (σ':Nat->aU) (h':V) (t:Array aU),SInv l n cls J listed σ' h'->(∀j,j<n->listed.getD j false=true)->listed.toList.count false<=fuel->BX t E.N σ'->
   E.wk.K (G (Cc b t ds (.inRegion l.toArray (Region.linearise.go .any l.toArray fuel m listed []) ::k)) cs) h':=by
  intro fuel m listed σ' h' t v r d p;have s:=v.size;have hL:∀j,j<l.length->listed.getD j false=decide (j<n):=λj a=>by
   by_cases h1:j<n
   ·rw [r j h1];simp [h1]
   ·rw [v.suf j Y a];simp [h1]
  have e:Region.linearise.go .any l.toArray fuel m listed []=List.range' n (l.drop n).length:=by
   have U:listed.toList=List.replicate n true++List.replicate (l.length-n) false:=by
    refine List.ext_getElem (by simp [s];omega) λj h1 c=>?_;have h1':j<l.length:=by simpa [s] using h1
    have hb:=hL j h1';have h1'':j<listed.size:=Y
    rw [Array.getD_eq_getD_getElem?,Array.getElem?_eq_getElem h1'',Option.getD_some] at hb;rw [Array.getElem_toList,hb,List.getElem_append];split
    ·rename_i W;have h4:j<n:=by simpa using W
     simp [h4]
    ·rename_i W;have h4:¬j<n:=by simpa using W
     simp [h4]
   have hc:l.length-n<=fuel:=by rw [U] at d;simpa [List.count_append,List.count_replicate] using d
   rw [List.length_drop];exact WH (ops:=l.toArray) rfl ok' fuel m n listed (Nat.le_refl _) hnl hc s hL
  rw [e];exact fin _ σ' h' v.inv r t p
 have key:∀(fuel m:Nat)(listed:Array Bool) (σ':Nat->aU) (h':V) (t:Array aU),SInv l n cls J listed σ' h'->listed.toList.count false<=fuel->BX t E.N σ'->
   E.wk.K (G (Cc b t ds (.inRegion l.toArray (Region.linearise.go .any l.toArray fuel m listed []) ::k)) cs) h':=by
  intro fuel
  induction fuel with
  | zero=>
   intro m listed σ' h' t v d p;exact suffix 0 m listed σ' h' t v (by
    intro j a;cases hb:listed.getD j false with
    | true=>rfl
    | false=>
     have s:=v.size;have A:j<listed.size:=Y
     have:false ∈ listed.toList:=by
      rw [Array.getD_eq_getD_getElem?,Array.getElem?_eq_getElem A,Option.getD_some] at hb;rw [<-hb];simp
     have:=List.count_pos_iff.2 this
     omega) d p
  | succ fuel ih=>
   intro m listed σ' h' t v d p;by_cases r:∀j,j<n->listed.getD j false=true
   ·exact suffix (fuel+1) m listed σ' h' t v r d p
   have s:=v.size;have hready:∃i0,i0<n/\listed.getD i0 false=false/\∀j,j<i0->listed.getD j false=true:=by
    have hex:∃j,j<n/\listed.getD j false=false:=by
     refine Classical.byContradiction λhc=>r λj a=>?_;cases hb:listed.getD j false with
     | true=>rfl
     | false=>exact absurd ⟨j,a,hb⟩ hc
    obtain ⟨j,a⟩:=hex
    induction j using Nat.strongRecOn with
    | ind j ihj=>
     by_cases hz:∃i,i<j/\listed.getD i false=false
     ·obtain ⟨i,z,hi'⟩:=hz;exact ihj i z ⟨Y,hi'⟩
     ·refine ⟨j,a.1,a.2,λi z=>?_⟩;cases hb:listed.getD i false with
      | true=>rfl
      | false=>exact absurd ⟨i,z,hb⟩ hz
   obtain ⟨i0,hi0,hl0,hb0⟩:=hready;have hget:∀j,j<l.length->listed.getD j true=listed.getD j false:=λj a=>by
    have A:j<listed.size:=Y
    simp [Array.getD_eq_getD_getElem?,Array.getElem?_eq_getElem A]
   have hmem:∀i,i ∈ Region.ready .any l.toArray listed↔i<l.length/\listed.getD i false=false/\∀o,l[i]? =some o->∀e ∈ o.after,Region.binds .any e=true->listed.getD e.on false=true:=by
    intro i;unfold Region.ready;rw [List.mem_filter,List.mem_range,List.size_toArray];constructor
    ·rintro ⟨z,x⟩;rw [hget i z] at x;have hoi:l.toArray[i]? =some l[i]:=by simp [z]
     rw [hoi] at x;simp only [Option.map_some,Option.getD_some,Bool.and_eq_true,Bool.not_eq_true'] at x;refine ⟨z,x.1,λo F e H R=>?_⟩;rw [List.getElem?_eq_getElem z] at F;cases F
     have:=(Array.all_eq_true_iff_forall_mem.1 x.2) e H
     simpa [R] using this
    ·rintro ⟨z,x1,x2⟩;refine ⟨z,?_⟩;rw [hget i z];have hoi:l.toArray[i]? =some l[i]:=by simp [z]
     rw [hoi];simp only [Option.map_some,Option.getD_some,Bool.and_eq_true,Bool.not_eq_true'];refine ⟨x1,Array.all_eq_true_iff_forall_mem.2 λe H=>?_⟩;cases R:Region.binds .any e with
     | false=>rfl
     | true=>simpa using x2 _ (List.getElem?_eq_getElem z) e H R
   have hi0r:i0 ∈ Region.ready .any l.toArray listed:=by
    rw [hmem];refine ⟨Y,hl0,λo F e H R=>?_⟩;have o4:=GE ok4 (show i0<l.length by omega);simp only [F,Bool.and_eq_true] at o4
    have:=(Array.all_eq_true_iff_forall_mem.1 o4.1) e H
    simp only [R,Bool.not_true,Bool.false_or] at this;exact hb0 _ (Nat.blt_eq▸this)
   simp only [Region.linearise.go];change E.wk.K (G (Cc b t ds (.inRegion l.toArray (match (Region.ready .any l.toArray listed)[m%(Region.ready .any l.toArray listed).length]? with
    | some i=>Region.linearise.go .any l.toArray fuel (m / (Region.ready .any l.toArray listed).length) (listed.setIfInBounds i true) [i]
    | none=>[].reverse) ::k)) cs) h'
   cases z:(Region.ready .any l.toArray listed)[m%(Region.ready .any l.toArray listed).length]? with
   | none=>
    exfalso;have hpos:0<(Region.ready .any l.toArray listed).length:=List.length_pos_of_mem hi0r
    have:=Nat.mod_lt m hpos
    rw [List.getElem?_eq_none_iff] at z;omega
   | some i=>
    simp only [];have him:=(hmem i).1 (List.mem_of_getElem? z);obtain ⟨X,hiu,hie⟩:=him;obtain ⟨o,F⟩:∃o,l[i]? =some o:=⟨_,List.getElem?_eq_getElem X⟩;have o4:=GE ok4 X;simp only [F,Bool.and_eq_true] at o4;have hin:i<n:=by
     refine Classical.byContradiction λhc=>?_;have c:Nat.blt i n=false:=by
      cases h:Nat.blt i n with
      | false=>rfl
      | true=>exact absurd (Nat.blt_eq▸h) hc
     have o5:=o4.2;rw [c] at o5;simp only [Bool.false_eq_true,if_false] at o5;have o6:=GE o5 (show i0<i by omega);have onL:∀j,Hr o j=true->listed.getD j false=true:=λj a=>by
      unfold Hr at a;rw [Array.any_eq_true] at a;obtain ⟨q,u,e⟩:=a;simp only [Bool.and_eq_true,beq_iff_eq] at e
      have:=hie o F _ (Array.getElem_mem u) e.1
      rw [e.2] at this;exact this
     simp only [Bool.or_eq_true,Bool.and_eq_true] at o6;rcases o6 with (o6 | ⟨_,o6⟩) | o6
     rotate_left 2
     ·rw [List.any_eq_true] at o6;obtain ⟨e,H,c⟩:=o6;simp only [Bool.and_eq_true] at c;have W:=onL e c.2;have h4:n<=e:=Nat.ble_eq▸c.1.1;have h5:e<i:=List.mem_range.1 H;rw [v.suf e h4 Y] at W;cases W
     ·have:=onL _ o6
      rw [hl0] at this;cases this
     ·rw [List.any_eq_true] at o6;obtain ⟨e,H,c⟩:=o6;simp only [Bool.and_eq_true] at c
      have:=(v.clos e (List.mem_range.1 H) (onL e c.1) i0 (by simpa using c.2)).2
      rw [hl0] at this;cases this
    have hbl:Nat.blt i n=true:=by rw [Nat.blt_eq];exact hin
    have o5:=o4.2;rw [hbl] at o5;simp only [if_true,Bool.and_eq_true,Bool.not_eq_true'] at o5;obtain ⟨⟨⟨d2,d3⟩,d4⟩,d5⟩:=o5;have anyL:∀j,Hr o j=true->listed.getD j false=true:=λj a=>by
     unfold Hr at a;rw [Array.any_eq_true] at a;obtain ⟨q,u,e⟩:=a;simp only [Bool.and_eq_true,beq_iff_eq] at e
     have:=hie o F _ (Array.getElem_mem u) e.1
     rw [e.2] at this;exact this
    have hgl:∀g w,o.guard=some (g,w)->listed.getD g false=true:=λg w hg=>by
     rw [hg] at d4;exact anyL g d4
    have A:∀j,listed.getD j false=true->j<n:=λj a=>by
     by_cases h1:j<l.length
     ·by_cases c:j<n
      ·exact c
      ·rw [v.suf j Y h1] at a;cases a
     ·have:listed.getD j false=false:=by
       rw [Array.getD_eq_getD_getElem?,Array.getElem?_eq_none Y];rfl
      rw [this] at a;cases a
    have U:∀j ∈ cls.getD i [],j<n/\listed.getD j false=true:=λj a=>by
     have:=(List.all_eq_true.1 d5) j a
     simp only [Bool.and_eq_true,Bool.or_eq_true] at this;rcases this.2 with h1 | h1
     ·exact ⟨A j (anyL j h1),anyL j h1⟩
     ·rw [List.any_eq_true] at h1;obtain ⟨e,_,c⟩:=h1;simp only [Bool.and_eq_true] at c;have hle:=anyL e c.1;exact v.clos e (A e hle) hle j (by simpa using c.2)
    rw [linearise_go_acc,List.reverse_singleton,List.singleton_append];have B:∀j,(listed.setIfInBounds i true).getD j false=Gb (λj=>listed.getD j false) i j:=λj=>by
     show _=if i=j then true else listed.getD j false
     rw [Array.getD_eq_getD_getElem?,Array.getElem?_setIfInBounds];by_cases C:i=j
     ·subst C;simp [s,X]
     ·rw [aS C,aS C,Array.getD_eq_getD_getElem?]
    have next:∀(σ2:Nat->aU) (c:V),J (Gb (λj=>listed.getD j false) i) σ2 c->SInv l n cls J (listed.setIfInBounds i true) σ2 c:=by
     intro σ2 c hj2;refine ⟨by rw [show (λj=>(listed.setIfInBounds i true).getD j false)=Gb (λj=>listed.getD j false) i from funext B];exact hj2,by simpa using s,λj a hjl q u=>?_,λj a hjl=>?_⟩
     ·rw [B] at hjl
      have:q<n/\listed.getD q false=true:=by
       by_cases C:i=j
       ·subst C;exact U q u
       ·exact v.clos j a (by simpa [Gb,C] using hjl) q u
      refine ⟨this.1,?_⟩;rw [B];unfold Gb;split
      ·rfl
      ·exact this.2
     ·rw [B];unfold Gb;rw [aS Y];exact v.suf j a hjl
    obtain ⟨stepT,stepF⟩:=step _ σ' h' i o v.inv hin hiu F (λq u=>(U q u).2) hgl;have S:(listed.setIfInBounds i true).toList.count false<=fuel:=by
     rw [Array.toList_setIfInBounds];have T:i<listed.toList.length:=by simpa [s] using X
     rw [List.count_set T];have hlt2:i<listed.size:=by simpa using T
     have W:listed.toList[i]=false:=by
      rw [Array.getD_eq_getD_getElem?,Array.getElem?_eq_getElem hlt2,Option.getD_some] at hiu;simpa using hiu
     rw [W];simp;have h4:=List.count_pos_iff.2 (List.getElem_mem T);rw [W] at h4;have h5:Array.count false listed=listed.toList.count false:=aD
     omega
    have hgN:∀g w og dg,o.guard=some (g,w)->l[g]? =some og->og.dst=some dg->dg<E.N:=λg w og dg hgw hog hdg=>by
     have hgn:=A g (hgl g w hgw);have o6:=GE ok4 (show g<l.length by omega);simp only [hog,Bool.and_eq_true] at o6;have hbg:Nat.blt g n=true:=by rw [Nat.blt_eq];exact hgn
     have o7:=o6.2;rw [hbg] at o7;simp only [if_true,Bool.and_eq_true] at o7
     have:=o7.1.1.1
     rw [hdg] at this;exact Nat.blt_eq▸this
    have hwant:Region.wanted o (yielded l.toArray t)=true↔Ck l o σ':=by
     unfold Region.wanted Ck;cases hg:o.guard with
     | none=>simp
     | some x=>
      obtain ⟨g,w⟩:=x;simp only [yielded];have e0:l.toArray[g]? =l[g]? :=aD
      rw [e0];cases hog:l[g]? with
      | none=>simp
      | some og=>
       simp only [Option.bind_some];cases hdg:og.dst with
       | none=>simp
       | some dg=>
        simp only [Option.bind_some];have hN:=hgN g w og dg hg hog hdg;have hts:dg<t.size:=by rw [p.1];exact hN
        have hv:=p.2 dg;rw [Array.getD_eq_getD_getElem?,Array.getElem?_eq_getElem hts,Option.getD_some] at hv;rw [Array.getElem?_eq_getElem hts,hv];cases σ' dg <;> simp
    cases hw:Region.wanted o (yielded l.toArray t) with
    | true=>
     have hG:=hwant.1 hw;refine OA (E:=E) (by simpa using F) hw (.inr d3) d2 p (stepT hG) λσ2 ds2 c y t2 ht2=>?_;obtain ⟨rfl,hj2⟩:=y;exact ih _ _ σ2 c t2 (next σ2 c hj2) S ht2
    | false=>
     have hnG:¬Ck l o σ':=λx=>by rw [hwant.2 x] at hw;cases hw
     refine Wk.go (Cc b (ZA t o.dst undef) ds (.inRegion l.toArray (Region.linearise.go .any l.toArray fuel (m / (Region.ready .any l.toArray listed).length) (listed.setIfInBounds i true) []) ::k)) (λw=>?_) ?_
     ·rw [<-DJ (show l.toArray[i]? =some o by simpa using F),A0];unfold stepG.exec;have hw':((l.toArray[i]?).map (Region.wanted · (yielded l.toArray t))).getD false=false:=by
       rw [show l.toArray[i]? =some o by simpa using F];simp [hw]
      simp only [Cc,hw',Bool.false_eq_true,↓reduceIte];rfl
     ·exact ih _ _ (putS σ' o.dst undef) h' _ (next _ _ (stepF hnG)) S (p.putS d2 undef)
 refine E.wk.closed _ _ rfl λw f=>?_;obtain ⟨m,w',h',es,r1,r2,r3⟩:=In (P:=P) f (e:=choose (.order b.fn id)) (Q:=λ_ h'=>h'=h) (by exact ⟨λ_=>rfl,λ_ _=>rfl⟩);subst r3;refine ⟨G (Cc b t ds (.inRegion l.toArray (Region.linearise.go .any l.toArray l.length m (Array.replicate l.length false) []) ::k)) cs,w',#[],h',?_,r2.sub λe H=>by simp at H,?_⟩
 ·rw [A0];unfold stepG.exec;have r1':(choose (.order b.fn id)).run P w=.ok m w':=by
   have:=congrArg Prod.fst r1
   simpa [Sem.runT_eq] using this
  simp only [Cc,Bool.not_true,Bool.false_eq_true,↓reduceIte,r1',Region.schedule,hm,Bool.true_or,Region.linearise,List.size_toArray];rfl
 ·refine key l.length m _ O h' t ⟨?_,aD,λj _ a=>?_,λj _ _=>?_⟩ ?_ hs
  ·have e:(λj=>(Array.replicate l.length false).getD j false)=λ_:Nat=>false:=funext λj=>by
    rw [Array.getD_eq_getD_getElem?,Array.getElem?_replicate];split <;> rfl
   rw [e];exact i0
  ·rw [Array.getD_eq_getD_getElem?,Array.getElem?_replicate] at a;split at a <;> cases a
  ·rw [Array.getD_eq_getD_getElem?,Array.getElem?_replicate];split <;> rfl
  ·simp
theorem UI{id:Nat}{l:List Oper}{O:Nat->aU}{ds:List Deferred}{h:V}{Q:Post}(n:Nat)(cls:List (List Nat))(J:(Nat->Bool)->(Nat->aU)->V->Prop)
  (hm:P.follows .mixedOrders=true) (ok:Ez E.N l n cls=true) (i0:J (λ_=>false) O h)
  (step:∀D σ' h' i o,J D σ' h'->i<n->D i=false->l[i]? =some o->(∀q ∈ cls.getD i [],D q=true)->(∀g w,o.guard=some (g,w)->D g=true)->
   (Ck l o σ'->BS E o σ' ds h' λσ'' ds'' h''=>ds''=ds/\J (Gb D i) σ'' h'')/\(¬Ck l o σ'->J (Gb D i) (putS σ' o.dst undef) h'))
  (fin:∀D σ' h',J D σ' h'->(∀i,i<n->D i=true)->DI E l.toArray (l.drop n) σ' ds h' Q):Tr E (.region id l.toArray true) O ds h Q:=λb k f m t d e p r s=>
 Od n cls J hm ok i0 step d e r λD σ' h' u a v c=>fin D σ' h' u a n b k f m v (λj=>aD) d e p c s
theorem Bu.mono{W:Wk P}{l f:Nat}{tmps:Array aU}{a c:Code}{h:V}{R R':aU->V->Prop}(x:Bu W l f tmps a c h R)(hr:∀v h',R v h'->R' v h'):Bu W l f tmps a c h R':=
 λb d e=>x b d λv h' r=>e v h' (hr v h' r)
theorem BS.mono{o:Oper}{O:Nat->aU}{ds:List Deferred}{h:V}{T T2:(Nat->aU)->List Deferred->V->Prop}(y:BS E o O ds h T)(ht:∀σ' ds' h',T σ' ds' h'->T2 σ' ds' h'):BS E o O ds h T2:=by
 unfold BS at y ⊢;refine Ev _ (λb h' q=>?_) _ y;cases b <;> first | exact ht _ _ _ q | exact AW.mono q λv a r=>ht _ _ _ r | exact Bu.mono q λv a r=>ht _ _ _ r | exact q
structure YX(R:V->V->Prop)(l:List Oper)(n:Nat)(cls:List (List Nat))(Φ:List QT)(O:Nat->aU)(h:V)(D:Nat->Bool)(σ':Nat->aU)(h':V):Prop where
 le:R h h'
 base:∀t,(DA l n).contains t=false->σ' t=O t
 lt:∀j,D j=true->j<n
 done:∀j,D j=true->UH l Φ σ' h' j
 clos:∀j,D j=true->∀i ∈ cls.getD j [],D i=true
 grd:∀j o,D j=true->l[j]? =some o->∀g w,o.guard=some (g,w)->D g=true
theorem tr_draw(R:V->V->Prop){id:Nat}{l:List Oper}{O:Nat->aU}{ds:List Deferred}{h:V}{Q:Post}(n:Nat)(cls:List (List Nat))(Φ:List QT)
  (hm:P.follows .mixedOrders=true) (ok:Ob E.N l n cls=true) (rr:∀h,R h h) (rt:∀a b c,R a b->R b c->R a c) (mono:∀k v h h',R h h'->Lm Φ k v h->Lm Φ k v h')
  (x:Lp R E l n Φ O ds h Q n 0 l cls):Tr E (.region id l.toArray true) O ds h Q:=by
 obtain ⟨steps,fin⟩:=Lp.at n 0 l cls x;simp only [Nat.zero_add] at steps fin;unfold Ob at ok;rw [Bool.and_eq_true] at ok;obtain ⟨ok,okd⟩:=ok;have S:=ok;unfold Ez at S;simp only [Bool.and_eq_true] at S;have nd:(DA l n).Nodup:=of_decide_eq_true S.1.2;refine UI n cls (YX R l n cls Φ O h) hm ok ⟨rr h,λ_ _=>rfl,λ_ q=>(by cases q),λ_ q=>(by cases q),λ_ q=>(by cases q),λ_ _ q=>(by cases q)⟩ (λD σ' h' i o r t hiu T hcl U=>?_) λD σ' h' r hall=>fin σ' h' r.le r.base (Ir.get λj hj=>r.done j (hall j (List.mem_range.1 hj)));have s:∀j,Gb D i j=if i=j then true else D j:=λ_=>rfl
 obtain ⟨d,W⟩:∃d,o.dst=some d:=by
  have:=GE okd t
  rw [T] at this;exact Option.isSome_iff_exists.1 this
 have next:∀(σ2:Nat->aU) (h2:V) (v:aU),σ2=putS σ' o.dst v->R h' h2->(Ck l o σ2->Lm Φ i v h2)->YX R l n cls Φ O h (Gb D i) σ2 h2:=by
  rintro σ2 h2 v rfl C A;have hkeep:∀j z e,j<n->j≠i->l[j]? =some z->z.dst=some e->putS σ' o.dst v e=σ' e:=λj z e hj hji p he=>by
   rw [W];exact upd_ne σ' v (K3 (Dm nd t hj (λx=>hji x.symm) T p W he))
  refine ⟨rt _ _ _ r.le C,λu hu=>?_,λj f=>?_,λj f=>?_,λj f q hq'=>?_,λj z f p g w H=>?_⟩
  ·rw [<-r.base u hu,W];exact upd_ne σ' v (K3 λe=>by rw [e,Oc t T W] at hu;cases hu)
  ·rw [s] at f;by_cases m:i=j
   ·exact m▸t
   ·rw [aS m] at f;exact r.lt j f
  ·rw [s] at f;by_cases m:i=j
   ·subst m;unfold UH;rw [T];intro H
    have:IP o (putS σ' o.dst v)=v:=by simp [IP,W,putS,upd]
    rw [this];exact A H
   ·rw [aS m] at f;have K:=r.done j f;unfold UH at K ⊢;cases p:l[j]? with
    | none=>trivial
    | some z=>
     rw [p] at K;simp only at K ⊢;intro H;have hg':Ck l z σ':=H.congr λg w og dg F X hdg=>by
      have B:=r.grd j z f p g w F;exact hkeep g og dg (r.lt g B) (λe=>by rw [e,hiu] at B;cases B) X hdg
     have hsv:IP z (putS σ' o.dst v)=IP z σ':=by
      unfold IP;cases hdj:z.dst with
      | none=>rfl
      | some e=>exact hkeep j z e (r.lt j f) (λx=>m x.symm) p hdj
     rw [hsv];exact mono _ _ _ _ C (K hg')
  ·rw [s] at f ⊢;split
   ·rfl
   ·by_cases m:i=j
    ·subst m;exact hcl q hq'
    ·rw [aS m] at f;exact r.clos j f q hq'
  ·rw [s] at f ⊢;split
   ·rfl
   ·by_cases m:i=j
    ·subst m;rw [T] at p;cases p;exact U g w H
    ·rw [aS m] at f;exact r.grd j z f p g w H
 refine ⟨λhG=>?_,λhnG=>?_⟩
 ·exact BS.mono (steps i o t T σ' h' r.le r.base (Ir.get λj hj=>r.done j (hcl j hj)) hG) λσ2 ds2 h2 y=>⟨y.1,by
   obtain ⟨_,C,v,hσ,A⟩:=y;exact next σ2 h2 v hσ C λ_=>A⟩
 ·refine next _ _ undef rfl (rr _) λH=>absurd (H.congr λg w og dg F X hdg=>?_) hnG;have hgi:g≠i:=λe=>by have:=U g w F;rw [e,hiu] at this;cases this
  rw [W];exact upd_ne σ' undef (K3 (Dm nd t (r.lt g (U g w F)) (λx=>hgi x.symm) T X W hdg))
end
end Go.Ns
namespace Go.Ns
open Go.Conc
section
variable {P:Program} {E:F8 P} {O:Nat->aU} {ds:List Deferred} {h:V} {T:(Nat->aU)->List Deferred->V->Prop}
variable {dst:Option Nat} {ty:aV} {pos:String} {af:Array Edge} {gd:Option (Nat×Bool)}
variable {U:Type}
def C7(enc:U->Array aU)(xs:List U):List aU:=xs.flatMap λx=>(enc x).toList
theorem Je(enc:U->Array aU)(xs ys:List U):C7 enc (xs++ys)=C7 enc xs++C7 enc ys:=by simp [C7]
theorem EI{enc:U->Array aU}{n:Nat}{xs:List U}(hn:∀x ∈ xs,(enc x).size=n):(C7 enc xs).length=xs.length*n:=by
 induction xs with
 | nil=>simp [C7]
 | cons x xs a=>
  have:C7 enc (x ::xs)=(enc x).toList++C7 enc xs:=rfl
  rw [this,List.length_append,a (λy b=>hn y (by simp [b])),List.length_cons,Nat.succ_mul,Array.length_toList,hn x aD];omega
def back:aU->Option Nat
 | .slice (some a) _ _=>some a.block
 | _=>none
def AV(h0 h:V)(v:aU)(t:aV)(n:Nat)(enc:U->Array aU)(xs:List U):Prop:=
 (v=.slice none 0 0/\xs=[])\/∃b cap c,v=.slice (some ⟨b,0,none⟩) xs.length cap/\h0 b=none/\h b=some (true,.cells c t (0,0))/\c.size=cap*n/\xs.length<=cap/\xs.length<=140737488355328/\
  c.toList.take (xs.length*n)=C7 enc xs/\∀x ∈ xs,(enc x).size=n
theorem AV.nil(h0 h:V)(t:aV)(n:Nat)(enc:U->Array aU):AV h0 h (.slice none 0 0) t n enc []:=.inl ⟨rfl,rfl⟩
theorem AV.le{h0 h h':V}{v:aU}{t:aV}{n:Nat}{enc:U->Array aU}{xs:List U}(x:AV h0 h v t n enc xs)(l:h.Le h'):AV h0 h' v t n enc xs:=by
 rcases x with x | ⟨b,a,c,d,e,f,g⟩
 ·exact .inl x
 ·exact .inr ⟨b,a,c,d,e,l.keep f rfl,g⟩
theorem AV.base{h0 h00 h:V}{v:aU}{t:aV}{n:Nat}{enc:U->Array aU}{xs:List U}(x:AV h0 h v t n enc xs)(l:h00.Le h0):AV h00 h v t n enc xs:=by
 rcases x with x | ⟨b,a,c,d,e,f,g⟩
 ·exact .inl x
 ·exact .inr ⟨b,a,c,d,l.nothing e,f,g⟩
theorem AV.keep{h0 h h':V}{v:aU}{t:aV}{n:Nat}{enc:U->Array aU}{xs:List U}(x:AV h0 h v t n enc xs)(l:∀b o,back v=some b->h b=some o->h' b=some o):AV h0 h' v t n enc xs:=by
 rcases x with x | ⟨b,a,c,d,e,f,g⟩
 ·exact .inl x
 ·exact .inr ⟨b,a,c,d,e,l b _ (by rw [d];rfl) f,g⟩
theorem Oe{enc:U->Array aU}{n:Nat}{xs:List U}{l:List aU}(hn:∀x ∈ xs,(enc x).size=n)(h:l.take (xs.length*n)=C7 enc xs){i:Nat}(hi:i<xs.length) :
  (l.drop (i*n)).take n=(enc xs[i]).toList:=by
 induction xs generalizing l i with
 | nil=>simp at hi
 | cons x xs b=>
  have c:=hn x aD;have e:C7 enc (x ::xs)=(enc x).toList++C7 enc xs:=rfl;have a:((enc x).toList).length=n:=by simp [c]
  have d:l.take n=(enc x).toList:=by
   have:=congrArg (List.take n) h
   rw [e,List.take_take,List.length_cons,Nat.succ_mul,Nat.min_eq_left (Nat.le_add_left _ _),List.take_left' a] at this;exact this
  have f:(l.drop n).take (xs.length*n)=C7 enc xs:=by
   have:=congrArg (List.drop n) h
   rw [e,List.drop_left' a,List.drop_take,List.length_cons,Nat.succ_mul,Nat.add_sub_cancel] at this;exact this
  cases i with
  | zero=>simpa using d
  | succ i=>
   have:=b (λy g=>hn y (by simp [g])) f (i:=i) (by simpa using hi)
   rw [List.drop_drop] at this;rw [Nat.succ_mul,Nat.add_comm (i*n) n];simpa using this
theorem AV.sl{h0 h:V}{v:aU}{t:aV}{n:Nat}{enc:U->Array aU}{xs:List U}(x:AV h0 h v t n enc xs):AD h v n enc xs:=by
 rcases x with ⟨rfl,rfl⟩ | ⟨b,a,c,f,m,g,o,d,j,k,l⟩
 ·exact AD.nil _ _ _
 ·refine ⟨_,a,f,d,j,λi e=>⟨b,0,rfl,true,c,t,(0,0),g,?_,?_⟩⟩
  ·have:i*n+n<=xs.length*n:=by rw [<-Nat.succ_mul];exact Nat.mul_le_mul_right n e
   have:xs.length*n<=a*n:=Nat.mul_le_mul_right n d
   omega
  ·apply Array.ext';rw [Array.toList_extract,List.extract_eq_take_drop,Nat.zero_add,show i*n+n-i*n=n by omega];exact Oe l k e
theorem AD.cells{h:V}{v:aU}{n:Nat}{enc:U->Array aU}{ys:List U}(x:AD h v n enc ys)(hne:ys≠[]) :
  ∃b off cap p c t f,v=.slice (some ⟨b,off,none⟩) ys.length cap/\h b=some (p,.cells c t f)/\off+ys.length*n<=c.size/\(c.extract off (off+ys.length*n)).toList=C7 enc ys/\∀y ∈ ys,(enc y).size=n:=by
 obtain ⟨a,cap,z,_,_,r⟩:=x;have A:0<ys.length:=List.length_pos_iff.2 hne;obtain ⟨b,off,rfl,p,c,t,f,s,F,H⟩:=r 0 A;have d:∀i (g:i<ys.length),off+i*n+n<=c.size/\c.extract (off+i*n) (off+i*n+n)=enc ys[i]:=λi g=>by
  obtain ⟨K,u,B,N,Q,R,S,j,l,m⟩:=r i g;cases B;rw [s] at j;cases j;exact ⟨l,m⟩
 have o:∀y ∈ ys,(enc y).size=n:=λy C=>by
  obtain ⟨i,g,rfl⟩:=List.mem_iff_getElem.1 C;rw [<-(d i g).2,Array.size_extract]
  have:=(d i g).1
  omega
 refine ⟨b,off,cap,p,c,t,f,z,s,?_,?_,o⟩
 ·have:=(d (ys.length-1) Y).1
  have e:(ys.length-1)*n+n=ys.length*n:=by rw [<-Nat.succ_mul];congr 1;omega
  omega
 ·have q:∀i,i<=ys.length->(c.toList.drop off).take (i*n)=C7 enc (ys.take i):=by
   intro i
   induction i with
   | zero=>intro _;simp [C7]
   | succ i D=>
    intro g;have k:i<ys.length:=g;rw [List.take_succ_eq_append_getElem k,Je,<-D Y,Nat.succ_mul,List.take_add];congr 1
    have:=(d i k).2
    have w:=congrArg Array.toList this;rw [Array.toList_extract,List.extract_eq_take_drop,show off+i*n+n-(off+i*n)=n by omega] at w;rw [List.drop_drop,show C7 enc [ys[i]]=(enc ys[i]).toList by simp [C7],<-w]
  have:=q ys.length (Nat.le_refl _)
  rw [List.take_length] at this;rw [Array.toList_extract,List.extract_eq_take_drop,show off+ys.length*n-off=ys.length*n by omega];exact this
theorem ES(vs:List aU):∀(c:Array aU)(off:Nat),off+vs.length<=c.size->(BV c off vs).toList=c.toList.take off++vs++c.toList.drop (off+vs.length):=by
 induction vs with
 | nil=>intro c off _;simp [BV]
 | cons v vs d=>
  intro c off a;simp only [List.length_cons] at a;rw [BV,d _ _ (by simp;omega),Array.toList_setIfInBounds];have b:off<c.toList.length:=by simp;omega
  rw [List.take_succ_eq_append_getElem (by simpa using b),List.take_set_of_le (Nat.le_refl _),List.getElem_set_self,List.drop_set_of_lt Y];simp only [List.append_assoc,List.length_cons,List.cons_append];rw [show off+1+vs.length=off+(vs.length+1) by omega];rfl
def JT(P:Program)(s x:aV):Option (aV×Nat×Nat):=match P.underlying s with
 | some (.slice e)=>match P.underlying x with
  | some (.slice _) | some .string=>match Bz P e,Bb P e,P.info? e with
   | some (_,n),some z,some i=>if n=0\/z.size≠n\/i.bytes=0 then none else some (e,n,i.bytes)
   | _,_,_=>none
  | _=>none
 | _=>none
theorem ZD(need:Nat):∀(r c:Nat),c<need->Builtin.growBy need r c<=2*need+512:=by
 intro r
 induction r with
 | zero=>intro c a;unfold Builtin.growBy;omega
 | succ r b=>
  intro c a;unfold Builtin.growBy;rw [aS Y];by_cases d:c+(c+768) / 4<need
  ·exact b _ d
  ·cases r with
   | zero=>unfold Builtin.growBy;omega
   | succ r=>unfold Builtin.growBy;rw [aT Y];omega
theorem Nw{need old:Nat}(h:old<need):Builtin.nextslicecap need old<=2*need+512:=by
 unfold Builtin.nextslicecap;split
 ·omega
 ·split
  ·omega
  ·exact ZD _ _ _ h
theorem UJ{h:V}{a:Option Addr}{n c:Nat}{Q:Nat->V->Prop}(q:Q n h):(Builtin.lenOf (.slice a n c)).gh P h Q:=q
theorem GU{h:V}{v:aU}{n:Nat}{enc:U->Array aU}{ys:List U}{Q:Array aU->V->Prop}(x:AD h v n enc ys)(q:Q (C7 enc ys).toArray h):(Builtin.firstCells n ys.length v).gh P h Q:=by
 by_cases e:ys=[]
 ·subst e;obtain ⟨a,g,rfl,_,_,_⟩:=x;cases a with
  | none=>exact q
  | some a=>
   show (loadCells a (0*n)).gh P h Q;rw [Nat.zero_mul];exact q
 ·obtain ⟨b,d,g,p,c,t,f,rfl,i,j,k,_⟩:=x.cells e;show (loadCells ⟨b,d,none⟩ (ys.length*n)).gh P h Q;refine Lj (a:=⟨b,d,none⟩) rfl i _ 0 #[] (by simpa using j) ?_
  have:(#[]++c.extract (d+0) (d+0+ys.length*n):Array aU)=(C7 enc ys).toArray:=by
   apply Array.ext';simp only [Array.empty_append,Nat.add_zero];exact k
  show Q (#[]++c.extract (d+0) (d+0+ys.length*n)) h;rw [this];exact q
theorem Of{s x:aV}{o1 o2:Operand}{h0:V}{v w:aU}{e n bytes:Nat}{enc:U->Array aU}{xs ys:List U}(ht:JT P s x=some (e,n,bytes))(h1:AL O o1=v)(h2:AL O o2=w)
  (hv:AV h0 h v e n enc xs) (hw:AD h w n enc ys) (l0:∀r,h r=none->h0 r=none) (hb:(2*(xs.length+ys.length)+512)*bytes<=2 ^ 48) (hfine:∀y ∈ ys,(enc y).toList.all (·.oneCell')=true)
  (k:∀v' h',AV h0 h' v' e n enc (xs++ys)->(∀b o,h b=some o->back v≠some b->h' b=some o)->(back v'=back v\/((∃r,back v'=some r/\h r=none)/\∀b o,h b=some o->h' b=some o))->(∀b c,back v=some b->h b=some (true,.cells c e (0,0))->∃c',h' b=some (true,.cells c' e (0,0))/\c'.size=c.size)->T (putS O dst v') ds h') :
  BS E ⟨dst,.call ⟨.builtin .append,#[o1,o2],#[s,x]⟩,ty,pos,af,gd⟩ O ds h T:=by
 refine FS (vs:=#[v,w]) (s:=Builtin.append_ #[s,x] ty #[v,w]) (by simp [h1,h2]) (λ_=>rfl) ?_;unfold JT at ht;cases hu:P.underlying s with
 | none=>rw [hu] at ht;cases ht
 | some d=>
 rw [hu] at ht;cases d <;> first | (cases ht;done) | skip
 rename_i u
 cases F:P.underlying x with
 | none=>rw [F] at ht;cases ht
 | some dx=>
 have hdx:dx=.string\/∃e',dx=.slice e':=by
  rw [F] at ht;cases dx <;> first | exact .inl rfl | exact .inr ⟨_,rfl⟩ | (cases ht;done)
 have f:(match Bz P u,Bb P u,P.info? u with
   | some (_,n),some z,some i=>if n=0\/z.size≠n\/i.bytes=0 then none else some (u,n,i.bytes)
   | _,_,_=>none)=some (e,n,bytes):=by
  rw [F] at ht;cases dx <;> first | exact ht | (cases ht;done)
 clear ht;cases A:Bz P u with
 | none=>rw [A] at f;cases f
 | some g=>
 obtain ⟨g1,l⟩:=g;cases X:Bb P u with
 | none=>rw [A,X] at f;cases f
 | some z=>
 cases hi:P.info? u with
 | none=>rw [A,X,hi] at f;cases f
 | some i=>
 rw [A,X,hi] at f;simp only at f;by_cases hcond:l=0\/z.size≠l\/i.bytes=0
 ·rw [aT hcond] at f;cases f
 rw [aS hcond] at f;simp only [Option.some.injEq,Prod.mk.injEq] at f;obtain ⟨rfl,rfl,rfl⟩:=f;have hn0:0<l:=Y
 have hzs:z.size=l:=Y
 have B:∀y ∈ ys,(enc y).size=l:=by
  by_cases H:ys=[]
  ·subst H;simp
  ·obtain ⟨_,_,_,_,_,_,_,_,_,_,_,q⟩:=hw.cells H;exact q
 obtain ⟨wa,wcap,rfl,wlc,wml,wall⟩:=hw;have hw:AD h (.slice wa ys.length wcap) l enc ys:=⟨wa,wcap,rfl,wlc,wml,wall⟩;have hzero:∀{Q:aU->V->Prop}{h:V},(∀v,v.cells=z->Q v h)->(zeroValue u).gh P h Q:=λ{Q h} q=>by
  unfold Bb at X;unfold zeroValue;rw [hi] at X;simp only [Option.map_eq_some_iff] at X;obtain ⟨v,hv,e⟩:=X;refine AG _ _ (Cy hi ?_);rw [hv];exact q v e
 have hcells:∀y ∈ (C7 enc ys),y.oneCell'=true:=λy K=>by
  unfold C7 at K;rw [List.mem_flatMap] at K;obtain ⟨a,ha,hb⟩:=K;exact List.all_eq_true.1 (hfine a ha) y hb
 have N:=EI B;have hbytes:1<=i.bytes:=Y
 have S:xs.length+ys.length<=140737488355328:=by
  have h2:(2*(xs.length+ys.length)+512)*1<=(2*(xs.length+ys.length)+512)*i.bytes:=Nat.mul_le_mul_left _ hbytes;omega
 obtain ⟨base,sCap,rfl,hcase⟩:∃base sCap,v=.slice base xs.length sCap/\((base=none/\xs=[]/\sCap=0)\/∃b c,base=some ⟨b,0,none⟩/\h0 b=none/\h b=some (true,.cells c u (0,0))/\c.size=sCap*l/\xs.length<=sCap/\xs.length<=140737488355328/\c.toList.take (xs.length*l)=C7 enc xs/\∀x ∈ xs,(enc x).size=l):=by
  rcases hv with ⟨rfl,rfl⟩ | ⟨b,cap,c,rfl,q⟩
  ·exact ⟨none,0,rfl,.inl ⟨rfl,rfl,rfl⟩⟩
  ·exact ⟨_,cap,rfl,.inr ⟨b,c,rfl,q⟩⟩
 have hsl:=hv.sl;unfold Builtin.append_;simp only [List.getElem?_toArray,List.getElem?_cons_zero,List.getElem?_cons_succ];refine AG _ _ (Ak hu ?_);dsimp only;refine AG _ _ (Do A ?_);refine AG _ _ (Ak F ?_);refine AG _ _ (Ev _ (Q:=λz h'=>z=false/\h'=h) (λz h' q=>?_) h (by rcases hdx with rfl | ⟨e',rfl⟩ <;> exact ⟨rfl,rfl⟩));obtain ⟨rfl,hq⟩:=q;rw [hq];clear hq h';rw [aS aC];refine AG _ _ (UJ ?_);by_cases hroom:xs.length+ys.length<=sCap
 ·rw [aT hroom];show Sem.gh P _ h _;simp only [Bool.not_false,if_true];refine AG _ _ (GU hw ?_);rcases hcase with ⟨rfl,rfl,rfl⟩ | ⟨b,c,rfl,c1,c2,c3,c4,cm,c5,c6⟩
  ·have:ys=[]:=by simpa using hroom
   subst this;refine AG _ _ (Ao ?_);refine Ao ?_;exact k _ h (.inl ⟨rfl,rfl⟩) (λb o hb _=>hb) (.inl rfl) (λb c hb _=>by cases hb)
  ·dsimp only;rw [IA];have C:0+xs.length*l+(C7 enc ys).length<=c.size:=by
    rw [N,c3,Nat.zero_add,<-Nat.add_mul];exact Nat.mul_le_mul_right _ hroom
   refine AG _ _ (GT (a:=⟨b,0+xs.length*l,none⟩) rfl _ 0 c h ?_ c2 (by simpa using C) ?_)
   ·intro y K;exact hcells y (by simpa using K)
   ·refine Ao ?_;refine k _ _ (.inr ⟨b,sCap,_,by rw [List.length_append],c1,V.set_same _ _ _ _,by rw [GS];exact c3,by rw [List.length_append];exact hroom,by rw [List.length_append];exact S,?_,?_⟩) ?_ (.inl rfl) (λb' c' j D=>?_)
    ·simp only [Nat.zero_add,Nat.add_zero] at C ⊢;rw [ES _ _ _ C,Je,List.length_append,Nat.add_mul,<-N,c5];have R:=EI c6;rw [<-R,<-List.length_append,List.take_append_of_le_length (Nat.le_refl _),List.take_length]
    ·intro y K;rcases List.mem_append.1 K with q | q
     ·exact c6 y q
     ·exact B y q
    ·intro b' o j H
     have:b'≠b:=λe=>H (by subst e;rfl)
     rw [V.set_ne _ _ _ this];exact j
    ·cases j;rw [c2] at D;cases D;exact ⟨_,V.set_same _ _ _ _,by rw [GS]⟩
 ·rw [aS hroom];refine AG _ _ (Cy hi ?_);have hneed:xs.length+ys.length<=2 ^ 48:=by
   have h1:1<=i.bytes:=Y
   have h2:(2*(xs.length+ys.length)+512)*1<=(2*(xs.length+ys.length)+512)*i.bytes:=Nat.mul_le_mul_left _ h1;omega
  have hmax:IntKind.i64.max=9223372036854775807:=by rfl
  rw [aS (by rw [hmax];omega)];refine AG _ _ (Cy hi ?_);have hcap:Builtin.nextslicecap (xs.length+ys.length) sCap*i.bytes<=2 ^ 48:=Nat.le_trans (Nat.mul_le_mul_right _ (Nw Y)) hb;rw [aS Y];refine AG _ _ ⟨λhfo=>(by cases hfo),λ_ t=>?_⟩;show Sem.gh P _ h _;have hnc:xs.length+ys.length<=Question.cut (.appendCap (xs.length+ys.length) sCap u) t:=by
   show xs.length+ys.length<=xs.length+ys.length+_;omega
  generalize Question.cut (.appendCap (xs.length+ys.length) sCap u) t=newCap at hnc ⊢;refine AG _ _ (Cy hi ?_);refine AG _ _ ?_;have hask:∀(m:Nat)(Q:Unit->V->Prop),Q () h->(askRoom m).gh P h Q:=λm Q q=>by
   unfold askRoom;split
   ·exact ⟨rfl,q⟩
   ·exact q
  refine hask _ _ ?_;refine AG _ _ (GU hsl ?_);simp only [Bool.not_false,if_true];refine AG _ _ (GU hw ?_);refine AG _ _ (hzero λvz hvz=>?_);rw [hvz];refine AG _ _ ?_;unfold newRow;refine AG _ _ (λr hr=>?_);refine Ao (Ao ?_);have W:∀x ∈ xs,(enc x).size=l:=by
   rcases hcase with ⟨_,rfl,_⟩ | ⟨_,_,_,_,_,_,_,_,_,q⟩
   ·simp
   ·exact q
  have R:=EI W;refine k _ _ (.inr ⟨r,newCap,_,by rw [List.length_append],l0 _ hr,V.set_same _ _ _ _,?_,by rw [List.length_append];exact hnc,by rw [List.length_append];exact S,?_,?_⟩) (λb o j _=>?_) (.inr ⟨⟨r,rfl,hr⟩,λb o j=>by rw [V.set_ne _ _ _ (V.ne_of (p:=o.1) (o:=o.2) j hr)];exact j⟩) (λb c' _ D=>⟨c',by rw [V.set_ne _ _ _ (V.ne_of D hr)];exact D,rfl⟩)
  ·simp only [Array.size_append,List.size_toArray,Builtin.zeroCells,Array.size_map,Array.size_range,R,N,hzs];rw [<-Nat.add_mul,<-Nat.add_mul];congr 1;omega
  ·simp only [Array.toList_append];rw [Je,List.length_append,Nat.add_mul,<-R,<-N,<-List.length_append,List.take_append_of_le_length (Nat.le_refl _),List.take_length]
  ·intro y K;rcases List.mem_append.1 K with q | q
   ·exact W y q
   ·exact B y q
  ·rw [V.set_ne _ _ _ (V.ne_of (p:=o.1) (o:=o.2) j hr)];exact j
theorem ZE{s x:aV}{o1 o2:Operand}{h0:V}{v w:aU}{e n bytes:Nat}{enc:U->Array aU}{xs ys:List U}(ht:JT P s x=some (e,n,bytes))(h1:AL O o1=v)(h2:AL O o2=w)
  (hv:AV h0 h v e n enc xs) (hw:AD h w n enc ys) (l0:∀r,h r=none->h0 r=none) (hb:(2*(xs.length+ys.length)+512)*bytes<=2 ^ 48) (hfine:∀y ∈ ys,(enc y).toList.all (·.oneCell')=true)
  (k:∀v' h',AV h0 h' v' e n enc (xs++ys)->(∀b o,h b=some o->back v≠some b->h' b=some o)->(back v'=back v\/((∃r,back v'=some r/\h r=none)/\∀b o,h b=some o->h' b=some o))->T (putS O dst v') ds h') :
  BS E ⟨dst,.call ⟨.builtin .append,#[o1,o2],#[s,x]⟩,ty,pos,af,gd⟩ O ds h T:=
 Of ht h1 h2 hv hw l0 hb hfine λv' h' a b c _=>k v' h' a b c
end
end Go.Ns
namespace Go.Ns
open Go.Conc
section
variable {P:Program} {E:F8 P} {O:Nat->aU} {ds:List Deferred} {h:V} {T:(Nat->aU)->List Deferred->V->Prop}
variable {dst:Option Nat} {ty:aV} {pos:String} {af:Array Edge} {gd:Option (Nat×Bool)}
variable {U:Type}
theorem JU{op:BinOp}{t:aV}{x y:Operand}{a b:aU}{Q:Unit->V->Prop}{h:V}(ho:(match op with | .eql=>false | .neq=>false | _=>true)=true)(q:Q () h):(eqGuard op t x y a b).gh P h Q:=by
 unfold eqGuard;cases op <;> first | (cases ho;done) | exact q
theorem CY{k:IntKind}{i:Int}{y:Nat}{code:BoundsCode}{h:V}{Q:Nat->V->Prop}(h0:0<=i)(h1:i<=y)(q:Q i.toNat h):(Instr.sliceBound (.int k i) y code).gh P h Q:=by
 unfold Instr.sliceBound;refine AG _ _ (Ao ?_);show Sem.gh P (if 0<=i/\i<=(y:Int) then _ else _) h Q;rw [aT ⟨h0,h1⟩];exact q
theorem AD.part{h:V}{n:Nat}{enc:U->Array aU}{xs:List U}{a:Option Addr}{cap lo hi:Nat}(x:AD h (.slice a xs.length cap) n enc xs)(hlo:lo<=hi)(hhi:hi<=xs.length) :
  AD h (.slice (if cap=lo then a else a.map (·.add (lo*n))) (hi-lo) (cap-lo)) n enc ((xs.take hi).drop lo):=by
 obtain ⟨o,g,f,p,q,j⟩:=x;cases f;have c:((xs.take hi).drop lo).length=hi-lo:=by simp;omega
 refine ⟨_,cap-lo,by rw [c],Y,Y,λi d=>?_⟩;rw [c] at d;obtain ⟨b,e,k,l⟩:=j (lo+i) Y;subst k;have m:((xs.take hi).drop lo)[i]'(by rw [c];exact d)=xs[lo+i]' Y:=aD
 rw [m,aS Y];refine ⟨b,e+lo*n,by simp [IA],?_⟩;rw [Nat.add_assoc e,<-Nat.add_mul];exact l
theorem ok_slice{t:aV}{x:Operand}{olo ohi:Option Operand}{n:Nat}{enc:U->Array aU}{xs:List U}{v:aU}(lo hi:Nat)(ht:Dl P t=some n)(hs:AD h v n enc xs)(hx:AL O x=v)
  (hlo:match olo with | none=>lo=0 | some o=>∃kd,AL O o=.int kd lo) (hhi:match ohi with | none=>hi=xs.length | some o=>∃kd,AL O o=.int kd hi) (h1:lo<=hi) (h2:hi<=xs.length)
  (k:∀v',AD h v' n enc ((xs.take hi).drop lo)->T (putS O dst v') ds h):BS E ⟨dst,.slice t x olo ohi none,ty,pos,af,gd⟩ O ds h T:=by
 have f:=hs;obtain ⟨a,b,rfl,l,_,_⟩:=f;unfold BS execOp;simp only [hx];refine FE ?_;unfold Dl at ht;unfold Instr.sliceAt;cases c:P.underlying t with
 | none=>rw [c] at ht;cases ht
 | some d=>
  rw [c] at ht;cases d <;> first | (cases ht;done) | skip
  rename_i e
  simp only at ht;refine AG _ _ (Ak c ?_);dsimp only;unfold Instr.slice;refine AG _ _ (Ak c ?_);dsimp only;have i:∀(Q:Nat×Nat×Nat->V->Prop),Q (lo,hi,b) h->(Instr.sliceBounds true xs.length b (olo.map (AL O)) (ohi.map (AL O)) none).gh P h Q:=λQ q=>by
   unfold Instr.sliceBounds;cases ohi with
   | none=>
    simp only at hhi;subst hhi;cases olo with
    | none=>simp only at hlo;subst hlo;exact q
    | some o=>
     obtain ⟨kd,e⟩:=hlo;simp only [Option.map_some,e];refine AG _ _ (Ao (AG _ _ (Ao ?_)));exact AG _ _ (CY Y Y (by simp only [Int.toNat_natCast];exact q))
   | some m=>
    obtain ⟨j,g⟩:=hhi;cases olo with
    | none=>
     simp only at hlo;subst hlo;simp only [Option.map_some,g];refine AG _ _ (Ao (AG _ _ (CY Y Y ?_)));exact q
    | some o=>
     obtain ⟨kd,e⟩:=hlo;simp only [Option.map_some,e,g];refine AG _ _ (Ao (AG _ _ (CY Y Y ?_)));exact AG _ _ (CY Y (by simpa using h1) (by simp only [Int.toNat_natCast];exact q))
  refine AG _ _ (i _ ?_);dsimp only;refine AG _ _ (GD ht (Ao ?_));exact k _ (hs.part h1 h2)
theorem KD{t:aV}{x:Operand}{olo ohi:Option Operand}{n len cap:Nat}{a:Option Addr}(lo hi:Nat)(ht:Dl P t=some n)(hc:len<=cap)(hx:AL O x=.slice a len cap)
  (hlo:match olo with | none=>lo=0 | some o=>∃kd,AL O o=.int kd lo) (hhi:match ohi with | none=>hi=len | some o=>∃kd,AL O o=.int kd hi) (h1:lo<=hi) (h2:hi<=len)
  (k:T (putS O dst (.slice (if cap=lo then a else a.map (·.add (lo*n))) (hi-lo) (cap-lo))) ds h):BS E ⟨dst,.slice t x olo ohi none,ty,pos,af,gd⟩ O ds h T:=by
 unfold BS execOp;simp only [hx];refine FE ?_;unfold Dl at ht;unfold Instr.sliceAt;cases b:P.underlying t with
 | none=>rw [b] at ht;cases ht
 | some d=>
  rw [b] at ht;cases d <;> first | (cases ht;done) | skip
  rename_i e
  simp only at ht;refine AG _ _ (Ak b ?_);dsimp only;unfold Instr.slice;refine AG _ _ (Ak b ?_);dsimp only;have f:∀(Q:Nat×Nat×Nat->V->Prop),Q (lo,hi,cap) h->(Instr.sliceBounds true len cap (olo.map (AL O)) (ohi.map (AL O)) none).gh P h Q:=λQ q=>by
   unfold Instr.sliceBounds;cases ohi with
   | none=>
    simp only at hhi;subst hhi;cases olo with
    | none=>simp only at hlo;subst hlo;exact q
    | some o=>
     obtain ⟨kd,e⟩:=hlo;simp only [Option.map_some,e];refine AG _ _ (Ao (AG _ _ (Ao ?_)));exact AG _ _ (CY Y Y (by simp only [Int.toNat_natCast];exact q))
   | some i=>
    obtain ⟨g,c⟩:=hhi;cases olo with
    | none=>
     simp only at hlo;subst hlo;simp only [Option.map_some,c];refine AG _ _ (Ao (AG _ _ (CY Y Y ?_)));exact q
    | some o=>
     obtain ⟨kd,e⟩:=hlo;simp only [Option.map_some,e,c];refine AG _ _ (Ao (AG _ _ (CY Y Y ?_)));exact AG _ _ (CY Y (by simpa using h1) (by simp only [Int.toNat_natCast];exact q))
  refine AG _ _ (f _ ?_);dsimp only;refine AG _ _ (GD ht (Ao ?_));exact k
theorem Jf{t:aV}{x:Operand}{m n b off:Nat}(ht:IN P t=some (m,n))(hx:AL O x=.pointer (some ⟨b,off,none⟩))(k:T (putS O dst (.slice (some ⟨b,off,none⟩) m m)) ds h) :
  BS E ⟨dst,.slice t x none none none,ty,pos,af,gd⟩ O ds h T:=by
 unfold BS execOp;simp only [hx];refine FE ?_;unfold IN at ht;unfold Instr.sliceAt;cases a:P.underlying t with
 | none=>rw [a] at ht;cases ht
 | some d=>
  rw [a] at ht;cases d <;> first | (cases ht;done) | skip
  rename_i e
  simp only [Option.map_eq_some_iff,Prod.mk.injEq] at ht;obtain ⟨f,c,rfl,rfl⟩:=ht;refine AG _ _ (Ak a ?_);dsimp only;refine AG _ _ (Ao ?_);unfold Instr.sliceBounds;simp only [Bool.false_eq_true,↓reduceIte];refine AG _ _ (AG _ _ (Ao (AG _ _ (Ao (AG _ _ (Ao (Ao ?_)))))));refine AG _ _ (Do c (Ao ?_));simp only [Nat.sub_zero,Nat.zero_mul,IA,Nat.add_zero,ite_self];exact k
theorem Gt{xt yt:aV}{x y:Operand}{kd ke:IntKind}{a b r:Int}(hx:AL O x=.int kd a)(hy:AL O y=.int ke b)(h0:0<=b)(hr:a.fdiv (2 ^ (min b.toNat kd.bits))=r)(k:T (putS O dst (.int kd r)) ds h) :
  BS E ⟨dst,.binOp .shr xt x y yt,ty,pos,af,gd⟩ O ds h T:=by
 subst hr;unfold BS execOp;simp only [hx,hy];refine FE (AG _ _ ?_);refine JU rfl ?_;show Sem.gh P (if b<0 then _ else _) h _;rw [aS Y];exact k
theorem Sw{xt yt:aV}{x y:Operand}{kd ke:IntKind}{a b r:Int}(hx:AL O x=.int kd a)(hy:AL O y=.int ke b)(h0:0<=b)(hr:kd.wrap (a*2 ^ (min b.toNat kd.bits))=r)(k:T (putS O dst (.int kd r)) ds h) :
  BS E ⟨dst,.binOp .shl xt x y yt,ty,pos,af,gd⟩ O ds h T:=by
 subst hr;unfold BS execOp;simp only [hx,hy];refine FE (AG _ _ ?_);refine JU rfl ?_;show Sem.gh P (if b<0 then _ else _) h _;rw [aS Y];exact k
theorem OC{xt yt:aV}{x y:Operand}{a:Int}(hx:AL O x=.int .i64 a)(hy:AL O y=.int .i64 1)(h0:0<=a)(h1:a<=9223372036854775807)(k:T (putS O dst (.int .i64 (a%2))) ds h) :
  BS E ⟨dst,.binOp .and xt x y yt,ty,pos,af,gd⟩ O ds h T:=E8 hx hy (by
 show (pure (Value.int .i64 (IntKind.i64.wrap ((BitVec.ofInt 64 a &&& BitVec.ofInt 64 1).toNat))):Sem aU)=_;obtain ⟨n,rfl⟩:=Int.eq_ofNat_of_zero_le h0
 have:(BitVec.ofInt 64 (n:Int) &&& BitVec.ofInt 64 1).toNat=n%2:=by
  rw [BitVec.toNat_and];have b:(BitVec.ofInt 64 (n:Int)).toNat=n:=by
   rw [BitVec.toNat_ofInt];omega
  have c:(BitVec.ofInt 64 1).toNat=1:=aC
  rw [b,c,Nat.and_one_is_mod]
 rw [this,IntWalk.i64_in _ Y];congr 2) k
def bytesOf(s:aW):List Int:=s.data.toList.map λb=>(b.toNat:Int)
theorem CZ(s:aW):(bytesOf s).length=s.size:=by
 unfold bytesOf;rw [List.length_map,Array.length_toList];rfl
def s2bOf(P:Program)(s t:aV):Option aV:=match P.underlying s,P.underlying t with
 | some .string,some (.slice e)=>match P.underlying e with
  | some (.int .u8)=>some e
  | _=>none
 | _,_=>none
theorem UK{s t e:aV}{x:Operand}{a:aW}(hc:s2bOf P s t=some e)(hx:AL O x=.string a)(hs:a.size<=140737488355328)
  (k:∀v h',h.Le h'->AD h' v 1 (λi:Int=>#[.int .u8 i]) (bytesOf a)->T (putS O dst v) ds h'):BS E ⟨dst,.convert s t x,ty,pos,af,gd⟩ O ds h T:=by
 unfold BS execOp;simp only [hx];refine FE ?_;unfold s2bOf at hc;unfold convert;cases g:P.underlying s with
 | none=>rw [g] at hc;cases hc
 | some d=>
 cases j:P.underlying t with
 | none=>rw [g,j] at hc;cases d <;> cases hc
 | some A=>
 rw [g,j] at hc;cases d <;> first | (cases hc;done) | skip
 cases A <;> first | (cases hc;done) | skip
 rename_i B
 simp only at hc;cases l:P.underlying B with
 | none=>rw [l] at hc;cases hc
 | some C=>
 rw [l] at hc;cases C <;> first | (cases hc;done) | skip
 rename_i D
 cases D <;> first | (cases hc;done) | skip
 cases hc;refine AG _ _ (Ak g (AG _ _ (Ak j ?_)));dsimp only;refine AG _ _ (Ak l ?_);dsimp only;unfold Conv.stringToBytes;refine AG _ _ ⟨λm=>(by cases m),λ_ y=>?_⟩;show Sem.gh P _ h _;have c:a.size<=Question.cut (.appendCap a.size 0 e) y:=by
  show a.size<=a.size+_;omega
 generalize Question.cut (.appendCap a.size 0 e) y=n at c ⊢;refine AG _ _ ?_;unfold newRow;refine AG _ _ (λr z=>?_);refine Ao ?_;refine AG _ _ ?_;unfold markStringish;refine AG _ _ ⟨true,_,_,_,V.set_same _ _ _ _,?_⟩;refine .inr ⟨aC,_,_,_,V.set_same _ _ _ _,?_⟩;refine Ao (Ao ?_);have f:(a.data.map λb=>(Value.int .u8 b.toNat)).size=a.size:=by rw [Array.size_map];rfl
 refine k _ _ (λb p o q=>⟨o,?_,.inl rfl⟩) ⟨some ⟨r,0,none⟩,n,by rw [CZ],by rw [CZ];exact c,by rw [CZ];exact hs,λi u=>⟨r,0,rfl,true,_,_,_,V.set_same _ _ _ _,?_,?_⟩⟩
 ·rw [V.set_ne _ _ _ (V.ne_of q z),V.set_ne _ _ _ (V.ne_of q z)];exact q
 ·rw [CZ] at u;rw [Array.size_append,f];omega
 ·rw [CZ] at u;have w:i<a.data.size:=u;apply Array.ext';rw [Array.toList_extract,List.extract_eq_take_drop,Array.toList_append,Nat.zero_add,Nat.mul_one,show i+1-i=1 by omega];have F:i<(a.data.map λb=>(Value.int .u8 b.toNat)).toList.length:=by simpa using w
  rw [List.drop_append_of_le_length Y,List.drop_eq_getElem_cons F,List.cons_append,List.take_succ_cons,List.take_zero];simp [bytesOf]
theorem Rb{t:aV}{x ix:Operand}{s:aW}{kd:IntKind}{i:Int}(ht:Lk P t=true)(hx:AL O x=.string s)(hi:AL O ix=.int kd i)(h0:0<=i)(h1:i<s.size)(k:T (putS O dst (.int .u8 ((s[i.toNat]' Y).toNat:Int))) ds h) :
  BS E ⟨dst,.index t x ix,ty,pos,af,gd⟩ O ds h T:=by
 unfold BS execOp;simp only [hx,hi];refine FE ?_;unfold Lk at ht;unfold Instr.index;cases a:P.underlying t with
 | none=>rw [a] at ht;cases ht
 | some d=>
  rw [a] at ht;refine AG _ _ (Ao ?_);refine AG _ _ (Ak a ?_);cases d <;> first | (cases ht;done) | skip
  dsimp only;rw [aT h0]
  have:s[i.toNat]? =some (s[i.toNat]' Y):=by
   rw [getElem?_pos]
  rw [this];exact k
theorem YY{t:aV}{a:Bool}{n off:Nat}{cs:Array aU}{v:aU}{h:V}{Q:aU->V->Prop}(ht:Bz P t=some (a,n))(hv:(if a then some (.agg (cs.extract off (off+n))) else cs[off]?)=some v)(q:Q v h):(part t cs off).gh P h Q:=by
 unfold part;refine AG _ _ (OV ht ?_);cases a with
 | true=>
  simp only [if_true,Option.some.injEq] at hv ⊢;subst hv;exact AG _ _ (Do ht (Ao q))
 | false=>
  simp only [Bool.false_eq_true,if_false] at hv ⊢;rw [hv];exact q
def UL(P:Program)(t:aV):Option (Nat×Bool×Nat):=match P.underlying t with
 | some (.array m e)=>(Bz P e).map λx=>(m,x.1,x.2)
 | _=>none
theorem Ml{t:aV}{x ix:Operand}{cs:Array aU}{kd:IntKind}{i:Int}{m n:Nat}{a:Bool}{v:aU}(ht:UL P t=some (m,a,n))(hx:AL O x=.agg cs)(hi:AL O ix=.int kd i)(h0:0<=i)(h1:i<m)
  (hv:(if a then some (.agg (cs.extract (i.toNat * n) (i.toNat * n+n))) else cs[i.toNat * n]?)=some v) (k:T (putS O dst v) ds h):BS E ⟨dst,.index t x ix,ty,pos,af,gd⟩ O ds h T:=by
 unfold BS execOp;simp only [hx,hi];refine FE ?_;unfold UL at ht;unfold Instr.index;cases c:P.underlying t with
 | none=>rw [c] at ht;cases ht
 | some d=>
  rw [c] at ht;refine AG _ _ (Ao ?_);refine AG _ _ (Ak c ?_);cases d <;> first | (cases ht;done) | skip
  rename_i f e
  simp only [Option.map_eq_some_iff,Prod.mk.injEq] at ht;obtain ⟨g,b,rfl,rfl,rfl⟩:=ht;dsimp only;rw [aT ⟨h0,h1⟩];refine AG _ _ (Do b ?_);exact YY b hv k
theorem ok_copy{s x:aV}{o1 o2:Operand}{b off dl cap n:Nat}{e:aV}{enc:U->Array aU}{ys:List U}{w:aU}{c:Array aU}(ht:Dl P s=some n)(h1:AL O o1=.slice (some ⟨b,off,none⟩) dl cap)(h2:AL O o2=w)
  (hb:h b=some (true,.cells c e (0,0))) (hn:off+dl*n<=c.size) (hw:AD h w n enc ys) (hl:ys.length<=dl) (hfine:∀y ∈ ys,(enc y).toList.all (·.oneCell')=true) (hsz:∀y ∈ ys,(enc y).size=n)
  (k:T (putS O dst (.int .i64 ys.length)) ds (h.set b true (.cells (BV c off (C7 enc ys)) e (0,0)))) :
  BS E ⟨dst,.call ⟨.builtin .copy,#[o1,o2],#[s,x]⟩,ty,pos,af,gd⟩ O ds h T:=by
 refine FS (vs:=#[.slice (some ⟨b,off,none⟩) dl cap,w]) (s:=Builtin.copy_ #[s,x] ty #[.slice (some ⟨b,off,none⟩) dl cap,w]) (by simp [h1,h2]) (λ_=>rfl) ?_;unfold Dl at ht;cases i:P.underlying s with
 | none=>rw [i] at ht;cases ht
 | some d=>
 rw [i] at ht;cases d <;> first | (cases ht;done) | skip
 rename_i t
 simp only at ht;have j:=hw;obtain ⟨u,wcap,rfl,m,o,wall⟩:=j;unfold Builtin.copy_;simp only [List.getElem?_toArray,List.getElem?_cons_zero,List.getElem?_cons_succ];refine AG _ _ (Ak i ?_);dsimp only;refine AG _ _ (UJ ?_);refine AG _ _ (GD ht ?_);have f:Nat.min ys.length dl=ys.length:=Nat.min_eq_left hl;rw [f];refine AG _ _ (GU hw ?_);have p:=EI hsz;have q:ys.length*n<=dl*n:=Nat.mul_le_mul_right n hl;refine AG _ _ (GT (a:=⟨b,off,none⟩) rfl _ 0 c h ?_ hb (by simp only [List.toList_toArray];omega) ?_)
 ·intro y g;simp only [List.toList_toArray] at g;unfold C7 at g;rw [List.mem_flatMap] at g;obtain ⟨a,r,l⟩:=g;exact List.all_eq_true.1 (hfine a r) y l
 ·refine Ao ?_;simpa [goInt] using k
end
end Go.Ns
namespace Go.Ns
open Go.Conc
section
variable {P:Program} {E:F8 P} {O:Nat->aU} {ds:List Deferred} {h:V} {T:(Nat->aU)->List Deferred->V->Prop}
variable {dst:Option Nat} {ty:aV} {pos:String} {af:Array Edge} {gd:Option (Nat×Bool)}
def HQ(P:Program)(t:aV)(cs:Array aU)(off:Nat):Option aU:=match Bz P t with
 | some (true,n)=>some (.agg (cs.extract off (off+n)))
 | some (false,_)=>cs[off]?
 | none=>none
def Is:List (Option Bool)->Option Bool
 | []=>some true
 | some b ::l=>match Is l with
  | some c=>some (b && c)
  | none=>none
 | none ::_=>none
def Mm(P:Program):Nat->aV->aU->aU->Option Bool
 | 0,_,_,_=>none
 | d+1,t,x,y=>match P.underlying t,x,y with
  | some .bool,.bool a,.bool b=>some (a==b)
  | some (.int _),.int k a,.int k' b=>if k=k' then some (a==b) else none
  | some .string,.string a,.string b=>some (a==b)
  | some (.struct fields),.agg xs,.agg ys=>if P.stoodInHeld t then none else
   Is (fields.toList.map λf=>if f.name≠ "_" then match HQ P f.type xs f.offset,HQ P f.type ys f.offset with
    | some u,some v=>Mm P d f.type u v
    | _,_=>none else some true)
  | some (.array len e),.agg xs,.agg ys=>match Bz P e with
   | some (_,n)=>Is ((List.range' 0 len).map λi=>match HQ P e xs (i*n),HQ P e ys (i*n) with
    | some u,some v=>Mm P d e u v
    | _,_=>none)
   | none=>none
  | _,_,_=>none
theorem HR{t:aV}{cs:Array aU}{off:Nat}{v:aU}{h:V}{Q:aU->V->Prop}(e:HQ P t cs off=some v)(q:Q v h):(part t cs off).gh P h Q:=by
 unfold HQ at e;cases b:Bz P t with
 | none=>rw [b] at e;cases e
 | some x=>
  obtain ⟨a,n⟩:=x;rw [b] at e;refine YY b ?_ q;cases a <;> simpa using e
theorem UM{U:Type}{h:V}(body:U->Option Bool×Unit->Sem (ForInStep (Option Bool×Unit)))(f:U->Option Bool)
  (hb:∀a r (Q:ForInStep (Option Bool×Unit)->V->Prop),f a=some r->Q (if r then .yield (none,()) else .done (some false,())) h->(body a (none,())).gh P h Q) :
  ∀(l:List U)(r:Bool)(Q:Option Bool×Unit->V->Prop),Is (l.map f)=some r->Q (if r then (none,()) else (some false,())) h->(forIn l ((none,()):Option Bool×Unit) body).gh P h Q:=by
 intro l
 induction l with
 | nil=>intro r Q e q;simp [Is] at e;subst e;exact q
 | cons a l i=>
  intro r Q e q;rw [List.forIn_cons];rw [List.map_cons] at e;cases d:f a with
  | none=>rw [d] at e;cases e
  | some b=>
   rw [d] at e;simp only [Is] at e;cases g:Is (l.map f) with
   | none=>rw [g] at e;cases e
   | some c=>
    rw [g] at e;simp only [Option.some.injEq] at e;refine AG _ _ (hb a b _ d ?_);cases b with
    | true=>
     simp only [Bool.true_and] at e;subst e;exact i c Q g q
    | false=>
     simp only [Bool.false_and] at e;subst e;exact q
theorem It:∀(d D:Nat)(t:aV)(x y:aU)(r:Bool)(h:V)(Q:Bool->V->Prop),d<=D->Mm P d t x y=some r->Q r h->(Op.equalIn D t x y).gh P h Q:=by
 intro d
 induction d with
 | zero=>intro D t x y r h Q _ e;cases e
 | succ d ih=>
  intro D t x y r h Q hD e q;obtain ⟨D,rfl⟩:∃D',D=D'+1:=⟨D-1,Y⟩;unfold Mm at e;unfold Op.equalIn;cases hu:P.underlying t with
  | none=>rw [hu] at e;cases e
  | some ty=>
   rw [hu] at e;refine AG _ _ (Ak hu ?_);cases ty with
   | bool=>cases x <;> first | (cases e;done) | (cases y <;> first | (cases e;done) | (cases e;exact q))
   | string=>cases x <;> first | (cases e;done) | (cases y <;> first | (cases e;done) | (cases e;exact q))
   | int k=>
    cases x <;> first | (cases e;done) | skip
    cases y <;> first | (cases e;done) | skip
    simp only at e;split at e
    ·rename_i hk
     cases e;show Sem.gh P (if _ then _ else _) h Q;rw [aT hk];exact q
    ·cases e
   | struct fields=>
    cases x <;> first | (cases e;done) | skip
    cases y <;> first | (cases e;done) | skip
    rename_i xs ys
    simp only at e;split at e
    ·cases e
    rename_i hst
    show Sem.gh P (bind program _) h Q;refine AG _ _ ?_;show Sem.gh P (if P.stoodInHeld t then _ else _) h Q;rw [aS hst];rw [<-Array.forIn_toList];refine AG _ _ (UM _ _ (λf b Q' hf q'=>?_) fields.toList r _ e ?_)
    ·by_cases hn:f.name≠ "_"
     ·rw [aT hn] at hf ⊢;cases h1:HQ P f.type xs f.offset with
      | none=>rw [h1] at hf;cases hf
      | some u=>
       cases h2:HQ P f.type ys f.offset with
       | none=>rw [h1,h2] at hf;cases hf
       | some v=>
        rw [h1,h2] at hf;refine AG _ _ (HR h1 ?_);refine AG _ _ (HR h2 ?_);refine AG _ _ (ih D f.type u v b h _ Y hf ?_);cases b <;> exact q'
     ·rw [aS hn] at hf ⊢;cases hf;exact q'
    ·cases r <;> exact q
   | array len el=>
    cases x <;> first | (cases e;done) | skip
    cases y <;> first | (cases e;done) | skip
    rename_i xs ys
    simp only at e;cases ht:Bz P el with
    | none=>rw [ht] at e;cases e
    | some z=>
     obtain ⟨a,n⟩:=z;rw [ht] at e;simp only at e;show Sem.gh P (bind (sizeOf el) _) h Q;refine AG _ _ (Do ht ?_);rw [Std.Legacy.Range.forIn_eq_forIn_range'];rw [show List.range' (Std.Legacy.Range.mk 0 len 1 aC).start (Std.Legacy.Range.mk 0 len 1 aC).size (Std.Legacy.Range.mk 0 len 1 aC).step=List.range' 0 len from by simp [Std.Legacy.Range.size]];refine AG _ _ (UM _ _ (λi b Q' hf q'=>?_) (List.range' 0 len) r _ e ?_)
     ·cases h1:HQ P el xs (i*n) with
      | none=>rw [h1] at hf;cases hf
      | some u=>
       cases h2:HQ P el ys (i*n) with
       | none=>rw [h1,h2] at hf;cases hf
       | some v=>
        rw [h1,h2] at hf;refine AG _ _ (HR h1 ?_);refine AG _ _ (HR h2 ?_);refine AG _ _ (ih D el u v b h _ Y hf ?_);cases b <;> exact q'
     ·cases r <;> exact q
   | _=>cases x <;> cases y <;> cases e
theorem NU{op:BinOp}{t:aV}{x y:Operand}{xs ys:Array aU}{h:V}{Q:Unit->V->Prop}(hg:P.eqGuardType P.depth t=false)(q:Q () h):(eqGuard op t x y (.agg xs) (.agg ys)).gh P h Q:=by
 have a:∀s,(do
   if !(<-program).eqGuardType (<-program).depth t then return
   if<-Op.eqGuardIn Op.maxDepth t (.agg xs) (.agg ys) then unsupported (.noEntry s):Sem Unit).gh P h Q:=by
  intro s;refine AG _ _ ?_;show Sem.gh P _ h _;refine AG _ _ ?_;show Sem.gh P (if !(P.eqGuardType P.depth t) then _ else _) h _;rw [hg];exact q
 unfold eqGuard;cases op <;> first | exact q | exact a _
theorem YZ{xt yt:aV}{x y:Operand}{xs ys:Array aU}{r:Bool}(d:Nat)(hd:Nat.ble d 10000=true)(hg:P.eqGuardType P.depth xt=false)(hx:AL O x=.agg xs)(hy:AL O y=.agg ys)(he:Mm P d xt (.agg xs) (.agg ys)=some r)
  (k:T (putS O dst (.bool r)) ds h):BS E ⟨dst,.binOp .eql xt x y yt,ty,pos,af,gd⟩ O ds h T:=by
 unfold BS execOp;simp only [hx,hy];refine FE (AG _ _ (NU hg ?_));show Sem.gh P (do pure (Value.bool (<-Op.equal xt (.agg xs) (.agg ys))):Sem aU) h _;refine AG _ _ ?_;exact It d _ _ _ _ r h _ (Nat.le_of_ble_eq_true hd) he k
theorem Sx{xt yt:aV}{x y:Operand}{xs ys:Array aU}{r:Bool}(d:Nat)(hd:Nat.ble d 10000=true)(hg:P.eqGuardType P.depth xt=false)(hx:AL O x=.agg xs)(hy:AL O y=.agg ys)(he:Mm P d xt (.agg xs) (.agg ys)=some r)
  (k:T (putS O dst (.bool (!r))) ds h):BS E ⟨dst,.binOp .neq xt x y yt,ty,pos,af,gd⟩ O ds h T:=by
 unfold BS execOp;simp only [hx,hy];refine FE (AG _ _ (NU hg ?_));show Sem.gh P (do pure (Value.bool (!(<-Op.equal xt (.agg xs) (.agg ys)))):Sem aU) h _;refine AG _ _ ?_;exact It d _ _ _ _ r h _ (Nat.le_of_ble_eq_true hd) he k
end
end Go.Ns
namespace Go.Ns
open Go.Conc
section
variable {P:Program} {E:F8 P} {O:Nat->aU} {ds:List Deferred} {h:V} {T:(Nat->aU)->List Deferred->V->Prop}
variable {dst:Option Nat} {ty:aV} {pos:String} {af:Array Edge} {gd:Option (Nat×Bool)}
def JV(f:aU->Bool):List MapEntry->Nat->Option (Nat×aU)
 | [],_=>none
 | e ::es,i=>if f e.key then some (i,e.val) else JV f es (i+1)
theorem UN{d:Nat}{t:aV}{ty:TypeDesc}{k v:aU}{b:Bool}(hu:P.underlying t=some ty)(e:Instr.sameNow ty k v=some b):Mm P (d+1) t k v=some b:=by
 unfold Mm;rw [hu];unfold Instr.sameNow at e;cases ty <;> first | (cases e;done) | skip
 all_goals (cases k <;> first | (cases e;done) | skip)
 all_goals (cases v <;> first | (cases e;done) | skip)
 all_goals exact e
theorem Og{d:Nat}{kt:aV}{ty:TypeDesc}{k:aU}{f:aU->Bool}{h:V}{Q:Option (Nat×aU)->V->Prop}{es:List MapEntry}(hu:P.underlying kt=some ty)(hd:Nat.ble (d+1) 10000=true)
  (hf:∀e ∈ es,Mm P (d+1) kt k e.key=some (f e.key)) (q:Q (JV f es 0) h):(Instr.findKey kt k es).gh P h Q:=by
 unfold Instr.findKey;refine AG _ _ (Ak hu ?_);have g:∀(es:List MapEntry)(i:Nat) r,(∀e ∈ es,Mm P (d+1) kt k e.key=some (f e.key))->Instr.findNow ty k es i=some r->r=JV f es i:=by
  intro es
  induction es with
  | nil=>intro i r _ e;cases e;rfl
  | cons a es j=>
   intro i r hf e;unfold Instr.findNow at e;have o:=hf a aD;cases l:Instr.sameNow ty k a.key with
   | none=>rw [l] at e;cases e
   | some b=>
    rw [l] at e
    have:=UN (d:=d) hu l
    rw [o] at this;cases this;unfold JV;cases c:f a.key with
    | true=>rw [c] at e;cases e;rfl
    | false=>rw [c] at e;exact j (i+1) r (λm n=>hf m (by simp [n])) e
 have asking:∀(es:List MapEntry)(i:Nat),(∀e ∈ es,Mm P (d+1) kt k e.key=some (f e.key))->Q (JV f es i) h->(Instr.findAsking kt k es i).gh P h Q:=by
  intro es
  induction es with
  | nil=>intro i _ q;exact q
  | cons a es j=>
   intro i hf q;unfold Instr.findAsking;refine AG _ _ (It (d+1) _ _ _ _ _ h _ (Nat.le_of_ble_eq_true hd) (hf a aD) ?_);unfold JV at q;cases c:f a.key with
   | true=>rw [c] at q;exact q
   | false=>rw [c] at q;exact j (i+1) (λm n=>hf m (by simp [n])) q
 cases p:Instr.findNow ty k es 0 with
 | none=>exact asking es 0 hf q
 | some r=>rw [g es 0 r hf p];exact q
def WI(P:Program):Nat->aV->aU->Bool
 | 0,_,_=>false
 | d+1,t,v=>match P.underlying t,v with
  | some (.interface _),_=>false
  | some (.array len e),.agg cs=>match Bz P e with
   | some (_,n)=>(List.range' 0 len).all λi=>match HQ P e cs (i*n) with
    | some u=>WI P d e u
    | none=>false
   | none=>false
  | some (.array _ _),_=>false
  | some (.struct fields),.agg cs=>fields.toList.all λf=>if f.name≠ "_" then match HQ P f.type cs f.offset with
   | some u=>WI P d f.type u
   | none=>false else true
  | some (.struct _),_=>false
  | some _,_=>true
  | none,_=>false
theorem Ya{U:Type}{h:V}(body:U->Unit->Sem (ForInStep Unit)):∀(l:List U)(Q:Unit->V->Prop),(∀a ∈ l,∀(Q:ForInStep Unit->V->Prop),Q (.yield ()) h->(body a ()).gh P h Q)->Q () h->(forIn l () body).gh P h Q:=by
 intro l
 induction l with
 | nil=>intro Q _ q;exact q
 | cons a l e=>
  intro Q d q;rw [List.forIn_cons];refine AG _ _ (d a aD _ ?_);exact e Q (λb c=>d b (by simp [c])) q
theorem NV:∀(d D:Nat)(emp:Bool)(t:aV)(v:aU)(h:V)(Q:Unit->V->Prop),d<=D->WI P d t v=true->Q () h->(Instr.checkKey emp D t v).gh P h Q:=by
 intro d
 induction d with
 | zero=>intro D emp t v h Q _ e;cases e
 | succ d ih=>
  intro D emp t v h Q hD e q;obtain ⟨D,rfl⟩:∃D',D=D'+1:=⟨D-1,Y⟩;unfold WI at e;unfold Instr.checkKey;cases hu:P.underlying t with
  | none=>rw [hu] at e;cases e
  | some ty=>
   rw [hu] at e;refine AG _ _ (Ak hu ?_);cases ty with
   | struct fields=>
    cases v <;> first | (cases e;done) | skip
    rename_i cs
    simp only [List.all_eq_true] at e;dsimp only;rw [<-Array.forIn_toList];refine AG _ _ (Ya _ _ _ (λf hf Q' q'=>?_) (Ao q))
    have:=e f hf
    by_cases hn:f.name≠ "_"
    ·rw [aT hn] at this;rw [aT hn];cases h1:HQ P f.type cs f.offset with
     | none=>rw [h1] at this;cases this
     | some u=>
      rw [h1] at this;refine AG _ _ (HR h1 ?_);exact AG _ _ (ih D emp f.type u h _ Y this q')
    ·rw [aS hn];exact q'
   | interface _=>cases e
   | array len el=>
    cases v <;> first | (cases e;done) | skip
    rename_i cs
    simp only at e;cases ht:Bz P el with
    | none=>rw [ht] at e;cases e
    | some g=>
     rw [ht] at e;obtain ⟨g,n⟩:=g;simp only [List.all_eq_true] at e;dsimp only;rw [Std.Legacy.Range.forIn_eq_forIn_range'];rw [show List.range' (Std.Legacy.Range.mk 0 len 1 aC).start (Std.Legacy.Range.mk 0 len 1 aC).size (Std.Legacy.Range.mk 0 len 1 aC).step=List.range' 0 len from by simp [Std.Legacy.Range.size]];refine AG _ _ (Ya _ _ _ (λi hi Q' q'=>?_) (Ao q))
     have:=e i hi
     cases h1:HQ P el cs (i*n) with
     | none=>rw [h1] at this;cases this
     | some u=>
      rw [h1] at this;refine AG _ _ (Do ht ?_);refine AG _ _ (HR h1 ?_);exact AG _ _ (ih D emp el u h _ Y this q')
   | _=>cases v <;> exact q
section
variable {κ ν:Type} [DecidableEq κ]
def MapAt(h:V)(r:Nat)(p:Bool)(ek:κ->aU)(ev:ν->aU)(aP:κ->Option ν):Prop:=
 ∃es clk,h r=some (p,.map es clk)/\∃l:List (κ×ν),es.toList.map (λe=>(e.key,e.val))=l.map (λx=>(ek x.1,ev x.2))/\∀a,aP a=l.lookup a
abbrev El(h:V)(r:Nat)(ek:κ->aU)(ev:ν->aU)(aP:κ->Option ν):Prop:=MapAt h r true ek ev aP
theorem K5{ek:κ->aU}{ev:ν->aU}{f:aU->Bool}{a:κ}(hf:∀b,f (ek b)=decide (a=b)):∀(es:List MapEntry)(l:List (κ×ν))(i:Nat),es.map (λe=>(e.key,e.val))=l.map (λx=>(ek x.1,ev x.2))->
  (JV f es i).map (·.2)=(l.lookup a).map ev/\(∀j v,JV f es i=some (j,v)->i<=j/\j<i+es.length/\(∀e,es[j-i]? =some e->e.key=ek a)/\
   ∀(x:ν),(es.modify (j-i) λe=>{ e with key:=ek a,val:=ev x }).map (λe=>(e.key,e.val))=(l.set (j-i) (a,x)).map (λy=>(ek y.1,ev y.2))/\∀b,(l.set (j-i) (a,x)).lookup b=if b=a then some x else l.lookup b):=by
 intro es
 induction es with
 | nil=>
  intro l i e;cases l with
  | nil=>exact ⟨rfl,λj v g=>by cases g⟩
  | cons x l=>simp at e
 | cons D es w=>
  intro l i e;cases l with
  | nil=>simp at e
  | cons x l=>
   obtain ⟨k,F⟩:=x;simp only [List.map_cons,List.cons.injEq,Prod.mk.injEq] at e;obtain ⟨⟨n,s⟩,t⟩:=e;obtain ⟨o,p⟩:=w l (i+1) t;unfold JV;by_cases c:a=k
   ·subst c;rw [n,hf a];simp only [decide_true,if_true];refine ⟨by simp [s],λj v g=>?_⟩;cases g;refine ⟨Nat.le_refl _,aD,?_,λy=>?_⟩
    ·intro e m;simp at m;subst m;exact n
    ·rw [Nat.sub_self];refine ⟨by simp [t],λb=>?_⟩;simp only [List.set_cons_zero,List.lookup_cons];by_cases d:b=a
     ·subst d;simp
     ·have:(b==a)=false:=by simpa using d
      simp [d,this]
   ·rw [n,hf k];simp only [c,decide_false,Bool.false_eq_true,if_false];have r:(a==k)=false:=by simpa using c
    refine ⟨by rw [o,List.lookup_cons,r],λj v g=>?_⟩;obtain ⟨H,K,z,A⟩:=p j v g;have u:j-i=(j-(i+1))+1:=Y
    refine ⟨Y,by simp;omega,?_,λy=>?_⟩
    ·intro e m;rw [u] at m;exact z e (by simpa using m)
    ·rw [u];obtain ⟨B,C⟩:=A y;refine ⟨by simp [List.modify_succ_cons,n,s,B],λb=>?_⟩;simp only [List.set_cons_succ,List.lookup_cons];rw [C b];by_cases d:b=k
     ·subst d
      have:¬b=a:=λq=>c q.symm
      simp [this]
     ·have:(b==k)=false:=by simpa using d
      simp [this]
theorem Oh{ek:κ->aU}{f:aU->Bool}{ev:ν->aU}{a:κ}(hf:∀b,f (ek b)=decide (a=b)){es:List MapEntry}{l:List (κ×ν)}(e:es.map (λe=>(e.key,e.val))=l.map (λx=>(ek x.1,ev x.2)))(hn:JV f es 0=none):l.lookup a=none:=by
 have:=(K5 hf es l 0 e).1
 rw [hn] at this;cases c:l.lookup a with
 | none=>rfl
 | some v=>rw [c] at this;cases this
def IQ(P:Program)(t:aV):Option (aV×aV):=match P.underlying t with
 | some (.map k v)=>if (P.underlying k).isSome then some (k,v) else none
 | _=>none
theorem Iu{t:aV}(k:∀r h',h r=none->h.Le h'->h' r=some (true,.map #[] 0)->(∀b,b≠r->h' b=h b)->T (putS O dst (.map (some r))) ds h'):BS E ⟨dst,.makeMap t none,ty,pos,af,gd⟩ O ds h T:=by
 unfold BS execOp;simp only [];refine FE ?_;unfold Instr.makeMap;refine AG _ _ (λr a=>?_);exact k r _ a (V.Le.new a _ _) (V.set_same _ _ _ _) λb c=>V.set_ne _ _ _ c
theorem El.empty{h:V}{r:Nat}{ek:κ->aU}{ev:ν->aU}(x:h r=some (true,.map #[] 0)):El h r ek ev (λ_=>none):=⟨_,_,x,[],rfl,λ_=>rfl⟩
theorem Mn{t kt vt:aV}{x ix:Operand}{ok pm:Bool}{r d:Nat}{ek:κ->aU}{ev:ν->aU}{aP:κ->Option ν}{a:κ}{z:aU}(ht:IQ P t=some (kt,vt))(hx:AL O x=.map (some r))(hk:AL O ix=ek a)(hm:MapAt h r pm ek ev aP)(hd:Nat.ble (d+1) 10000=true)
  (hc:WI P (d+1) kt (ek a)=true) (he:∀b,Mm P (d+1) kt (ek a) (ek b)=some (decide (a=b))) (hz:(P.info? vt).bind (·.zero)=some z)
  (k:T (putS O dst (if ok then .tuple #[((aP a).map ev).getD z,.bool (aP a).isSome] else ((aP a).map ev).getD z)) ds h):BS E ⟨dst,.lookup t x ix ok,ty,pos,af,gd⟩ O ds h T:=by
 obtain ⟨q,F,H,l,s,D⟩:=hm;unfold IQ at ht;cases u:P.underlying t with
 | none=>rw [u] at ht;cases ht
 | some K=>
 rw [u] at ht;cases K <;> first | (cases ht;done) | skip
 rename_i n w
 simp only at ht;split at ht
 rotate_left
 ·cases ht
 rename_i hsome
 simp only [Option.some.injEq,Prod.mk.injEq] at ht;obtain ⟨rfl,rfl⟩:=ht;obtain ⟨N,o⟩:=Option.isSome_iff_exists.1 hsome;let f:aU->Bool:=λv=>(Mm P (d+1) n (ek a) v).getD false;have A:∀b,f (ek b)=decide (a=b):=λb=>by simp [f,he b]
 have c:∀e ∈ q.toList,∃b v,e.key=ek b/\e.val=ev v:=λe c=>by
  have:(e.key,e.val) ∈ l.map (λx=>(ek x.1,ev x.2)):=by rw [<-s];exact List.mem_map.2 ⟨e,c,rfl⟩
  obtain ⟨x,_,m⟩:=List.mem_map.1 this;simp only [Prod.mk.injEq] at m;exact ⟨x.1,x.2,m.1.symm,m.2.symm⟩
 have B:∀e ∈ q.toList,Mm P (d+1) n (ek a) e.key=some (f e.key):=λe hm=>by
  obtain ⟨b,v,Q,_⟩:=c e hm;rw [Q,A,he]
 unfold BS execOp;simp only [hx,hk];refine FE ?_;unfold Instr.lookup;refine AG _ _ (Ak u ?_);dsimp only;refine AG _ _ ⟨pm,_,H,rfl,rfl,?_⟩;refine AG _ _ (Ao ?_);refine AG _ _ (NV (d+1) 10000 _ _ _ h _ (Nat.le_of_ble_eq_true hd) hc ?_);refine AG _ _ (Og (d:=d) (f:=f) o hd B ?_);have g:=(K5 A q.toList l 0 s).1;cases p:JV f q.toList 0 with
 | none=>
  have:=Oh A s p
  rw [D,this] at k;dsimp only;refine AG _ _ (AG _ _ ?_);cases C:P.info? w with
  | none=>rw [C] at hz;cases hz
  | some i=>
   rw [C] at hz;simp only [Option.bind_some] at hz;refine Cy C ?_;rw [hz];refine Ao ?_;cases ok <;> exact k
 | some y=>
  obtain ⟨j,v⟩:=y;rw [p] at g;rw [D,<-g] at k;dsimp only;refine AG _ _ (Ao ?_);have R:(l.lookup a).isSome=true:=by
   cases S:l.lookup a with
   | none=>rw [S] at g;cases g
   | some _=>rfl
  rw [R] at k;cases ok <;> exact k
theorem El.le_other{h h':V}{r:Nat}{ek:κ->aU}{ev:ν->aU}{aP:κ->Option ν}(x:El h r ek ev aP)(e:h' r=h r):El h' r ek ev aP:=by
 obtain ⟨b,a,c,y⟩:=x;exact ⟨b,a,e.trans c,y⟩
theorem Iv{t kt vt:aV}{om ok ox:Operand}{r d:Nat}{ek:κ->aU}{ev:ν->aU}{aP:κ->Option ν}{a:κ}{v:ν}(ht:IQ P t=some (kt,vt))(hm':AL O om=.map (some r))(hk:AL O ok=ek a)(hv:AL O ox=ev v)(hm:El h r ek ev aP)(hd:Nat.ble (d+1) 10000=true)
  (hc:WI P (d+1) kt (ek a)=true) (he:∀b,Mm P (d+1) kt (ek a) (ek b)=some (decide (a=b))) (hs:Instr.sameBits 10000 (ek a) (ek a)=true)
  (k:∀h',El h' r ek ev (λb=>if b=a then some v else aP b)->(∀b,b≠r->h' b=h b)->T (putS O dst undef) ds h'):BS E ⟨dst,.mapUpdate t om ok ox,ty,pos,af,gd⟩ O ds h T:=by
 obtain ⟨c,Q,z,l,w,F⟩:=hm;unfold IQ at ht;cases A:P.underlying t with
 | none=>rw [A] at ht;cases ht
 | some R=>
 rw [A] at ht;cases R <;> first | (cases ht;done) | skip
 rename_i m S
 simp only at ht;split at ht
 rotate_left
 ·cases ht
 rename_i hsome
 simp only [Option.some.injEq,Prod.mk.injEq] at ht;obtain ⟨rfl,rfl⟩:=ht;obtain ⟨U,n⟩:=Option.isSome_iff_exists.1 hsome;let f:aU->Bool:=λv=>(Mm P (d+1) m (ek a) v).getD false;have B:∀b,f (ek b)=decide (a=b):=λb=>by simp [f,he b]
 have C:∀e ∈ c.toList,Mm P (d+1) m (ek a) e.key=some (f e.key):=λe o=>by
  have:(e.key,e.val) ∈ l.map (λx=>(ek x.1,ev x.2)):=by rw [<-w];exact List.mem_map.2 ⟨e,o,rfl⟩
  obtain ⟨x,_,p⟩:=List.mem_map.1 this;simp only [Prod.mk.injEq] at p;rw [<-p.1,B,he]
 unfold BS execOp;simp only [hm',hk,hv];refine gh_u ?_;unfold Instr.mapUpdate;refine AG _ _ (Ak A ?_);dsimp only;refine AG _ _ ⟨true,_,z,rfl,rfl,?_⟩;refine AG _ _ (NV (d+1) 10000 _ _ _ h _ (Nat.le_of_ble_eq_true hd) hc ?_);refine AG _ _ (Og (d:=d) (f:=f) n hd C ?_);obtain ⟨s1,W⟩:=K5 B c.toList l 0 w;cases q:JV f c.toList 0 with
 | none=>
  have D:=Oh B w q;dsimp only;refine ⟨_,z,rfl,rfl,rfl,?_⟩;refine Ao (k _ ⟨_,_,V.set_same _ _ _ _,l++[(a,v)],by simp [w],λb=>?_⟩ (λb g=>V.set_ne _ _ _ g));show (if b=a then some v else aP b)=_;by_cases i:b=a
  ·subst i;simp only [if_true];rw [List.lookup_append,D];simp
  ·rw [aS i,F,List.lookup_append]
   have:(b==a)=false:=by simpa using i
   simp [List.lookup,this]
 | some y=>
  obtain ⟨j,u⟩:=y;obtain ⟨g1,X,H,g4⟩:=W j u q;obtain ⟨K,N⟩:=g4 v;rw [Nat.sub_zero] at H K N;have hj:j<c.size:=by simpa using X
  have s:((c[j]?).map (·.key)).getD (ek a)=ek a:=by
   have:c[j]? =c.toList[j]? :=aD
   rw [this];cases hq:c.toList[j]? with
   | none=>rfl
   | some e=>simp [H e hq]
  dsimp only;rw [s];refine AG _ _ ?_;unfold Instr.keyThatStays;rw [aT hs];refine Ao ?_;refine ⟨_,z,rfl,rfl,rfl,?_⟩;refine Ao (k _ ⟨_,_,V.set_same _ _ _ _,l.set j (a,v),?_,λb=>?_⟩ (λb g=>V.set_ne _ _ _ g))
  ·rw [Array.toList_modify];exact K
  ·show (if b=a then some v else aP b)=_;rw [N b,F b]
end
end
end Go.Ns
