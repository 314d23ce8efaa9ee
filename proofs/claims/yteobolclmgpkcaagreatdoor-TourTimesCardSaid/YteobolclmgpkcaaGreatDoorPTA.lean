/- Rules and walks, part 1 of 7. No conditions. -/
import Derived.Conc.Beside
import Derived.Conc.CrowdBase
import Derived.Conc.CrowdComm
import Derived.Conc.Own2
import Derived.Conc.Own3
import Derived.Conc.RecvAny
import Derived.IntWalk
import Derived.KernelRfl
import Derived.Orders
import Derived.StepT
set_option linter.unusedVariables false
set_option linter.unusedSimpArgs false
set_option linter.unnecessarySimpa false
set_option linter.unusedSectionVars false
set_option linter.constructorNameAsVariable false
namespace Go.Ns
open Go.Conc
theorem bU.{u}{c:Prop}{d:Decidable c}(h:¬c){α:Sort u}{a b:α}:@ite α c d a b=b:=if_neg h
theorem bV.{u}{c:Prop}{d:Decidable c}(h:c){α:Sort u}{a b:α}:@ite α c d a b=a:=if_pos h
abbrev bW:=Value
abbrev bX:=TypeId
abbrev bY:=ByteArray
theorem O{p:Prop}(h:p:=by omega):p:=h
theorem aE{p:Prop}(h:p:=by kernel_rfl):p:=h
theorem aF{p:Prop}(h:p:=by decide):p:=h
theorem aG{p:Prop}(h:p:=by simp):p:=h
theorem aH{p:Prop}(h:p:=by ((try simp only [Array.size_setIfInBounds]);omega)):p:=h
theorem aI{p:Prop}(h:p:=by simp_all):p:=h
theorem aJ{p:Prop}(h:p:=by assumption):p:=h
theorem aK{p:Prop}(h:p:=by simp <;> omega):p:=h
theorem aL{p:Prop}(h:p:=by intro x hx;rfl):p:=h
theorem aM{p:Prop}(h:p:=by intro y hy;rfl):p:=h
theorem aN{p:Prop}(h:p:=by (intro j hj;omega)):p:=h
theorem aO{p:Prop}(h:p:=by simp only [List.length_singleton,List.length_nil];omega):p:=h
theorem aP{p:Prop}(h:p:=by (try simp only [Array.size_setIfInBounds]);omega):p:=h
abbrev A:=Nat->Option (Bool×Obj)
def A.set(h:A)(r:Nat)(p:Bool)(o:Obj):A:=λb=>if b=r then some (p,o) else h b
theorem A.set_same(h:A)(r:Nat)(p:Bool)(o:Obj):h.set r p o r=some (p,o):=by simp [A.set]
theorem A.set_ne(h:A){r b:Nat}(p:Bool)(o:Obj)(hb:b≠r):h.set r p o b=h b:=by simp [A.set,hb]
def LR:Obj->Bool:=λ_=>false
def A.Le(h h':A):Prop:=∀b p o,h b=some (p,o)->∃o',h' b=some (p,o')/\(o'=o\/(LR o=true/\LR o'=true))
theorem A.Le.keep{h h':A}(l:h.Le h'){b:Nat}{p:Bool}{o:Obj}(hb:h b=some (p,o))(ho:LR o=false):h' b=some (p,o):=by
 obtain ⟨d,c,rfl | ⟨a,_⟩⟩:=l _ _ _ hb
 ·exact c
 ·rw [ho] at a;cases a
theorem A.Le.refl(h:A):h.Le h:=λ_ _ o x=>⟨o,x,.inl rfl⟩
theorem A.Le.trans{a b c:A}(h:a.Le b)(h':b.Le c):a.Le c:=λ_ _ _ x=>by
 obtain ⟨g,d,h2⟩:=h _ _ _ x;obtain ⟨e,f,h4⟩:=h' _ _ _ d;refine ⟨e,f,?_⟩;rcases h2 with rfl | h2
 ·exact h4
 ·rcases h4 with rfl | h4
  ·exact .inr h2
  ·exact .inr ⟨h2.1,h4.2⟩
theorem A.ne_of{h:A}{b r:Nat}{p:Bool}{o:Obj}(hb:h b=some (p,o))(hr:h r=none):b≠r:=by
 intro e;subst e;rw [hr] at hb;cases hb
theorem A.Le.new{h:A}{r:Nat}(hr:h r=none)(p:Bool)(o:Obj):h.Le (h.set r p o):=λb q x a=>by
 rw [A.set_ne h p o (A.ne_of a hr)];exact ⟨x,a,.inl rfl⟩
def FJ(w:World)(h:A):Prop:=∀b p o,h b=some (p,o)->w.heap[b]? =some o
theorem FJ.lt{w:World}{h:A}(f:FJ w h){b:Nat}{p:Bool}{o:Obj}(hb:h b=some (p,o)):b<w.heap.size:=by
 have:=f b p o hb
 rcases Nat.lt_or_ge b w.heap.size with x | x
 ·exact x
 ·rw [Array.getElem?_eq_none x] at this;cases this
theorem FJ.fresh{w:World}{h:A}(f:FJ w h):h w.heap.size=none:=by
 cases a:h w.heap.size with
 | none=>rfl
 | some x=>exact absurd (f.lt (p:=x.1) (o:=x.2) a) (Nat.lt_irrefl _)
def WL(h:A)(n:Nat)(b:Nat)(wr:Bool):Prop:=(∃p o,h b=some (p,o)/\o.isChan=false/\(wr=true->p=true))\/n<=b
def Dm:Loc->Option Nat
 | .cell a=>some a.block
 | .obj r=>some r
 | _=>none
def Xx(h:A)(n:Nat)(e:Event):Prop:=
 e.sync=false/\match e.loc with
  | .cell a=>WL h n a.block e.write
  | .obj r=>WL h n r e.write
  | _=>False
def EvOK(h:A)(n:Nat)(e:Event):Prop:=Xx h n e\/e=⟨.mark .noRoom,false,true⟩
structure CR(h:A)(w:World)(es:Array Event)(h':A)(w':World):Prop where
 fits0:FJ w h
 fits:FJ w' h'
 frame:∀b,b<w.heap.size->(∀o,h b≠some (true,o))->w'.heap[b]? =w.heap[b]?
 size:w.heap.size<=w'.heap.size
 os:w'.os=w.os
 out:w'.output=w.output
 own:∀b o,h' b=some (true,o)->(∃o',h b=some (true,o'))\/w.heap.size<=b
 ro:∀b o,h' b=some (false,o)->h b=some (false,o)
 keep:∀b p o o',h b=some (true,o')->o'.isChan=true->h' b=some (p,o)->o=o'
 chn:∀b p o,h' b=some (p,o)->o.isChan=true->h b=some (p,o)\/(w.heap.size<=b/\∀e ∈ es,Dm e.loc≠some b)
 evb:∀e ∈ es,∀b,Dm e.loc=some b->b<w'.heap.size
 evs:∀e ∈ es,EvOK h w.heap.size e
theorem CR.refl{h:A}{w:World}(f:FJ w h):CR h w #[] h w where
 fits0:=f
 fits:=f
 frame:=λ_ _ _=>rfl
 size:=Nat.le_refl _
 os:=rfl
 out:=rfl
 own:=λ_ o x=>.inl ⟨o,x⟩
 ro:=λ_ _ x=>x
 keep:=λ_ _ _ _ x _ y=>by rw [x] at y;cases y;rfl
 chn:=λ_ _ _ x _=>.inl x
 evb:=λe a=>by simp at a
 evs:=λe a=>by simp at a
theorem CR.look{h:A}{w:World}(f:FJ w h){es:Array Event}(hb:∀e ∈ es,∀b,Dm e.loc=some b->b<w.heap.size)(hes:∀e ∈ es,EvOK h w.heap.size e):CR h w es h w where
 fits0:=f
 fits:=f
 frame:=λ_ _ _=>rfl
 size:=Nat.le_refl _
 os:=rfl
 out:=rfl
 own:=λ_ o x=>.inl ⟨o,x⟩
 ro:=λ_ _ x=>x
 keep:=λ_ _ _ _ x _ y=>by rw [x] at y;cases y;rfl
 chn:=λ_ _ _ x _=>.inl x
 evb:=hb
 evs:=hes
theorem CR.drew{h:A}{w:World}(f:FJ w h)(d:Nat):CR h w #[] h { w with drawn:=d } where
 fits0:=f
 fits:=f
 frame:=λ_ _ _=>rfl
 size:=Nat.le_refl _
 os:=rfl
 out:=rfl
 own:=λ_ o x=>.inl ⟨o,x⟩
 ro:=λ_ _ x=>x
 keep:=λ_ _ _ _ x _ y=>by rw [x] at y;cases y;rfl
 chn:=λ_ _ _ x _=>.inl x
 evb:=λe a=>by simp at a
 evs:=λe a=>by simp at a
theorem WL.mono{h h':A}{w:World}{n:Nat}{b:Nat}{wr:Bool}(hn:w.heap.size<=n)
  (own:∀b o,h' b=some (true,o)->(∃o',h b=some (true,o'))\/w.heap.size<=b) (ro:∀b o,h' b=some (false,o)->h b=some (false,o))
  (keep:∀b p o o',h b=some (true,o')->o'.isChan=true->h' b=some (p,o)->o=o') (hb:WL h' n b wr):WL h w.heap.size b wr:=by
 rcases hb with ⟨p,o,x,c,y⟩ | x
 ·cases p with
  | true=>
   rcases own b o x with ⟨o',z⟩ | z
   ·refine .inl ⟨true,o',z,?_,λ_=>rfl⟩;cases a:o'.isChan with
    | false=>rfl
    | true=>have:=keep b _ _ o' z a x;subst this;rw [a] at c;cases c
   ·exact .inr z
  | false=>exact .inl ⟨false,o,ro b o x,c,y⟩
 ·exact .inr (Nat.le_trans hn x)
theorem EvOK.mono{h h':A}{w:World}{n:Nat}{e:Event}(hn:w.heap.size<=n)
  (own:∀b o,h' b=some (true,o)->(∃o',h b=some (true,o'))\/w.heap.size<=b) (ro:∀b o,h' b=some (false,o)->h b=some (false,o))
  (keep:∀b p o o',h b=some (true,o')->o'.isChan=true->h' b=some (p,o)->o=o') (he:EvOK h' n e):EvOK h w.heap.size e:=by
 rcases he with he | he
 case inr=>exact .inr he
 left;obtain ⟨d,he⟩:=he;refine ⟨d,?_⟩;cases c:e.loc with
 | cell a=>rw [c] at he;exact WL.mono hn own ro keep he
 | obj r=>rw [c] at he;exact WL.mono hn own ro keep he
 | output=>rw [c] at he;exact he
 | goroutines=>rw [c] at he;exact he
 | mark m=>rw [c] at he;exact he
theorem CR.trans{h h₁ h₂:A}{w w₁ w₂:World}{es es':Array Event}(a:CR h w es h₁ w₁)(b:CR h₁ w₁ es' h₂ w₂):CR h w (es++es') h₂ w₂ where
 fits0:=a.fits0
 fits:=b.fits
 frame:=λr l n=>by
  have d:∀o,h₁ r≠some (true,o):=λo x=>by
   rcases a.own r o x with ⟨i,y⟩ | y
   ·exact n i y
   ·exact absurd l (Nat.not_lt.2 y)
  rw [b.frame r (Nat.lt_of_lt_of_le l a.size) d,a.frame r l n]
 size:=Nat.le_trans a.size b.size
 os:=b.os.trans a.os
 out:=b.out.trans a.out
 own:=λr o x=>by
  rcases b.own r o x with ⟨i,y⟩ | y
  ·exact a.own r i y
  ·exact .inr (Nat.le_trans a.size y)
 ro:=λr o x=>a.ro r o (b.ro r o x)
 keep:=λr p o i x y z=>by
  have d:∃q j,h₁ r=some (q,j):=by
   cases p with
   | true=>
    rcases b.own r o z with ⟨I,y1⟩ | y1
    ·exact ⟨_,_,y1⟩
    ·exact absurd (Nat.le_trans a.size y1) (Nat.not_le.2 (a.fits0.lt x))
   | false=>exact ⟨_,_,b.ro r o z⟩
  obtain ⟨q,j,d⟩:=d;have D:=a.keep r q j i x y d;subst D;cases q with
  | true=>exact b.keep r p o j d y z
  | false=>have:=a.ro r j d;rw [x] at this;cases this
 chn:=λr p o x y=>by
  rcases b.chn r p o x y with z | ⟨s,E⟩
  ·rcases a.chn r p o z y with u | ⟨F,H⟩
   ·exact .inl u
   ·refine .inr ⟨F,λe g=>?_⟩;rcases Array.mem_append.1 g with v | v
    ·exact H e v
    ·intro c;have ev:=b.evs e v;have DL:∃t,WL h₁ w₁.heap.size r t:=by
      rcases ev with ev | ev
      case inr=>rw [ev] at c;cases c
      unfold Dm at c;have f:=ev.2;cases k:e.loc with
      | cell K=>rw [k] at c f;cases c;exact ⟨_,f⟩
      | obj M=>rw [k] at c f;cases c;exact ⟨_,f⟩
      | output=>rw [k] at c;cases c
      | goroutines=>rw [k] at c;cases c
      | mark m=>rw [k] at c;cases c
     obtain ⟨t,⟨N,i,d,C,_⟩ | hlt⟩:=DL
     ·rw [z] at d;cases d;rw [y] at C;cases C
     ·exact absurd (a.fits.lt z) (Nat.not_lt.2 hlt)
  ·refine .inr ⟨Nat.le_trans a.size s,λe g=>?_⟩;rcases Array.mem_append.1 g with v | v
   ·exact λc=>absurd (a.evb e v r c) (Nat.not_lt.2 s)
   ·exact E e v
 evb:=λe g r c=>by
  rcases Array.mem_append.1 g with x | x
  ·exact Nat.lt_of_lt_of_le (a.evb e x r c) b.size
  ·exact b.evb e x r c
 evs:=λe g=>by
  rcases Array.mem_append.1 g with x | x
  ·exact a.evs e x
  ·exact (b.evs e x).mono a.size a.own a.ro a.keep
theorem CR.new{h:A}{w:World}(f:FJ w h)(o:Obj):CR h w #[] (h.set w.heap.size true o) { w with heap:=w.heap.push o } where
 fits0:=f
 fits:=λb p x a=>by
  by_cases e:b=w.heap.size
  ·subst e;rw [A.set_same] at a;cases a;simp
  ·rw [A.set_ne h true o e] at a
   have:=f.lt a
   simp only [Array.getElem?_push];rw [bU e];exact f b p x a
 frame:=λb a _=>by
  simp only [Array.getElem?_push];rw [bU (Nat.ne_of_lt a)]
 size:=aG
 os:=rfl
 out:=rfl
 own:=λb x a=>by
  by_cases e:b=w.heap.size
  ·exact .inr (Nat.le_of_eq e.symm)
  ·rw [A.set_ne h true o e] at a;exact .inl ⟨x,a⟩
 ro:=λb x a=>by
  by_cases e:b=w.heap.size
  ·subst e;rw [A.set_same] at a;cases a
  ·rw [A.set_ne h true o e] at a;exact a
 keep:=λb p x g d _ a=>by
  have e:b≠w.heap.size:=Nat.ne_of_lt (f.lt d);rw [A.set_ne h true o e,d] at a;cases a;rfl
 chn:=λb p x a _=>by
  by_cases e:b=w.heap.size
  ·exact .inr ⟨Nat.le_of_eq e.symm,λe c=>by simp at c⟩
  ·rw [A.set_ne h true o e] at a;exact .inl a
 evb:=λe c=>by simp at c
 evs:=λe c=>by simp at c
theorem CR.turn{h:A}{w:World}(f:FJ w h){r:Nat}{o o':Obj}(hr:h r=some (true,o))(ho:o.isChan=false)(ho':o'.isChan=false){hp:Array Obj}(hsz:hp.size=w.heap.size)
  (hhere:hp[r]? =some o') (hother:∀b,b≠r->hp[b]? =w.heap[b]?) {es:Array Event} (hb:∀e ∈ es,∀b,Dm e.loc=some b->b<w.heap.size) (hes:∀e ∈ es,EvOK h w.heap.size e) :
  CR h w es (h.set r true o') { w with heap:=hp } where
 fits0:=f
 fits:=λb p x hb=>by
  by_cases e:b=r
  ·subst e;rw [A.set_same] at hb;cases hb;exact hhere
  ·rw [A.set_ne h true o' e] at hb;exact (hother b e).trans (f b p x hb)
 frame:=λb _ d=>hother b (λe=>d o (e▸hr))
 size:=Nat.le_of_eq hsz.symm
 os:=rfl
 out:=rfl
 own:=λb x hb=>by
  by_cases e:b=r
  ·subst e;exact .inl ⟨o,hr⟩
  ·rw [A.set_ne h true o' e] at hb;exact .inl ⟨x,hb⟩
 ro:=λb x hb=>by
  by_cases e:b=r
  ·subst e;rw [A.set_same] at hb;cases hb
  ·rw [A.set_ne h true o' e] at hb;exact hb
 keep:=λb p x j c a hb=>by
  have e:b≠r:=λe=>by subst e;rw [hr] at c;cases c;rw [ho] at a;cases a
  rw [A.set_ne h true o' e,c] at hb;cases hb;rfl
 chn:=λb p x hb a=>by
  by_cases e:b=r
  ·subst e;rw [A.set_same] at hb;cases hb;rw [ho'] at a;cases a
  ·rw [A.set_ne h true o' e] at hb;exact .inl hb
 evb:=λe g b i=>by rw [hsz];exact hb e g b i
 evs:=hes
def Obj.isCells:Obj->Bool
 | .cells .. =>true
 | _=>false
def frz(f:Nat×Nat)(o n:Nat):Nat×Nat:=if f.1==f.2 then (o,o+n) else (min f.1 o,max f.2 (o+n))
end Go.Ns
namespace Go
open Go.Conc Go.Ns
def Sem.gh{α:Type}(P:Program):Sem α->A->(α->A->Prop)->Prop
 | .pure a,h,Q=>Q a h
 | .load m a k,h,Q=>m=.plain/\a.spot=none/\∃p c t f v,h a.block=some (p,.cells c t f)/\c[a.off]? =some v/\(k v).gh P h Q
 | .store m a v k,h,Q=>m=.plain/\a.spot=none/\v.oneCell'=true/\∃c t f,h a.block=some (true,.cells c t f)/\a.off<c.size/\
   (f.1<=a.off && a.off<f.2)=false/\k.gh P (h.set a.block true (.cells (c.setIfInBounds a.off v) t f)) Q
 | .new o k,h,Q=>∀r,h r=none->(k r).gh P (h.set r true o) Q
 | .shape r k,h,Q=>∃p c t f,h r=some (p,.cells c t f)/\(k (some (t,c.size))).gh P h Q
 | .freeze a n k,h,Q=>(n=0/\k.gh P h Q)\/(n≠0/\∃c t f,h a.block=some (true,.cells c t f)/\k.gh P (h.set a.block true (.cells c t (frz f a.off n))) Q)
 | .frozen a k,h,Q=>∃p c t f,h a.block=some (p,.cells c t f)/\(k (f.1<=a.off && a.off<f.2)).gh P h Q
 | .getObj r k,h,Q=>∃p o,h r=some (p,o)/\Obj.isCells o=false/\o.isChan=false/\(k o).gh P h Q
 | .setObj r o k,h,Q=>∃o',h r=some (true,o')/\Obj.isCells o'=false/\o'.isChan=false/\o.isChan=false/\k.gh P (h.set r true o) Q
 | .choose q k,h,Q=>(q.forced=true->(k 0).gh P h Q)/\(q.forced=false->∀t,(k (q.cut t)).gh P h Q)
 | .program k,h,Q=>(k P).gh P h Q
 | .sys _ _,_,_=>False
 | .mark m k,h,Q=>m=.noRoom/\k.gh P h Q
 | .halt _,_,_=>False
end Go
namespace Go.Ns
open Go.Conc
theorem GO{α:Type}{P:Program}(e:Sem α){Q Q':α->A->Prop}(hq:∀a h,Q a h->Q' a h):∀h,e.gh P h Q->e.gh P h Q':=by
 induction e with
 | pure a=>intro h x;exact hq _ _ x
 | load m a k b=>rintro h ⟨j,l,p,c,t,f,v,g,d,z⟩;exact ⟨j,l,p,c,t,f,v,g,d,b v h z⟩
 | store m a v k b=>rintro h ⟨j,l,u,c,t,f,g,d,i,z⟩;exact ⟨j,l,u,c,t,f,g,d,i,b _ z⟩
 | new o k b=>intro h x r w;exact b r _ (x r w)
 | shape r k b=>rintro h ⟨p,c,t,f,y,z⟩;exact ⟨p,c,t,f,y,b _ h z⟩
 | freeze a n k b=>
  rintro h (⟨y,z⟩ | ⟨y,c,t,f,d,z⟩)
  ·exact .inl ⟨y,b h z⟩
  ·exact .inr ⟨y,c,t,f,d,b _ z⟩
 | frozen a k b=>rintro h ⟨p,c,t,f,y,z⟩;exact ⟨p,c,t,f,y,b _ h z⟩
 | getObj r k b=>rintro h ⟨p,o,g,d,i,z⟩;exact ⟨p,o,g,d,i,b _ h z⟩
 | setObj r o k b=>rintro h ⟨C,g,d,s,i,z⟩;exact ⟨C,g,d,s,i,b _ z⟩
 | choose q k b=>rintro h ⟨y,z⟩;exact ⟨λx=>b _ h (y x),λx t=>b _ h (z x t)⟩
 | sys c k b=>intro h x;exact x
 | program k b=>intro h x;exact b _ h x
 | mark m k b=>rintro h ⟨y,z⟩;exact ⟨y,b h z⟩
 | halt x=>intro h y;exact y
theorem gh_bind'{α β:Type}{P:Program}(e:Sem α)(f:α->Sem β){Q:β->A->Prop}:∀h,e.gh P h (λa h'=>(f a).gh P h' Q)->(e.bind f).gh P h Q:=by
 induction e with
 | pure a=>intro h x;exact x
 | load m a k b=>rintro h ⟨j,l,p,c,t,f,v,g,d,z⟩;exact ⟨j,l,p,c,t,f,v,g,d,b v h z⟩
 | store m a v k b=>rintro h ⟨j,l,u,c,t,f,g,d,i,z⟩;exact ⟨j,l,u,c,t,f,g,d,i,b _ z⟩
 | new o k b=>intro h x r w;exact b r _ (x r w)
 | shape r k b=>rintro h ⟨p,c,t,f,y,z⟩;exact ⟨p,c,t,f,y,b _ h z⟩
 | freeze a n k b=>
  rintro h (⟨y,z⟩ | ⟨y,c,t,f,d,z⟩)
  ·exact .inl ⟨y,b h z⟩
  ·exact .inr ⟨y,c,t,f,d,b _ z⟩
 | frozen a k b=>rintro h ⟨p,c,t,f,y,z⟩;exact ⟨p,c,t,f,y,b _ h z⟩
 | getObj r k b=>rintro h ⟨p,o,g,d,i,z⟩;exact ⟨p,o,g,d,i,b _ h z⟩
 | setObj r o k b=>rintro h ⟨C,g,d,s,i,z⟩;exact ⟨C,g,d,s,i,b _ z⟩
 | choose q k b=>rintro h ⟨y,z⟩;exact ⟨λx=>b _ h (y x),λx t=>b _ h (z x t)⟩
 | sys c k b=>intro h x;exact x
 | program k b=>intro h x;exact b _ h x
 | mark m k b=>rintro h ⟨y,z⟩;exact ⟨y,b h z⟩
 | halt x=>intro h y;exact y
theorem AI{α β:Type}{P:Program}(e:Sem α)(f:α->Sem β){h:A}{Q:β->A->Prop}(x:e.gh P h (λa h'=>(f a).gh P h' Q)):(e>>=f).gh P h Q:=gh_bind' e f h x
theorem BS{α:Type}{P:Program}{a:α}{h:A}{Q:α->A->Prop}(x:Q a h):(Pure.pure a:Sem α).gh P h Q:=x
theorem cell?_of_fits{w:World}{h:A}(f:FJ w h){a:Addr}{p:Bool}{c:Array bW}{t:bX}{z:Nat×Nat}{v:bW}(hs:a.spot=none)(hb:h a.block=some (p,.cells c t z))(hc:c[a.off]? =some v) :
  w.cell? a=some v:=by
 unfold World.cell?;rw [f _ _ _ hb];simp [hs,hc]
theorem frozen?_of_fits{w:World}{h:A}(f:FJ w h){a:Addr}{p:Bool}{c:Array bW}{t:bX}{z:Nat×Nat}(hb:h a.block=some (p,.cells c t z)) :
  w.frozen? a=(z.1<=a.off && a.off<z.2):=by
 unfold World.frozen?;rw [f _ _ _ hb]
theorem gh_sound{α:Type}{P:Program}(e:Sem α){Q:α->A->Prop}:∀(h₀ h:A) (w₀ w:World) (es:Array Event),CR h₀ w₀ es h w->e.gh P h Q->
  ∃a w' h' es',e.runT P w es=(.ok a w',es')/\CR h₀ w₀ es' h' w'/\Q a h':=by
 induction e with
 | pure a=>intro h₀ h w₀ w es s x;exact ⟨a,w,h,es,rfl,s,x⟩
 | load m a k l=>
  rintro h₀ h w₀ w es s ⟨rfl,R,p,c,t,f,v,u,H,z⟩;have W:=cell?_of_fits s.fits R u H;have D:CR h₀ w₀ (es.push ⟨.cell a,false,false⟩) h w:=by
   have:=s.trans (CR.look s.fits (es:=#[⟨.cell a,false,false⟩]) (λe d b E=>by simp at d;subst d;cases E;exact s.fits.lt u) (λe d=>by
    simp at d;subst d;exact .inl ⟨rfl,.inl ⟨p,_,u,rfl,λx=>by cases x⟩⟩))
   simpa using this
  obtain ⟨b,w',h',es',g,i,j⟩:=l v h₀ h w₀ w _ D z;exact ⟨b,w',h',es',by simp only [Sem.runT,W];exact g,i,j⟩
 | store m a v k l=>
  rintro h₀ h w₀ w es s ⟨rfl,R,x3,c,t,f,u,H,I,z⟩;have W:=cell?_of_fits s.fits R u (v:=c[a.off]) (by simp [H]);have X:=(frozen?_of_fits s.fits u).trans I;have F:=s.fits.lt u;have C:=s.fits _ _ _ u;have K:CR h w #[⟨.cell a,true,false⟩] (h.set a.block true (.cells (c.setIfInBounds a.off v) t f)) (w.setCell a v):=by
   refine CR.turn s.fits u rfl rfl aG ?_ ?_ (λe d b E=>by simp at d;subst d;cases E;exact F) ?_
   ·simp only [Array.getElem?_modify];simp [C,R]
   ·intro b M;simp only [Array.getElem?_modify];rw [bU (λe=>M e.symm)]
   ·intro e d;simp at d;subst d;exact .inl ⟨rfl,.inl ⟨true,_,u,rfl,λ_=>rfl⟩⟩
  have D:=s.trans K;obtain ⟨b,w',h',es',g,i,j⟩:=l h₀ _ w₀ _ _ D z;refine ⟨b,w',h',es',?_,i,j⟩;have Y:(es++ #[⟨.cell a,true,false⟩]:Array Event)=es.push ⟨.cell a,true,false⟩:=aG
  rw [Y] at g;cases v <;> first | (simp only [Value.oneCell'] at x3;cases x3;done) | (simp only [Sem.runT,W,X];exact g)
 | new o k l=>
  intro h₀ h w₀ w es s x;have D:=s.trans (CR.new s.fits o);obtain ⟨b,w',h',es',g,i,j⟩:=l w.heap.size h₀ _ w₀ _ _ D (x w.heap.size s.fits.fresh);exact ⟨b,w',h',es',by simp only [Sem.runT];simpa using g,i,j⟩
 | shape r k l=>
  rintro h₀ h w₀ w es s ⟨p,c,t,f,y,z⟩;have hs:w.shape? r=some (t,c.size):=by unfold World.shape?;rw [s.fits _ _ _ y]
  obtain ⟨b,w',h',es',g,i,j⟩:=l _ h₀ _ w₀ _ _ s z;exact ⟨b,w',h',es',by simp only [Sem.runT,hs];exact g,i,j⟩
 | freeze a n k l=>
  rintro h₀ h w₀ w es s (⟨rfl,z⟩ | ⟨hn,c,t,f,y,z⟩)
  ·obtain ⟨b,w',h',es',g,i,j⟩:=l h₀ _ w₀ _ _ s z;exact ⟨b,w',h',es',by simp only [Sem.runT,World.freeze];exact g,i,j⟩
  ·have C:=s.fits _ _ _ y;have K:CR h w #[] (h.set a.block true (.cells c t (frz f a.off n))) (w.freeze a n):=by
    unfold World.freeze;rw [bU hn];refine CR.turn s.fits y rfl rfl aG ?_ ?_ (λe d b E=>by simp at d) (λe d=>by simp at d)
    ·rw [Array.getElem?_modify];simp only [if_true,C,Option.map_some];obtain ⟨f1,f2⟩:=f;rfl
    ·intro b M;rw [Array.getElem?_modify,bU (λe=>M e.symm)]
   have D:=s.trans K;rw [Array.append_empty] at D;obtain ⟨b,w',h',es',g,i,j⟩:=l h₀ _ w₀ _ _ D z;exact ⟨b,w',h',es',by simp only [Sem.runT];exact g,i,j⟩
 | frozen a k l=>
  rintro h₀ h w₀ w es s ⟨p,c,t,f,y,z⟩;have X:=frozen?_of_fits s.fits y;obtain ⟨b,w',h',es',g,i,j⟩:=l _ h₀ _ w₀ _ _ s z;exact ⟨b,w',h',es',by simp only [Sem.runT,X];exact g,i,j⟩
 | getObj r k l=>
  rintro h₀ h w₀ w es s ⟨p,o,u,H,I,z⟩;have D:CR h₀ w₀ (es.push ⟨.obj r,false,false⟩) h w:=by
   have:=s.trans (CR.look s.fits (es:=#[⟨.obj r,false,false⟩]) (λe d b E=>by simp at d;subst d;cases E;exact s.fits.lt u) (λe d=>by
    simp at d;subst d;exact .inl ⟨rfl,.inl ⟨p,_,u,I,λx=>by cases x⟩⟩))
   simpa using this
  obtain ⟨b,w',h',es',g,i,j⟩:=l o h₀ _ w₀ _ _ D z;refine ⟨b,w',h',es',?_,i,j⟩;have hg:=s.fits _ _ _ u;simp only [Sem.runT,hg];cases o <;> first | (simp [Obj.isCells] at H;done) | (simp [Go.Obj.isChan] at I;done) | exact g
 | setObj r o k l=>
  rintro h₀ h w₀ w es s ⟨o',u,H,N,I,z⟩;have C:=s.fits _ _ _ u;have F:=s.fits.lt u;have K:CR h w #[⟨.obj r,true,false⟩] (h.set r true o) { w with heap:=w.heap.setIfInBounds r o }:=by
   refine CR.turn s.fits u N I aG ?_ ?_ (λe d b E=>by simp at d;subst d;cases E;exact F) ?_
   ·simp [F]
   ·intro b M;rw [Array.getElem?_setIfInBounds_ne (λe=>M e.symm)]
   ·intro e d;simp at d;subst d;exact .inl ⟨rfl,.inl ⟨true,_,u,N,λ_=>rfl⟩⟩
  have D:=s.trans K;obtain ⟨b,w',h',es',g,i,j⟩:=l h₀ _ w₀ _ _ D z;refine ⟨b,w',h',es',?_,i,j⟩;have Y:(es++ #[⟨.obj r,true,false⟩]:Array Event)=es.push ⟨.obj r,true,false⟩:=aG
  rw [Y] at g;simp only [Sem.runT,C];cases o' <;> first | (simp [Obj.isCells] at H;done) | (rw [I];exact g)
 | choose q k l=>
  rintro h₀ h w₀ w es s ⟨y,z⟩;cases V:q.forced with
  | true=>
   obtain ⟨b,w',h',es',g,i,j⟩:=l 0 h₀ _ w₀ _ _ s (y V);exact ⟨b,w',h',es',by simp only [Sem.runT,V];exact g,i,j⟩
  | false=>
   have D:=s.trans (CR.drew s.fits (w.drawn+1));obtain ⟨b,w',h',es',g,i,j⟩:=l _ h₀ _ w₀ _ _ D (z V (w.tape w.drawn q));exact ⟨b,w',h',es',by simp only [Sem.runT,V];simpa using g,i,j⟩
 | sys c k l=>intro h₀ h w₀ w es s x;exact x.elim
 | program k l=>
  intro h₀ h w₀ w es s x;obtain ⟨b,w',h',es',g,i,j⟩:=l P h₀ _ w₀ _ _ s x;exact ⟨b,w',h',es',by simp only [Sem.runT];exact g,i,j⟩
 | mark m k l=>
  rintro h₀ h w₀ w es s ⟨rfl,z⟩;have D:CR h₀ w₀ (es.push ⟨.mark .noRoom,false,true⟩) h w:=by
   have:=s.trans (CR.look s.fits (es:=#[⟨.mark .noRoom,false,true⟩]) (λe d b E=>by simp at d;subst d;cases E) (λe d=>by
    simp at d;subst d;exact .inr rfl))
   simpa using this
  obtain ⟨b,w',h',es',g,i,j⟩:=l h₀ _ w₀ _ _ D z;exact ⟨b,w',h',es',by simp only [Sem.runT];exact g,i,j⟩
 | halt x=>intro h₀ h w₀ w es s y;exact y.elim
theorem KO{α:Type}{P:Program}{e:Sem α}{Q:α->A->Prop}{h:A}{w:World}(f:FJ w h)(x:e.gh P h Q) :
  ∃a w' h' es,e.runT P w #[]=(.ok a w',es)/\CR h w es h' w'/\Q a h':=gh_sound e h h w w #[] (CR.refl f) x
end Go.Ns
namespace Go.Ns
open Go.Conc
def WM(P:Program)(main:Bool)(K:Goroutine->A->Prop):Prop:=
 ∀g h,g.status=.running->(∀w,FJ w h->∃g' w' es h',stepG P main g w=.go g' w' es/\CR h w es h' w'/\K g' h')->K g h
structure Wk(P:Program) where
 main:Bool
 K:Goroutine->A->Prop
 closed:WM P main K
section
variable {P:Program} {W:Wk P}
theorem Wk.move{fr fr':Frame}{cs cs':List Frame}{h:A}(hs:∀w,stepG P W.main (G fr cs) w=.go (G fr' cs') w)(hk:W.K (G fr' cs') h):W.K (G fr cs) h:=
 W.closed _ _ rfl λw f=>⟨_,w,#[],h,hs w,CR.refl f,hk⟩
theorem Wk.go{fr:Frame}(fr':Frame){cs:List Frame}{h:A}(hs:∀w,stepG P W.main (G fr cs) w=.go (G fr' cs) w)(hk:W.K (G fr' cs) h):W.K (G fr cs) h:=Wk.move hs hk
def DT(b:Frame)(t:Array bW)(ds:List Deferred)(todo:List Item):Frame:={ b with tmps:=t,todo:=todo,defers:=ds,mode:=.run }
def F2(b:Frame)(t:Array bW)(ds:List Deferred)(todo:List Item):Frame:={ b with tmps:=t,todo:=todo,defers:=ds,mode:=.returning }
def CE(t:Array bW)(N:Nat)(V:Nat->bW):Prop:=t.size=N/\∀i,t.getD i undef=V i
def upd(V:Nat->bW)(d:Nat)(v:bW):Nat->bW:=λi=>bif Nat.beq i d then v else V i
theorem upd_same(V:Nat->bW)(d:Nat)(v:bW):upd V d v d=v:=by simp [upd]
theorem upd_ne(V:Nat->bW){d i:Nat}(v:bW)(h:Nat.beq i d=false):upd V d v i=V i:=by simp [upd,h]
theorem CE.put{t:Array bW}{N:Nat}{V:Nat->bW}(s:CE t N V){d:Nat}(hd:Nat.blt d N=true)(v:bW):CE (t.setIfInBounds d v) N (upd V d v):=by
 refine ⟨by simp [s.1],λi=>?_⟩;have a:d<t.size:=by rw [s.1];exact Nat.blt_eq▸hd
 by_cases e:i=d
 ·subst e;rw [upd_same];simp [Array.getD_eq_getD_getElem?,a]
 ·have b:Nat.beq i d=false:=by
   cases c:Nat.beq i d with
   | false=>rfl
   | true=>exact absurd (Nat.eq_of_beq_eq_true c) e
  rw [upd_ne V v b,<-s.2 i];simp [Array.getD_eq_getD_getElem?,Array.getElem?_setIfInBounds_ne (λx=>e x.symm)]
def Ag(V:Nat->bW):Operand->bW
 | .tmp t=>V t
 | .const v=>v
 | .global g=>.pointer (some ⟨g,0,none⟩)
 | .func f=>.func (.func f) #[] #[]
theorem Nt{b:Frame}{t:Array bW}{ds:List Deferred}{k:List Item}{N:Nat}{V:Nat->bW}(s:CE t N V):(DT b t ds k).eval=Ag V:=by
 funext x;cases x with
 | tmp i=>exact s.2 i
 | const v=>rfl
 | global g=>rfl
 | func f=>rfl
abbrev Lv:=Option Code->Array bW->List Deferred->A->Prop
structure Nu(W:Wk P)(b:Frame)(cs:List Frame)(bM:Lv):Prop where
 stop:∀t ds h,bM none t ds h->W.K (G (DT b t ds []) cs) h
 ret:∀t ds h k,bM (some .ret) t ds h->W.K (G (DT b t ds (.code .ret ::k)) cs) h
 exit:∀id t ds h k,exitTo id k=none->bM (some (.exit id)) t ds h->W.K (G (DT b t ds (.code (.exit id) ::k)) cs) h
def D2(W:Wk P)(bM:Lv)(b:Frame)(k:List Item)(cs:List Frame):Exit->Array bW->List Deferred->A->Prop
 | .normal,t,ds,h=>W.K (G (DT b t ds k) cs) h
 | .exit id,t,ds,h=>match exitTo id k with
  | some k'=>W.K (G (DT b t ds k') cs) h
  | none=>bM (some (.exit id)) t ds h
 | .ret,t,ds,h=>bM (some .ret) t ds h
 | _,_,_,_=>False
theorem D2.push{bM:Lv}{b:Frame}{x:Item}{k:List Item}{cs:List Frame}{e:Exit}{t:Array bW}{ds:List Deferred}{h:A}(hx:x.plain=true)(he:e≠.normal)
  (a:D2 W bM b k cs e t ds h):D2 W bM b (x ::k) cs e t ds h:=by
 cases e with
 | normal=>exact absurd rfl he
 | exit id=>
  have:exitTo id (x ::k)=exitTo id k:=by cases x <;> simp_all [exitTo,Item.plain]
  simp only [D2,this] at a ⊢;exact a
 | ret=>exact a
 | goto l=>exact a
 | panic c=>exact a
 | outgrown=>exact a
structure Ho(P:Program) where
 wk:Wk P
 fn:FuncId
 rd:Option Nat
 N:Nat
abbrev Post:=Exit->(Nat->bW)->List Deferred->A->Prop
def Tr(E:Ho P)(c:Code)(V:Nat->bW)(ds:List Deferred)(h:A)(Q:Post):Prop:=
 ∀(b:Frame)(k:List Item)(cs:List Frame)(bM:Lv)(t:Array bW),b.fn=E.fn->b.roundOf=E.rd->Nu E.wk b cs bM->CE t E.N V->
  (∀e σ' ds' h',Q e σ' ds' h'->∀t',CE t' E.N σ'->D2 E.wk bM b k cs e t' ds' h')->E.wk.K (G (DT b t ds (.code c ::k)) cs) h
def Dy(E:Ho P)(ops:Array Oper)(l:List Oper)(V:Nat->bW)(ds:List Deferred)(h:A)(Q:Post):Prop:=
 ∀(i:Nat)(b:Frame)(k:List Item)(cs:List Frame)(bM:Lv)(t:Array bW),(∀j,l[j]? =ops[i+j]?)->b.fn=E.fn->b.roundOf=E.rd->Nu E.wk b cs bM->CE t E.N V->
  (∀e σ' ds' h',Q e σ' ds' h'->∀t',CE t' E.N σ'->D2 E.wk bM b k cs e t' ds' h')->E.wk.K (G (DT b t ds (.inRegion ops (List.range' i l.length) ::k)) cs) h
variable {E:Ho P} {V:Nat->bW} {ds:List Deferred} {h:A} {Q:Post}
theorem MI{c:Code}{Q':Post}(hq:∀e V ds h,Q e V ds h->Q' e V ds h)(x:Tr E c V ds h Q):Tr E c V ds h Q':=
 λb k d f t g i j l m=>x b k d f t g i j l λe σ' a n q=>m e σ' a n (hq _ _ _ _ q)
theorem Bc{main:Bool}{b:Frame}{t:Array bW}{ds:List Deferred}{k:List Item}{cs:List Frame}{w:World}:stepG P main (G (DT b t ds k) cs) w=stepG.exec P main true (DT b t ds k) cs none w:=rfl
theorem tr_skip(q:Q .normal V ds h):Tr E .skip V ds h Q:=λb k d e t _ _ _ a c=>
 Wk.go _ (λw=>by rw [Bc];simp [stepG.exec,DT,G]) (c _ _ _ _ q t a)
theorem Xy{l:Nat}(q:Q .normal V ds h):Tr E (.label l) V ds h Q:=λb k d e t _ _ _ a c=>
 Wk.go _ (λw=>by rw [Bc];simp [stepG.exec,DT,G]) (c _ _ _ _ q t a)
theorem tr_ret(q:Q .ret V ds h):Tr E .ret V ds h Q:=λb k e f t _ _ a c d=>a.ret t ds h k (d _ _ _ _ q t c)
theorem tr_exit{id:Nat}(q:Q (.exit id) V ds h):Tr E (.exit id) V ds h Q:=λb k f g t _ _ c d e=>by
 have:=e _ _ _ _ q t d
 cases a:exitTo id k with
 | none=>simp only [D2,a] at this;exact c.exit id t ds h k a this
 | some i=>
  simp only [D2,a] at this;exact Wk.go _ (λw=>by rw [Bc];simp [stepG.exec,DT,G,a]) this
theorem tr_seq{x y:Code}(a:Tr E x V ds h (λe σ' ds' h'=>match e with | .normal=>Tr E y σ' ds' h' Q | e=>Q e σ' ds' h')):Tr E (.seq x y) V ds h Q:=by
 intro b k g i t j m n o d;refine Wk.go (DT b t ds (.code x ::.code y ::k)) (λw=>by rw [Bc];simp [stepG.exec,DT,G]) ?_;refine a b (.code y ::k) g i t j m n o λe σ' ds' h' q f c=>?_;cases e with
 | normal=>exact q b k g i f j m n c d
 | exit id=>exact D2.push rfl aG (d _ _ _ _ q f c)
 | ret=>exact D2.push rfl aG (d _ _ _ _ q f c)
 | goto l=>exact D2.push rfl aG (d _ _ _ _ q f c)
 | panic l=>exact D2.push rfl aG (d _ _ _ _ q f c)
 | outgrown=>exact D2.push rfl aG (d _ _ _ _ q f c)
theorem Br{x y:Code}(M:(Nat->bW)->List Deferred->A->Prop)(a:Tr E x V ds h (λe σ' ds' h'=>match e with | .normal=>M σ' ds' h' | e=>Q e σ' ds' h'))
  (r:∀σ' ds' h',M σ' ds' h'->Tr E y σ' ds' h' Q):Tr E (.seq x y) V ds h Q:=
 tr_seq (MI (λe σ' ds' h' q=>by cases e <;> first | exact r _ _ _ q | exact q) a)
theorem tr_cond{c:Operand}{x y:Code}{t:Bool}(hc:Ag V c=.bool t)(a:Tr E (if t then x else y) V ds h Q):Tr E (.cond c x y) V ds h Q:=by
 intro b k g i d j l m e n;refine Wk.go (DT b d ds (.code (if t then x else y) ::k)) (λw=>?_) (a b k g i d j l m e n);have f:(DT b d ds (.code (.cond c x y) ::k)).eval c=.bool t:=by rw [Nt e];exact hc
 simp only [DT] at f;rw [Bc];simp [stepG.exec,DT,G,f]
theorem EI{c:Operand}{x y:Code}(hc:Ag V c=.bool true)(a:Tr E x V ds h Q):Tr E (.cond c x y) V ds h Q:=tr_cond hc a
theorem C3{c:Operand}{x y:Code}(hc:Ag V c=.bool false)(a:Tr E y V ds h Q):Tr E (.cond c x y) V ds h Q:=tr_cond hc a
theorem Ak{c:Operand}{x y:Code}{p:Prop}[Decidable p](hc:Ag V c=.bool (decide p))(a:p->Tr E x V ds h Q)(a':¬p->Tr E y V ds h Q):Tr E (.cond c x y) V ds h Q:=by
 by_cases b:p
 ·exact EI (by rw [hc];simp [b]) (a b)
 ·exact C3 (by rw [hc];simp [b]) (a' b)
theorem DB{c:Operand}{x y:Code}{t:Bool}(hc:Ag V c=.bool t)(a:t=true->Tr E x V ds h Q)(a':t=false->Tr E y V ds h Q):Tr E (.cond c x y) V ds h Q:=by
 cases t with
 | true=>exact EI hc (a rfl)
 | false=>exact C3 hc (a' rfl)
theorem tr_block{id:Nat}{c:Code}(a:Tr E c V ds h (λe σ' ds' h'=>match e with | .normal=>Q .normal σ' ds' h' | .exit id'=>if id'=id then Q .normal σ' ds' h' else Q (.exit id') σ' ds' h' | e=>Q e σ' ds' h')) :
  Tr E (.block id c) V ds h Q:=by
 intro b k m n t o p r s i;refine Wk.go (DT b t ds (.code c ::.inBlock id ::k)) (λw=>by rw [Bc];simp [stepG.exec,DT,G]) ?_;refine a b (.inBlock id ::k) m n t o p r s λe σ' ds' h' q g d=>?_;cases e with
 | normal=>exact Wk.go (DT b g ds' k) (λw=>by rw [Bc];simp [stepG.exec,DT,G]) (i _ _ _ _ q g d)
 | exit id'=>
  by_cases f:id'=id
  ·simp only [f,if_true] at q
   have:=i _ _ _ _ q g d
   simp only [D2,exitTo,f,beq_self_eq_true,if_true];exact this
  ·simp only [f,if_false] at q
   have:=i _ _ _ _ q g d
   have j:(id==id')=false:=by simp;exact λh=>f h.symm
   simp only [D2,exitTo,j] at this ⊢;exact this
 | ret=>exact i _ _ _ _ q g d
 | goto l=>exact i _ _ _ _ q g d
 | panic l=>exact i _ _ _ _ q g d
 | outgrown=>exact i _ _ _ _ q g d
theorem Xz{c:Code}(a:Tr E c V ds h Q):Tr E (.scope c) V ds h Q:=by
 intro b k i j t m n o p r;refine Wk.go (DT b t ds (.code c ::.inScope c ::k)) (λw=>by rw [Bc];simp [stepG.exec,DT,G]) ?_;refine a b (.inScope c ::k) i j t m n o p λe σ' d s q g f=>?_
 have:=r _ _ _ _ q g f
 cases e with
 | normal=>exact Wk.go (DT b g d k) (λw=>by rw [Bc];simp [stepG.exec,DT,G]) this
 | exit id=>simp only [D2,exitTo] at this ⊢;exact this
 | ret=>exact this
 | goto l=>exact this.elim
 | panic l=>exact this.elim
 | outgrown=>exact this.elim
theorem Av{c:Code}(I:Nat->(Nat->bW)->List Deferred->A->Prop){n:Nat}(i0:I n V ds h)
  (round:∀n V ds h,I n V ds h->Tr E c V ds h (λe σ' ds' h'=>match e with | .normal=>∃m,m<n/\I m σ' ds' h' | e=>Q e σ' ds' h')):Tr E (.loop c) V ds h Q:=by
 intro b k o p t r s u g f;refine Wk.go (DT b t ds (.code c ::.inLoop c ::k)) (λw=>by rw [Bc];simp [stepG.exec,DT,G]) ?_;have i:∀n V ds h t,I n V ds h->CE t E.N V->E.wk.K (G (DT b t ds (.code c ::.inLoop c ::k)) o) h:=by
  intro n
  induction n using Nat.strongRecOn with
  | ind n v=>
   intro V ds h t x g;refine round n V ds h x b (.inLoop c ::k) o p t r s u g λe σ' ds' h' q d a=>?_;cases e with
   | normal=>
    obtain ⟨m,y,j⟩:=q;exact Wk.go (DT b d ds' (.code c ::.inLoop c ::k)) (λw=>by rw [Bc];simp [stepG.exec,DT,G]) (v m y _ _ _ _ j a)
   | exit id=>exact D2.push rfl aG (f _ _ _ _ q d a)
   | ret=>exact D2.push rfl aG (f _ _ _ _ q d a)
   | goto l=>exact D2.push rfl aG (f _ _ _ _ q d a)
   | panic l=>exact D2.push rfl aG (f _ _ _ _ q d a)
   | outgrown=>exact D2.push rfl aG (f _ _ _ _ q d a)
 exact i n V ds h t i0 g
theorem tr_region{id:Nat}{l:List Oper}(a:Dy E l.toArray l V ds h Q):Tr E (.region id l.toArray false) V ds h Q:=by
 intro b k c d t e f g i j;refine Wk.go (DT b t ds (.inRegion l.toArray (List.range' 0 l.length) ::k)) (λw=>?_) (a 0 b k c d t aG e f g i j);rw [Bc];simp [stepG.exec,DT,G,List.range_eq_range']
theorem trL_nil{ops:Array Oper}(q:Q .normal V ds h):Dy E ops [] V ds h Q:=by
 intro i b k d e t f g j l a c;exact Wk.go (DT b t ds k) (λw=>by rw [Bc];simp [stepG.exec,DT,G]) (c _ _ _ _ q t a)
def Al(W:Wk P)(f:FuncId)(args:Array bW)(h:A)(R:bW->A->Prop):Prop:=
 ∀(c:Frame)(cs:List Frame),(∀v h',R v h'->W.K (G (c.finish v) cs) h')->W.K (G (Frame.enter P f args .normal) (c ::cs)) h
theorem Al.mono{f:FuncId}{args:Array bW}{R R':bW->A->Prop}(x:Al W f args h R)(hr:∀v h',R v h'->R' v h'):Al W f args h R':=
 λc a b=>x c a λv h' r=>b v h' (hr v h' r)
def B3(W:Wk P)(l:Nat)(f:FuncId)(tmps:Array bW)(assign body:Code)(h:A)(R:bW->A->Prop):Prop:=
 ∀(c:Frame)(cs:List Frame),(∀v h',R v h'->W.K (G (c.finish v) cs) h')->W.K (G (Frame.round l f tmps assign body .normal) (c ::cs)) h
def Z1(t:Array bW)(dst:Option Nat)(v:bW):Array bW:=match dst with
 | some d=>t.setIfInBounds d v
 | none=>t
def putS(V:Nat->bW)(dst:Option Nat)(v:bW):Nat->bW:=match dst with
 | some d=>upd V d v
 | none=>V
def Dj(dst:Option Nat)(N:Nat):Bool:=match dst with
 | some d=>Nat.blt d N
 | none=>true
def Do:Op->Bool
 | .defer _=>true
 | _=>false
def Upon(E:Ho P)(o:Oper)(V:Nat->bW)(ds:List Deferred)(bN:(Nat->bW)->List Deferred->A->Prop):Next->A->Prop
 | .value v,h=>bN (putS V o.dst v) ds h
 | .skip,h=>bN (putS V o.dst undef) ds h
 | .enter f args,h=>Al E.wk f args h λv h'=>bN (putS V o.dst v) ds h'
 | .round l f tmps a c,h=>B3 E.wk l f tmps a c h λv h'=>bN (putS V o.dst v) ds h'
 | .defer d,h=>bN (putS V o.dst undef) (d ::ds) h
 | _,_=>False
theorem CR.sub{h h':A}{w w':World}{es es':Array Event}(s:CR h w es h' w')(hs:∀e ∈ es',e ∈ es):CR h w es' h' w':=
 { s with evs:=λe a=>s.evs e (hs e a),evb:=λe a=>s.evb e (hs e a),chn:=λb p o x y=>(s.chn b p o x y).imp id λz=>⟨z.1,λe a=>z.2 e (hs e a)⟩ }
theorem Dp{b:Frame}{t:Array bW}{ds:List Deferred}{ops:Array Oper}{i:Nat}{rest:List Nat}{k:List Item}{o:Oper}(ho:ops[i]? =some o)(v:bW) :
  (DT b t ds (.inRegion ops (i ::rest) ::k)).finish v=DT b (Z1 t o.dst v) ds (.inRegion ops rest ::k):=by
 cases a:o.dst <;> simp [Frame.finish,DT,ho,a,Z1]
theorem CE.putS{t:Array bW}{N:Nat}{V:Nat->bW}(s:CE t N V){dst:Option Nat}(hd:Dj dst N=true)(v:bW) :
  CE (Z1 t dst v) N (putS V dst v):=by
 cases dst with
 | none=>exact s
 | some d=>exact s.put hd v
theorem MN{b:Frame}{t:Array bW}{ds:List Deferred}{ops:Array Oper}{i:Nat}{rest:List Nat}{k:List Item}{cs:List Frame}{o:Oper}{bN:(Nat->bW)->List Deferred->A->Prop}
  (ho:ops[i]? =some o) (hw:Region.wanted o (yielded ops t)=true) (hdf:b.roundOf=none\/Do o.op=false) (hd:Dj o.dst E.N=true) (hs:CE t E.N V)
  (x:(execOp (Ag V) o).gh P h (Upon E o V ds bN))
  (hT:∀σ' ds' h',bN σ' ds' h'->∀t',CE t' E.N σ'->E.wk.K (G (DT b t' ds' (.inRegion ops rest ::k)) cs) h') :
  E.wk.K (G (DT b t ds (.inRegion ops (i ::rest) ::k)) cs) h:=by
 refine E.wk.closed _ _ rfl λw f=>?_;obtain ⟨z,j,h',p,n,C,m⟩:=KO f x;have r:=Nt (b:=b) (ds:=ds) (k:=.inRegion ops (i ::rest) ::k) hs;have DL:stepG P E.wk.main (G (DT b t ds (.inRegion ops (i ::rest) ::k)) cs) w=
   stepG.apply P true (DT b t ds (.inRegion ops (i ::rest) ::k)) cs none (execOp (Ag V) o) w:=by
  rw [<-r];have s:((ops[i]?).map (Region.wanted · (yielded ops t))).getD false=true:=by simp [ho,hw]
  rw [Bc];unfold stepG.exec;simp only [DT,s,↓reduceIte];unfold stepG.oper;simp only [Frame.oper?,ho];rcases hdf with e | e
  ·simp only [e]
  ·cases D:o.op <;> first | rfl | (rw [D] at e;cases e;done) | (cases b.roundOf <;> rfl)
 have hseen:∀q:Bool,∀e ∈ seen P b.fn (if q then #[] else p),e ∈ p:=λq e u=>by
  have:=mem_seen u
  cases q with
  | true=>simp at this
  | false=>simpa using this
 have g:∀q:Bool,CR h w (seen P b.fn (if q then #[] else p)++ #[]) h' j:=λq=>by
  refine C.sub λe u=>hseen q e (by simpa using u)
 rw [DL];cases z with
 | value v=>
  refine ⟨_,j,_,h',?_,g (b.kind==.early),hT _ _ _ m _ (hs.putS hd v)⟩;simp only [stepG.apply,n,if_true];rw [Dp ho];rfl
 | skip=>
  refine ⟨_,j,_,h',?_,g (b.kind==.early),hT _ _ _ m _ (hs.putS hd undef)⟩;simp only [stepG.apply,n,if_true];rw [Dp ho];rfl
 | enter F args=>
  refine ⟨_,j,_,h',?_,g (b.kind==.early),m (DT b t ds (.inRegion ops (i ::rest) ::k)) cs λv y q=>?_⟩
  ·simp only [stepG.apply,n,if_true];rfl
  ·rw [Dp ho];exact hT _ _ _ q _ (hs.putS hd v)
 | round l F tmps a c=>
  refine ⟨_,j,_,h',?_,g (b.kind==.early),m (DT b t ds (.inRegion ops (i ::rest) ::k)) cs λv y q=>?_⟩
  ·simp only [stepG.apply,n,if_true];rfl
  ·rw [Dp ho];exact hT _ _ _ q _ (hs.putS hd v)
 | defer d=>
  refine ⟨_,j,_,h',?_,g (b.kind==.early),hT _ _ _ m _ (hs.putS hd undef)⟩;simp only [stepG.apply,n,if_true];show GStep.go (G ((DT b t (d ::ds) (.inRegion ops (i ::rest) ::k)).finish undef) cs) j _=_;rw [Dp ho];rfl
 | _=>exact m.elim
theorem trL_op{ops:Array Oper}{o:Oper}{l:List Oper}(hg:o.guard=none)(hdf:E.rd=none\/Do o.op=false)(hd:Dj o.dst E.N=true)
  (x:(execOp (Ag V) o).gh P h (Upon E o V ds λσ' ds' h'=>Dy E ops l σ' ds' h' Q)):Dy E ops (o ::l) V ds h Q:=by
 intro i b k e f t c g d m n p;have q:ops[i]? =some o:=by simpa using (c 0).symm
 refine MN (E:=E) (rest:=List.range' (i+1) l.length) q (by simp [Region.wanted,hg]) (d▸hdf) hd n x λσ' ds' h' y r a=>?_;exact y (i+1) b k e f r (λj=>by have:=c (j+1);simpa [Nat.add_assoc,Nat.add_comm 1 j] using this) g d m a p
theorem WN{ops:Array Oper}{o:Oper}{l:List Oper}{j d:Nat}{want:Bool}{oj:Oper}(hg:o.guard=some (j,want))(hj:ops[j]? =some oj)(hjd:oj.dst=some d)(hv:V d=.bool want)(hdj:Nat.blt d E.N=true)
  (hdf:E.rd=none\/Do o.op=false) (hd:Dj o.dst E.N=true)
  (x:(execOp (Ag V) o).gh P h (Upon E o V ds λσ' ds' h'=>Dy E ops l σ' ds' h' Q)):Dy E ops (o ::l) V ds h Q:=by
 intro i b k n p t g q m r c s;have u:ops[i]? =some o:=by simpa using (g 0).symm
 have v:yielded ops t j=some want:=by
  have a:d<t.size:=by rw [c.1];exact Nat.blt_eq▸hdj
  have e:=c.2 d;rw [hv] at e;have w:t[d]? =some (.bool want):=by
   simp only [Array.getD_eq_getD_getElem?,Array.getElem?_eq_getElem a,Option.getD_some] at e;rw [Array.getElem?_eq_getElem a,e]
  simp [yielded,hj,hjd,w]
 refine MN (E:=E) (rest:=List.range' (i+1) l.length) u (by simp [Region.wanted,hg,v]) (m▸hdf) hd c x λσ' ds' h' y z f=>?_;exact y (i+1) b k n p z (λj=>by have:=g (j+1);simpa [Nat.add_assoc,Nat.add_comm 1 j] using this) q m r f s
theorem Rv{ops:Array Oper}{o:Oper}{l:List Oper}{j d:Nat}{want is:Bool}{oj:Oper}(hg:o.guard=some (j,want))(hj:ops[j]? =some oj)(hjd:oj.dst=some d)(hv:V d=.bool is)(hdj:Nat.blt d E.N=true)(hne:want≠is)
  (hd:Dj o.dst E.N=true) (x:Dy E ops l (putS V o.dst undef) ds h Q):Dy E ops (o ::l) V ds h Q:=by
 intro i b k n p t g q r s c u;have m:ops[i]? =some o:=by simpa using (g 0).symm
 have v:yielded ops t j=some is:=by
  have a:d<t.size:=by rw [c.1];exact Nat.blt_eq▸hdj
  have e:=c.2 d;rw [hv] at e;have y:t[d]? =some (.bool is):=by
   simp only [Array.getD_eq_getD_getElem?,Array.getElem?_eq_getElem a,Option.getD_some] at e;rw [Array.getElem?_eq_getElem a,e]
  simp [yielded,hj,hjd,y]
 refine Wk.go (DT b (Z1 t o.dst undef) ds (.inRegion ops (List.range' (i+1) l.length) ::k)) (λw=>?_) ?_
 ·have f:((ops[i]?).map (Region.wanted · (yielded ops t))).getD false=false:=by
   simp only [m,Option.map_some,Option.getD_some,Region.wanted,hg,v];cases want <;> cases is <;> simp_all
  rw [<-Dp m (rest:=List.range' (i+1) l.length),List.length_cons,List.range'_succ,Bc];unfold stepG.exec;simp only [DT,f,Bool.false_eq_true,↓reduceIte];rfl
 ·exact x (i+1) b k n p _ (λj=>by have:=g (j+1);simpa [Nat.add_assoc,Nat.add_comm 1 j] using this) q r s (c.putS hd undef) u
end
end Go.Ns
namespace Go.Ns
open Go.Conc
theorem O3{h:A}{n:Nat}{e:Event}(x:Xx h n e):MemAct.ofEvent e=.access e/\(MemAct.ofEvent e).touch? =some ⟨e.loc,e.write,.plain⟩:=by
 obtain ⟨c,b⟩:=x;obtain ⟨l,d,f⟩:=e;simp only at c b;subst c;cases l with
 | cell a=>exact ⟨rfl,rfl⟩
 | obj r=>cases d <;> exact ⟨rfl,rfl⟩
 | output=>exact b.elim
 | goroutines=>exact b.elim
 | mark m=>exact b.elim
theorem Nv{h:A}{n:Nat}{e:Event}(x:Xx h n e):∃b,Dm e.loc=some b/\WL h n b e.write:=by
 obtain ⟨_,c⟩:=x;cases d:e.loc with
 | cell a=>rw [d] at c;exact ⟨_,rfl,c⟩
 | obj r=>rw [d] at c;exact ⟨_,rfl,c⟩
 | output=>rw [d] at c;exact c.elim
 | goroutines=>rw [d] at c;exact c.elim
 | mark m=>rw [d] at c;exact c.elim
theorem CG{t u:Trace}{k:Nat}{a:Touch}(h:touchAt (t++u) k=some a):(k<t.size/\touchAt t k=some a)\/(t.size<=k/\∃op ∈ u,(t++u)[k]? =some op/\op.act.touch? =some a):=by
 obtain ⟨op,b,c⟩:=touch_of h;rcases getElem?_append_cases b with ⟨x,y⟩ | ⟨x,y⟩
 ·exact .inl ⟨x,by rw [touchAt_of y];exact c⟩
 ·exact .inr ⟨x,op,y,b,c⟩
def M4(hs:Nat->A)(i:Nat)(h:A):Nat->A:=λj=>if j=i then h else hs j
theorem GP(hs:Nat->A)(i:Nat)(h:A):M4 hs i h i=h:=by simp [M4]
theorem Ie(hs:Nat->A){i j:Nat}(h:A)(e:j≠i):M4 hs i h j=hs j:=by simp [M4,e]
structure HS(w:World)(n:Nat)(hs:Nat->A):Prop where
 fits:∀i,i<n->FJ w (hs i)
 disj:∀i j b o x,i<n->j<n->i≠j->hs i b=some (true,o)->hs j b=some x->False
theorem HS.at{w:World}{n:Nat}{hs:Nat->A}(h:HS w n hs)(d:Nat):HS (w.at d) n hs:=⟨h.fits,h.disj⟩
theorem HS.step{w w':World}{n:Nat}{hs:Nat->A}(h:HS w n hs){i:Nat}(hi:i<n){es:Array Event}{h':A}(s:CR (hs i) w es h' w'):HS w' n (M4 hs i h') where
 fits:=λj q=>by
  by_cases e:j=i
  ·subst e;rw [GP];exact s.fits
  ·rw [Ie hs h' e];intro b p o r;rw [s.frame b ((h.fits j q).lt r) λk x=>h.disj i j b k (p,o) hi q (λy=>e y.symm) x r];exact h.fits j q b p o r
 disj:=λa c b o x l m d g f=>by
  by_cases t:a=i
  ·subst t;rw [GP] at g;rw [Ie hs h' (λy=>d y.symm)] at f;rcases s.own b o g with ⟨k,z⟩ | z
   ·exact h.disj a c b k x l m d z f
   ·exact absurd ((h.fits c m).lt (p:=x.1) (o:=x.2) f) (Nat.not_lt.2 z)
  ·rw [Ie hs h' t] at g;by_cases u:c=i
   ·subst u;rw [GP] at f;obtain ⟨p,k⟩:=x;cases p with
    | true=>
     rcases s.own b k f with ⟨v,z⟩ | z
     ·exact h.disj a c b o _ l m d g z
     ·exact absurd ((h.fits a l).lt g) (Nat.not_lt.2 z)
    | false=>exact h.disj a c b o _ l m d g (s.ro b k f)
   ·rw [Ie hs h' u] at f;exact h.disj a c b o x l m d g f
structure TI(t:Trace)(n bL:Nat)(hs:Nat->A):Prop where
 words:Wordless t
 clean:∀said,¬Race said t
 low:∀k a b,touchAt t k=some a->Dm a.loc=some b->b<bL
 num:∀op ∈ t,op.g<n
 own:∀i b o k a,i<n->hs i b=some (true,o)->touchAt t k=some a->Dm a.loc=some b->Knows t i k
 ro:∀i b o k a,i<n->hs i b=some (false,o)->touchAt t k=some a->Dm a.loc=some b->a.write=true->Knows t i k
 chn:∀i b p o k a,i<n->hs i b=some (p,o)->o.isChan=true->touchAt t k=some a->Dm a.loc=some b->a.kind=.atomic
theorem TI.knows{t:Trace}{n bL:Nat}{hs:Nat->A}(bN:TI t n bL hs){i b:Nat}{p:Bool}{o:Obj}{k:Nat}{a:Touch}(hi:i<n)(hb:hs i b=some (p,o))(hk:touchAt t k=some a)(hl:Dm a.loc=some b)
  (hw:p=true\/a.write=true):Knows t i k:=by
 cases p with
 | true=>exact bN.own i b o k a hi hb hk hl
 | false=>exact bN.ro i b o k a hi hb hk hl (hw.elim (λx=>by cases x) id)
theorem TI.step{t:Trace}{n:Nat}{hs:Nat->A}{w w':World}(bN:TI t n w.heap.size hs)(H:HS w n hs){i:Nat}(hi:i<n){es:Array Event}{h':A}(s:CR (hs i) w es h' w')(fn:FuncId)(pos:String) :
  TI (t++MemOp.ofEvents i fn pos es) n w'.heap.size (M4 hs i h'):=by
 have R:∀c ∈ MemOp.ofEvents i fn pos es,c.g=i:=λc DL=>by obtain ⟨e,_,rfl⟩:=Go.Conc.mem_ofEvents DL;rfl
 have V:∀c ∈ MemOp.ofEvents i fn pos es,∀a,c.act.touch? =some a->∃e ∈ es,a=⟨e.loc,e.write,.plain⟩/\Xx (hs i) w.heap.size e:=by
  intro c DL a r;obtain ⟨e,C,rfl⟩:=Go.Conc.mem_ofEvents DL;rcases s.evs e C with h0 | h0
  ·have E:=O3 h0;simp only [E.2,Option.some.injEq] at r;exact ⟨e,C,r.symm,h0⟩
  ·rw [h0] at r;cases r
 have hother:∀j b p o,j<n->j≠i->hs j b=some (p,o)->∀c ∈ MemOp.ofEvents i fn pos es,∀a,c.act.touch? =some a->Dm a.loc=some b->p=false/\a.write=false/\o.isChan=false:=by
  intro j b p o u F f c DL a r h;obtain ⟨e,C,rfl,I⟩:=V c DL a r;obtain ⟨b',v,l⟩:=Nv I;simp only at h;rw [h] at v;cases v;rcases l with ⟨W,K,x,y,z⟩ | x
  ·have hp:p=false:=by
    cases p with
    | false=>rfl
    | true=>exact (H.disj j i b o _ u hi F f x).elim
   have M:W=false:=by
    cases W with
    | false=>rfl
    | true=>exact (H.disj i j b K _ hi u (λq=>F q.symm) x f).elim
   refine ⟨hp,?_,?_⟩
   ·cases N:e.write with
    | false=>rfl
    | true=>rw [z N] at M;cases M
   ·have e1:=H.fits j u b p o f;have Y:=H.fits i hi b W K x;rw [e1] at Y;cases Y;exact y
  ·exact absurd ((H.fits j u).lt f) (Nat.not_lt.2 x)
 refine ⟨?_,?_,?_,?_,?_,?_,?_⟩
 ·refine bN.words.append λc DL m X=>?_;obtain ⟨e,C,rfl⟩:=Go.Conc.mem_ofEvents DL;rcases s.evs e C with h0 | h0
  ·simp only [(O3 h0).1] at X;cases X
  ·rw [h0] at X;cases X;exact rfl
 ·intro said;refine noRace_append (bN.clean said) R λk a d c DL b f D=>?_;obtain ⟨e,C,rfl,I⟩:=V c DL b f;obtain ⟨P,Q,l⟩:=Nv I;obtain ⟨c1,_,c3,_⟩:=D;have h:Dm a.loc=some P:=by rw [c1];exact Q
  rcases l with ⟨p,o,x,_,z⟩ | x
  ·refine bN.knows hi x d h ?_;cases p with
   | true=>exact .inl rfl
   | false=>
    rcases c3 with c3 | c3
    ·exact .inr c3
    ·have:=z c3;cases this
  ·exact absurd (bN.low k a P d h) (Nat.not_lt.2 x)
 ·intro k a b d h;rcases CG d with ⟨_,d⟩ | ⟨_,c,DL,_,r⟩
  ·exact Nat.lt_of_lt_of_le (bN.low k a b d h) s.size
  ·obtain ⟨e,C,rfl,_⟩:=V c DL a r;exact s.evb e C b h
 ·intro c DL;rcases Array.mem_append.1 DL with x | x
  ·exact bN.num c x
  ·rw [R c x];exact hi
 ·intro j b o k a u f d h;by_cases e:j=i
  ·subst e;rw [GP] at f;rcases CG d with ⟨_,d⟩ | ⟨_,c,DL,E,_⟩
   ·rcases s.own b o f with ⟨K,x⟩ | x
    ·exact (bN.own j b K k a u x d h).app _
    ·exact absurd (bN.low k a b d h) (Nat.not_lt.2 x)
   ·have:=knows_own E;rw [R c DL] at this;exact this
  ·rw [Ie hs h' e] at f;rcases CG d with ⟨_,d⟩ | ⟨_,c,DL,_,r⟩
   ·exact (bN.own j b o k a u f d h).app _
   ·have:=(hother j b true o u e f c DL a r h).1;cases this
 ·intro j b o k a u f d h N;by_cases e:j=i
  ·subst e;rw [GP] at f;rcases CG d with ⟨_,d⟩ | ⟨_,c,DL,E,_⟩
   ·exact (bN.ro j b o k a u (s.ro b o f) d h N).app _
   ·have:=knows_own E;rw [R c DL] at this;exact this
  ·rw [Ie hs h' e] at f;rcases CG d with ⟨_,d⟩ | ⟨_,c,DL,_,r⟩
   ·exact (bN.ro j b o k a u f d h N).app _
   ·have:=(hother j b false o u e f c DL a r h).2.1;rw [N] at this;cases this
 ·intro j b p o k a u f D d h;by_cases e:j=i
  ·subst e;rw [GP] at f;rcases CG d with ⟨_,d⟩ | ⟨_,c,DL,_,r⟩
   ·rcases s.chn b p o f D with x | x
    ·exact bN.chn j b p o k a u x D d h
    ·exact absurd (bN.low k a b d h) (Nat.not_lt.2 x.1)
   ·obtain ⟨e,C,rfl,I⟩:=V c DL a r;obtain ⟨b',v,l⟩:=Nv I;simp only at h;rw [h] at v;cases v;rcases s.chn b p o f D with x | x
    ·rcases l with ⟨W,K,y,z,_⟩ | y
     ·rw [x] at y;cases y;rw [D] at z;cases z
     ·exact absurd (s.fits0.lt x) (Nat.not_lt.2 y)
    ·exact absurd h (x.2 e C)
  ·rw [Ie hs h' e] at f;rcases CG d with ⟨_,d⟩ | ⟨_,c,DL,_,r⟩
   ·exact bN.chn j b p o k a u f D d h
   ·have:=(hother j b p o u e f c DL a r h).2.2;rw [D] at this;cases this
theorem TI.mute{t u:Trace}{n bL:Nat}{hs:Nat->A}(bN:TI t n bL hs)(hn:∀op ∈ u,op.act.touch? =none)(hw:Wordless u)(hg:∀op ∈ u,op.g<n):TI (t++u) n bL hs:=by
 have c:∀k a,touchAt (t++u) k=some a->touchAt t k=some a:=λk a d=>by
  rcases CG d with ⟨_,d⟩ | ⟨_,op,DL,_,h⟩
  ·exact d
  ·rw [hn op DL] at h;cases h
 refine ⟨bN.words.append hw,?_,λk a b d=>bN.low k a b (c k a d),?_,λi b o k a f e d l=>(bN.own i b o k a f e (c k a d) l).app _,
  λi b o k a f e d l hw=>(bN.ro i b o k a f e (c k a d) l hw).app _,λi b p o k a f e m d=>bN.chn i b p o k a f e m (c k a d)⟩
 ·rintro said ⟨i,j,q,⟨a,b,h,e,m⟩,r,s⟩;refine bN.clean said ⟨i,j,q,⟨a,b,c i a h,c j b e,m⟩,λx=>r (hb_app u x),λx=>s (hb_app u x)⟩
 ·intro op DL;rcases Array.mem_append.1 DL with x | x
  ·exact bN.num op x
  ·exact hg op x
end Go.Ns
namespace Go.Ns
open Go.Conc
section
variable {P:Program} {Post:bW->World->Prop}
def CX(P:Program)(Post:bW->World->Prop)(m:Machine)(t:Trace):Prop:=
 ∃N last o w t',runNT P (N+1) m t=(.ended o w,t')/\runN P N m=.next last/\step P last=.ended o w/\Conc.Good P Post last o w t'
theorem CX.step{m m':Machine}{t ops:Trace}(hs:stepT P m=(.next m',ops))(h:CX P Post m' (t++ops)):CX P Post m t:=by
 obtain ⟨n,last,o,w,a,b,c,d,e⟩:=h;exact ⟨n+1,last,o,w,a,by rw [runNT_succ_next hs];exact b,by rw [runN_succ_next hs];exact c,d,e⟩
def KP(Post:bW->World->Prop)(os:Os)(out:Array (Nat×bY)):bW->World->Prop:=λv w=>Post v w/\w.os=os/\w.output=out
theorem CX.at{m:Machine}{t:Trace}{os os':Os}{out out':Array (Nat×bY)}(e:os'=os)(e':out'=out)(h:CX P (KP Post os' out') m t):CX P (KP Post os out) m t:=by subst e e';exact h
structure Ji(P:Program)(g:Goroutine)(h:A)(gs:Array Goroutine)(w:World)(q:Nat->Nat)(t:Trace):Prop where
 here:gs[0]? =some g
 old:∀j x,0<j->gs[j]? =some x->QuitsIn P (q j) x
 fits:FJ w h
 words:Wordless t
 clean:∀said,¬Race said t
 low:∀k a b,touchAt t k=some a->Dm a.loc=some b->b<w.heap.size
 num:∀op ∈ t,op.g<gs.size
 known:∀k a,touchAt t k=some a->Knows t 0 k
 chn:∀b p o k a,h b=some (p,o)->o.isChan=true->touchAt t k=some a->Dm a.loc=some b->a.kind=.atomic
def E5(P:Program)(Post:bW->World->Prop)(g:Goroutine)(h:A):Prop:=
 ∀gs w sl q t,Ji P g h gs w q t->CX P (KP Post w.os w.output) (crowd gs w sl) t
def only(h:A):Nat->A:=λj=>if j=0 then h else λ_=>none
theorem Ji.HS{g:Goroutine}{h:A}{gs:Array Goroutine}{w:World}{q:Nat->Nat}{t:Trace}(bL:Ji P g h gs w q t):HS w gs.size (only h) where
 fits:=λi _=>by
  unfold only;split
  ·exact bL.fits
  ·intro b p o x;cases x
 disj:=λi j b o x _ _ d a c=>by
  unfold only at a c;split at a
  ·split at c
   ·omega
   ·cases c
  ·cases a
theorem Ji.TI{g:Goroutine}{h:A}{gs:Array Goroutine}{w:World}{q:Nat->Nat}{t:Trace}(bL:Ji P g h gs w q t):TI t gs.size w.heap.size (only h) where
 words:=bL.words
 clean:=bL.clean
 low:=bL.low
 num:=bL.num
 own:=λi b o k a _ c d _=>by
  unfold only at c;split at c
  ·rename_i e;subst e;exact bL.known k a d
  ·cases c
 ro:=λi b o k a _ c d _ _=>by
  unfold only at c;split at c
  ·rename_i e;subst e;exact bL.known k a d
  ·cases c
 chn:=λi b p o k a _ c=>by
  unfold only at c;split at c
  ·exact bL.chn b p o k a c
  ·cases c
theorem Ji.lt{g:Goroutine}{h:A}{gs:Array Goroutine}{w:World}{q:Nat->Nat}{t:Trace}(bL:Ji P g h gs w q t):0<gs.size:=(Array.getElem?_eq_some_iff.1 bL.here).1
theorem Ji.step{g g':Goroutine}{h h':A}{gs:Array Goroutine}{w w':World}{q:Nat->Nat}{t:Trace}(bL:Ji P g h gs w q t){es:Array Event}(s:CR h w es h' w')(fn:FuncId)(pos:String)(wk:Goroutine->Goroutine)
  (hwk:∀j x,0<j->gs[j]? =some x->wk x=x):Ji P g' h' ((gs.map wk).setIfInBounds 0 g') w' q (t++MemOp.ofEvents 0 fn pos es):=by
 have m:CR (only h 0) w es h' w':=s;have T':=bL.TI.step bL.HS bL.lt m fn pos;refine ⟨by simp [bL.lt],?_,s.fits,T'.words,T'.clean,T'.low,by simpa using T'.num,?_,?_⟩
 ·intro j x f i;have c:0≠j:=O
  rw [Array.getElem?_setIfInBounds_ne c,Array.getElem?_map] at i;obtain ⟨y,l,rfl⟩:=Option.map_eq_some_iff.1 i;rw [hwk j y f l];exact bL.old j y f l
 ·intro k a d;rcases CG d with ⟨_,d⟩ | ⟨_,u,DL,n,_⟩
  ·exact (bL.known k a d).app _
  ·have:=knows_own n
   obtain ⟨e,_,rfl⟩:=Go.Conc.mem_ofEvents DL;exact this
 ·intro b p o k a r;refine T'.chn 0 b p o k a bL.lt ?_;rw [GP];exact r
theorem Ji.quit{g:Goroutine}{h:A}{gs:Array Goroutine}{w:World}{q:Nat->Nat}{t:Trace}(bL:Ji P g h gs w q t)(hg:g.status=.running){i k d:Nat}{x x':Goroutine}(hi:0<i)(hx:gs[i]? =some x)(hq:QuitsIn P k x') :
  Ji P g h ((gs.map (woken P x x' (w.at d))).setIfInBounds i x') (w.at d) (Go.ConcN.upd q i k) t:=by
 refine ⟨?_,?_,bL.fits,bL.words,bL.clean,bL.low,by simpa using bL.num,bL.known,bL.chn⟩
 ·rw [Array.getElem?_setIfInBounds_ne O,Array.getElem?_map,bL.here];simp [woken_running hg]
 ·intro j y f b;by_cases e:i=j
  ·subst e;have c:i<gs.size:=(Array.getElem?_eq_some_iff.1 hx).1;rw [Array.getElem?_setIfInBounds_self_of_lt (by simpa using c)] at b;obtain rfl:=Option.some.inj b;rw [Go.ConcN.upd_same];exact hq
  ·rw [Array.getElem?_setIfInBounds_ne e,Array.getElem?_map] at b;obtain ⟨z,l,rfl⟩:=Option.map_eq_some_iff.1 b;have a:=bL.old j z f l;rw [woken_quits a,Go.ConcN.upd_ne q k (Ne.symm e)];exact a
theorem Ji.awake{g:Goroutine}{h:A}{gs:Array Goroutine}{w:World}{q:Nat->Nat}{t:Trace}(bL:Ji P g h gs w q t)(hg:g.status=.running):∀x ∈ gs,awake x:=by
 intro x b;obtain ⟨i,a,rfl⟩:=Array.mem_iff_getElem.1 b;rcases Nat.eq_zero_or_pos i with rfl | hpos
 ·have:gs[0]=g:=by have:=bL.here;simpa [Array.getElem?_eq_getElem a] using this
  rw [this];exact awake_of (.inl hg)
 ·exact awake_of ((bL.old i _ hpos (Array.getElem?_eq_getElem a)).status.elim .inl λx=>.inr (.inr x))
theorem Ul{g:Goroutine}{h:A}(hg:g.status=.running)
  (go:∀gs w w₀ sl sl₀ q t,Ji P g h gs w q t->stepT P (crowd gs w₀ sl₀)=runT P (crowd gs w sl) 0->CX P (KP Post w.os w.output) (crowd gs w₀ sl₀) t):E5 P Post g h:=by
 have o:∀μ gs w sl q t,Go.ConcN.sumTo gs.size q=μ->Ji P g h gs w q t->CX P (KP Post w.os w.output) (crowd gs w sl) t:=by
  intro μ
  induction μ using Nat.strongRecOn with
  | ind μ z=>
   intro gs w sl q t hμ a;obtain ⟨i,x,d,c,l,m,f⟩:=crowd_pick (P:=P) (w:=w) (sl:=sl) (a.awake hg) ⟨0,g,a.here,hg⟩;rcases Nat.eq_zero_or_pos i with rfl | hpos
   ·have B':Ji P g h gs (w.at d) q t:=⟨a.here,a.old,a.fits,a.words,a.clean,a.low,a.num,a.known,a.chn⟩;exact go gs (w.at d) w c sl q t B' f
   ·have n:=a.old i x hpos l;have p:(i==0)=false:=by simp;omega
    have r:i<gs.size:=(Array.getElem?_eq_some_iff.1 l).1;cases b:q i with
    | zero=>rw [b] at n;rw [show x.status=.finished from n] at m;cases m
    | succ k=>
     rw [b] at n;rcases n with C | ⟨_,v,j,s⟩
     ·rw [C] at m;cases m
     have hrunT:=runT_crowd_go (P:=P) (sl:=c) (i:=i) l (by rw [p];exact j (w.at d));have u:((gs.map (woken P x v (w.at d))).setIfInBounds i v).size=gs.size:=aG
     have y:Go.ConcN.sumTo gs.size (Go.ConcN.upd q i k)+(k+1)=Go.ConcN.sumTo gs.size q+k:=by
      have:=Go.ConcN.sumTo_upd q k id r
      simpa [b] using this
     refine CX.step (f.trans hrunT) ?_;have e:t++MemOp.ofEvents i x.frame.fn x.frame.place #[]=t:=by simp [MemOp.ofEvents]
     rw [e];exact z (Go.ConcN.sumTo gs.size (Go.ConcN.upd q i k)) O _ _ _ (Go.ConcN.upd q i k) _ (by rw [u]) (a.quit hg hpos l s)
 intro gs w sl q t a;exact o _ gs w sl q t rfl a
theorem Mm:WM P true (E5 P Post):=by
 intro g h c d;refine Ul c λn w w₀ sl sl₀ q t a e=>?_;obtain ⟨o,p,r,s,f,b,k⟩:=d w a.fits;have hrunT:=runT_crowd_go (P:=P) (sl:=sl) (i:=0) a.here (show stepG P (0==0) g w=_ from f);refine CX.step (e.trans hrunT) (CX.at b.os b.out (k _ _ _ q _ (a.step b _ _ _ λj x l m=>woken_quits (a.old j x l m))))
theorem Z2{g:Goroutine}{h:A}(hg:g.status=.running)
  (hs:∀w,FJ w h->∃v w' es h',stepG P true g w=.ended (.done v) w' es/\CR h w es h' w'/\Post v w'):E5 P Post g h:=by
 refine Ul hg λn w w₀ sl sl₀ q t a o=>?_;obtain ⟨v,w',es,h',r,e,s⟩:=hs w a.fits;have hrunT:=runT_many_ended (P:=P) (sl:=sl) (i:=0) a.here (show stepG P (0==0) g w=_ from r);have B':=a.step (g':=g) e g.frame.fn g.frame.place id λ_ _ _ _=>rfl;have b:=o.trans hrunT;refine ⟨0,crowd n w₀ sl₀,.done v,w',t++MemOp.ofEvents 0 g.frame.fn g.frame.place es,by simp [runNT,b],rfl,by simp [step,b],?_⟩;refine ⟨v,rfl,⟨s,e.os,e.out⟩,B'.clean,?_,?_,?_⟩
 ·intro i g' c f u;obtain ⟨x,d,_,_⟩:=u;obtain ⟨p,z,l,m,hb⟩:=B'.known i x d;refine ⟨p,by simp [Trace.g?,l,m],?_⟩;rcases hb with rfl | hb
  ·exfalso;apply f
   have:(t++MemOp.ofEvents 0 g.frame.fn g.frame.place es).g? i=some z.g:=by simp [Trace.g?,l]
   rw [this] at c;cases c;exact m
  ·exact hb
 ·refine ⟨λx d=>?_,rfl⟩;obtain ⟨j,k⟩:=List.mem_iff_getElem?.1 d;rw [List.getElem?_drop] at k;exact ⟨_,(a.old (1+j) x O (by simpa [crowd] using k)).leaves⟩
 ·intro j x d k;refine ⟨q j,?_⟩;rw [B'.words.deaf j];exact (a.old j x O d).hears _ _
end
end Go.Ns
namespace Go.Ns
open Go.Conc
inductive Z3 where
 | leaf
 | node (f:World->Z3)
section
variable {P:Program}
def Um(P:Program)(main:Bool)(Stop:Goroutine->A->Prop):Z3->Goroutine->A->Prop
 | .leaf,g,h=>Stop g h
 | .node f,g,h=>Stop g h\/(g.status=.running/\∀w,FJ w h->∃g' w' es h',stepG P main g w=.go g' w' es/\CR h w es h' w'/\Um P main Stop (f w) g' h')
def FS(P:Program)(main:Bool)(Stop:Goroutine->A->Prop)(g:Goroutine)(h:A):Prop:=∃bN,Um P main Stop bN g h
theorem FS.stop{main:Bool}{Stop:Goroutine->A->Prop}{g:Goroutine}{h:A}(x:Stop g h):FS P main Stop g h:=⟨.leaf,x⟩
theorem Nw(main:Bool)(Stop:Goroutine->A->Prop):WM P main (FS P main Stop):=by
 intro g h j k;have a:∀w,∃i,FJ w h->∃b c d e,stepG P main g w=.go b c d/\CR h w d e c/\Um P main Stop i b e:=by
  intro w;by_cases f:FJ w h
  ·obtain ⟨b,c,d,e,l,m,i,n⟩:=k w f;exact ⟨i,λ_=>⟨b,c,d,e,l,m,n⟩⟩
  ·exact ⟨.leaf,λx=>absurd x f⟩
 exact ⟨.node λw=>Classical.choose (a w),.inr ⟨j,λw f=>Classical.choose_spec (a w) f⟩⟩
theorem FS.elim{main:Bool}{K:Goroutine->A->Prop}(hK:WM P main K){g:Goroutine}{h:A}(x:FS P main K g h):K g h:=by
 obtain ⟨a,x⟩:=x
 induction a generalizing g h with
 | leaf=>exact x
 | node f b=>
  rcases x with x | ⟨c,x⟩
  ·exact x
  ·refine hK g h c λw d=>?_;obtain ⟨e,i,j,k,l,m,n⟩:=x w d;exact ⟨e,i,j,k,l,m,b w n⟩
def A.Sub(h1 h:A):Prop:=∀b p o,h1 b=some (p,o)->∃p0,h b=some (p0,o)/\(p=true->p0=true)
def A.Apart(a b:A):Prop:=∀r o x,a r=some (true,o)->b r=some x->False
structure A.Split(h h1 h2:A):Prop where
 left:h1.Sub h
 right:h2.Sub h
 one:h1.Apart h2
 two:h2.Apart h1
def A.join(h h2:A):A:=λb=>match h b with
 | some x=>some x
 | none=>h2 b
theorem A.Apart.mono{a b a' b':A}(x:a.Apart b)(ha:a'.Sub a)(hb:b'.Sub b):a'.Apart b':=λr o y c d=>by
 obtain ⟨h,e,f⟩:=ha r true o c;obtain rfl:=f rfl;obtain ⟨i,g,_⟩:=hb r y.1 y.2 d;exact x r o _ e g
theorem A.Sub.refl(a:A):a.Sub a:=λ_ p _ x=>⟨p,x,id⟩
theorem A.Apart.join_right{a x y:A}(h1:a.Apart x)(h2:a.Apart y):a.Apart (x.join y):=λr o z c b=>by
 unfold A.join at b;cases d:x r with
 | some u=>exact h1 r o u c d
 | none=>rw [d] at b;exact h2 r o z c b
theorem A.Apart.join_left{a x y:A}(h1:x.Apart a)(h2:y.Apart a):(x.join y).Apart a:=λr o z b d=>by
 unfold A.join at b;cases c:x r with
 | some u=>rw [c] at b;cases b;exact h1 r o z c d
 | none=>rw [c] at b;exact h2 r o z b d
theorem A.join_some{x y:A}{r:Nat}{p:Bool}{o:Obj}(h:x.join y r=some (p,o)):x r=some (p,o)\/y r=some (p,o):=by
 unfold A.join at h;cases a:x r with
 | some u=>rw [a] at h;exact .inl h
 | none=>rw [a] at h;exact .inr h
theorem FJ.sub{w:World}{h h1:A}(f:FJ w h)(s:h1.Sub h):FJ w h1:=λb p o x=>by
 obtain ⟨a,y,_⟩:=s b p o x;exact f b a o y
theorem FJ.join{w:World}{x y:A}(f:FJ w x)(g:FJ w y):FJ w (x.join y):=λb p o z=>(A.join_some z).elim (f b p o) (g b p o)
def A.Compat(h hm:A):Prop:=∀b p o q o',h b=some (p,o)->hm b=some (q,o')->p=false/\q=false/\o=o'
theorem A.compat{w:World}{h k hm:A}(f:FJ w h)(f':FJ w k)(a:h.Apart k)(a':k.Apart h)(s:hm.Sub k):h.Compat hm:=λb p o q c x y=>by
 obtain ⟨e,z,g⟩:=s b q c y;have i:=f b p o x;have d:=f' b e c z;rw [i] at d;refine ⟨?_,?_,by cases d;rfl⟩
 ·cases p with
  | false=>rfl
  | true=>exact (a b o _ x z).elim
 ·cases q with
  | false=>rfl
  | true=>obtain rfl:=g rfl;exact (a' b c _ z x).elim
def A.cut(h:A)(r:Nat):A:=λb=>if b=r then none else h b
inductive DX (M:Type) where
 | send (c:Nat) (m:M) (next:DX M)
 | recv (c:Nat) (next:Option M->DX M)
 | close (c:Nat) (next:DX M)
 | spawn (child next:DX M)
 | make (next:Nat->DX M)
 | stop
 | done
 | never
def DX.isDone{M:Type}:DX M->Prop
 | .done=>True
 | _=>False
variable {M:Type} {Rep:Nat->M->bW->A->Prop} {KS:Goroutine->A->Prop}
structure WO(P:Program)(main:Bool)(Rep:Nat->M->bW->A->Prop)(c:Nat)(m:M)(Next:Goroutine->A->Prop)(fr:Frame)(cs:List Frame)(v z:bW)(hm h1 h:A):Prop where
 step:∀w,FJ w h->stepG P main (G fr cs) w=.comm (G fr cs) #[scase c v z] true .send w #[]
 split:A.Split h h1 hm
 rep:Rep c m v hm
 next:Next (G (fr.finish undef) cs) h1
structure M5(P:Program)(main:Bool)(Rep:Nat->M->bW->A->Prop)(c:Nat)(Next:Option M->Goroutine->A->Prop)(fr:Frame)(cs:List Frame)(z:bW)(ok:Bool)(h:A):Prop where
 step:∀w,FJ w h->stepG P main (G fr cs) w=.comm (G fr cs) #[rcase c z] true (.recv ok) w #[]
 some:∀m v hm,Rep c m v hm->h.Compat hm->Next (some m) (G (fr.finish (recvd ok v true)) cs) (h.join hm)
 none:Next none (G (fr.finish (recvd ok z false)) cs) h
structure CloseAt(P:Program)(main:Bool)(c:Nat)(Next:Goroutine->A->Prop)(fr:Frame)(cs:List Frame)(fr':Frame)(cs':List Frame)(h:A):Prop where
 step:∀w s r,FJ w h->w.heap[c]? =some (.chan 0 #[] false s r false)->stepG P main (G fr cs) w=.go (G fr' cs') { w with heap:=w.heap.setIfInBounds c (.chan 0 #[] true s r false) } #[⟨.obj c,false,true⟩,⟨.obj c,true,true⟩]
 wake:mayWake P (G fr cs)=true
 next:Next (G fr' cs') h
structure WP(P:Program)(main:Bool)(Child Next:Goroutine->A->Prop)(fr:Frame)(cs:List Frame)(fr':Frame)(d:Deferred)(hc h1 h:A):Prop where
 step:∀w,FJ w h->stepG P main (G fr cs) w=.spawn (G fr' cs) (born P d) w #[]
 split:A.Split h h1 hc
 next:Next (G fr' cs) h1
 child:Child (born P d) hc
def Gi(P:Program)(Rep:Nat->M->bW->A->Prop)(KS:Goroutine->A->Prop):DX M->Bool->Goroutine->A->Prop
 | .send c m nx,main=>FS P main λg h=>∃fr cs v z hm h1,g=G fr cs/\WO P main Rep c m (Gi P Rep KS nx main) fr cs v z hm h1 h
 | .recv c f,main=>FS P main λg h=>∃fr cs z ok,g=G fr cs/\M5 P main Rep c (λo=>Gi P Rep KS (f o) main) fr cs z ok h
 | .close c nx,main=>FS P main λg h=>∃fr cs fr' cs',g=G fr cs/\CloseAt P main c (Gi P Rep KS nx main) fr cs fr' cs' h
 | .spawn ch nx,main=>FS P main λg h=>∃fr cs fr' d hc h1,g=G fr cs/\WP P main (Gi P Rep KS ch false) (Gi P Rep KS nx main) fr cs fr' d hc h1 h
 | .make f,main=>FS P main λg h=>g.status=.running/\∃c,h c=some (true,.chan 0 #[] false 0 0 false)/\Gi P Rep KS (f c) main g (h.cut c)
 | .stop,main=>FS P main KS
 | .never,main=>FS P main λg _=>g.status=.running
 | .done,_=>λg _=>∃n,QuitsIn P n g
def Jj(P:Program)(Rep:Nat->M->bW->A->Prop)(KS:Goroutine->A->Prop):DX M->Bool->Goroutine->A->Prop
 | .send c m nx,main=>λg h=>∃fr cs v z hm h1,g=G fr cs/\WO P main Rep c m (Gi P Rep KS nx main) fr cs v z hm h1 h
 | .recv c f,main=>λg h=>∃fr cs z ok,g=G fr cs/\M5 P main Rep c (λo=>Gi P Rep KS (f o) main) fr cs z ok h
 | .close c nx,main=>λg h=>∃fr cs fr' cs',g=G fr cs/\CloseAt P main c (Gi P Rep KS nx main) fr cs fr' cs' h
 | .spawn ch nx,main=>λg h=>∃fr cs fr' d hc h1,g=G fr cs/\WP P main (Gi P Rep KS ch false) (Gi P Rep KS nx main) fr cs fr' d hc h1 h
 | .make f,main=>λg h=>g.status=.running/\∃c,h c=some (true,.chan 0 #[] false 0 0 false)/\Gi P Rep KS (f c) main g (h.cut c)
 | .stop,_=>KS
 | .done,_=>λ_ _=>False
 | .never,_=>λg _=>g.status=.running
theorem IJ{s:DX M}{main:Bool}(hs:¬s.isDone):Gi P Rep KS s main=FS P main (Jj P Rep KS s main):=by
 cases s <;> first | rfl | exact absurd trivial hs
inductive Jk where
 | low
 | leave (n:Nat)
 | walk (bN:Z3)
inductive RLt:Jk->Jk->Prop
 | low (bN:Z3):RLt .low (.walk bN)
 | leave (n:Nat):RLt (.leave n) (.leave (n+1))
 | walk (f:World->Z3) (w:World):RLt (.walk (f w)) (.walk (.node f))
theorem rlt_wf(r:Jk):Acc RLt r:=by
 have a:Acc RLt .low:=⟨_,λy b=>by cases b⟩;cases r with
 | low=>exact a
 | leave n=>
  induction n with
  | zero=>exact ⟨_,λy b=>by cases b⟩
  | succ n c=>exact ⟨_,λy b=>by cases b;exact c⟩
 | walk d=>
  induction d with
  | leaf=>exact ⟨_,λy b=>by cases b;exact a⟩
  | node f c=>exact ⟨_,λy b=>by
    cases b with
    | low=>exact a
    | walk f w=>exact c w⟩
def WQ(n:Nat)(r' r:Nat->Jk):Prop:=∃i,i<n/\RLt (r' i) (r i)/\∀j,j<n->j≠i->r' j=r j
theorem ranks_wf(n:Nat):∀r,Acc (WQ n) r:=by
 induction n with
 | zero=>exact λr=>⟨_,λy ⟨i,k,_⟩=>O⟩
 | succ n g=>
  have c:∀a:Jk,Acc RLt a->∀r,Acc (WQ n) r->r n=a->Acc (WQ (n+1)) r:=by
   intro a l
   induction l with
   | intro a _ m=>
    intro r o
    induction o with
    | intro r p d=>
     intro e;refine ⟨_,λy ⟨i,k,b,h⟩=>?_⟩;rcases Nat.lt_or_ge i n with hin | hin
     ·exact d y ⟨i,hin,b,λj q f=>h j O f⟩ (by rw [h n O O,e])
     ·obtain rfl:i=n:=O
      exact m (y i) (e▸b) y (g y) rfl
  exact λr=>c (r n) (rlt_wf _) r (g r) rfl
structure IK(M:Type) where
 n:Nat
 s:Nat->DX M
 kn:Nat->Nat->Prop
 cl:Nat->Bool
 ck:Nat->Nat->Prop
def IK.meet(N:IK M)(i j:Nat)(si sj:DX M):IK M:=
 { N with s:=λx=>if x=i then si else if x=j then sj else N.s x,kn:=λx y=>if x=i\/x=j then N.kn i y\/N.kn j y\/(y=i/\si.isDone)\/(y=j/\sj.isDone) else N.kn x y }
def IK.shut(N:IK M)(i c:Nat)(nx:DX M):IK M:=
 { N with s:=λx=>if x=i then nx else N.s x,cl:=λx=>if x=c then true else N.cl x,ck:=λx y=>if x=c then N.kn i y\/(y=i/\nx.isDone) else N.ck x y }
def IK.hear(N:IK M)(j c:Nat)(nx:DX M):IK M:=
 { N with s:=λx=>if x=j then nx else N.s x,kn:=λx y=>if x=j then N.kn j y\/N.ck c y else N.kn x y }
def IK.hire(N:IK M)(i:Nat)(ch nx:DX M):IK M:=
 { N with n:=N.n+1,s:=λx=>if x=N.n then ch else if x=i then nx else N.s x,kn:=λx y=>if y=N.n then False else if x=N.n then N.kn i y else N.kn x y,ck:=λx y=>if y=N.n then False else N.ck x y }
def IK.mk'(N:IK M)(i c:Nat)(nx:DX M):IK M:=
 { N with s:=λx=>if x=i then nx else N.s x,cl:=λx=>if x=c then false else N.cl x }
inductive J2:IK M->IK M->Prop
 | hire {N:IK M} {i:Nat} {ch nx:DX M}:i<N.n->N.s i=.spawn ch nx->J2 N (N.hire i ch nx)
 | meet {N:IK M} {i j c:Nat} {m:M} {nx:DX M} {f:Option M->DX M}:i<N.n->j<N.n->i≠j->N.s i=.send c m nx->N.s j=.recv c f->J2 N (N.meet i j nx (f (some m)))
 | shut {N:IK M} {i c:Nat} {nx:DX M}:i<N.n->N.s i=.close c nx->J2 N (N.shut i c nx)
 | hear {N:IK M} {j c:Nat} {f:Option M->DX M}:j<N.n->N.s j=.recv c f->N.cl c=true->J2 N (N.hear j c (f none))
def LS(used:Nat->Prop)(cl:Nat->Bool)(i:Nat):DX M->Prop
 | .send c _ _=>used c/\cl c=false
 | .recv c _=>used c
 | .close c _=>used c/\cl c=false
 | .spawn _ _=>True
 | .make _=>True
 | .stop=>False
 | .done=>i≠0
 | .never=>False
inductive Gm:(Nat->Prop)->IK M->Prop
 | stop (used:Nat->Prop) (N:IK M):0<N.n->N.s 0=.stop->(∀j,0<j->j<N.n->N.s j=.done/\N.kn 0 j)->Gm used N
 | step (used:Nat->Prop) (N:IK M):0<N.n->((∃N',J2 N N')\/∃i f,i<N.n/\N.s i=.make f)->(∀i,i<N.n->LS used N.cl i (N.s i))->(∀N',J2 N N'->Gm used N')->
   (∀i f c,i<N.n->N.s i=.make f->¬used c->Gm (λx=>used x\/x=c) (N.mk' i c (f c)))->Gm used N
theorem Gm.plain{used:Nat->Prop}(N:IK M)(h0:0<N.n)(he:∃N',J2 N N')(hf:∀i,i<N.n->LS used N.cl i (N.s i))(hs:∀N',J2 N N'->Gm used N')(nm:∀i f,i<N.n->N.s i≠.make f):Gm used N:=
 .step used N h0 (.inl he) hf hs λi f _ a e _=>absurd e (nm i f a)
theorem Gm.sendOpen{used:Nat->Prop}{N:IK M}(h:Gm used N){j c:Nat}{m:M}{nx:DX M}(hj:j<N.n)(hs:N.s j=.send c m nx):N.cl c=false:=by
 cases h with
 | stop _ _ d b a=>
  rcases Nat.eq_zero_or_pos j with rfl | hp
  ·rw [hs] at b;cases b
  ·rw [(a j hp hj).1] at hs;cases hs
 | step _ _ _ _ a _ _=>have:=a j hj;rw [hs] at this;exact this.2
end
end Go.Ns
namespace Go.Ns
open Go.Conc
section
theorem X3{t u:Trace}{k:Nat}{x:MemOp}(h:u[k]? =some x):(t++u)[t.size+k]? =some x:=by
 rw [Array.getElem?_append_right O];simpa using h
theorem KQ{t u:Trace}{g k q:Nat}{y:MemOp}(hk:Knows t g k)(hq:t.size<=q)(hy:(t++u)[q]? =some y)(hg:y.g=g):HappensBefore (t++u) k q:=hk.hb_new hq hy hg
theorem Rw{t:Trace}{k q r g:Nat}{z:MemOp}(h1:HappensBefore t k q)(h2:HappensBefore t q r)(hz:t[r]? =some z)(hg:z.g=g):Knows t g k:=⟨r,z,hz,hg,.inr (h1.trans h2)⟩
theorem MO{t:Trace}(hw:Wordless t){i j:Nat}(h:Notices t i j){x y:MemOp}(hi:t[i]? =some x)(hj:t[j]? =some y):HappensBefore t i j:=.single (.inr ⟨h,hw.heard hi,hw.heard hj⟩)
theorem rdv_knows{t:Trace}{i j c s:Nat}{f1 f2 f3 f4:FuncId}{p1 p2 p3 p4:String}{u:Trace}
  (hu:u=#[{ g:=i,fn:=f1,pos:=p1,act:=.send c s },{ g:=j,fn:=f2,pos:=p2,act:=.recv c s 0 },{ g:=i,fn:=f3,pos:=p3,act:=.sendDone c s },{ g:=j,fn:=f4,pos:=p4,act:=.recvDone c s }])
  (hw:Wordless (t++u)) {k:Nat} (hk:Knows t i k\/Knows t j k):Knows (t++u) i k/\Knows (t++u) j k:=by
 subst hu;have a:=X3 (t:=t) (u:=#[{ g:=i,fn:=f1,pos:=p1,act:=.send c s },{ g:=j,fn:=f2,pos:=p2,act:=.recv c s 0 },{ g:=i,fn:=f3,pos:=p3,act:=.sendDone c s },{ g:=j,fn:=f4,pos:=p4,act:=.recvDone c s }]) (k:=0) rfl;have b:=X3 (t:=t) (u:=#[{ g:=i,fn:=f1,pos:=p1,act:=.send c s },{ g:=j,fn:=f2,pos:=p2,act:=.recv c s 0 },{ g:=i,fn:=f3,pos:=p3,act:=.sendDone c s },{ g:=j,fn:=f4,pos:=p4,act:=.recvDone c s }]) (k:=1) rfl;have d:=X3 (t:=t) (u:=#[{ g:=i,fn:=f1,pos:=p1,act:=.send c s },{ g:=j,fn:=f2,pos:=p2,act:=.recv c s 0 },{ g:=i,fn:=f3,pos:=p3,act:=.sendDone c s },{ g:=j,fn:=f4,pos:=p4,act:=.recvDone c s }]) (k:=2) rfl;have e:=X3 (t:=t) (u:=#[{ g:=i,fn:=f1,pos:=p1,act:=.send c s },{ g:=j,fn:=f2,pos:=p2,act:=.recv c s 0 },{ g:=i,fn:=f3,pos:=p3,act:=.sendDone c s },{ g:=j,fn:=f4,pos:=p4,act:=.recvDone c s }]) (k:=3) rfl;refine ⟨?_,?_⟩
 ·rcases hk with hk | hk
  ·exact hk.app _
  ·refine Rw (KQ hk O b rfl) (MO hw (.room (c:=c) (k:=s) (cap:=0) (act?_of b) ?_) b d) d rfl;exact act?_of d
 ·rcases hk with hk | hk
  ·exact Rw (KQ hk O a rfl) (MO hw (.handOver (c:=c) (k:=s) (act?_of a) (act?_of e)) a e) e rfl
  ·exact hk.app _
theorem TI.redist{t u:Trace}{n n' bL:Nat}{hs hs':Nat->A}(bN:TI t n bL hs)(hn:∀op ∈ u,op.act.touch? =none)(hw:Wordless u)(hg:∀op ∈ t++u,op.g<n')
  (src:∀j b p o,j<n'->hs' j b=some (p,o)->∃j0,j0<n/\(∃p0,hs j0 b=some (p0,o)/\(p=true->p0=true))/\∀k,Knows t j0 k->Knows (t++u) j k):TI (t++u) n' bL hs':=by
 have c:∀k a,touchAt (t++u) k=some a->touchAt t k=some a:=λk a d=>by
  rcases CG d with ⟨_,d⟩ | ⟨_,op,DL,_,m⟩
  ·exact d
  ·rw [hn op DL] at m;cases m
 refine ⟨bN.words.append hw,?_,λk a b d=>bN.low k a b (c k a d),hg,?_,?_,?_⟩
 ·rintro said ⟨i,j,q,⟨a,b,m,f,r⟩,v,w⟩;refine bN.clean said ⟨i,j,q,⟨a,b,c i a m,c j b f,r⟩,λx=>v (hb_app u x),λx=>w (hb_app u x)⟩
 ·intro i b o k a h f d l;obtain ⟨j0,e,⟨p0,x,y⟩,z⟩:=src i b true o h f;obtain rfl:=y rfl;exact z k (bN.own j0 b o k a e x (c k a d) l)
 ·intro i b o k a h f d l s;obtain ⟨j0,e,⟨p0,x,y⟩,z⟩:=src i b false o h f;exact z k (bN.knows e x (c k a d) l (.inr s))
 ·intro i b p o k a h f r d l;obtain ⟨j0,e,⟨p0,x,y⟩,z⟩:=src i b p o h f;exact bN.chn j0 b p0 o k a e x r (c k a d) l
theorem TI.atomic{t u:Trace}{n bL c g:Nat}{hs:Nat->A}(bN:TI t n bL hs)(hg:g<n)(hu:∀op ∈ u,op.g=g)(ha:∀op ∈ u,∀a,op.act.touch? =some a->Dm a.loc=some c/\a.kind=.atomic)(hw:Wordless u)
  (hc:c<bL) (free:∀i,i<n->hs i c=none) (atom:∀k a,touchAt t k=some a->Dm a.loc=some c->a.kind=.atomic):TI (t++u) n bL hs:=by
 refine ⟨bN.words.append hw,?_,?_,?_,?_,?_,?_⟩
 ·intro said;refine noRace_append (bN.clean said) hu λk a d op DL b f l=>?_;obtain ⟨r,s⟩:=ha op DL b f;have v:=atom k a d (by rw [l.1];exact r);obtain ⟨_,_,_,h4⟩:=l;rw [s,v] at h4;rcases h4 with h4 | h4 | ⟨_,h4,_⟩ <;> cases h4
 ·intro k a b d e;rcases CG d with ⟨_,d⟩ | ⟨_,op,DL,_,j⟩
  ·exact bN.low k a b d e
  ·rw [(ha op DL a j).1] at e;cases e;exact hc
 ·intro op DL;rcases Array.mem_append.1 DL with x | x
  ·exact bN.num op x
  ·rw [hu op x];exact hg
 ·intro i b o k a h f d e;rcases CG d with ⟨_,d⟩ | ⟨_,op,DL,_,j⟩
  ·exact (bN.own i b o k a h f d e).app _
  ·rw [(ha op DL a j).1] at e;cases e;rw [free i h] at f;cases f
 ·intro i b o k a h f d e m;rcases CG d with ⟨_,d⟩ | ⟨_,op,DL,_,j⟩
  ·exact (bN.ro i b o k a h f d e m).app _
  ·rw [(ha op DL a j).1] at e;cases e;rw [free i h] at f;cases f
 ·intro i b p o k a h f q d e;rcases CG d with ⟨_,d⟩ | ⟨_,op,DL,_,j⟩
  ·exact bN.chn i b p o k a h f q d e
  ·rw [(ha op DL a j).1] at e;cases e;rw [free i h] at f;cases f
theorem TI.raise{t:Trace}{n bL B':Nat}{hs:Nat->A}(bN:TI t n bL hs)(h:bL<=B'):TI t n B' hs:=
 { bN with low:=λk a b c d=>Nat.lt_of_lt_of_le (bN.low k a b c d) h }
end
end Go.Ns
namespace Go.Ns
open Go.Conc
section
variable {P:Program} {M:Type} {Rep:Nat->M->bW->A->Prop} {KS:Goroutine->A->Prop}
inductive RX (P:Program) (Rep:Nat->M->bW->A->Prop) (KS:Goroutine->A->Prop) (s:DX M) (cl:Nat->Bool) (main:Bool) (g:Goroutine) (h:A):Jk->Prop
 | walk (bN:Z3):¬s.isDone->Um P main (Jj P Rep KS s main) bN g h->RX P Rep KS s cl main g h (.walk bN)
 | leave (k:Nat):s=.done->QuitsIn P k g->RX P Rep KS s cl main g h (.leave k)
 | psend {c:Nat} {m:M} {nx:DX M} {fr:Frame} {cs:List Frame} {v z:bW} {hm h1:A}:s=.send c m nx->cl c=false->g=parked (G fr cs) #[scase c v z] .send->WO P main Rep c m (Gi P Rep KS nx main) fr cs v z hm h1 h->RX P Rep KS s cl main g h .low
 | precv {c:Nat} {f:Option M->DX M} {fr:Frame} {cs:List Frame} {z:bW} {ok:Bool}:s=.recv c f->cl c=false->g=parked (G fr cs) #[rcase c z] (.recv ok)->M5 P main Rep c (λo=>Gi P Rep KS (f o) main) fr cs z ok h->RX P Rep KS s cl main g h .low
 | wokn {c:Nat} {f:Option M->DX M} {fr:Frame} {cs:List Frame} {z:bW} {ok:Bool}:s=.recv c f->cl c=true->g={ parked (G fr cs) #[rcase c z] (.recv ok) with status:=.running }->M5 P main Rep c (λo=>Gi P Rep KS (f o) main) fr cs z ok h->RX P Rep KS s cl main g h .low
theorem IL{s:DX M}{cl:Nat->Bool}{main:Bool}{g:Goroutine}{h:A}(x:Gi P Rep KS s main g h):∃r,RX P Rep KS s cl main g h r:=by
 by_cases a:s.isDone
 ·cases s <;> first | exact a.elim | skip
  obtain ⟨n,b⟩:=x;exact ⟨_,.leave n rfl b⟩
 ·rw [IJ a] at x;obtain ⟨c,d⟩:=x;exact ⟨_,.walk c a d⟩
theorem Nx{s:DX M}{main:Bool}{g:Goroutine}{h:A}(hs:¬s.isDone)(h0:s≠.stop)(x:Jj P Rep KS s main g h):g.status=.running:=by
 cases s with
 | send c m d=>obtain ⟨a,b,_,_,_,_,rfl,_⟩:=x;rfl
 | recv c f=>obtain ⟨a,b,_,_,rfl,_⟩:=x;rfl
 | close c d=>obtain ⟨a,b,_,_,rfl,_⟩:=x;rfl
 | spawn e d=>obtain ⟨a,b,_,_,_,_,rfl,_⟩:=x;rfl
 | make f=>exact x.1
 | stop=>exact absurd rfl h0
 | done=>exact absurd trivial hs
 | never=>exact x
theorem Cf{s:DX M}{main:Bool}{g:Goroutine}{h:A}{bN:Z3}(hs:¬s.isDone)(h0:s≠.stop)(x:Um P main (Jj P Rep KS s main) bN g h):g.status=.running:=by
 cases bN with
 | leaf=>exact Nx hs h0 x
 | node f=>exact x.elim (Nx hs h0) (·.1)
theorem RX.status{s:DX M}{cl:Nat->Bool}{main:Bool}{g:Goroutine}{h:A}{r:Jk}(x:RX P Rep KS s cl main g h r)(h0:s≠.stop):g.status=.running\/g.status=.blocked\/g.status=.finished:=by
 cases x with
 | walk e b c=>exact .inl (Cf b h0 c)
 | leave k b d=>exact d.status.elim .inl λx=>.inr (.inr x)
 | psend _ _ a _=>rw [a];exact .inr (.inl rfl)
 | precv _ _ a _=>rw [a];exact .inr (.inl rfl)
 | wokn _ _ a _=>rw [a];exact .inl rfl
theorem RX.keep{s:DX M}{cl:Nat->Bool}{main:Bool}{g:Goroutine}{h:A}{r:Jk}(x:RX P Rep KS s cl main g h r)(h0:s≠.stop){w:World}{used:Nat->Prop}{i:Nat}(hf:LS used cl i s)
  (hc:∀c,used c->∃n,w.heap[c]? =some (.chan 0 #[] (cl c) n n false)) (a a':Goroutine):woken P a a' w g=g:=by
 cases x with
 | walk m d j=>exact woken_running (Cf d h0 j)
 | leave k d l=>exact woken_quits l
 | psend d b e _=>
  subst d;obtain ⟨n,f⟩:=hc _ hf.1;rw [b] at f;rw [e];exact woken_send_open a a' f
 | precv d b e _=>
  subst d;obtain ⟨n,f⟩:=hc _ hf;rw [b] at f;rw [e];exact woken_recv_open a a' f
 | wokn _ _ e _=>rw [e];exact woken_running rfl
structure Gn(P:Program)(Rep:Nat->M->bW->A->Prop)(KS:Goroutine->A->Prop)(used:Nat->Prop)(N:IK M)(gs:Array Goroutine)(w:World)(t:Trace)(hs:Nat->A)(r:Nat->Jk):Prop where
 size:gs.size=N.n
 apart:HS w N.n hs
 tr:TI t N.n w.heap.size hs
 sit:∀i g,gs[i]? =some g->RX P Rep KS (N.s i) N.cl (i==0) g (hs i) (r i)
 chans:∀c,used c->∃s,w.heap[c]? =some (.chan 0 #[] (N.cl c) s s false)
 free:∀c i,used c->i<N.n->hs i c=none
 atom:∀c k a,used c->touchAt t k=some a->Dm a.loc=some c->a.kind=.atomic
 nomeet:∀(i j:Nat)(gi gj:Goroutine)(c:Nat)(v z:bW)(sh:CommShape)(z':bW)(sh':CommShape),gs[i]? =some (parked gi #[scase c v z] sh)->gs[j]? =some (parked gj #[rcase c z'] sh')->False
 kn:∀i j,i<N.n->j<N.n->N.kn i j->N.s j=.done/\∀k a,touchAt t k=some a->t.g? k=some j->Knows t i k
 ck:∀c,used c->N.cl c=true->∃p op,t[p]? =some op/\op.act=.close c/\∀x,x<N.n->N.ck c x->N.s x=.done/\∀k a,touchAt t k=some a->t.g? k=some x->Before t k p
variable {used:Nat->Prop} {N:IK M} {gs:Array Goroutine} {w:World} {t:Trace} {hs:Nat->A} {r:Nat->Jk}
theorem Gn.at(I:Gn P Rep KS used N gs w t hs r)(d:Nat):Gn P Rep KS used N gs (w.at d) t hs r:=
 { I with apart:=I.apart.at d,tr:=I.tr,chans:=I.chans }
theorem g?_app{t u:Trace}{k g:Nat}(h:(t++u).g? k=some g)(hk:k<t.size):t.g? k=some g:=by
 simp only [Trace.g?,getElem?_append_old hk] at h ⊢;exact h
theorem kn_app{u:Trace}{x y g:Nat}(hk:∀k a,touchAt t k=some a->t.g? k=some y->Knows t x k)(hu:∀op ∈ u,op.g=g\/op.act.touch? =none)(hy:y≠g) :
  ∀k a,touchAt (t++u) k=some a->(t++u).g? k=some y->Knows (t++u) x k:=by
 intro k a b c;rcases CG b with ⟨d,b⟩ | ⟨_,op,DL,h,f⟩
 ·exact (hk k a b (g?_app c d)).app _
 ·rcases hu op DL with e | e
  ·have:(t++u).g? k=some op.g:=by simp [Trace.g?,h]
   rw [this] at c;cases c;exact absurd e hy
  ·rw [e] at f;cases f
theorem ck_app{u:Trace}{x g p:Nat}(hk:∀k a,touchAt t k=some a->t.g? k=some x->Before t k p)(hu:∀op ∈ u,op.g=g\/op.act.touch? =none)(hx:x≠g) :
  ∀k a,touchAt (t++u) k=some a->(t++u).g? k=some x->Before (t++u) k p:=by
 intro k a b c;rcases CG b with ⟨d,b⟩ | ⟨_,op,DL,h,f⟩
 ·exact (hk k a b (g?_app c d)).app _
 ·rcases hu op DL with e | e
  ·have:(t++u).g? k=some op.g:=by simp [Trace.g?,h]
   rw [this] at c;cases c;exact absurd e hx
  ·rw [e] at f;cases f
def FU(r:Nat->Jk)(i:Nat)(x:Jk):Nat->Jk:=λj=>if j=i then x else r j
theorem Ef{gs:Array Goroutine}{i:Nat}{g':Goroutine}{f:Goroutine->Goroutine}{j:Nat}{x:Goroutine}(h:((gs.map f).setIfInBounds i g')[j]? =some x) :
  (j=i/\x=g')\/(j≠i/\∃y,gs[j]? =some y/\x=f y):=by
 by_cases e:i=j
 ·subst e;by_cases a:i<gs.size
  ·rw [Array.getElem?_setIfInBounds_self_of_lt (by simpa using a)] at h;exact .inl ⟨rfl,(Option.some.inj h).symm⟩
  ·rw [Array.getElem?_eq_none (by simp;omega)] at h;cases h
 ·rw [Array.getElem?_setIfInBounds_ne e,Array.getElem?_map] at h;obtain ⟨y,b,rfl⟩:=Option.map_eq_some_iff.1 h;exact .inr ⟨λx=>e x.symm,y,b,rfl⟩
theorem GA{gs:Array Goroutine}{i:Nat}{g':Goroutine}{j:Nat}{x:Goroutine}(h:(gs.setIfInBounds i g')[j]? =some x):(j=i/\x=g')\/(j≠i/\gs[j]? =some x):=by
 have:((gs.map id).setIfInBounds i g')[j]? =some x:=by simpa using h
 rcases Ef this with x | ⟨a,y,b,rfl⟩
 ·exact .inl x
 ·exact .inr ⟨a,b⟩
theorem Gn.step(I:Gn P Rep KS used N gs w t hs r)(hf:∀i,i<N.n->LS used N.cl i (N.s i)){i:Nat}{g g':Goroutine}{w':World}{es:Array Event}{h':A}{x:Jk}(hi:gs[i]? =some g)(hnd:¬(N.s i).isDone)
  (s:CR (hs i) w es h' w') (hg':g'.status=.running) (hx:RX P Rep KS (N.s i) N.cl (i==0) g' h' x) (fn:FuncId) (pos:String) :
  Gn P Rep KS used N ((gs.map (woken P g g' w')).setIfInBounds i g') w' (t++MemOp.ofEvents i fn pos es) (M4 hs i h') (FU r i x):=by
 have m:i<N.n:=by rw [<-I.size];exact (Array.getElem?_eq_some_iff.1 hi).1
 have H:∀c,used c->∃s,w'.heap[c]? =some (.chan 0 #[] (N.cl c) s s false):=λc d=>by
  obtain ⟨n,D⟩:=I.chans c d;have f:c<w.heap.size:=(Array.getElem?_eq_some_iff.1 D).1;refine ⟨n,?_⟩;rw [s.frame c f (λo y=>by rw [I.free c i d m] at y;cases y)];exact D
 have hstop:∀j,j<N.n->N.s j≠.stop:=λj u e=>by have:=hf j u;rw [e] at this;exact this
 have hu:∀E ∈ MemOp.ofEvents i fn pos es,E.g=i\/E.act.touch? =none:=λE DL=>by obtain ⟨e,_,rfl⟩:=Go.Conc.mem_ofEvents DL;exact .inl rfl
 have hkeep:∀j y,j≠i->gs[j]? =some y->woken P g g' w' y=y:=λj y _ u=>by
  have K:j<N.n:=by rw [<-I.size];exact (Array.getElem?_eq_some_iff.1 u).1
  exact (I.sit j y u).keep (hstop j K) (hf j K) H g g'
 refine ⟨by simpa using I.size,I.apart.step m s,I.tr.step I.apart m s fn pos,?_,H,?_,?_,?_,?_,?_⟩
 ·intro j y hy;rcases Ef hy with ⟨rfl,rfl⟩ | ⟨h,W,l,rfl⟩
  ·rw [GP,FU,bV rfl];exact hx
  ·rw [hkeep j W h l,Ie hs h' h,FU,bU h];exact I.sit j W l
 ·intro c j d u;by_cases e:j=i
  ·subst e;rw [GP];cases hq:h' c with
   | none=>rfl
   | some y=>
    obtain ⟨p,o⟩:=y;obtain ⟨n,D⟩:=I.chans c d;have f:c<w.heap.size:=(Array.getElem?_eq_some_iff.1 D).1;cases p with
    | true=>
     rcases s.own c o hq with ⟨o',z⟩ | z
     ·rw [I.free c j d u] at z;cases z
     ·omega
    | false=>have:=s.ro c o hq;rw [I.free c j d u] at this;cases this
  ·rw [Ie hs h' e];exact I.free c j d u
 ·intro c k a d q hl;rcases CG q with ⟨_,q⟩ | ⟨_,E,DL,_,F⟩
  ·exact I.atom c k a d q hl
  ·obtain ⟨e,he,rfl⟩:=Go.Conc.mem_ofEvents DL;have Q:Xx (hs i) w.heap.size e:=by
    rcases s.evs e he with h0 | h0
    ·exact h0
    ·rw [h0] at F;cases F
   simp only [(O3 Q).2,Option.some.injEq] at F;subst F;obtain ⟨b,X,R⟩:=Nv Q;simp only at hl;rw [hl] at X;cases X;obtain ⟨n,D⟩:=I.chans c d;have f:c<w.heap.size:=(Array.getElem?_eq_some_iff.1 D).1;rcases R with ⟨p,o,z,_⟩ | z
   ·rw [I.free c i d m] at z;cases z
   ·omega
 ·intro a b ga gb c v z Y z' sh' C V;have hpark:∀(k:Nat)(y g0:Goroutine)(cs:Array CommCase)(Y:CommShape),y=parked g0 cs Y->((gs.map (woken P g g' w')).setIfInBounds i g')[k]? =some y->gs[k]? =some y:=by
   intro k y g0 cs Y he q;rcases Ef q with ⟨rfl,rfl⟩ | ⟨h,W,l,rfl⟩
   ·rw [he] at hg';cases hg'
   ·rw [hkeep k W h l];exact l
  exact I.nomeet a b ga gb c v z Y z' sh' (hpark a _ _ _ _ rfl C) (hpark b _ _ _ _ rfl V)
 ·intro a b F X q;obtain ⟨C,V⟩:=I.kn a b F X q;exact ⟨C,kn_app V hu (λe=>hnd (by rw [<-e,C];trivial))⟩
 ·intro c d f;obtain ⟨p,E,C,V,h3⟩:=I.ck c d f;refine ⟨p,E,by rw [getElem?_append_old (lt_size_of_getElem? C)];exact C,V,λy hy q=>?_⟩;obtain ⟨h4,h5⟩:=h3 y hy q;exact ⟨h4,ck_app h5 hu (λe=>hnd (by rw [<-e,h4];trivial))⟩
theorem Gn.quit(I:Gn P Rep KS used N gs w t hs r)(hf:∀i,i<N.n->LS used N.cl i (N.s i)){i k:Nat}{g g':Goroutine}(hi:gs[i]? =some g)(hd:N.s i=.done)(hq:QuitsIn P k g') :
  Gn P Rep KS used N ((gs.map (woken P g g' w)).setIfInBounds i g') w t hs (FU r i (.leave k)):=by
 have hstop:∀j,j<N.n->N.s j≠.stop:=λj m e=>by have:=hf j m;rw [e] at this;exact this
 have hkeep:∀j y,j≠i->gs[j]? =some y->woken P g g' w y=y:=λj y _ m=>by
  have l:j<N.n:=by rw [<-I.size];exact (Array.getElem?_eq_some_iff.1 m).1
  exact (I.sit j y m).keep (hstop j l) (hf j l) I.chans g g'
 refine ⟨by simpa using I.size,I.apart,I.tr,?_,I.chans,I.free,I.atom,?_,I.kn,I.ck⟩
 ·intro j y C;rcases Ef C with ⟨rfl,rfl⟩ | ⟨f,o,d,rfl⟩
  ·rw [FU,bV rfl];exact .leave k hd hq
  ·rw [hkeep j o f d,FU,bU f];exact I.sit j o d
 ·intro a b D E c v z p F q H K;have hpark:∀(k:Nat)(y u:Goroutine)(x:Array CommCase)(p:CommShape),y=parked u x p->((gs.map (woken P g g' w)).setIfInBounds i g')[k]? =some y->gs[k]? =some y:=by
   intro k y u x p Q R;rcases Ef R with ⟨rfl,rfl⟩ | ⟨f,o,d,rfl⟩
   ·rw [Q] at hq;rcases hq.status with h | h <;> cases h
   ·rw [hkeep k o f d];exact d
  exact I.nomeet a b D E c v z p F q (hpark a _ _ _ _ rfl H) (hpark b _ _ _ _ rfl K)
end
end Go.Ns
namespace Go.Ns
open Go.Conc
section
variable {P:Program} {M:Type} {Rep:Nat->M->bW->A->Prop} {KS:Goroutine->A->Prop}
variable {used:Nat->Prop} {N:IK M} {gs:Array Goroutine} {w:World} {t:Trace} {hs:Nat->A} {r:Nat->Jk}
theorem Iu{a b:Goroutine}{c c':Nat}{z z' v:bW}{sh sh':CommShape}(h:parked a #[rcase c z] sh=parked b #[scase c' v z'] sh'):False:=by
 simp [parked,rcase,scase] at h
theorem Un{a b:Goroutine}{c c':Nat}{z z':bW}{sh sh':CommShape}(h:parked a #[rcase c z] sh=parked b #[rcase c' z'] sh'):a.frame=b.frame/\a.callers=b.callers/\a.dying=b.dying/\c=c'/\z=z'/\sh=sh':=by
 simp only [parked,Goroutine.mk.injEq,rcase,Option.some.injEq,Prod.mk.injEq] at h;obtain ⟨e,f,_,g,d,i⟩:=h;simp at d;exact ⟨e,f,g,d.1,d.2,i⟩
theorem Uo{a b:Goroutine}{c c':Nat}{v v' z z':bW}{sh sh':CommShape}(h:parked a #[scase c v z] sh=parked b #[scase c' v' z'] sh'):a.frame=b.frame/\a.callers=b.callers/\a.dying=b.dying/\c=c'/\v=v'/\z=z'/\sh=sh':=by
 simp only [parked,Goroutine.mk.injEq,scase,Option.some.injEq,Prod.mk.injEq] at h;obtain ⟨e,f,_,g,d,i⟩:=h;simp at d;exact ⟨e,f,g,d.1,d.2.1,d.2.2,i⟩
theorem Up{g:Goroutine}{fr:Frame}{cs:List Frame}(h1:g.frame=fr)(h2:g.callers=cs)(h3:g.dying=none)(v:bW):Go.Conc.served g v=G (fr.finish v) cs:=by
 simp [Go.Conc.served,G,h1,h2,h3]
theorem Uq{h:A}{c:Nat}{o:Obj}{d:Nat}(f:FJ w h)(hc:h c=none):FJ { w.at d with heap:=w.heap.setIfInBounds c o } h:=λb p x a=>by
 have g:c≠b:=λe=>by subst e;rw [hc] at a;cases a
 show (w.heap.setIfInBounds c o)[b]? =_;rw [Array.getElem?_setIfInBounds_ne g];exact f b p x a
theorem chans_set{cl:Nat->Bool}(hc:∀c,used c->∃s,w.heap[c]? =some (.chan 0 #[] (cl c) s s false)){c s d:Nat}{b:Bool}(hu:used c) :
  ∀c',used c'->∃n,(({ w.at d with heap:=w.heap.setIfInBounds c (.chan 0 #[] b s s false) }:World)).heap[c']? =some (.chan 0 #[] (if c'=c then b else cl c') n n false):=by
 intro c' a
 show∃n,(w.heap.setIfInBounds c (.chan 0 #[] b s s false))[c']? =_
 by_cases e:c'=c
 ·subst e;obtain ⟨n,g⟩:=hc c' a;have f:c'<w.heap.size:=(Array.getElem?_eq_some_iff.1 g).1;rw [bV rfl];exact ⟨s,by simp [f]⟩
 ·rw [bU e,Array.getElem?_setIfInBounds_ne (λx=>e x.symm)];exact hc c' a
theorem Gn.park(I:Gn P Rep KS used N gs w t hs r){i:Nat}{g:Goroutine}(hi:i<N.n){x:Goroutine}(hx:x=parked g #[] .send\/True)(hsit:RX P Rep KS (N.s i) N.cl (i==0) x (hs i) .low)
  (hno:∀(j:Nat)(gj:Goroutine),gs[j]? =some gj->(∀g0 c v z sh g1 z' sh',x=parked g0 #[scase c v z] sh->gj=parked g1 #[rcase c z'] sh'->False)/\(∀g0 c v z sh g1 z' sh',gj=parked g0 #[scase c v z] sh->x=parked g1 #[rcase c z'] sh'->False)) :
  Gn P Rep KS used N (gs.setIfInBounds i x) w t hs (FU r i .low):=by
 refine ⟨by simpa using I.size,I.apart,I.tr,?_,I.chans,I.free,I.atom,?_,I.kn,I.ck⟩
 ·intro j y m;rcases GA m with ⟨rfl,rfl⟩ | ⟨f,h⟩
  ·rw [FU,bV rfl];exact hsit
  ·rw [FU,bU f];exact I.sit j y h
 ·intro a b o p c v z sh z' sh' q l;rcases GA q with ⟨u,e⟩ | ⟨u,e⟩
  ·rcases GA l with ⟨k,d⟩ | ⟨k,d⟩
   ·rw [<-d] at e;exact Iu e.symm
   ·exact (hno b _ d).1 _ _ _ _ _ _ _ _ e.symm rfl
  ·rcases GA l with ⟨k,d⟩ | ⟨k,d⟩
   ·exact (hno a _ e).2 _ _ _ _ _ _ _ _ rfl d.symm
   ·exact I.nomeet a b o p c v z sh z' sh' e d
theorem Gn.meet(I:Gn P Rep KS used N gs w t hs r){i j c s d:Nat}{m:M}{nx:DX M}{f:Option M->DX M}(hi:i<N.n)(hj:j<N.n)(hij:i≠j)(hsi:N.s i=.send c m nx)(hsj:N.s j=.recv c f)(hu:used c)
  (hcl:N.cl c=false)
  {fr:Frame} {cs:List Frame} {v z:bW} {hm h1:A} (bG:WO P (i==0) Rep c m (Gi P Rep KS nx (i==0)) fr cs v z hm h1 (hs i))
  {fr':Frame} {cs':List Frame} {z':bW} {ok:Bool} (bL:M5 P (j==0) Rep c (λo=>Gi P Rep KS (f o) (j==0)) fr' cs' z' ok (hs j))
  {gs':Array Goroutine} (gi:gs'[i]? =some (G (fr.finish undef) cs)) (gj:gs'[j]? =some (G (fr'.finish (recvd ok v true)) cs')) (gk:∀k,k≠i->k≠j->gs'[k]? =gs[k]?) (hsz:gs'.size=gs.size)
  {f1 f2 f3 f4:FuncId} {p1 p2 p3 p4:String} {u:Trace}
  (hu':u=#[{ g:=i,fn:=f1,pos:=p1,act:=.send c s },{ g:=j,fn:=f2,pos:=p2,act:=.recv c s 0 },{ g:=i,fn:=f3,pos:=p3,act:=.sendDone c s },{ g:=j,fn:=f4,pos:=p4,act:=.recvDone c s }]) :
  ∃hs' r',Gn P Rep KS used (N.meet i j nx (f (some m))) gs' { w.at d with heap:=w.heap.setIfInBounds c (.chan 0 #[] false (s+1) (s+1) false) } (t++u) hs' r':=by
 have hmute:∀X ∈ u,X.act.touch? =none:=by
  subst hu';intro X DL;simp at DL;rcases DL with rfl | rfl | rfl | rfl <;> rfl
 have hwu:Wordless u:=by
  subst hu';intro X DL mk hmk;simp at DL;rcases DL with rfl | rfl | rfl | rfl <;> cases hmk
 have hgu:∀X ∈ u,X.g=i\/X.g=j:=by
  subst hu';intro X DL;simp at DL;rcases DL with rfl | rfl | rfl | rfl <;> simp
 have hW:=I.tr.words.append hwu;have K:∀k,Knows t i k\/Knows t j k->Knows (t++u) i k/\Knows (t++u) j k:=λk l=>rdv_knows hu' hW l;have aij:(hs i).Apart (hs j):=λb o x y z=>I.apart.disj i j b o x hi hj hij y z;have aji:(hs j).Apart (hs i):=λb o x y z=>I.apart.disj j i b o x hj hi (λe=>hij e.symm) y z;have hcomp:(hs j).Compat hm:=A.compat (I.apart.fits j hj) (I.apart.fits i hi) aji aij bG.split.right;obtain ⟨ri,hri⟩:=IL (cl:=N.cl) bG.next;obtain ⟨rj,hrj⟩:=IL (cl:=N.cl) (bL.some m v hm bG.rep hcomp);have hji:j≠i:=λe=>hij e.symm;let hs':Nat->A:=λx=>if x=i then h1 else if x=j then (hs j).join hm else hs x
 have ei:hs' i=h1:=bV rfl;have ej:hs' j=(hs j).join hm:=by show (if j=i then _ else if j=j then _ else _)=_;rw [bU hji,bV rfl]
 have ek:∀k,k≠i->k≠j->hs' k=hs k:=λk h1 h2=>by show (if k=i then _ else if k=j then _ else _)=_;rw [bU h1,bU h2]
 have hfree:∀E k,used E->k<N.n->hs' k E=none:=by
  intro E k F l;have fi:=I.free E i F hi;by_cases e:k=i
  ·subst e;rw [ei];cases hq:h1 E with
   | none=>rfl
   | some y=>obtain ⟨p0,h2,_⟩:=bG.split.left E y.1 y.2 hq;rw [fi] at h2;cases h2
  ·by_cases V:k=j
   ·subst V;rw [ej];cases hq:(hs k).join hm E with
    | none=>rfl
    | some y=>
     rcases A.join_some (p:=y.1) (o:=y.2) hq with h2 | h2
     ·rw [I.free E k F l] at h2;cases h2
     ·obtain ⟨p0,Y,_⟩:=bG.split.right E y.1 y.2 h2;rw [fi] at Y;cases Y
   ·rw [ek k e V];exact I.free E k F l
 have hsrc:∀k b p o,k<N.n->hs' k b=some (p,o)->∃j0,j0<N.n/\(∃p0,hs j0 b=some (p0,o)/\(p=true->p0=true))/\∀q,Knows t j0 q->Knows (t++u) k q:=by
  intro k b p o l H;by_cases e:k=i
  ·subst e;rw [ei] at H;exact ⟨k,l,bG.split.left b p o H,λq hq=>hq.app _⟩
  ·by_cases V:k=j
   ·subst V;rw [ej] at H;rcases A.join_some H with h2 | h2
    ·exact ⟨k,l,⟨p,h2,id⟩,λq hq=>hq.app _⟩
    ·exact ⟨i,hi,bG.split.right b p o h2,λq hq=>(K q (.inl hq)).2⟩
   ·rw [ek k e V] at H;exact ⟨k,l,⟨p,H,id⟩,λq hq=>hq.app _⟩
 have Q:∀a b,a<N.n->b<N.n->a≠b->(hs a).Apart (hs b):=λa b C H D r o x y z=>I.apart.disj a b r o x C H D y z;have hap':∀a b,a<N.n->b<N.n->a≠b->(hs' a).Apart (hs' b):=by
  intro a b C H D;by_cases ea:a=i
  ·subst ea;rw [ei];by_cases eb:b=j
   ·subst eb;rw [ej];exact A.Apart.join_right ((Q a b C H D).mono bG.split.left (A.Sub.refl _)) bG.split.one
   ·rw [ek b (λe=>D e.symm) eb];exact (Q a b C H D).mono bG.split.left (A.Sub.refl _)
  ·by_cases ea2:a=j
   ·subst ea2;rw [ej];by_cases eb:b=i
    ·subst eb;rw [ei];exact A.Apart.join_left ((Q a b C H D).mono (A.Sub.refl _) bG.split.left) bG.split.two
    ·rw [ek b eb (λe=>D e.symm)];exact A.Apart.join_left (Q a b C H D) ((Q i b hi H (λe=>eb e.symm)).mono bG.split.right (A.Sub.refl _))
   ·rw [ek a ea ea2];by_cases eb:b=i
    ·subst eb;rw [ei];exact (Q a b C H D).mono (A.Sub.refl _) bG.split.left
    ·by_cases eb2:b=j
     ·subst eb2;rw [ej];exact A.Apart.join_right (Q a b C H D) ((Q a i C hi ea).mono (A.Sub.refl _) bG.split.right)
     ·rw [ek b eb eb2];exact Q a b C H D
 have hnd:∀y,N.s y=.done->y≠i/\y≠j:=λy hy=>⟨(λe=>by rw [e,hsi] at hy;cases hy),(λe=>by rw [e,hsj] at hy;cases hy)⟩;have htouch:∀k a,touchAt (t++u) k=some a->touchAt t k=some a:=λk a C=>by
  rcases CG C with ⟨_,C⟩ | ⟨_,X,DL,_,h2⟩
  ·exact C
  ·rw [hmute X DL] at h2;cases h2
 have hg? :∀k a y,touchAt t k=some a->(t++u).g? k=some y->t.g? k=some y:=λk a y C R=>by
  obtain ⟨X,h2,_⟩:=touch_of C;exact g?_app R (lt_size_of_getElem? h2)
 have hown:∀k a y,touchAt t k=some a->t.g? k=some y->Knows t y k:=λk a y C R=>by
  obtain ⟨X,h2,_⟩:=touch_of C
  have:=knows_own h2
  simp [Trace.g?,h2] at R;rw [R] at this;exact this
 refine ⟨hs',FU (FU r j rj) i ri,⟨by rw [hsz];exact I.size,⟨?_,?_⟩,?_,?_,?_,hfree,?_,?_,?_,?_⟩⟩
 ·intro k l;refine Uq (h:=hs' k) ?_ (hfree c k hu l);by_cases e:k=i
  ·subst e;rw [ei];exact (I.apart.fits k l).sub bG.split.left
  ·by_cases V:k=j
   ·subst V;rw [ej];exact (I.apart.fits k l).join ((I.apart.fits i hi).sub bG.split.right)
   ·rw [ek k e V];exact I.apart.fits k l
 ·exact λa b r o x C H D y z=>hap' a b C H D r o x y z
 ·have:=I.tr.redist hmute hwu (n':=N.n) (hs':=hs') (λX DL=>by
   rcases Array.mem_append.1 DL with x | x
   ·exact I.tr.num X x
   ·rcases hgu X x with e | e <;> rw [e] <;> assumption) hsrc
  exact this.raise aG
 ·intro k g l;show RX P Rep KS (if k=i then nx else if k=j then f (some m) else N.s k) N.cl (k==0) g (hs' k) _;by_cases e:k=i
  ·subst e;rw [gi] at l;cases l;rw [bV rfl,ei,FU,bV rfl];exact hri
  ·by_cases V:k=j
   ·subst V;rw [gj] at l;cases l;rw [bU e,bV rfl,ej,FU,bU e,FU,bV rfl];exact hrj
   ·rw [gk k e V] at l;rw [bU e,bU V,ek k e V,FU,bU e,FU,bU V];exact I.sit k g l
 ·intro E F;obtain ⟨n,hn⟩:=chans_set I.chans (s:=s+1) (d:=d) (b:=false) hu E F;refine ⟨n,?_⟩;rw [hn];by_cases e:E=c
  ·subst e;rw [bV rfl];show some (Obj.chan 0 #[] false n n false)=some (Obj.chan 0 #[] (N.cl E) n n false);rw [hcl]
  ·rw [bU e];rfl
 ·exact λE k a F l=>I.atom E k a F (htouch k a l)
 ·intro a b ga gb E v' z1 sh z2 sh' h2 Y;have hold:∀(k:Nat)(g0:Goroutine)(cs0:Array CommCase)(sh0:CommShape),gs'[k]? =some (parked g0 cs0 sh0)->gs[k]? =some (parked g0 cs0 sh0):=by
   intro k g0 cs0 sh0 l;by_cases e:k=i
   ·subst e;rw [gi] at l;simp [G,parked] at l
   ·by_cases V:k=j
    ·subst V;rw [gj] at l;simp [G,parked] at l
    ·rw [gk k e V] at l;exact l
  exact I.nomeet a b ga gb E v' z1 sh z2 sh' (hold _ _ _ _ h2) (hold _ _ _ _ Y)
 ·intro x y hx hy l;have hdone:∀{y},N.s y=.done->(N.meet i j nx (f (some m))).s y=.done:=λ{y} h=>by
   obtain ⟨h2,Y⟩:=hnd y h;show (if y=i then nx else if y=j then f (some m) else N.s y)=_;rw [bU h2,bU Y];exact h
  by_cases e:x=i\/x=j
  ·have hk':N.kn i y\/N.kn j y\/(y=i/\nx.isDone)\/(y=j/\(f (some m)).isDone):=by
    have:(if x=i\/x=j then N.kn i y\/N.kn j y\/(y=i/\nx.isDone)\/(y=j/\(f (some m)).isDone) else N.kn x y):=l
    rw [bV e] at this;exact this
   have fin:(∀q a,touchAt t q=some a->t.g? q=some y->Knows t i q\/Knows t j q)->∀q a,touchAt (t++u) q=some a->(t++u).g? q=some y->Knows (t++u) x q:=by
    intro h q a C R;have W:=htouch q a C
    have:=K q (h q a W (hg? q a y W R))
    rcases e with e | e <;> subst e
    ·exact this.1
    ·exact this.2
   rcases hk' with h | h | ⟨h,h'⟩ | ⟨h,h'⟩
   ·obtain ⟨h2,Y⟩:=I.kn i y hi hy h;exact ⟨hdone h2,fin λq a C R=>.inl (Y q a C R)⟩
   ·obtain ⟨h2,Y⟩:=I.kn j y hj hy h;exact ⟨hdone h2,fin λq a C R=>.inr (Y q a C R)⟩
   ·subst h;refine ⟨?_,fin λq a C R=>.inl (hown q a y C R)⟩;show (if y=y then nx else _)=_;rw [bV rfl];cases nx <;> first | rfl | exact h'.elim
   ·subst h;refine ⟨?_,fin λq a C R=>.inr (hown q a y C R)⟩;show (if y=i then nx else if y=y then f (some m) else _)=_;rw [bU hji,bV rfl];cases hq:f (some m) <;> first | rfl | (rw [hq] at h';exact h'.elim)
  ·have hk':N.kn x y:=by
    have:(if x=i\/x=j then N.kn i y\/N.kn j y\/(y=i/\nx.isDone)\/(y=j/\(f (some m)).isDone) else N.kn x y):=l
    rw [bU e] at this;exact this
   obtain ⟨h2,Y⟩:=I.kn x y hx hy hk';exact ⟨hdone h2,λq a C R=>by
    have W:=htouch q a C;exact (Y q a W (hg? q a y W R)).app _⟩
 ·intro E F hcl';obtain ⟨p,X,h2,Y,h4⟩:=I.ck E F hcl';refine ⟨p,X,by rw [getElem?_append_old (lt_size_of_getElem? h2)];exact h2,Y,λy hy l=>?_⟩;obtain ⟨h5,h6⟩:=h4 y hy l;obtain ⟨h7,h8⟩:=hnd y h5;refine ⟨?_,λq a C R=>?_⟩
  ·show (if y=i then nx else if y=j then f (some m) else N.s y)=_;rw [bU h7,bU h8];exact h5
  ·have W:=htouch q a C;exact (h6 q a W (hg? q a y W R)).app _
end
end Go.Ns
namespace Go.Ns
open Go.Conc
section
variable {P:Program} {M:Type} {Rep:Nat->M->bW->A->Prop} {KS:Goroutine->A->Prop}
variable {used:Nat->Prop} {N:IK M} {gs:Array Goroutine} {w:World} {t:Trace} {hs:Nat->A} {r:Nat->Jk}
theorem Z4(t:Trace){k y:Nat}{a:Touch}(ha:touchAt t k=some a)(hg:t.g? k=some y):Knows t y k:=by
 obtain ⟨c,b,_⟩:=touch_of ha
 have:=knows_own b
 simp [Trace.g?,b] at hg;rw [hg] at this;exact this
theorem done_of{s:DX M}(h:s.isDone):s=.done:=by cases s <;> first | rfl | exact h.elim
theorem Gn.hear(I:Gn P Rep KS used N gs w t hs r){j c:Nat}{f:Option M->DX M}(hj:j<N.n)(hsj:N.s j=.recv c f)(hu:used c)(hcl:N.cl c=true)
  {fr':Frame} {cs':List Frame} {z':bW} {ok:Bool} (bL:M5 P (j==0) Rep c (λo=>Gi P Rep KS (f o) (j==0)) fr' cs' z' ok (hs j)) {fn:FuncId} {pos:String} {u:Trace} (hu':u=#[{ g:=j,fn:=fn,pos:=pos,act:=.recvClosed c }]) :
  ∃r',Gn P Rep KS used (N.hear j c (f none)) (gs.setIfInBounds j (G (fr'.finish (recvd ok z' false)) cs')) w (t++u) hs r':=by
 have hmute:∀m ∈ u,m.act.touch? =none:=by
  subst hu';intro m DL;simp at DL;subst DL;rfl
 have R:Wordless u:=by
  subst hu';intro m DL mk hmk;simp at DL;subst DL;cases hmk
 have hW:=I.tr.words.append R;have V:∀y,N.s y=.done->y≠j:=λy D e=>by rw [e,hsj] at D;cases D
 have htouch:∀k a,touchAt (t++u) k=some a->touchAt t k=some a:=λk a d=>by
  rcases CG d with ⟨_,d⟩ | ⟨_,m,DL,_,i⟩
  ·exact d
  ·rw [hmute m DL] at i;cases i
 have hg? :∀k a y,touchAt t k=some a->(t++u).g? k=some y->t.g? k=some y:=λk a y d z=>by
  obtain ⟨m,i,_⟩:=touch_of d;exact g?_app z (lt_size_of_getElem? i)
 obtain ⟨rj,hrj⟩:=IL (cl:=N.cl) bL.none;have a0:(t++u)[t.size+0]? =some { g:=j,fn:=fn,pos:=pos,act:=.recvClosed c }:=by subst hu';exact X3 rfl
 refine ⟨FU r j rj,⟨by show _=N.n;simpa using I.size,I.apart,I.tr.mute hmute R (λm DL=>by subst hu';simp at DL;subst DL;exact hj),?_,I.chans,I.free,λW k a F v=>I.atom W k a F (htouch k a v),?_,?_,?_⟩⟩
 ·intro k g v;show RX P Rep KS (if k=j then f none else N.s k) N.cl (k==0) g (hs k) _;rcases GA v with ⟨rfl,rfl⟩ | ⟨H,l⟩
  ·rw [bV rfl,FU,bV rfl];exact hrj
  ·rw [bU H,FU,bU H];exact I.sit k g l
 ·intro a b ga gb W v' z1 sh z2 sh' i C;have E:∀(k:Nat)(g0:Goroutine)(K:Array CommCase)(Q:CommShape),(gs.setIfInBounds j (G (fr'.finish (recvd ok z' false)) cs'))[k]? =some (parked g0 K Q)->gs[k]? =some (parked g0 K Q):=by
   intro k g0 K Q v;rcases GA v with ⟨rfl,e⟩ | ⟨H,l⟩
   ·simp [G,parked] at e
   ·exact l
  exact I.nomeet a b ga gb W v' z1 sh z2 sh' (E _ _ _ _ i) (E _ _ _ _ C)
 ·intro x y hx D v;have hdone:∀{y},N.s y=.done->(N.hear j c (f none)).s y=.done:=λ{y} h=>by
   show (if y=j then f none else N.s y)=_;rw [bU (V y h)];exact h
  by_cases e:x=j
  ·have l:N.kn j y\/N.ck c y:=by
    have:(if x=j then N.kn j y\/N.ck c y else N.kn x y):=v
    rw [bV e] at this;exact this
   subst e;rcases l with h | h
   ·obtain ⟨i,C⟩:=I.kn x y hx D h;exact ⟨hdone i,λq a d z=>(C q a (htouch q a d) (hg? q a y (htouch q a d) z)).app _⟩
   ·obtain ⟨p,m,i,C,h4⟩:=I.ck c hu hcl;obtain ⟨Y,h6⟩:=h4 y D h;refine ⟨hdone Y,λq a d z=>?_⟩;have hb:=h6 q a (htouch q a d) (hg? q a y (htouch q a d) z);have hp:(t++u)[p]? =some m:=by rw [getElem?_append_old (lt_size_of_getElem? i)];exact i
    have hn:HappensBefore (t++u) p (t.size+0):=MO hW (.closed (c:=c) (by rw [act?_of hp,C]) (act?_of a0)) hp a0;exact ⟨_,_,a0,rfl,.inr ((hb.app _).hb hn)⟩
  ·have l:N.kn x y:=by
    have:(if x=j then N.kn j y\/N.ck c y else N.kn x y):=v
    rw [bU e] at this;exact this
   obtain ⟨i,C⟩:=I.kn x y hx D l;exact ⟨hdone i,λq a d z=>(C q a (htouch q a d) (hg? q a y (htouch q a d) z)).app _⟩
 ·intro W F X;obtain ⟨p,m,i,C,h4⟩:=I.ck W F X;refine ⟨p,m,by rw [getElem?_append_old (lt_size_of_getElem? i)];exact i,C,λy D v=>?_⟩;obtain ⟨Y,h6⟩:=h4 y D v;refine ⟨?_,λq a d z=>(h6 q a (htouch q a d) (hg? q a y (htouch q a d) z)).app _⟩;show (if y=j then f none else N.s y)=_;rw [bU (V y Y)];exact Y
theorem Gn.shut(I:Gn P Rep KS used N gs w t hs r)(hf:∀i,i<N.n->LS used N.cl i (N.s i)){i c s:Nat}{nx:DX M}(hi:i<N.n)(hsi:N.s i=.close c nx)(hu:used c)(hcw:w.heap[c]? =some (.chan 0 #[] false s s false))
  (hgood:Gm used (N.shut i c nx)) {g:Goroutine} (hgi:gs[i]? =some g) {fr':Frame} {cs':List Frame} (hmw:mayWake P g=true) (hx:Gi P Rep KS nx (i==0) (G fr' cs') (hs i)) {fn:FuncId} {pos:String} {u:Trace} (hu':u=#[{ g:=i,fn:=fn,pos:=pos,act:=.access ⟨.obj c,false,true⟩ },{ g:=i,fn:=fn,pos:=pos,act:=.close c }]) :
  ∃r',Gn P Rep KS used (N.shut i c nx) ((gs.map (woken P g (G fr' cs') { w with heap:=w.heap.setIfInBounds c (.chan 0 #[] true s s false) })).setIfInBounds i (G fr' cs')) { w with heap:=w.heap.setIfInBounds c (.chan 0 #[] true s s false) }
   (t++u) hs r':=by
 have hu1:∀D ∈ u,D.g=i:=by
  subst hu';intro D DL;simp at DL;rcases DL with rfl | rfl <;> rfl
 have hu2:∀D ∈ u,∀a,D.act.touch? =some a->Dm a.loc=some c/\a.kind=.atomic:=by
  subst hu';intro D DL a R;simp at DL;rcases DL with rfl | rfl
  ·cases R;exact ⟨rfl,rfl⟩
  ·cases R
 have hwu:Wordless u:=by
  subst hu';intro D DL mk hmk;simp at DL;rcases DL with rfl | rfl <;> cases hmk
 have hlt:c<w.heap.size:=(Array.getElem?_eq_some_iff.1 hcw).1;have hT:=I.tr.atomic hi hu1 hu2 hwu hlt (λk E=>I.free c k hu E) (λk a=>I.atom c k a hu);obtain ⟨ri,hri⟩:=IL (cl:=λx=>if x=c then true else N.cl x) hx;have hstop:∀j,j<N.n->N.s j≠.stop:=λj hj e=>by have:=hf j hj;rw [e] at this;exact this
 have V:∀l,used l->∃n,({ w with heap:=w.heap.setIfInBounds c (.chan 0 #[] true s s false) }:World).heap[l]? =some (.chan 0 #[] (if l=c then true else N.cl l) n n false):=λl W=>by
  by_cases e:l=c
  ·subst e;exact ⟨s,by simp [hlt]⟩
  ·rw [bU e]
   show∃n,(w.heap.setIfInBounds c _)[l]? =_
   rw [Array.getElem?_setIfInBounds_ne (λx=>e x.symm)];exact I.chans l W
 have hopen:∀j l (m:M) nx',j<N.n->N.s j=.send l m nx'->l≠c:=λj l m nx' hj h e=>by
  have hji:j≠i:=λe2=>by rw [e2,hsi] at h;cases h
  have hj':j<(N.shut i c nx).n:=hj
  have:=hgood.sendOpen hj' (c:=l) (m:=m) (nx:=nx') (by show (if j=i then nx else N.s j)=_;rw [bU hji];exact h)
  have f:(if l=c then true else N.cl l)=false:=this;rw [bV e] at f;cases f
 have hothers:∀j y,j≠i->gs[j]? =some y->RX P Rep KS (N.s j) (λx=>if x=c then true else N.cl x) (j==0) (woken P g (G fr' cs') { w with heap:=w.heap.setIfInBounds c (.chan 0 #[] true s s false) } y) (hs j) (r j):=by
  intro j y hji X;have hjl:j<N.n:=by rw [<-I.size];exact (Array.getElem?_eq_some_iff.1 X).1
  generalize hrk:r j=rk;have F:=I.sit j y X;rw [hrk] at F;cases F with
  | walk bN v f=>rw [woken_running (Cf v (hstop j hjl) f)];exact .walk bN v f
  | leave k v f=>rw [woken_quits f];exact .leave k v f
  | psend v f o Y=>
   have H:=hopen j _ _ _ hjl v;have z:=hf j hjl;rw [v] at z;obtain ⟨n,K⟩:=V _ z.1;rw [bU H,f] at K;rw [o,woken_send_open g _ K,<-o];exact .psend v (by simp [H,f]) o Y
  | @precv l f' _ _ _ _ v f o Y=>
   have z:=hf j hjl;rw [v] at z;obtain ⟨n,K⟩:=V _ z;by_cases e:l=c
   ·subst e;rw [bV rfl] at K;refine .wokn v aG ?_ Y;rw [o];unfold woken;rw [bV (by rw [hmw];rfl)];exact again_recv_closed K
   ·rw [bU e,f] at K;rw [o,woken_recv_open g _ K,<-o];exact .precv v (by simp [e,f]) o Y
  | @wokn c2 f' _ _ _ _ v f o Y=>
   rw [show woken P g (G fr' cs') { w with heap:=w.heap.setIfInBounds c (.chan 0 #[] true s s false) } y=y from woken_running (by rw [o])];refine .wokn v ?_ o Y;by_cases e:c2=c
   ·exact bV e
   ·exact (bU e).trans f
 have hnd:∀y,N.s y=.done->y≠i:=λy X e=>by rw [e,hsi] at X;cases X
 have hup:∀D ∈ u,D.g=i\/D.act.touch? =none:=λD DL=>.inl (hu1 D DL);have a1:(t++u)[t.size+1]? =some { g:=i,fn:=fn,pos:=pos,act:=.close c }:=by subst hu';exact X3 rfl
 have hdone:∀{y},N.s y=.done->(N.shut i c nx).s y=.done:=λ{y} h=>by
  show (if y=i then nx else N.s y)=_;rw [bU (hnd y h)];exact h
 refine ⟨FU r i ri,⟨by show _=N.n;simpa using I.size,⟨λk E=>?_,I.apart.disj⟩,hT.raise aG,?_,V,I.free,?_,?_,?_,?_⟩⟩
 ·exact Uq (d:=w.drawn) (I.apart.fits k E) (I.free c k hu E)
 ·intro k y E;show RX P Rep KS (if k=i then nx else N.s k) _ (k==0) y (hs k) _;rcases Ef E with ⟨rfl,rfl⟩ | ⟨H,y',Q,rfl⟩
  ·rw [bV rfl,FU,bV rfl];exact hri
  ·rw [bU H,FU,bU H];exact hothers k y' H Q
 ·intro l k a W E hl;rcases CG E with ⟨_,E⟩ | ⟨_,D,DL,_,R⟩
  ·exact I.atom l k a W E hl
  ·exact (hu2 D DL a R).2
 ·intro a b ga gb l v' z1 sh z2 sh' m1 m2;have hold:∀(k:Nat)(g0:Goroutine)(cs0:Array CommCase)(sh0:CommShape),((gs.map (woken P g (G fr' cs') { w with heap:=w.heap.setIfInBounds c (.chan 0 #[] true s s false) })).setIfInBounds i (G fr' cs'))[k]? =some (parked g0 cs0 sh0)->gs[k]? =some (parked g0 cs0 sh0):=by
   intro k g0 cs0 sh0 E;rcases Ef E with ⟨rfl,e⟩ | ⟨H,y',Q,e⟩
   ·simp [G,parked] at e
   ·have hkl:k<N.n:=by rw [<-I.size];exact (Array.getElem?_eq_some_iff.1 Q).1
    have F:=I.sit k y' Q;have C:(woken P g (G fr' cs') { w with heap:=w.heap.setIfInBounds c (.chan 0 #[] true s s false) } y').status=.blocked:=by rw [<-e];rfl
    generalize hrk:r k=rk at F;cases F with
    | walk bN v f=>rw [woken_running (Cf v (hstop k hkl) f),Cf v (hstop k hkl) f] at C;cases C
    | leave q v f=>rw [woken_quits f] at C;rcases f.status with h | h <;> rw [h] at C <;> cases C
    | psend v f o Y=>
     have hne2:=hopen k _ _ _ hkl v;have z:=hf k hkl;rw [v] at z;obtain ⟨n,K⟩:=V _ z.1;rw [bU hne2,f] at K;rw [o,woken_send_open g _ K] at e;rw [Q,o,e]
    | @precv c2 f' _ _ _ _ v f o Y=>
     have z:=hf k hkl;rw [v] at z;obtain ⟨n,K⟩:=V _ z;by_cases e2:c2=c
     ·subst e2;rw [bV rfl] at K;rw [o] at C;unfold woken at C;rw [bV (by rw [hmw];rfl),again_recv_closed K] at C;cases C
     ·rw [bU e2,f] at K;rw [o,woken_recv_open g _ K] at e;rw [Q,o,e]
    | wokn v f o Y=>
     rw [woken_running (by rw [o]),o] at C;cases C
  exact I.nomeet a b ga gb l v' z1 sh z2 sh' (hold _ _ _ _ m1) (hold _ _ _ _ m2)
 ·intro x y hx X E;obtain ⟨f,o⟩:=I.kn x y hx X E;exact ⟨hdone f,kn_app o hup (hnd y f)⟩
 ·intro l W hcl';by_cases e:l=c
  ·subst e;refine ⟨_,_,a1,rfl,λy X E=>?_⟩;have hk':N.kn i y\/(y=i/\nx.isDone):=by
    have:(if l=l then N.kn i y\/(y=i/\nx.isDone) else N.ck l y):=E
    rw [bV rfl] at this;exact this
   have fin:∀k,Knows t i k->Before (t++u) k (t.size+1):=
    λk E=>.inr (KQ E O a1 rfl)
   rcases hk' with h | ⟨h,h'⟩
   ·obtain ⟨f,o⟩:=I.kn i y hi X h;refine ⟨hdone f,λq a R hg=>?_⟩;rcases CG R with ⟨hlt',R⟩ | ⟨_,D,DL,h5,_⟩
    ·exact fin q (o q a R (g?_app hg hlt'))
    ·have h6:(t++u).g? q=some D.g:=by simp only [Trace.g?,h5,Option.map_some]
     rw [h6,hu1 D DL] at hg;cases hg;exact absurd rfl (hnd i f)
   ·subst h;refine ⟨by show (if y=y then nx else N.s y)=_;rw [bV rfl];exact done_of h',λq a R hg=>?_⟩;rcases CG R with ⟨hlt',R⟩ | ⟨hge,D,DL,h5,h6⟩
    ·exact fin q (Z4 t R (g?_app hg hlt'))
    ·have hq:q<t.size+2:=by
      have h8:=lt_size_of_getElem? h5;subst hu';simpa using h8
     rcases Nat.lt_or_ge q (t.size+1) with h7 | h7
     ·refine .inr (hb_po O h5 a1 ?_);exact hu1 D DL
     ·have:q=t.size+1:=O
      subst this;exact .inl rfl
  ·have hcl2:N.cl l=true:=by
    have:(if l=c then true else N.cl l)=true:=hcl'
    rw [bU e] at this;exact this
   obtain ⟨p,D,f,o,Y⟩:=I.ck l W hcl2;refine ⟨p,D,by rw [getElem?_append_old (lt_size_of_getElem? f)];exact f,o,λy X E=>?_⟩;have hk':N.ck l y:=by
    have:(if l=c then N.kn i y\/(y=i/\nx.isDone) else N.ck l y):=E
    rw [bU e] at this;exact this
   obtain ⟨h5,h6⟩:=Y y X hk';exact ⟨hdone h5,ck_app h6 hup (hnd y h5)⟩
end
end Go.Ns
namespace Go.Ns
open Go.Conc
section
variable {P:Program} {M:Type} {Rep:Nat->M->bW->A->Prop} {KS:Goroutine->A->Prop}
variable {used:Nat->Prop} {N:IK M} {gs:Array Goroutine} {w:World} {t:Trace} {hs:Nat->A} {r:Nat->Jk}
theorem Po{gs:Array Goroutine}{x:Goroutine}{j:Nat}{y:Goroutine}(h:(gs.push x)[j]? =some y):(j=gs.size/\y=x)\/(j≠gs.size/\gs[j]? =some y):=by
 rw [Array.getElem?_push] at h;split at h
 ·rename_i e;exact .inl ⟨e,(Option.some.inj h).symm⟩
 ·rename_i e;exact .inr ⟨e,h⟩
theorem Gn.hire(I:Gn P Rep KS used N gs w t hs r){i:Nat}{ch nx:DX M}(hi:i<N.n)(hsi:N.s i=.spawn ch nx){fr:Frame}{cs:List Frame}{fr':Frame}{d:Deferred}{hc h1:A}
  (bG:WP P (i==0) (Gi P Rep KS ch false) (Gi P Rep KS nx (i==0)) fr cs fr' d hc h1 (hs i)) {f1 f2:FuncId} {p1 p2:String} {u:Trace}
  (hu':u=#[{ g:=i,fn:=f1,pos:=p1,act:=.go N.n },{ g:=N.n,fn:=f2,pos:=p2,act:=.start }]) :
  ∃hs' r',Gn P Rep KS used (N.hire i ch nx) ((gs.setIfInBounds i (G fr' cs)).push (born P d)) w (t++u) hs' r':=by
 have hmute:∀m ∈ u,m.act.touch? =none:=by
  subst hu';intro m DL;simp at DL;rcases DL with rfl | rfl <;> rfl
 have hwu:Wordless u:=by
  subst hu';intro m DL mk hmk;simp at DL;rcases DL with rfl | rfl <;> cases hmk
 have hgu:∀m ∈ u,m.g=i\/m.g=N.n:=by
  subst hu';intro m DL;simp at DL;rcases DL with rfl | rfl <;> simp
 have hW:=I.tr.words.append hwu;have a0:(t++u)[t.size+0]? =some { g:=i,fn:=f1,pos:=p1,act:=.go N.n }:=by subst hu';exact X3 rfl
 have a1:(t++u)[t.size+1]? =some { g:=N.n,fn:=f2,pos:=p2,act:=.start }:=by subst hu';exact X3 rfl
 have K:∀k,Knows t i k->Knows (t++u) N.n k:=λk v=>
  Rw (KQ v O a0 rfl) (MO hW (.spawn (child:=N.n) (act?_of a0) (act?_of a1) (by simp only [Trace.g?,a1,Option.map_some])) a0 a1) a1 rfl
 obtain ⟨ri,hri⟩:=IL (cl:=N.cl) bG.next;obtain ⟨rc,hrc⟩:=IL (cl:=N.cl) bG.child;have hin:i≠N.n:=Nat.ne_of_lt hi;have hn0:(N.n==0)=false:=by simp;omega
 let hs':Nat->A:=λx=>if x=N.n then hc else if x=i then h1 else hs x
 have Y:hs' N.n=hc:=bV rfl;have ei:hs' i=h1:=by show (if i=N.n then _ else if i=i then _ else _)=_;rw [bU hin,bV rfl]
 have R:∀k,k≠N.n->k≠i->hs' k=hs k:=λk h1 f=>by show (if k=N.n then _ else if k=i then _ else _)=_;rw [bU h1,bU f]
 have E:∀a b,a<N.n->b<N.n->a≠b->(hs a).Apart (hs b):=λa b j F l r o x y z=>I.apart.disj a b r o x j F l y z;have hap':∀a b,a<N.n+1->b<N.n+1->a≠b->(hs' a).Apart (hs' b):=by
  intro a b j F l;by_cases ea:a=N.n
  ·subst ea;rw [Y];by_cases Q:b=i
   ·subst Q;rw [ei];exact bG.split.two
   ·rw [R b (λe=>l e.symm) Q];exact (E i b hi O (λe=>Q e.symm)).mono bG.split.right (A.Sub.refl _)
  ·by_cases ea2:a=i
   ·subst ea2;rw [ei];by_cases Q:b=N.n
    ·subst Q;rw [Y];exact bG.split.one
    ·rw [R b Q (λe=>l e.symm)];exact (E a b hi O l).mono bG.split.left (A.Sub.refl _)
   ·rw [R a ea ea2];by_cases Q:b=N.n
    ·subst Q;rw [Y];exact (E a i O hi ea2).mono (A.Sub.refl _) bG.split.right
    ·by_cases eb2:b=i
     ·subst eb2;rw [ei];exact (E a b O hi l).mono (A.Sub.refl _) bG.split.left
     ·rw [R b Q eb2];exact E a b O O l
 have hnd:∀y,N.s y=.done->y≠i:=λy V e=>by rw [e,hsi] at V;cases V
 have hdone:∀{y},y<N.n->N.s y=.done->(N.hire i ch nx).s y=.done:=λ{y} V h=>by
  show (if y=N.n then ch else if y=i then nx else N.s y)=_;rw [bU (Nat.ne_of_lt V),bU (hnd y h)];exact h
 have htouch:∀k a,touchAt (t++u) k=some a->touchAt t k=some a:=λk a j=>by
  rcases CG j with ⟨_,j⟩ | ⟨_,m,DL,_,f⟩
  ·exact j
  ·rw [hmute m DL] at f;cases f
 have hg? :∀k a y,touchAt t k=some a->(t++u).g? k=some y->t.g? k=some y:=λk a y j hg=>by
  obtain ⟨m,f,_⟩:=touch_of j;exact g?_app hg (lt_size_of_getElem? f)
 have hfree:∀C k,used C->k<N.n+1->hs' k C=none:=by
  intro C k D v;have fi:=I.free C i D hi;by_cases e:k=N.n
  ·subst e;rw [Y];cases hq:hc C with
   | none=>rfl
   | some y=>obtain ⟨p0,f,_⟩:=bG.split.right C y.1 y.2 hq;rw [fi] at f;cases f
  ·by_cases W:k=i
   ·subst W;rw [ei];cases hq:h1 C with
    | none=>rfl
    | some y=>obtain ⟨p0,f,_⟩:=bG.split.left C y.1 y.2 hq;rw [fi] at f;cases f
   ·rw [R k e W];exact I.free C k D O
 refine ⟨hs',FU (FU r N.n rc) i ri,⟨?_,⟨?_,λa b r o x j F l y z=>hap' a b j F l r o x y z⟩,?_,?_,I.chans,hfree,λC k a D v=>I.atom C k a D (htouch k a v),?_,?_,?_⟩⟩
 ·show _=N.n+1;simp [I.size]
 ·intro k v;have c:k<N.n+1:=v;by_cases e:k=N.n
  ·subst e;rw [Y];exact (I.apart.fits i hi).sub bG.split.right
  ·by_cases W:k=i
   ·subst W;rw [ei];exact (I.apart.fits k hi).sub bG.split.left
   ·rw [R k e W];exact I.apart.fits k O
 ·refine I.tr.redist hmute hwu (λm DL=>?_) ?_
  ·show m.g<N.n+1;rcases Array.mem_append.1 DL with x | x
   ·have:=I.tr.num m x;omega
   ·rcases hgu m x with e | e <;> omega
  ·intro k b p o v F;have c:k<N.n+1:=v;by_cases e:k=N.n
   ·subst e;rw [Y] at F;exact ⟨i,hi,bG.split.right b p o F,K⟩
   ·by_cases W:k=i
    ·subst W;rw [ei] at F;exact ⟨k,hi,bG.split.left b p o F,λq hq=>hq.app _⟩
    ·rw [R k e W] at F;exact ⟨k,O,⟨p,F,id⟩,λq hq=>hq.app _⟩
 ·intro k g v;show RX P Rep KS (if k=N.n then ch else if k=i then nx else N.s k) N.cl (k==0) g (hs' k) _;rcases Po v with ⟨e,rfl⟩ | ⟨e,c⟩
  ·have e':k=N.n:=by rw [e];simp [I.size]
   subst e';rw [bV rfl,Y,FU,bU (λx=>hin x.symm),FU,bV rfl,hn0];exact hrc
  ·have e':k≠N.n:=λx=>e (by rw [x];simp [I.size]);rcases GA c with ⟨rfl,rfl⟩ | ⟨hne,H⟩
   ·rw [bU e',bV rfl,ei,FU,bV rfl];exact hri
   ·rw [bU e',bU hne,R k e' hne,FU,bU hne,FU,bU e'];exact I.sit k g H
 ·intro a b ga gb C v' z1 sh z2 sh' m1 m2;have X:∀(k:Nat)(g0:Goroutine)(cs0:Array CommCase)(sh0:CommShape),((gs.setIfInBounds i (G fr' cs)).push (born P d))[k]? =some (parked g0 cs0 sh0)->gs[k]? =some (parked g0 cs0 sh0):=by
   intro k g0 cs0 sh0 v;rcases Po v with ⟨_,e⟩ | ⟨_,c⟩
   ·simp [born,parked] at e
   ·rcases GA c with ⟨_,e⟩ | ⟨_,H⟩
    ·simp [G,parked] at e
    ·exact H
  exact I.nomeet a b ga gb C v' z1 sh z2 sh' (X _ _ _ _ m1) (X _ _ _ _ m2)
 ·intro x y hx V v;have hx':x<N.n+1:=hx;have hy':y<N.n+1:=V;have c:if y=N.n then False else if x=N.n then N.kn i y else N.kn x y:=v
  by_cases ey:y=N.n
  ·rw [bV ey] at c;exact c.elim
  ·rw [bU ey] at c;by_cases ex:x=N.n
   ·subst ex;rw [bV rfl] at c;obtain ⟨f,h3⟩:=I.kn i y hi O c;exact ⟨hdone O f,λq a j hg=>K q (h3 q a (htouch q a j) (hg? q a y (htouch q a j) hg))⟩
   ·rw [bU ex] at c;obtain ⟨f,h3⟩:=I.kn x y O O c;exact ⟨hdone O f,λq a j hg=>(h3 q a (htouch q a j) (hg? q a y (htouch q a j) hg)).app _⟩
 ·intro C D hcl';obtain ⟨p,m,f,h3,h4⟩:=I.ck C D hcl';refine ⟨p,m,by rw [getElem?_append_old (lt_size_of_getElem? f)];exact f,h3,λy V v=>?_⟩;have hy':y<N.n+1:=V;have c:if y=N.n then False else N.ck C y:=v
  by_cases ey:y=N.n
  ·rw [bV ey] at c;exact c.elim
  ·rw [bU ey] at c;obtain ⟨h5,h6⟩:=h4 y O c;exact ⟨hdone O h5,λq a j hg=>(h6 q a (htouch q a j) (hg? q a y (htouch q a j) hg)).app _⟩
end
section
variable {P:Program} {M:Type} {Rep:Nat->M->bW->A->Prop} {Post:bW->World->Prop}
variable {used:Nat->Prop}
theorem RX.chans{KS:Goroutine->A->Prop}{s:DX M}{cl cl':Nat->Bool}{main:Bool}{g:Goroutine}{h:A}{r:Jk}{i:Nat}(x:RX P Rep KS s cl main g h r)(hf:LS used cl i s)(e:∀c,used c->cl' c=cl c):RX P Rep KS s cl' main g h r:=by
 cases x with
 | walk j a b=>exact .walk j a b
 | leave k a b=>exact .leave k a b
 | psend a b d f=>subst a;exact .psend rfl (by rw [e _ hf.1];exact b) d f
 | precv a b d f=>subst a;exact .precv rfl (by rw [e _ hf];exact b) d f
 | wokn a b d f=>subst a;exact .wokn rfl (by rw [e _ hf];exact b) d f
theorem Gn.make{KS:Goroutine->A->Prop}{N:IK M}{gs:Array Goroutine}{w:World}{t:Trace}{hs:Nat->A}{r:Nat->Jk}(I:Gn P Rep KS used N gs w t hs r)(hf:∀i,i<N.n->LS used N.cl i (N.s i)){i c:Nat}{nx:DX M}(hi:i<N.n)
  (hnd:N.s i≠.done) {g:Goroutine} (hgi:gs[i]? =some g) (hc:hs i c=some (true,.chan 0 #[] false 0 0 false)) (hx:Gi P Rep KS nx (i==0) g ((hs i).cut c)) :
  ¬used c/\∃hs' r',Gn P Rep KS (λx=>used x\/x=c) (N.mk' i c nx) gs w t hs' r':=by
 have R:¬used c:=λq=>by have:=I.free c i q hi;rw [hc] at this;cases this
 have d:∀j b p o,M4 hs i ((hs i).cut c) j b=some (p,o)->hs j b=some (p,o):=by
  intro j b p o f;unfold M4 at f;split at f
  ·rename_i e;subst e
   unfold A.cut at f;split at f
   ·cases f
   ·exact f
  ·exact f
 have z:∀x,used x->(if x=c then false else N.cl x)=N.cl x:=λx q=>bU λe=>by subst e;exact R q
 have hnone:∀x j,(used x\/x=c)->j<N.n->M4 hs i ((hs i).cut c) j x=none:=by
  intro x j V m;unfold M4;split
  ·unfold A.cut;split
   ·rfl
   ·rename_i e;exact I.free x i (V.elim id λq=>absurd q e) hi
  ·rename_i E
   rcases V with q | rfl
   ·exact I.free x j q m
   ·cases f:hs j x with
    | none=>rfl
    | some y=>exact (I.apart.disj i j x _ y hi m (λe=>E e.symm) hc f).elim
 have hdone:∀{y},N.s y=.done->(N.mk' i c nx).s y=.done:=λ{y} h=>by
  show (if y=i then nx else N.s y)=_;rw [bU λe=>by subst e;exact hnd h];exact h
 obtain ⟨W,F⟩:=IL (cl:=(N.mk' i c nx).cl) hx;refine ⟨R,M4 hs i ((hs i).cut c),FU r i W,⟨I.size,⟨λj m b p o f=>I.apart.fits j m b p o (d j b p o f),λa b q o x ha f H C v=>?_⟩,?_,?_,?_,hnone,?_,I.nomeet,?_,?_⟩⟩
 ·obtain ⟨p,y⟩:=x;exact I.apart.disj a b q o _ ha f H (d _ _ _ _ C) (d _ _ _ _ v)
 ·exact ⟨I.tr.words,I.tr.clean,I.tr.low,I.tr.num,λj b o k a m f=>I.tr.own j b o k a m (d _ _ _ _ f),λj b o k a m f=>I.tr.ro j b o k a m (d _ _ _ _ f),λj b p o k a m f=>I.tr.chn j b p o k a m (d _ _ _ _ f)⟩
 ·intro k X u;have K:k<N.n:=by rw [<-I.size];exact (Array.getElem?_eq_some_iff.1 u).1
  show RX P Rep KS (if k=i then nx else N.s k) _ (k==0) X (M4 hs i _ k) (FU r i W k);by_cases e:k=i
  ·subst e;rw [hgi] at u;cases u;rw [bV rfl,FU,bV rfl];unfold M4;rw [bV rfl];exact F
  ·rw [bU e,FU,bU e];unfold M4;rw [bU e];exact (I.sit k X u).chans (hf k K) z
 ·rintro x (q | rfl)
  ·obtain ⟨s,C⟩:=I.chans x q;exact ⟨s,by show w.heap[x]? =some (.chan 0 #[] (if x=c then false else N.cl x) s s false);rw [z x q];exact C⟩
  ·exact ⟨0,by show w.heap[x]? =some (.chan 0 #[] (if x=x then false else N.cl x) 0 0 false);rw [bV rfl];exact I.apart.fits i hi _ _ _ hc⟩
 ·rintro x k a (q | rfl) C v
  ·exact I.atom x k a q C v
  ·exact I.tr.chn i x _ _ k a hi hc rfl C v
 ·intro x y hx D u;obtain ⟨v,Q⟩:=I.kn x y hx D u;exact ⟨hdone v,Q⟩
 ·rintro x (q | rfl) hx
  ·have l:(if x=c then false else N.cl x)=true:=hx;rw [z x q] at l;obtain ⟨p,op,v,Q,Y⟩:=I.ck x q l;exact ⟨p,op,v,Q,λy D u=>⟨hdone (Y y D u).1,(Y y D u).2⟩⟩
  ·have l:(if x=x then false else N.cl x)=true:=hx;rw [bV rfl] at l;cases l
theorem Gn.runs{KS:Goroutine->A->Prop}{N:IK M}{gs:Array Goroutine}{w:World}{t:Trace}{hs:Nat->A}{r:Nat->Jk}(I:Gn P Rep KS used N gs w t hs r)(hf:∀i,i<N.n->LS used N.cl i (N.s i))(he:∃N',J2 N N') :
  ∃(i:Nat)(g:Goroutine),gs[i]? =some g/\g.status=.running:=by
 have b:∀i,i<N.n->∃g,gs[i]? =some g:=λi q=>⟨_,Array.getElem?_eq_getElem (by rw [I.size];exact q)⟩;obtain ⟨N',h⟩:=he;cases h with
 | @hire i V F q hs=>
  obtain ⟨g,d⟩:=b i q;refine ⟨i,g,d,?_⟩;have x:=I.sit i g d;generalize r i=z at x;cases x with
  | walk v a l=>exact Cf a (λe=>by rw [hs] at e;cases e) l
  | leave k a _=>rw [hs] at a;cases a
  | psend a _ _ _=>rw [hs] at a;cases a
  | precv a _ _ _=>rw [hs] at a;cases a
  | wokn a _ _ _=>rw [hs] at a;cases a
 | @shut i c F q hs=>
  obtain ⟨g,d⟩:=b i q;refine ⟨i,g,d,?_⟩;have x:=I.sit i g d;generalize r i=z at x;cases x with
  | walk v a l=>exact Cf a (λe=>by rw [hs] at e;cases e) l
  | leave k a _=>rw [hs] at a;cases a
  | psend a _ _ _=>rw [hs] at a;cases a
  | precv a _ _ _=>rw [hs] at a;cases a
  | wokn a _ _ _=>rw [hs] at a;cases a
 | @hear j c f C hs D=>
  obtain ⟨g,d⟩:=b j C;refine ⟨j,g,d,?_⟩;have x:=I.sit j g d;generalize r j=z at x;cases x with
  | walk v a l=>exact Cf a (λe=>by rw [hs] at e;cases e) l
  | leave k a _=>rw [hs] at a;cases a
  | psend a _ _ _=>rw [hs] at a;cases a
  | precv a l _ _=>rw [hs] at a;cases a;rw [D] at l;cases l
  | wokn a _ u _=>rw [u]
 | @meet i j c m F f q C K hs p=>
  obtain ⟨g,d⟩:=b i q;obtain ⟨E,o⟩:=b j C;have x:=I.sit i g d;have y:=I.sit j E o;generalize r i=z at x;generalize r j=Q at y;cases x with
  | walk v a l=>exact ⟨i,g,d,Cf a (λe=>by rw [hs] at e;cases e) l⟩
  | leave k a _=>rw [hs] at a;cases a
  | precv a _ _ _=>rw [hs] at a;cases a
  | wokn a _ _ _=>rw [hs] at a;cases a
  | psend a l u W=>
   cases y with
   | walk v a l=>exact ⟨j,E,o,Cf a (λe=>by rw [p] at e;cases e) l⟩
   | leave k a _=>rw [p] at a;cases a
   | psend a _ _ _=>rw [p] at a;cases a
   | wokn a _ u _=>exact ⟨j,E,o,by rw [u]⟩
   | precv H X R Y=>
    rw [hs] at a;cases a;rw [p] at H;cases H;rw [u] at d;rw [R] at o;exact (I.nomeet _ _ _ _ _ _ _ _ _ _ d o).elim
theorem Gn.runs'{KS:Goroutine->A->Prop}{N:IK M}{gs:Array Goroutine}{w:World}{t:Trace}{hs:Nat->A}{r:Nat->Jk}(I:Gn P Rep KS used N gs w t hs r)(hf:∀i,i<N.n->LS used N.cl i (N.s i))
  (he:(∃N',J2 N N')\/∃i f,i<N.n/\N.s i=.make f):∃(i:Nat)(g:Goroutine),gs[i]? =some g/\g.status=.running:=by
 rcases he with he | ⟨i,f,b,hs⟩
 ·exact I.runs hf he
 ·refine ⟨i,_,Array.getElem?_eq_getElem (by rw [I.size];exact b),?_⟩;have x:=I.sit i _ (Array.getElem?_eq_getElem (by rw [I.size];exact b));generalize r i=d at x;cases x with
  | walk h a c=>exact Cf a (λe=>by rw [hs] at e;cases e) c
  | leave k a _=>rw [hs] at a;cases a
  | psend a _ _ _=>rw [hs] at a;cases a
  | precv a _ _ _=>rw [hs] at a;cases a
  | wokn a _ _ _=>rw [hs] at a;cases a
theorem GQ(g:Nat)(fn:FuncId)(pos:String):MemOp.ofEvents g fn pos #[]=#[]:=rfl
set_option maxHeartbeats 1000000 in
theorem net_runs{N:IK M}(hN:Gm used N):∀r gs w sl t hs,Gn P Rep (E5 P Post) used N gs w t hs r->CX P (KP Post w.os w.output) (crowd gs w sl) t:=by
 induction hN with
 | stop used N h0 hs0 hrest=>
  intro r gs w sl t hs I;obtain ⟨g,hg⟩:∃g,gs[0]? =some g:=⟨_,Array.getElem?_eq_getElem (by rw [I.size];exact h0)⟩;have x:=I.sit 0 g hg;generalize hr0:r 0=r0 at x;have hok:E5 P Post g (hs 0):=by
   cases x with
   | walk bN l q=>
    rw [hs0] at q;exact FS.elim Mm ⟨bN,q⟩
   | leave k l _=>rw [hs0] at l;cases l
   | psend l _ _ _=>rw [hs0] at l;cases l
   | precv l _ _ _=>rw [hs0] at l;cases l
   | wokn l _ _ _=>rw [hs0] at l;cases l
  refine hok gs w sl (λj=>match r j with | .leave k=>k | _=>0) t ⟨hg,?_,I.apart.fits 0 h0,I.tr.words,I.tr.clean,I.tr.low,by rw [I.size];exact I.tr.num,?_,λb p o k a hb=>I.tr.chn 0 b p o k a h0 hb⟩
  ·intro j y V hy;have F:j<N.n:=by rw [<-I.size];exact (Array.getElem?_eq_some_iff.1 hy).1
   have y1:=I.sit j y hy;have hd:=(hrest j V F).1;generalize r j=rk at y1;cases y1 with
   | walk bN l q=>rw [hd] at l;exact absurd trivial l
   | leave k l q=>exact q
   | psend l _ _ _=>rw [hd] at l;cases l
   | precv l _ _ _=>rw [hd] at l;cases l
   | wokn l _ _ _=>rw [hd] at l;cases l
  ·intro k a hk;obtain ⟨op,l,_⟩:=touch_of hk;have hg1:t.g? k=some op.g:=by simp [Trace.g?,l]
   have hlt:=I.tr.num op (mem_of_getElem? l);rcases Nat.eq_zero_or_pos op.g with e | e
   ·have:=knows_own l;rw [e] at this;exact this
   ·exact (I.kn 0 op.g h0 hlt (hrest op.g e hlt).2).2 k a hk hg1
 | step used N h0 he hf hgd hmk ih ihm=>
  intro r
  induction ranks_wf N.n r with
  | intro r _ ihr=>
  intro gs w sl t hs I;by_cases hmake:∃i f g,i<N.n/\N.s i=.make f/\gs[i]? =some g/\Jj P Rep (E5 P Post) (.make f) (i==0) g (hs i)
  ·obtain ⟨i,f,g,hi,hsi,hgi,_,c,hc,hd⟩:=hmake;obtain ⟨hu,hs',r',hI⟩:=I.make hf hi (λe=>by rw [hsi] at e;cases e) hgi hc hd;exact ihm i f c hi hsi hu r' gs w sl t hs' hI
  have hstop:∀j,j<N.n->N.s j≠.stop:=λj V e=>by have:=hf j V;rw [e] at this;exact this
  have haw:∀g ∈ gs,awake g:=by
   intro g hg;obtain ⟨i,hi,rfl⟩:=Array.mem_iff_getElem.1 hg;exact awake_of ((I.sit i _ (Array.getElem?_eq_getElem hi)).status (hstop i (by rw [<-I.size];exact hi)))
  obtain ⟨i,g,d,sl',hi,hg,hst⟩:=crowd_pick (P:=P) (w:=w) (sl:=sl) haw (I.runs' hf he);have D:i<N.n:=by rw [<-I.size];exact (Array.getElem?_eq_some_iff.1 hi).1
  have I1:=I.at d;have H:(w.at d).os=w.os/\(w.at d).output=w.output:=⟨rfl,rfl⟩;generalize w.at d=w1 at I1 hst H;have parks:∀{W cs cases shape},(∀x,stepG P (i==0) g w1=x->x=.comm (G W cs) cases true shape w1 #[])->(∀cc ∈ cases,NoWays w1 (gs.setIfInBounds i ph) cc)->
    RX P Rep (E5 P Post) (N.s i) N.cl (i==0) (parked (G W cs) cases shape) (hs i) .low->RLt .low (r i)->
    (∀(j:Nat)(gj:Goroutine),gs[j]? =some gj->(∀g0 c v z sh g1 z' sh',parked (G W cs) cases shape=parked g0 #[scase c v z] sh->gj=parked g1 #[rcase c z'] sh'->False)/\(∀g0 c v z sh g1 z' sh',gj=parked g0 #[scase c v z] sh->parked (G W cs) cases shape=parked g1 #[rcase c z'] sh'->False))->
    CX P (KP Post w.os w.output) (crowd gs w sl) t:=by
   intro W cs cases shape hstep hw hsit hlt hno;have C:=crowd_waits (P:=P) (sl:=sl') hi (hstep _ rfl) hw;refine CX.step (hst.trans C) (CX.at H.1 H.2 ?_);rw [GQ,Array.append_empty];exact ihr _ ⟨i,D,by rw [FU,bV rfl];exact hlt,λj _ V=>by rw [FU,bU V]⟩ _ _ _ _ _ (I1.park (g:=g) D (.inr trivial) hsit hno)
  have recvs:∀{c f W cs z ok},N.s i=.recv c f->M5 P (i==0) Rep c (λo=>Gi P Rep (E5 P Post) (f o) (i==0)) W cs z ok (hs i)->stepG P (i==0) g w1=stepG P (i==0) (G W cs) w1->
    (N.cl c=false->RLt .low (r i))->CX P (KP Post w.os w.output) (crowd gs w sl) t:=by
   intro c f W cs z ok hsi bL hsame hlow;have K:=hf i D;rw [hsi] at K;have hstep:stepG P (i==0) g w1=.comm (G W cs) #[rcase c z] true (.recv ok) w1 #[]:=hsame.trans (bL.step w1 (I1.apart.fits i D));obtain ⟨s,X⟩:=I1.chans c K;cases hcl:N.cl c with
   | true=>
    rw [hcl] at X;have hp:partners (gs.setIfInBounds i ph) c true=[]:=partners_nil λj gj V=>by
     rcases getElem?_stand gs i j gj V with ⟨_,rfl⟩ | ⟨_,hj'⟩
     ·rfl
     ·have F:j<N.n:=by rw [<-I.size];exact (Array.getElem?_eq_some_iff.1 hj').1
      have y:=I1.sit j gj hj';generalize r j=rk at y;cases y with
      | walk bN l q=>exact offersAt_of_not_blocked (by rw [Cf l (hstop j F) q];simp) _ _
      | leave k l q=>exact offersAt_of_not_blocked (by rcases q.status with h | h <;> rw [h] <;> simp) _ _
      | @psend c' _ _ _ _ _ _ _ _ l q E _=>
       rw [E,offersAt_parked_send]
       have:c'≠c:=λe=>by rw [e,hcl] at q;cases q
       rw [bU this]
      | precv l q E _=>rw [E];exact offersAt_parked_recv' _ _ _ _ _
      | wokn l q E _=>exact offersAt_of_not_blocked (by rw [E];simp) _ _
    have C:=crowd_recv_closed (P:=P) (sl:=sl') hi hstep X hp;rw [finishComm_recv,GQ,Array.empty_append] at C;obtain ⟨r',hI⟩:=I1.hear D hsi K hcl bL (fn:=W.fn) (pos:=W.place) rfl;exact CX.step (hst.trans C) (CX.at H.1 H.2 (ih _ (.hear D hsi hcl) r' _ _ _ _ _ hI))
   | false=>
    rw [hcl] at X;by_cases hp:partners (gs.setIfInBounds i ph) c true=[]
    ·refine parks (λx hx=>by rw [<-hx];exact hstep) (λcc hcc=>?_) (.precv hsi hcl rfl bL) (hlow hcl) ?_
     ·simp at hcc;subst hcc;exact ways_recv_none X hp
     ·intro j gj V;refine ⟨λg0 c' v z1 sh g1 z2 sh' l _=>Iu l,λg0 c' v z1 sh g1 z2 sh' l q=>?_⟩;obtain ⟨_,_,_,rfl,_,_⟩:=Un q;have Y:j≠i:=λe=>by subst e;rw [hi] at V;cases V;rw [l] at hg;cases hg
      have:(j,0) ∈ partners (gs.setIfInBounds i ph) c true:=mem_partners.2 ⟨gj,stand_get Y V,by rw [l,offersAt_parked_send,bV rfl];simp⟩
      rw [hp] at this;cases this
    ·have hall:∀j k,(j,k) ∈ partners (gs.setIfInBounds i ph) c true->k=0/\j≠i/\∃gj vj zj shj,gs[j]? =some (parked gj #[scase c vj zj] shj):=by
      intro j k hjk;obtain ⟨gj,V,R⟩:=mem_partners.1 hjk;rcases getElem?_stand gs i j gj V with ⟨_,rfl⟩ | ⟨Y,hj'⟩
      ·rw [offersAt_ph] at R;cases R
      ·have F:j<N.n:=by rw [<-I.size];exact (Array.getElem?_eq_some_iff.1 hj').1
       have y:=I1.sit j gj hj';generalize r j=rk at y;cases y with
       | walk bN l q=>rw [offersAt_of_not_blocked (by rw [Cf l (hstop j F) q];simp)] at R;cases R
       | leave k l q=>rw [offersAt_of_not_blocked (by rcases q.status with h | h <;> rw [h] <;> simp)] at R;cases R
       | @psend c' _ _ _ _ _ _ _ _ l q E _=>
        rw [E,offersAt_parked_send] at R;by_cases e:c'=c
        ·subst e;rw [bV rfl] at R;rw [E] at hj';exact ⟨by simpa using R,Y,_,_,_,_,hj'⟩
        ·rw [bU e] at R;cases R
       | precv l q E _=>rw [E,offersAt_parked_recv'] at R;cases R
       | wokn l q E _=>rw [offersAt_of_not_blocked (by rw [E];simp)] at R;cases R
     obtain ⟨j,gj,vj,zj,shj,d',Y,V,C⟩:=crowd_recv_meets_some (P:=P) (sl:=sl') hi hstep X hp hall;have F:j<N.n:=by rw [<-I.size];exact (Array.getElem?_eq_some_iff.1 V).1
     have y:=I1.sit j _ V;generalize r j=rk at y;cases y with
     | walk bN l q=>have:=Cf l (hstop j F) q;cases this
     | leave k l q=>rcases q.status with h | h <;> cases h
     | precv l q E _=>exact (Iu E.symm).elim
     | wokn l q E _=>have:=congrArg Goroutine.status E;cases this
     | @psend c' m nx fr2 cs2 v2 z2 hm h1' l q E bG=>
      obtain ⟨e1,e2,e3,rfl,rfl,rfl,rfl⟩:=Uo E;rw [finishComm_recv,finishComm_send,GQ,Array.empty_append,Up e1 e2 e3] at C;have hij:i≠j:=λe=>Y e.symm;obtain ⟨hs',r',hI⟩:=I1.meet (d:=d') F D Y l hsi K hcl bG bL (gs':=(gs.setIfInBounds j (G (fr2.finish undef) cs2)).setIfInBounds i (G (W.finish (recvd ok vj true)) cs))
       (by rw [Array.getElem?_setIfInBounds_ne hij];simp [I.size,F]) (by simp [I.size,D])
       (λk hk1 hk2=>by rw [Array.getElem?_setIfInBounds_ne (λe=>hk2 e.symm),Array.getElem?_setIfInBounds_ne (λe=>hk1 e.symm)]) aG (s:=s) rfl
      exact CX.step (hst.trans C) (CX.at H.1 H.2 (ih _ (.meet F D Y l hsi) r' _ _ _ _ _ hI))
  have x:=I1.sit i g hi;generalize hri:r i=ri at x;cases x with
  | leave k l q=>
   cases k with
   | zero=>rw [show g.status=.finished from q] at hg;cases hg
   | succ k=>
    rcases q with q | ⟨_,g',hstp,hq⟩
    ·rw [q] at hg;cases hg
    have hi0:(i==0)=false:=by
     have h9:=hf i D;rw [l] at h9;have h10:i≠0:=h9;simpa using h10
    have C:=runT_crowd_go (P:=P) (sl:=sl') (i:=i) hi (by rw [hi0];exact hstp w1);refine CX.step (hst.trans C) (CX.at H.1 H.2 ?_);rw [GQ,Array.append_empty];exact ihr _ ⟨i,D,by rw [FU,bV rfl,hri];exact .leave k,λj _ V=>by rw [FU,bU V]⟩ _ _ _ _ _ (I1.quit hf hi l hq)
  | psend l q E _=>rw [E] at hg;cases hg
  | precv l q E _=>rw [E] at hg;cases hg
  | wokn l q E bL=>
   refine recvs l bL ?_ (λe=>by rw [q] at e;cases e);rw [E,stepG_tries];rfl
  | walk bN hnd hT=>
   have hcase:Jj P Rep (E5 P Post) (N.s i) (i==0) g (hs i)\/∃f,bN=.node f/\∀w,FJ w (hs i)->∃g' w' es h',stepG P (i==0) g w=.go g' w' es/\CR (hs i) w es h' w'/\Um P (i==0) (Jj P Rep (E5 P Post) (N.s i) (i==0)) (f w) g' h':=by
    cases bN with
    | leaf=>exact .inl hT
    | node f=>exact hT.imp id λx=>⟨f,rfl,x.2⟩
   rcases hcase with hS | ⟨f,rfl,hstp⟩
   ·have hlow:RLt .low (r i):=by rw [hri];exact .low bN
    have K:=hf i D;cases Q:N.s i with
    | stop=>exact absurd Q (hstop i D)
    | never=>rw [Q] at K;exact K.elim
    | done=>rw [Q] at hnd;exact absurd trivial hnd
    | make f=>rw [Q] at hS;exact absurd ⟨i,f,g,D,Q,hi,hS⟩ hmake
    | recv c f=>
     rw [Q] at hS;obtain ⟨W,cs,z,ok,rfl,bL⟩:=hS;exact recvs Q bL rfl (λ_=>hlow)
    | close c nx=>
     rw [Q] at hS K;obtain ⟨W,cs,fr',cs',rfl,bG⟩:=hS;obtain ⟨s,X⟩:=I1.chans c K.1;rw [K.2] at X;have hstep:=bG.step w1 s s (I1.apart.fits i D) X;have C:=runT_crowd_go (P:=P) (sl:=sl') (i:=i) hi hstep;have eU:MemOp.ofEvents i (G W cs).frame.fn (G W cs).frame.place #[⟨.obj c,false,true⟩,⟨.obj c,true,true⟩]=#[{ g:=i,fn:=W.fn,pos:=W.place,act:=.access ⟨.obj c,false,true⟩ },{ g:=i,fn:=W.fn,pos:=W.place,act:=.close c }]:=by simp [MemOp.ofEvents,MemAct.ofEvent,G]
     have hst':J2 N (N.shut i c nx):=.shut D Q;have hgood:Gm used (N.shut i c nx):=hgd _ hst';obtain ⟨r',hI⟩:=I1.shut hf D Q K.1 X hgood hi bG.wake bG.next eU;exact CX.step (hst.trans C) (CX.at H.1 H.2 (ih _ hst' r' _ _ _ _ _ hI))
    | spawn ch nx=>
     rw [Q] at hS;obtain ⟨W,cs,fr',d',hc,l,rfl,bG⟩:=hS;have C:=runT_crowd_spawn (P:=P) (sl:=sl') (i:=i) hi (bG.step w1 (I1.apart.fits i D));obtain ⟨hs',r',hI⟩:=I1.hire D Q bG (u:=(MemOp.ofEvents i (G W cs).frame.fn (G W cs).frame.place #[]).push { g:=i,fn:=(G W cs).frame.fn,pos:=(G W cs).frame.place,act:=.go gs.size } |>.push { g:=gs.size,fn:=(born P d').frame.fn,pos:=(G W cs).frame.place,act:=.start }) (by rw [GQ,I.size];rfl);exact CX.step (hst.trans C) (CX.at H.1 H.2 (ih _ (.hire D Q) r' _ _ _ _ _ hI))
    | send c m nx=>
     rw [Q] at hS K;obtain ⟨W,cs,v,z,hm,l,rfl,bG⟩:=hS;obtain ⟨s,X⟩:=I1.chans c K.1;rw [K.2] at X;have hstep:=bG.step w1 (I1.apart.fits i D);by_cases hp:partners (gs.setIfInBounds i ph) c false=[]
     ·refine parks (λx hx=>by rw [<-hx];exact hstep) (λcc hcc=>?_) (.psend Q K.2 rfl bG) hlow ?_
      ·simp at hcc;subst hcc;exact ways_send_none X aG hp
      ·intro j gj V;refine ⟨λg0 c' v1 z1 sh g1 z2 sh' l q=>?_,λg0 c' v1 z1 sh g1 z2 sh' _ q=>Iu q.symm⟩;obtain ⟨_,_,_,rfl,_,_,_⟩:=Uo l;have Y:j≠i:=λe=>by subst e;rw [hi] at V;cases V;rw [q] at hg;cases hg
       have:(j,0) ∈ partners (gs.setIfInBounds i ph) c false:=mem_partners.2 ⟨gj,stand_get Y V,by rw [q,offersAt_parked_recv,bV rfl];simp⟩
       rw [hp] at this;cases this
     ·have hall:∀j k,(j,k) ∈ partners (gs.setIfInBounds i ph) c false->k=0/\j≠i/\∃gj zj shj,gs[j]? =some (parked gj #[rcase c zj] shj):=by
       intro j k hjk;obtain ⟨gj,V,R⟩:=mem_partners.1 hjk;rcases getElem?_stand gs i j gj V with ⟨_,rfl⟩ | ⟨Y,hj'⟩
       ·rw [offersAt_ph] at R;cases R
       ·have F:j<N.n:=by rw [<-I.size];exact (Array.getElem?_eq_some_iff.1 hj').1
        have y:=I1.sit j gj hj';generalize r j=rk at y;cases y with
        | walk bN l q=>rw [offersAt_of_not_blocked (by rw [Cf l (hstop j F) q];simp)] at R;cases R
        | leave k l q=>rw [offersAt_of_not_blocked (by rcases q.status with h | h <;> rw [h] <;> simp)] at R;cases R
        | psend l q E _=>rw [E,offersAt_parked_send'] at R;cases R
        | @precv c' _ _ _ _ _ l q E _=>
         rw [E,offersAt_parked_recv] at R;by_cases e:c'=c
         ·subst e;rw [bV rfl] at R;rw [E] at hj';exact ⟨by simpa using R,Y,_,_,_,hj'⟩
         ·rw [bU e] at R;cases R
        | wokn l q E _=>rw [offersAt_of_not_blocked (by rw [E];simp)] at R;cases R
      obtain ⟨j,gj,zj,shj,d',Y,V,C⟩:=crowd_send_meets_some (P:=P) (sl:=sl') hi hstep X hp hall;have F:j<N.n:=by rw [<-I.size];exact (Array.getElem?_eq_some_iff.1 V).1
      have y:=I1.sit j _ V;generalize r j=rk at y;cases y with
      | walk bN l q=>have:=Cf l (hstop j F) q;cases this
      | leave k l q=>rcases q.status with h | h <;> cases h
      | psend l q E _=>exact (Iu E).elim
      | wokn l q E _=>have:=congrArg Goroutine.status E;cases this
      | @precv c' f fr2 cs2 z2 ok k1 k2 k3 bL=>
       obtain ⟨e1,e2,e3,rfl,rfl,rfl⟩:=Un k3;rw [finishComm_recv,finishComm_send,GQ,Array.empty_append,Up e1 e2 e3] at C;have hij:i≠j:=λe=>Y e.symm;obtain ⟨hs',r',hI⟩:=I1.meet (d:=d') D F hij Q k1 K.1 K.2 bG bL (gs':=(gs.setIfInBounds j (G (fr2.finish (recvd ok v true)) cs2)).setIfInBounds i (G (W.finish undef) cs))
        (by simp [I.size,D]) (by rw [Array.getElem?_setIfInBounds_ne hij];simp [I.size,F])
        (λk hk1 hk2=>by rw [Array.getElem?_setIfInBounds_ne (λe=>hk1 e.symm),Array.getElem?_setIfInBounds_ne (λe=>hk2 e.symm)]) aG (s:=s) rfl
       exact CX.step (hst.trans C) (CX.at H.1 H.2 (ih _ (.meet D F hij Q k1) r' _ _ _ _ _ hI))
   ·obtain ⟨g',w',es,h',l,q,E⟩:=hstp w1 (I1.apart.fits i D);have C:=runT_crowd_go (P:=P) (sl:=sl') (i:=i) hi l;refine CX.step (hst.trans C) (CX.at (q.os.trans H.1) (q.out.trans H.2) ?_);refine ihr _ ⟨i,D,by rw [FU,bV rfl,hri];exact .walk f w1,λj _ V=>by rw [FU,bU V]⟩ _ _ _ _ _ (I1.step hf hi hnd q (Cf hnd (hstop i D) E) (.walk (f w1) hnd E) _ _)
end
end Go.Ns
namespace Go.Ns
open Go.Conc
section
variable {P:Program}
def isAggD:TypeDesc->Bool
 | .struct _=>true
 | .array _ _=>true
 | _=>false
def DN(P:Program)(t:bX):Option (Bool×Nat):=
 match P.underlying t with
 | none=>none
 | some d=>match P.info? t with
  | none=>none
  | some i=>some (isAggD d,i.size)
theorem Ur{t:bX}{a:Bool}{n:Nat}(h:DN P t=some (a,n)):∃d i,P.underlying t=some d/\P.info? t=some i/\isAggD d=a/\i.size=n:=by
 unfold DN at h;cases b:P.underlying t with
 | none=>rw [b] at h;cases h
 | some d=>
  cases c:P.info? t with
  | none=>rw [b] at h;simp only [c] at h;cases h
  | some i=>
   rw [b] at h;simp only [c,Option.some.injEq,Prod.mk.injEq] at h;exact ⟨d,i,rfl,rfl,h.1,h.2⟩
theorem BG{t:bX}{d:TypeDesc}{h:A}{Q:TypeDesc->A->Prop}(ht:P.underlying t=some d)(x:Q d h):(underlying t).gh P h Q:=by
 unfold underlying;refine AI _ _ ?_;show (match P.underlying t with | some d=>(pure d:Sem TypeDesc) | none=>stuck "no such type").gh P h Q;rw [ht];exact x
theorem DU{t:bX}{i:TypeInfo}{h:A}{Q:TypeInfo->A->Prop}(ht:P.info? t=some i)(x:Q i h):(typeInfo t).gh P h Q:=by
 unfold typeInfo;refine AI _ _ ?_;show (match P.info? t with | some i=>(pure i:Sem TypeInfo) | none=>stuck "no such type").gh P h Q;rw [ht];exact x
theorem Rx{t:bX}{a:Bool}{n:Nat}{h:A}{Q:Bool->A->Prop}(ht:DN P t=some (a,n))(x:Q a h):(isAgg t).gh P h Q:=by
 obtain ⟨d,i,b,c,rfl,rfl⟩:=Ur ht;unfold isAgg;refine AI _ _ (BG b ?_);cases d <;> exact x
theorem FL{t:bX}{a:Bool}{n:Nat}{h:A}{Q:Nat->A->Prop}(ht:DN P t=some (a,n))(x:Q n h):(sizeOf t).gh P h Q:=by
 obtain ⟨d,i,c,b,rfl,rfl⟩:=Ur ht;unfold sizeOf;exact AI _ _ (DU b x)
theorem gh_load{a:Addr}{p:Bool}{c:Array bW}{t:bX}{f:Nat×Nat}{v:bW}{h:A}{Q:bW->A->Prop}(hs:a.spot=none)(hb:h a.block=some (p,.cells c t f))(hc:c[a.off]? =some v)(x:Q v h):(load a).gh P h Q:=
 ⟨rfl,hs,p,c,t,f,v,hb,hc,x⟩
theorem X4{a:Addr}(n:Nat)(h:a.spot=none):(a.add n).spot=none:=by unfold Addr.add;split <;> simp [h]
theorem O4(a:Addr)(n:Nat):(a.add n).block=a.block:=by unfold Addr.add;split <;> rfl
theorem WR(a:Addr)(n:Nat):(a.add n).off=a.off+n:=by
 unfold Addr.add;split
 ·rename_i e;subst e;rfl
 ·rfl
theorem KR(b off n:Nat):(Addr.add ⟨b,off,none⟩ n)=⟨b,off+n,none⟩:=by
 unfold Addr.add;split
 ·rename_i e;subst e;rfl
 ·rfl
theorem Ny{a:Addr}{p:Bool}{c:Array bW}{t:bX}{f:Nat×Nat}{h:A}{Q:Array bW->A->Prop}(hs:a.spot=none)(hb:h a.block=some (p,.cells c t f)) :
  ∀(n i:Nat)(acc:Array bW),a.off+i+n<=c.size->Q (acc++c.extract (a.off+i) (a.off+i+n)) h->(loadCellsFrom a i n acc).gh P h Q:=by
 intro n
 induction n with
 | zero=>
  intro i acc _ x
  have:acc++c.extract (a.off+i) (a.off+i+0)=acc:=by simp;omega
  rw [this] at x;exact x
 | succ n d=>
  intro i acc k x;unfold loadCellsFrom;refine AI _ _ (gh_load (v:=c[a.off+i]) (X4 i hs) (by rw [O4];exact hb) (by rw [WR];simp) ?_);refine d (i+1) (acc.push c[a.off+i]) O ?_;have e:acc++c.extract (a.off+i) (a.off+i+(n+1))=acc.push c[a.off+i]++c.extract (a.off+(i+1)) (a.off+(i+1)+n):=by
   apply Array.ext';simp only [Array.toList_append,Array.toList_push,Array.toList_extract,List.extract_eq_take_drop,List.append_assoc];congr 1;have g:a.off+i+(n+1)-(a.off+i)=n+1:=O
   have j:a.off+(i+1)+n-(a.off+(i+1))=n:=O
   rw [g,j];have b:a.off+i<c.toList.length:=by simp;omega
   rw [List.drop_eq_getElem_cons b,List.take_succ_cons];simp [Nat.add_assoc]
  rw [<-e];exact x
def Rd(P:Program)(h:A)(t:bX)(b off:Nat)(v:bW):Prop:=
 ∃p c ty f,h b=some (p,.cells c ty f)/\((∃n,DN P t=some (false,n)/\c[off]? =some v)\/∃n,DN P t=some (true,n)/\off+n<=c.size/\v=.agg (c.extract off (off+n)))
theorem Rd.one{h:A}{t:bX}{n b off:Nat}{v:bW}{p:Bool}{c:Array bW}{ty:bX}{f:Nat×Nat}(ht:DN P t=some (false,n))(hb:h b=some (p,.cells c ty f))(hc:c[off]? =some v):Rd P h t b off v:=
 ⟨p,c,ty,f,hb,.inl ⟨n,ht,hc⟩⟩
theorem Rd.agg{h:A}{t:bX}{n b off:Nat}{vs:Array bW}{p:Bool}{c:Array bW}{ty:bX}{f:Nat×Nat}(ht:DN P t=some (true,n))(hb:h b=some (p,.cells c ty f))(hn:off+n<=c.size)(hv:c.extract off (off+n)=vs):Rd P h t b off (.agg vs):=
 ⟨p,c,ty,f,hb,.inr ⟨n,ht,hn,by rw [hv]⟩⟩
theorem R0{h:A}{t:bX}{b off:Nat}{v:bW}{Q:bW->A->Prop}(r:Rd P h t b off v)(x:Q v h):(loadVar t ⟨b,off,none⟩).gh P h Q:=by
 obtain ⟨p,c,j,f,e,⟨n,d,g⟩ | ⟨n,d,i,rfl⟩⟩:=r
 ·unfold loadVar;refine AI _ _ (Rx d ?_);exact gh_load rfl e g x
 ·unfold loadVar;refine AI _ _ (Rx d ?_);refine AI _ _ (FL d ?_);refine AI _ _ (Ny (a:=⟨b,off,none⟩) rfl e n 0 #[] (by simpa using i) ?_);exact BS (by simpa using x)
def CK(c:Array bW)(off:Nat):List bW->Array bW
 | []=>c
 | v ::vs=>CK (c.setIfInBounds off v) (off+1) vs
theorem IF(vs:List bW):∀(c:Array bW)(off:Nat),(CK c off vs).size=c.size:=by
 induction vs with
 | nil=>intro c off;rfl
 | cons v vs a=>intro c off;simp [CK,a]
theorem gh_store{a:Addr}{v:bW}{c:Array bW}{t:bX}{h:A}{Q:Unit->A->Prop}(hs:a.spot=none)(hv:v.oneCell'=true)(hb:h a.block=some (true,.cells c t (0,0)))(ho:a.off<c.size)
  (x:Q () (h.set a.block true (.cells (c.setIfInBounds a.off v) t (0,0)))):(store a v).gh P h Q:=
 ⟨rfl,hs,hv,c,t,(0,0),hb,ho,aG,x⟩
theorem set_set(h:A)(r:Nat)(p q:Bool)(o o':Obj):(h.set r p o).set r q o'=h.set r q o':=by
 funext b;unfold A.set;split <;> rfl
theorem Jl{a:Addr}{t:bX}{Q:Unit->A->Prop}(hs:a.spot=none):∀(vs:List bW)(i:Nat)(c:Array bW)(h:A),(∀v ∈ vs,v.oneCell'=true)->h a.block=some (true,.cells c t (0,0))->a.off+i+vs.length<=c.size->
  Q () (h.set a.block true (.cells (CK c (a.off+i) vs) t (0,0)))->(storeCells a vs i).gh P h Q:=by
 intro vs
 induction vs with
 | nil=>
  intro i c h _ d _ x
  have:h.set a.block true (.cells (CK c (a.off+i) []) t (0,0))=h:=by
   funext b;unfold A.set;split
   ·rename_i e;subst e;exact d.symm
   ·rfl
  rw [this] at x;unfold storeCells;exact x
 | cons v vs g=>
  intro i c h f d j x;unfold storeCells;simp only [List.length_cons] at j;refine AI _ _ (gh_store (X4 i hs) (f v aG) (by rw [O4];exact d) (by rw [WR];omega) ?_);rw [O4,WR];refine g (i+1) (c.setIfInBounds (a.off+i) v) _ (λy k=>f y (by simp [k])) (A.set_same _ _ _ _) (by simp;omega) ?_;rw [set_set];exact x
def Value.fine(v:bW):Bool:=v.cells.toList.all λx=>x.oneCell'
theorem X5{h:A}{t:bX}{b off:Nat}{v:bW}{g:Bool}{n:Nat}{c:Array bW}{ty:bX}{Q:Unit->A->Prop}(ht:DN P t=some (g,n))(hb:h b=some (true,.cells c ty (0,0)))(hsz:v.cells.size=n)(hv:Value.fine v=true)
  (hn:off+n<=c.size) (x:Q () (h.set b true (.cells (CK c off v.cells.toList) ty (0,0)))):(storeVar t ⟨b,off,none⟩ v).gh P h Q:=by
 unfold storeVar;refine AI _ _ (FL ht ?_);rw [bU (by rw [hsz];simp)];refine Jl (a:=⟨b,off,none⟩) rfl _ 0 c h ?_ hb ?_ ?_
 ·intro y d;unfold Value.fine at hv;exact List.all_eq_true.1 hv y d
 ·show off+0+v.cells.toList.length<=c.size;simp;omega
 ·exact x
def Mn(P:Program)(V:Nat->bW)(h:A):List ResultVar->(List bW->Prop)->Prop
 | [],Q=>Q []
 | .tmp t ::l,Q=>Mn P V h l λvs=>Q (V t ::vs)
 | .cell a t ::l,Q=>∃b off v,V a=.pointer (some ⟨b,off,none⟩)/\Rd P h t b off v/\Mn P V h l λvs=>Q (v ::vs)
def MP(vs:List bW):bW:=match vs with
 | [v]=>v
 | vs=>.tuple vs.toArray
theorem Z5{fn:Func}{t:Array bW}{N:Nat}{V:Nat->bW}{h:A}{R:bW->A->Prop}(hs:CE t N V)(x:Mn P V h fn.results.toList λvs=>R (MP vs) h):(results fn t).gh P h R:=by
 unfold results;refine AI _ _ ?_;have d:∀(l:List ResultVar)(Q:List bW->Prop)(K:List bW->A->Prop),(∀vs,Q vs->K vs h)->Mn P V h l Q->
   (l.mapM (m:=Sem) fun | .tmp u=>pure (t.getD u undef) | .cell a g=>do loadVar g (<-asAddr (t.getD a undef))).gh P h K:=by
  intro l
  induction l with
  | nil=>intro Q K c x;rw [List.mapM_nil];exact c _ x
  | cons r l i=>
   intro Q K c x;rw [List.mapM_cons];cases r with
   | tmp u=>
    refine AI _ _ (BS ?_);refine AI _ _ (i (λvs=>Q (V u ::vs)) (λvs f=>K (t.getD u undef ::vs) f) (λvs q=>by rw [hs.2 u];exact c _ q) x)
   | cell a g=>
    obtain ⟨b,j,v,k,n,o⟩:=x;refine AI _ _ (AI _ _ ?_);rw [hs.2 a,k];refine R0 n ?_;exact AI _ _ (i (λvs=>Q (v ::vs)) (λvs f=>K (v ::vs) f) (λvs q=>c _ q) o)
 rw [Array.mapM_eq_mapM_toList,map_eq_pure_bind];refine AI _ _ (d fn.results.toList _ _ (λvs q=>BS ?_) x);show (pure (if h:vs.toArray.size=1 then vs.toArray[0] else .tuple vs.toArray):Sem bW).gh P h R;have e:(if h:vs.toArray.size=1 then vs.toArray[0] else .tuple vs.toArray)=MP vs:=by
  match vs with
  | []=>rfl
  | [v]=>rfl
  | v ::u ::l=>simp [MP]
 rw [e];exact q
end
end Go.Ns
namespace Go.Ns
open Go.Conc
section
variable {P:Program} {W:Wk P}
def Hp(P:Program)(fn:Func)(V:Nat->bW)(R:bW->A->Prop):List Deferred->A->Prop
 | [],h=>Mn P V h fn.results.toList λvs=>R (MP vs) h
 | d ::ds,h=>∃r,d={ target:=.collected r,args:=#[] }/\∃o,h r=some (true,.deferred (some o))/\o=[]/\Hp P fn V R ds (h.set r true (.deferred none))
theorem M6{main:Bool}{b:Frame}{t:Array bW}{ds:List Deferred}{k:List Item}{cs:List Frame}{w:World}:stepG P main (G (F2 b t ds k) cs) w=unwind P main (F2 b t ds k) cs none w:=rfl
theorem RL{r:Nat}{ds:List Deferred}{h:A}{Q:List Deferred->A->Prop}(hr:h r=some (true,.deferred (some ds)))(x:Q ds (h.set r true (.deferred none))):(Instr.takeDeferred r).gh P h Q:=by
 unfold Instr.takeDeferred;refine AI _ _ ⟨true,_,hr,rfl,rfl,?_⟩;exact AI _ _ ⟨_,hr,rfl,rfl,rfl,x⟩
theorem M7{V:Nat->bW}{h:A}(l:List ResultVar):∀{Q Q':List bW->Prop},(∀vs,Q vs->Q' vs)->Mn P V h l Q->Mn P V h l Q':=by
 induction l with
 | nil=>intro Q Q' c x;exact c _ x
 | cons r l e=>
  intro Q Q' c x;cases r with
  | tmp u=>exact e (λvs y=>c _ y) x
  | cell a j=>obtain ⟨b,d,v,f,g,i⟩:=x;exact ⟨b,d,v,f,g,e (λvs y=>c _ y) i⟩
theorem Pv{f:FuncId}{fn:Func}(hf:P.funcs[f]? =some fn){b:Frame}(hb:b.fn=f){N:Nat}{V:Nat->bW}{R:bW->A->Prop}{cs:List Frame}
  (fin:∀(t:Array bW)(k:List Item)(v:bW)(h h':A),R v h'->(∀w,FJ w h->∃w' es,(results fn t).runT P w #[]=(.ok v w',es)/\CR h w es h' w')->W.K (G (F2 b t [] k) cs) h) :
  ∀(ds:List Deferred)(h:A)(t:Array bW)(k:List Item),CE t N V->Hp P fn V R ds h->W.K (G (F2 b t ds k) cs) h:=by
 intro ds
 induction ds with
 | nil=>
  intro h t k n x;have p:∀(l:List ResultVar)(Q:List bW->Prop),Mn P V h l Q->∃c,Q c/\Mn P V h l (λg=>g=c):=by
   intro l
   induction l with
   | nil=>intro Q x;exact ⟨[],x,rfl⟩
   | cons r l m=>
    intro Q x;cases r with
    | tmp u=>
     obtain ⟨c,i,j⟩:=m _ x;refine ⟨V u ::c,i,?_⟩;show Mn P V h l λg=>V u ::g=V u ::c;exact M7 l (λg e=>by rw [e]) j
    | cell a M=>
     obtain ⟨b,q,v,E,F,H⟩:=x;obtain ⟨c,i,j⟩:=m _ H;refine ⟨v ::c,i,b,q,v,E,F,?_⟩;exact M7 l (λg e=>by rw [e]) j
  obtain ⟨c,i,j⟩:=p _ _ x;refine fin t k (MP c) h h i λw f=>?_;obtain ⟨a,w',h',es,s,y,z,C⟩:=KO f (Z5 n (R:=λv h'=>v=MP c/\h'=h) (by
   exact M7 _ (λg e=>by rw [e];exact ⟨rfl,rfl⟩) j))
  subst z;subst C;exact ⟨w',es,s,y⟩
 | cons d ds m=>
  rintro h t k n ⟨r,rfl,o,I,rfl,x⟩;refine W.closed _ _ rfl λw f=>?_;obtain ⟨calls,w',h',es,s,y,z,C⟩:=KO f (RL (P:=P) (Q:=λl h'=>l=[]/\h'=h.set r true (.deferred none)) I ⟨rfl,rfl⟩);subst z;subst C;refine ⟨G (F2 b t ds k) cs,w',_,_,?_,y.sub (es':=seen P b.fn es++ #[]) λe D=>?_,m _ t k n x⟩
  ·rw [M6];unfold unwind;simp only [F2,s,GStep.after];rfl
  ·rw [Array.append_empty] at D;exact mem_seen D
theorem Z6{f:FuncId}{fn:Func}{c:Code}{args:Array bW}{h:A}{R:bW->A->Prop}(hf:P.funcs[f]? =some fn)(hb:fn.body=some c)(hsz:args.size<=fn.ntmps)
  (x:Tr ⟨W,f,none,fn.ntmps⟩ c (λi=>args.getD i undef) [] h (λe V ds h'=>(e=.normal\/e=.ret)/\Hp P fn V R ds h')):Al W f args h R:=by
 intro o p s;have u:Frame.enter P f args .normal=DT (Frame.enter P f args .normal) (args++Array.replicate (fn.ntmps-args.size) undef) [] [.code c]:=by
  simp [Frame.enter,DT,hf,hb]
 rw [u];let y:Lv:=λj t ds h'=>(j=none\/j=some .ret)/\∃V,CE t fn.ntmps V/\Hp P fn V R ds h';have d:∀V ds h' t k,CE t fn.ntmps V->Hp P fn V R ds h'->W.K (G (F2 (Frame.enter P f args .normal) t ds k) (o ::p)) h':=by
  intro V ds h' t k g a;refine Pv (W:=W) (R:=R) hf (b:=Frame.enter P f args .normal) rfl (λt k v h h' z l=>?_) ds h' t k g a;refine W.closed _ _ rfl λw C=>?_;obtain ⟨D,E,F,H⟩:=l w C;refine ⟨G (o.finish v) p,D,_,h',?_,H.sub (es':=seen P f E++ #[]) λe n=>?_,s v h' z⟩
  ·rw [M6];unfold unwind;have q:(F2 (Frame.enter P f args .normal) t [] k).fn=f:=rfl;have I:(F2 (Frame.enter P f args .normal) t [] k).kind=.normal:=rfl;have M:(F2 (Frame.enter P f args .normal) t [] k).mode=.returning:=rfl;have N:(F2 (Frame.enter P f args .normal) t [] k).defers=[]:=rfl;have Q:(F2 (Frame.enter P f args .normal) t [] k).tmps=t:=rfl;simp only [N,M,q,hf,Q,F,GStep.after,doReturn,I];rfl
  ·rw [Array.append_empty] at n;exact mem_seen n
 refine x (Frame.enter P f args .normal) [] (o ::p) y _ rfl rfl ⟨?_,?_,?_⟩ ⟨by simp;omega,λi=>?_⟩ ?_
 ·rintro t ds h' ⟨_,V,g,a⟩;exact Wk.go (F2 (Frame.enter P f args .normal) t ds []) (λw=>by rw [Bc];simp [stepG.exec,DT,F2,G,Frame.enter]) (d V ds h' t [] g a)
 ·rintro t ds h' k ⟨_,V,g,a⟩;exact Wk.go (F2 (Frame.enter P f args .normal) t ds (.code .ret ::k)) (λw=>by rw [Bc];simp [stepG.exec,DT,F2,G,Frame.enter]) (d V ds h' t _ g a)
 ·rintro id t ds h' k _ ⟨h1 | h1,_⟩ <;> cases h1
 ·by_cases X:i<args.size
  ·simp [Array.getD_eq_getD_getElem?,Array.getElem?_append_left X]
  ·simp only [Array.getD_eq_getD_getElem?];rw [Array.getElem?_append_right O,Array.getElem?_eq_none (show args.size<=i by omega),Array.getElem?_replicate];split <;> rfl
 ·rintro e V ds h' ⟨n,a⟩ r m;rcases n with rfl | rfl
  ·refine Wk.go (F2 (Frame.enter P f args .normal) r ds []) (λw=>by rw [Bc];simp [stepG.exec,DT,F2,G,Frame.enter]) (d V ds h' r [] m a)
  ·exact ⟨.inr rfl,V,m,a⟩
def AV(fn:Func):Bool:= !(fn.name== "runtime.NumGoroutine") && fn.body.isSome
theorem Pw{f:FuncId}{fn:Func}{args:Array bW}{h:A}{Q:Next->A->Prop}(hf:P.funcs[f]? =some fn)(hc:AV fn=true)(x:Q (.enter f args) h):(callFunc f args).gh P h Q:=by
 unfold AV at hc;simp only [Bool.and_eq_true,Bool.not_eq_true'] at hc;unfold callFunc;refine AI _ _ ?_;show (match P.funcs[f]? with | none=>_ | some fn=>_:Sem Next).gh P h Q;rw [hf];simp only [];rw [bU (by rw [hc.1];simp),bU (by cases a:fn.body with | none=>rw [a] at hc;simp at hc | some c=>simp)];exact x
variable {E:Ho P} {V:Nat->bW} {ds:List Deferred} {h:A} {bN:(Nat->bW)->List Deferred->A->Prop}
def B9(E:Ho P)(o:Oper)(V:Nat->bW)(ds:List Deferred)(h:A)(bN:(Nat->bW)->List Deferred->A->Prop):Prop:=(execOp (Ag V) o).gh P h (Upon E o V ds bN)
theorem Iz{dst:Option Nat}{f:Operand}{args:Array Operand}{tys:Array bX}{ty:bX}{pos:String}{af:Array Edge}{gd:Option (Nat×Bool)}{g:FuncId}{fn:Func}{first cap:Array bW}{vs:Array bW}
  (hv:Ag V f=.func (.func g) first cap) (hf:P.funcs[g]? =some fn) (hc:AV fn=true) (ha:first++args.map (Ag V)++cap=vs)
  (x:Al E.wk g vs h λv h'=>bN (putS V dst v) ds h'):B9 E ⟨dst,.call ⟨.value f,args,tys⟩,ty,pos,af,gd⟩ V ds h bN:=by
 unfold B9 execOp;simp only [];refine AI _ _ ?_;unfold resolve;simp only [hv,Deferred.ofValue];refine BS ?_;subst ha;exact Pw hf hc x
theorem MQ{dst:Option Nat}{args:Array Operand}{tys:Array bX}{ty:bX}{pos:String}{af:Array Edge}{gd:Option (Nat×Bool)}{g:FuncId}{fn:Func}{vs:Array bW}
  (hf:P.funcs[g]? =some fn) (hc:AV fn=true) (ha:args.map (Ag V)=vs) (x:Al E.wk g vs h λv h'=>bN (putS V dst v) ds h'):B9 E ⟨dst,.call ⟨.value (.func g),args,tys⟩,ty,pos,af,gd⟩ V ds h bN:=
 Iz (first:=#[]) (cap:=#[]) rfl hf hc (by rw [ha];simp) x
end
end Go.Ns
namespace Go.Ns
open Go.Conc
section
variable {P:Program} {E:Ho P} {V:Nat->bW} {ds:List Deferred} {h:A} {bN:(Nat->bW)->List Deferred->A->Prop}
variable {dst:Option Nat} {ty:bX} {pos:String} {af:Array Edge} {gd:Option (Nat×Bool)}
theorem Hr{ops:Array Oper}{o:Oper}{l:List Oper}{Q:Post}(hg:o.guard=none)(hdf:Do o.op=false)(hd:Dj o.dst E.N=true)
  (x:B9 E o V ds h λσ' ds' h'=>Dy E ops l σ' ds' h' Q):Dy E ops (o ::l) V ds h Q:=trL_op hg (.inr hdf) hd x
theorem WT{x:Operand}{v:bW}(hx:Ag V x=v)(k:bN (putS V dst v) ds h):B9 E ⟨dst,.move x,ty,pos,af,gd⟩ V ds h bN:=by
 subst hx;exact k
theorem Ft{x:Operand}{v:bW}(hx:Ag V x=v)(k:bN (putS V dst v) ds h):B9 E ⟨dst,.assign x,ty,pos,af,gd⟩ V ds h bN:=by
 subst hx;exact k
theorem HL{s:Sem bW}{Q:Next->A->Prop}(x:s.gh P h λv h'=>Q (.value v) h'):(do pure (.value (<-s)):Sem Next).gh P h Q:=AI _ _ (GO _ (λ_ _ y=>y) _ x)
theorem gh_u{s:Sem Unit}{Q:Next->A->Prop}(x:s.gh P h λ_ h'=>Q .skip h'):(do s;pure .skip:Sem Next).gh P h Q:=AI _ _ (GO _ (λ_ _ y=>y) _ x)
theorem BK{c a b:Operand}{t:Bool}{v:bW}(hc:Ag V c=.bool t)(hv:(if t then Ag V a else Ag V b)=v)(k:bN (putS V dst v) ds h):B9 E ⟨dst,.pick c a b,ty,pos,af,gd⟩ V ds h bN:=by
 unfold B9 execOp;simp only [hc,asBool];subst hv;exact k
theorem R1{op:BinOp}{t:bX}{x y:Operand}{k:IntKind}{a:Int}{b:bW}{Q:Unit->A->Prop}(q:Q () h):(eqGuard op t x y (.int k a) b).gh P h Q:=by
 unfold eqGuard;split <;> exact q
theorem HM{op:BinOp}{xt yt:bX}{x y:Operand}{k:IntKind}{a b:Int}{v:bW}(hx:Ag V x=.int k a)(hy:Ag V y=.int k b)(hv:binOp op xt (.int k a) (.int k b)=pure v)(kk:bN (putS V dst v) ds h) :
  B9 E ⟨dst,.binOp op xt x y yt,ty,pos,af,gd⟩ V ds h bN:=by
 unfold B9 execOp;simp only [hx,hy];refine HL (AI _ _ (R1 ?_));rw [hv];exact kk
theorem D3{xt yt:bX}{x y:Operand}{a b:Int}(hx:Ag V x=.int .i64 a)(hy:Ag V y=.int .i64 b)(hr: -9223372036854775808<=a+b/\a+b<=9223372036854775807)(k:bN (putS V dst (.int .i64 (a+b))) ds h) :
  B9 E ⟨dst,.binOp .add xt x y yt,ty,pos,af,gd⟩ V ds h bN:=HM hx hy (by
 show (pure (Value.int .i64 (IntKind.i64.wrap (a+b))):Sem bW)=_;rw [IntWalk.i64_in _ hr]) k
theorem By{xt yt:bX}{x y:Operand}{a b:Int}(hx:Ag V x=.int .i64 a)(hy:Ag V y=.int .i64 b)(hr: -9223372036854775808<=a-b/\a-b<=9223372036854775807)(k:bN (putS V dst (.int .i64 (a-b))) ds h) :
  B9 E ⟨dst,.binOp .sub xt x y yt,ty,pos,af,gd⟩ V ds h bN:=HM hx hy (by
 show (pure (Value.int .i64 (IntKind.i64.wrap (a-b))):Sem bW)=_;rw [IntWalk.i64_in _ hr]) k
theorem M8{xt yt:bX}{x y:Operand}{a b:Int}(hx:Ag V x=.int .i64 a)(hy:Ag V y=.int .i64 b)(hr: -9223372036854775808<=a*b/\a*b<=9223372036854775807)(k:bN (putS V dst (.int .i64 (a*b))) ds h) :
  B9 E ⟨dst,.binOp .mul xt x y yt,ty,pos,af,gd⟩ V ds h bN:=HM hx hy (by
 show (pure (Value.int .i64 (IntKind.i64.wrap (a*b))):Sem bW)=_;rw [IntWalk.i64_in _ hr]) k
theorem M9{xt yt:bX}{x y:Operand}{a b:Int}(hx:Ag V x=.int .i64 a)(hy:Ag V y=.int .i64 b)(ha:0<=a)(ha':a<=9223372036854775807)(hb:0<b)(k:bN (putS V dst (.int .i64 (a / b))) ds h) :
  B9 E ⟨dst,.binOp .quo xt x y yt,ty,pos,af,gd⟩ V ds h bN:=HM hx hy (by
 show (if b=0 then _ else (pure (Value.int .i64 (IntKind.i64.wrap (a.tdiv b))):Sem bW))=_;rw [bU O,Int.tdiv_eq_ediv_of_nonneg ha];have c:0<=a / b:=Int.ediv_nonneg ha O;have d:a / b<=a:=Int.ediv_le_self b ha;rw [IntWalk.i64_in _ O]) k
theorem A9{xt yt:bX}{x y:Operand}{kd:IntKind}{a b:Int}(hx:Ag V x=.int kd a)(hy:Ag V y=.int kd b)(k:bN (putS V dst (.bool (decide (a<b)))) ds h):B9 E ⟨dst,.binOp .lss xt x y yt,ty,pos,af,gd⟩ V ds h bN:=
 HM hx hy (by simp [binOp,Op.intCmp]) k
theorem EE{xt yt:bX}{x y:Operand}{kd:IntKind}{a b:Int}(hx:Ag V x=.int kd a)(hy:Ag V y=.int kd b)(k:bN (putS V dst (.bool (decide (a<=b)))) ds h):B9 E ⟨dst,.binOp .leq xt x y yt,ty,pos,af,gd⟩ V ds h bN:=
 HM hx hy (by simp [binOp,Op.intCmp]) k
theorem DO{xt yt:bX}{x y:Operand}{kd:IntKind}{a b:Int}(hx:Ag V x=.int kd a)(hy:Ag V y=.int kd b)(k:bN (putS V dst (.bool (decide (b<a)))) ds h):B9 E ⟨dst,.binOp .gtr xt x y yt,ty,pos,af,gd⟩ V ds h bN:=
 HM hx hy (by simp [binOp,Op.intCmp]) k
theorem C9{xt yt:bX}{x y:Operand}{kd:IntKind}{a b:Int}(hx:Ag V x=.int kd a)(hy:Ag V y=.int kd b)(k:bN (putS V dst (.bool (decide (b<=a)))) ds h):B9 E ⟨dst,.binOp .geq xt x y yt,ty,pos,af,gd⟩ V ds h bN:=
 HM hx hy (by simp [binOp,Op.intCmp]) k
theorem C4{xt yt:bX}{x y:Operand}{kd:IntKind}{a b:Int}(hx:Ag V x=.int kd a)(hy:Ag V y=.int kd b)(k:bN (putS V dst (.bool (decide (a=b)))) ds h):B9 E ⟨dst,.binOp .eql xt x y yt,ty,pos,af,gd⟩ V ds h bN:=
 HM hx hy (by simp only [binOp,Op.intCmp,ne_eq,not_true_eq_false,↓reduceIte];congr 2) k
theorem BW{xt yt:bX}{x y:Operand}{kd:IntKind}{a b:Int}(hx:Ag V x=.int kd a)(hy:Ag V y=.int kd b)(k:bN (putS V dst (.bool (decide (¬a=b)))) ds h):B9 E ⟨dst,.binOp .neq xt x y yt,ty,pos,af,gd⟩ V ds h bN:=
 HM hx hy (by simp only [binOp,Op.intCmp,ne_eq,not_true_eq_false,↓reduceIte];congr 2;rw [decide_not];rfl) k
theorem Eg{xt:bX}{x:Operand}{b:Bool}(hx:Ag V x=.bool b)(k:bN (putS V dst (.bool (!b))) ds h):B9 E ⟨dst,.unOp .not xt x,ty,pos,af,gd⟩ V ds h bN:=by
 unfold B9 execOp;simp only [hx,Op.unary];exact k
theorem CA{xt:bX}{x:Operand}{p:Prop}[Decidable p](hx:Ag V x=.bool (decide p))(k:bN (putS V dst (.bool (decide (¬p)))) ds h):B9 E ⟨dst,.unOp .not xt x,ty,pos,af,gd⟩ V ds h bN:=
 Eg hx (by rw [<-decide_not];exact k)
theorem ok_eqlS{xt yt:bX}{x y:Operand}{a b:bY}(hx:Ag V x=.string a)(hy:Ag V y=.string b)(k:bN (putS V dst (.bool (a.toList==b.toList))) ds h):B9 E ⟨dst,.binOp .eql xt x y yt,ty,pos,af,gd⟩ V ds h bN:=by
 unfold B9 execOp;simp only [hx,hy];exact k
def Eh(P:Program)(s:bX)(f:Nat):Option Nat:=
 match P.underlying s with
 | some (.struct fields)=>match fields[f]? with
  | some fl=>match P.info? fl.type with
   | some i=>if i.size=0 then none else some fl.offset
   | none=>none
  | none=>none
 | _=>none
theorem AR{s:bX}{x:Operand}{f o b off:Nat}(hf:Eh P s f=some o)(hx:Ag V x=.pointer (some ⟨b,off,none⟩))(k:bN (putS V dst (.pointer (some ⟨b,off+o,none⟩))) ds h) :
  B9 E ⟨dst,.fieldAddr s x f,ty,pos,af,gd⟩ V ds h bN:=by
 unfold B9 execOp;simp only [hx];refine HL ?_;unfold Eh at hf;unfold Instr.fieldAt;cases c:P.underlying s with
 | none=>rw [c] at hf;cases hf
 | some d=>
  refine AI _ _ (BG c ?_);rw [c] at hf;cases d <;> first | (cases hf;done) | skip
  rename_i fields
  simp only at hf ⊢;cases a:fields[f]? with
  | none=>rw [a] at hf;cases hf
  | some j=>
   rw [a] at hf;simp only at hf ⊢;cases e:P.info? j.type with
   | none=>rw [e] at hf;cases hf
   | some i=>
    rw [e] at hf;simp only at hf;by_cases g:i.size=0
    ·rw [bV g] at hf;cases hf
    ·rw [bU g] at hf;cases hf;refine AI _ _ (BS ?_);refine AI _ _ ?_;unfold fieldPlace;refine AI _ _ ?_;unfold sizeOf;refine AI _ _ (DU e (BS ?_));rw [bU g,KR];exact k
def F6(P:Program)(t:bX):Option Nat:=
 match P.underlying t with
 | some (.slice e)=>(DN P e).map (·.2)
 | _=>none
def Px(P:Program)(t:bX):Option (Nat×Nat):=
 match P.underlying t with
 | some (.array n e)=>(DN P e).map λx=>(n,x.2)
 | _=>none
theorem Ht{e:bX}{n:Nat}{Q:Nat->A->Prop}(he:(DN P e).map (·.2)=some n)(q:Q n h):(sizeOf e).gh P h Q:=by
 cases a:DN P e with
 | none=>rw [a] at he;cases he
 | some x=>rw [a] at he;cases he;exact FL a q
theorem AK{t:bX}{x ix:Operand}{n b off len cap:Nat}{kd:IntKind}{i:Int}(ht:F6 P t=some n)(hx:Ag V x=.slice (some ⟨b,off,none⟩) len cap)(hi:Ag V ix=.int kd i)(h0:0<=i)(h1:i<len)
  (k:bN (putS V dst (.pointer (some ⟨b,off+i.toNat * n,none⟩))) ds h):B9 E ⟨dst,.indexAddr t x ix,ty,pos,af,gd⟩ V ds h bN:=by
 unfold B9 execOp;simp only [hx,hi];refine HL ?_;unfold F6 at ht;unfold Instr.indexAt;cases a:P.underlying t with
 | none=>rw [a] at ht;cases ht
 | some d=>
  rw [a] at ht;cases d <;> first | (cases ht;done) | skip
  rename_i e
  refine AI _ _ (BS ?_);refine AI _ _ (BG a ?_);dsimp only;refine AI _ _ (BS ?_);dsimp only;refine AI _ _ (BG a ?_);dsimp only;rw [bV ⟨h0,h1⟩];refine AI _ _ (Ht ht (BS ?_));rw [KR];exact k
theorem BV{t:bX}{x ix:Operand}{n m b off:Nat}{kd:IntKind}{i:Int}(ht:Px P t=some (m,n))(hx:Ag V x=.pointer (some ⟨b,off,none⟩))(hi:Ag V ix=.int kd i)(h0:0<=i)(h1:i<m)
  (k:bN (putS V dst (.pointer (some ⟨b,off+i.toNat * n,none⟩))) ds h):B9 E ⟨dst,.indexAddr t x ix,ty,pos,af,gd⟩ V ds h bN:=by
 unfold B9 execOp;simp only [hx,hi];refine HL ?_;unfold Px at ht;unfold Instr.indexAt;cases a:P.underlying t with
 | none=>rw [a] at ht;cases ht
 | some d=>
  rw [a] at ht;cases d <;> first | (cases ht;done) | skip
  rename_i e
  simp only [Option.map_eq_some_iff,Prod.mk.injEq] at ht;obtain ⟨f,c,rfl,rfl⟩:=ht;refine AI _ _ (BS ?_);refine AI _ _ (BG a ?_);dsimp only;refine AI _ _ (BS ?_);refine AI _ _ (BS ?_);dsimp only;refine AI _ _ (BG a ?_);dsimp only;rw [bV ⟨h0,h1⟩];refine AI _ _ (FL c (BS ?_));rw [KR];exact k
theorem C6{t:bX}{x:Operand}{b off:Nat}{v:bW}(hx:Ag V x=.pointer (some ⟨b,off,none⟩))(hr:Rd P h t b off v)(k:bN (putS V dst v) ds h):B9 E ⟨dst,.load t x,ty,pos,af,gd⟩ V ds h bN:=by
 unfold B9 execOp;simp only [hx];refine HL ?_;unfold Instr.loadAt;exact AI _ _ (BS (R0 hr k))
theorem ok_store{t:bX}{a x:Operand}{b off n:Nat}{g:Bool}{v:bW}{c:Array bW}{et:bX}(ht:DN P t=some (g,n))(ha:Ag V a=.pointer (some ⟨b,off,none⟩))(hv:Ag V x=v)(hb:h b=some (true,.cells c et (0,0)))
  (hsz:v.cells.size=n) (hf:Value.fine v=true) (hn:off+n<=c.size) (k:bN (putS V dst undef) ds (h.set b true (.cells (CK c off v.cells.toList) et (0,0)))):B9 E ⟨dst,.store t a x,ty,pos,af,gd⟩ V ds h bN:=by
 unfold B9 execOp;simp only [ha,hv];refine gh_u ?_;unfold Instr.storeAt;exact AI _ _ (BS (X5 ht hb hsz hf hn k))
def CZ(P:Program)(t:bX):Option (Array bW):=
 match P.info? t with
 | some i=>i.zero.map (·.cells)
 | none=>none
theorem ok_alloc{t:bX}{z:Array bW}(hz:CZ P t=some z)(k:∀r,h r=none->bN (putS V dst (.pointer (some ⟨r,0,none⟩))) ds (h.set r true (.cells z t (0,0)))):B9 E ⟨dst,.alloc t,ty,pos,af,gd⟩ V ds h bN:=by
 unfold B9 execOp;refine HL ?_;unfold CZ at hz;unfold Instr.alloc zeroValue;cases a:P.info? t with
 | none=>rw [a] at hz;cases hz
 | some i=>
  rw [a] at hz;simp only [Option.map_eq_some_iff] at hz;obtain ⟨v,b,rfl⟩:=hz;refine AI _ _ (AI _ _ (DU a ?_));rw [b];refine BS ?_;refine AI _ _ ?_;unfold newVar newRow;refine AI _ _ ?_;exact λr c=>k r c
theorem ok_box{t:bX}{x:Operand}{c:Array bW}(hx:(Ag V x).cells=c)(k:∀r,h r=none->bN (putS V dst (.pointer (some ⟨r,0,none⟩))) ds (h.set r true (.cells c t (0,0)))):B9 E ⟨dst,.box t x,ty,pos,af,gd⟩ V ds h bN:=by
 unfold B9 execOp;refine HL ?_;unfold Instr.box newVar newRow;subst hx;refine AI _ _ (AI _ _ ?_);exact λr a=>k r a
theorem ok_field{t:bX}{x:Operand}{f:Nat}{v:bW}(hv:(Instr.field t (Ag V x) f).gh P h λu h'=>u=v/\h'=h)(k:bN (putS V dst v) ds h):B9 E ⟨dst,.field t x f,ty,pos,af,gd⟩ V ds h bN:=by
 unfold B9 execOp;exact HL (GO _ (λu h' ⟨a,b⟩=>by subst a;subst b;exact k) _ hv)
theorem Z7{x:Operand}{n:Nat}{vs:Array bW}{v:bW}(hx:Ag V x=.tuple vs)(hv:vs[n]? =some v)(k:bN (putS V dst v) ds h):B9 E ⟨dst,.extract x n,ty,pos,af,gd⟩ V ds h bN:=by
 unfold B9 execOp;simp only [hx];refine HL ?_;unfold Instr.extract;simp only [hv];exact k
theorem FT{f:Fn}{first cap:Array Operand}{v:bW}(hv:Value.func f (first.map (Ag V)) (cap.map (Ag V))=v)(k:bN (putS V dst v) ds h):B9 E ⟨dst,.makeFunc f first cap,ty,pos,af,gd⟩ V ds h bN:=by
 subst hv;exact k
theorem CY{x:Operand}{a:Addr}(hx:Ag V x=.pointer (some a))(k:bN (putS V dst (.pointer (some a))) ds h):B9 E ⟨dst,.nilCheck x,ty,pos,af,gd⟩ V ds h bN:=by
 unfold B9 execOp;simp only [hx];exact k
def Fh(P:Program)(t:bX):Option (List (Nat×Nat)):=
 match P.underlying t with
 | some (.struct fields)=>fields.toList.mapM λf=>(DN P f.type).map λx=>(f.offset,x.2)
 | _=>none
theorem R2(l:List Field):∀{ps:List (Nat×Nat)}{Q:List (Nat×Nat)->A->Prop},(l.mapM λf=>(DN P f.type).map λx=>(f.offset,x.2))=some ps->Q ps h->
  (l.mapM (m:=Sem) λf=>do pure (f.offset,<-sizeOf f.type)).gh P h Q:=by
 induction l with
 | nil=>intro ps Q e q;simp at e;subst e;exact q
 | cons f l c=>
  intro ps Q e q;rw [List.mapM_cons] at e ⊢;cases a:DN P f.type with
  | none=>rw [a] at e;simp at e
  | some x=>
   rw [a] at e;simp only [Option.map_some,Option.bind_eq_bind,Option.bind_some,Option.bind_eq_some_iff] at e;obtain ⟨g,d,b⟩:=e;simp at b;subst b;refine AI _ _ (AI _ _ (FL a (BS ?_)));exact AI _ _ (c d q)
theorem Bu{t:bX}{parts:Array (Nat×Operand)}{ps:List (Nat×Nat)}{z cells:Array bW}(hp:Fh P t=some ps)(hz:CZ P t=some z)(hf:Instr.fill (ps.toArray[·]?) z (parts.map λ(i,x)=>(i,Ag V x)).toList=some cells)
  (k:bN (putS V dst (.agg cells)) ds h):B9 E ⟨dst,.build t parts,ty,pos,af,gd⟩ V ds h bN:=by
 unfold B9 execOp;refine HL ?_;unfold CZ at hz;unfold Fh at hp;unfold Instr.build zeroValue;cases a:P.info? t with
 | none=>rw [a] at hz;cases hz
 | some i=>
  rw [a] at hz;simp only [Option.map_eq_some_iff] at hz;obtain ⟨v,c,rfl⟩:=hz;refine AI _ _ (AI _ _ (DU a ?_));rw [c];refine BS ?_;cases b:P.underlying t with
  | none=>rw [b] at hp;cases hp
  | some d=>
   rw [b] at hp;cases d <;> first | (cases hp;done) | skip
   rename_i fields
   refine AI _ _ (BG b ?_);simp only at hp ⊢;rw [Array.mapM_eq_mapM_toList,map_eq_pure_bind];refine AI _ _ (AI _ _ (R2 _ hp (BS ?_)));simp only [hf];exact k
def EA(P:Program)(t:bX):Option (Nat×Array bW×bX):=
 match P.underlying t with
 | some (.slice e)=>match DN P e,CZ P e with
  | some x,some z=>some (x.2,z,e)
  | _,_=>none
 | _=>none
theorem UV{t:bX}{len n:Nat}{z cells:Array bW}{e:bX}{parts:Array (Nat×Operand)}(hs:EA P t=some (n,z,e))(hl:len*n<=2 ^ 24)(hn:(len*n=0)=False)
  (hf:Instr.fill (λi=>some (i*n,n)) ((Array.range (len*n)).map (z[·%z.size]!)) (parts.map λ(i,x)=>(i,Ag V x)).toList=some cells)
  (k:∀r,h r=none->bN (putS V dst (.slice (some ⟨r,0,none⟩) len len)) ds (h.set r true (.cells cells e (0,0)))):B9 E ⟨dst,.buildSlice t len parts,ty,pos,af,gd⟩ V ds h bN:=by
 unfold B9 execOp;refine HL ?_;unfold EA at hs;unfold Instr.buildSlice;cases c:P.underlying t with
 | none=>rw [c] at hs;cases hs
 | some d=>
  rw [c] at hs;cases d <;> first | (cases hs;done) | skip
  rename_i f
  simp only at hs;cases b:DN P f with
  | none=>rw [b] at hs;cases hs
  | some x=>
   cases a:CZ P f with
   | none=>rw [b,a] at hs;cases hs
   | some m=>
    rw [b,a] at hs;simp only [Option.some.injEq,Prod.mk.injEq] at hs;obtain ⟨rfl,rfl,rfl⟩:=hs;refine AI _ _ (BG c ?_);refine AI _ _ (Ht (by rw [b];rfl) ?_);rw [bU (Nat.not_lt.2 hl)];dsimp only at hn ⊢;rw [bU (by rw [hn];exact id)];unfold CZ at a;unfold zeroValue;cases g:P.info? f with
    | none=>rw [g] at a;cases a
    | some i=>
    rw [g] at a;simp only [Option.map_eq_some_iff] at a;obtain ⟨v,j,rfl⟩:=a;refine AI _ _ (AI _ _ (DU g ?_));rw [j];refine BS ?_;refine AI _ _ (BS ?_);dsimp only at hf ⊢;rw [hf];dsimp only;refine AI _ _ ?_;unfold newRow;refine AI _ _ ?_;exact λr l=>k r l
theorem Hu{b:Builtin}{args:Array Operand}{tys:Array bX}{vs:Array bW}{s:Sem bW}(ha:args.map (Ag V)=vs)(hb:∀cs,builtin b tys ty cs vs=(do pure (.value (<-s))))
  (x:s.gh P h λv h'=>bN (putS V dst v) ds h'):B9 E ⟨dst,.call ⟨.builtin b,args,tys⟩,ty,pos,af,gd⟩ V ds h bN:=by
 unfold B9 execOp;simp only [];refine AI _ _ ?_;unfold resolve;simp only [ha];refine BS ?_;show (builtin b tys ty _ vs).gh P h _;rw [hb];exact HL x
def LU(P:Program)(t:bX):Bool:=match P.underlying t with
 | some (.slice _)=>true
 | _=>false
theorem O5{x:Operand}{t:bX}{a:Option Addr}{len cap:Nat}(ht:LU P t=true)(hx:Ag V x=.slice a len cap)(k:bN (putS V dst (.int .i64 len)) ds h):B9 E ⟨dst,.call ⟨.builtin .len,#[x],#[t]⟩,ty,pos,af,gd⟩ V ds h bN:=by
 refine Hu (vs:=#[.slice a len cap]) (s:=Builtin.len_ #[t] ty #[.slice a len cap]) (by simp [hx]) (λ_=>rfl) ?_;unfold LU at ht;unfold Builtin.len_;simp only [List.getElem?_toArray,List.getElem?_cons_zero];cases b:P.underlying t with
 | none=>rw [b] at ht;cases ht
 | some d=>
  rw [b] at ht;refine AI _ _ (BG b ?_);cases d <;> first | (cases ht;done) | exact k
def R3(P:Program)(t:bX):Bool:=match P.underlying t with
 | some .string=>true
 | _=>false
theorem Nz{x:Operand}{t:bX}{s:bY}(ht:R3 P t=true)(hx:Ag V x=.string s)(k:bN (putS V dst (.int .i64 s.size)) ds h):B9 E ⟨dst,.call ⟨.builtin .len,#[x],#[t]⟩,ty,pos,af,gd⟩ V ds h bN:=by
 refine Hu (vs:=#[.string s]) (s:=Builtin.len_ #[t] ty #[.string s]) (by simp [hx]) (λ_=>rfl) ?_;unfold R3 at ht;unfold Builtin.len_;simp only [List.getElem?_toArray,List.getElem?_cons_zero];cases a:P.underlying t with
 | none=>rw [a] at ht;cases ht
 | some d=>
  rw [a] at ht;refine AI _ _ (BG a ?_);cases d <;> first | (cases ht;done) | exact k
theorem R4{x y:Operand}{tys:Array bX}{a b:Int}{kd:IntKind}(hx:Ag V x=.int kd a)(hy:Ag V y=.int kd b)(k:bN (putS V dst (.int kd (min a b))) ds h):B9 E ⟨dst,.call ⟨.builtin .min,#[x,y],tys⟩,ty,pos,af,gd⟩ V ds h bN:=by
 refine Hu (vs:=#[.int kd a,.int kd b]) (s:=Builtin.min_ tys ty #[.int kd a,.int kd b]) (by simp [hx,hy]) (λ_=>rfl) ?_;have e:min a b=if b<a then b else a:=O
 rw [e] at k;exact k
theorem Z8{x y:Operand}{tys:Array bX}{a b:Int}{kd:IntKind}(hx:Ag V x=.int kd a)(hy:Ag V y=.int kd b)(k:bN (putS V dst (.int kd (max a b))) ds h):B9 E ⟨dst,.call ⟨.builtin .max,#[x,y],tys⟩,ty,pos,af,gd⟩ V ds h bN:=by
 refine Hu (vs:=#[.int kd a,.int kd b]) (s:=Builtin.max_ tys ty #[.int kd a,.int kd b]) (by simp [hx,hy]) (λ_=>rfl) ?_;have e:max a b=if b>a then b else a:=O
 rw [e] at k;exact k
def O6(P:Program)(t:bX):Option IntKind:=match P.underlying t with
 | some (.int k)=>some k
 | _=>none
theorem Cj{s t:bX}{x:Operand}{kd kt:IntKind}{a r:Int}(hs:(P.underlying s).isSome=true)(ht:O6 P t=some kt)(hx:Ag V x=.int kd a)(hr:kt.wrap a=r)(k:bN (putS V dst (.int kt r)) ds h):B9 E ⟨dst,.convert s t x,ty,pos,af,gd⟩ V ds h bN:=by
 unfold B9 execOp;simp only [hx];refine HL ?_;unfold O6 at ht;unfold convert;cases c:P.underlying s with
 | none=>rw [c] at hs;cases hs
 | some d=>
  refine AI _ _ (BG c ?_);cases b:P.underlying t with
  | none=>rw [b] at ht;cases ht
  | some e=>
   rw [b] at ht;refine AI _ _ (BG b ?_);subst hr;cases e <;> first | (cases ht;done) | (cases ht;cases d <;> exact k)
end
end Go.Ns
namespace Go.Ns
open Go.Conc
section
variable {P:Program} {E:Ho P} {V:Nat->bW} {ds:List Deferred} {h:A} {bN:(Nat->bW)->List Deferred->A->Prop}
variable {dst:Option Nat} {ty:bX} {pos:String} {af:Array Edge} {gd:Option (Nat×Bool)}
def Ao(h:A)(b off n:Nat)(vs:Array bW):Prop:=∃p c t f,h b=some (p,.cells c t f)/\off+n<=c.size/\c.extract off (off+n)=vs
theorem Ao.le{h h':A}(l:h.Le h'){b off n:Nat}{vs:Array bW}(x:Ao h b off n vs):Ao h' b off n vs:=by
 obtain ⟨p,c,t,f,a,y⟩:=x;exact ⟨p,c,t,f,l.keep a rfl,y⟩
theorem Ao.same{h h':A}{b off n:Nat}{vs:Array bW}(x:Ao h b off n vs)(e:h' b=h b):Ao h' b off n vs:=by
 obtain ⟨p,c,t,f,a,y⟩:=x;exact ⟨p,c,t,f,e.trans a,y⟩
theorem Ao.box{h:A}{b:Nat}{p:Bool}{c:Array bW}{t:bX}{f:Nat×Nat}(hb:h b=some (p,.cells c t f)){n:Nat}(hn:c.size=n):Ao h b 0 n c:=⟨p,c,t,f,hb,O,by subst hn;simp⟩
theorem Ao.get{h:A}{b off n o:Nat}{vs:Array bW}{v:bW}(x:Ao h b off n vs)(hv:vs[o]? =some v):∃p c t f,h b=some (p,.cells c t f)/\c[off+o]? =some v:=by
 obtain ⟨p,c,t,f,a,d,rfl⟩:=x;refine ⟨p,c,t,f,a,?_⟩;rw [Array.getElem?_extract] at hv;split at hv
 ·exact hv
 ·cases hv
theorem C2{t:bX}{b off n m o:Nat}{vs:Array bW}{v:bW}(ht:DN P t=some (false,m))(x:Ao h b off n vs)(hv:vs[o]? =some v):Rd P h t b (off+o) v:=by
 obtain ⟨p,c,ty,f,a,d⟩:=x.get hv;exact Rd.one ht a d
theorem BF{t:bX}{b off n m:Nat}{vs:Array bW}{v:bW}(ht:DN P t=some (false,m))(x:Ao h b off n vs)(hv:vs[0]? =some v):Rd P h t b off v:=by
 have:=C2 (o:=0) ht x hv
 exact this
theorem FM{t:bX}{b off n m o:Nat}{vs ws:Array bW}(ht:DN P t=some (true,m))(x:Ao h b off n vs)(hm:o+m<=n)(hv:vs.extract o (o+m)=ws):Rd P h t b (off+o) (.agg ws):=by
 obtain ⟨p,c,ty,f,a,d,rfl⟩:=x;refine Rd.agg ht a O ?_;rw [<-hv,Array.extract_extract];congr 1
 ·omega
theorem AN{t:bX}{b off n:Nat}{vs:Array bW}(ht:DN P t=some (true,n))(x:Ao h b off n vs):Rd P h t b off (.agg vs):=by
 obtain ⟨p,c,ty,f,a,d,rfl⟩:=x;exact Rd.agg ht a d rfl
theorem A.Le.nothing{h h':A}(l:h.Le h'){r:Nat}(hr:h' r=none):h r=none:=by
 cases a:h r with
 | none=>rfl
 | some x=>obtain ⟨c,b,_⟩:=l r x.1 x.2 a;rw [b] at hr;cases hr
theorem A.Le.upd{h h' h'':A}(l:h.Le h'){b:Nat}(hb:h b=none)(ho:∀x,x≠b->h'' x=h' x):h.Le h'':=λx p o a=>by
 rw [ho x (A.ne_of a hb)];exact l x p o a
theorem WU{t:bX}{x:Operand}{c:Array bW}{v:bW}(hx:Ag V x=v)(hc:v.cells=c)
  (k:∀r h',h r=none->h.Le h'->h' r=some (true,.cells c t (0,0))->(∀b,b≠r->h' b=h b)->bN (putS V dst (.pointer (some ⟨r,0,none⟩))) ds h'):B9 E ⟨dst,.box t x,ty,pos,af,gd⟩ V ds h bN:=
 ok_box (by rw [hx];exact hc) λr a=>k r _ a (A.Le.new a _ _) (A.set_same _ _ _ _) λb d=>A.set_ne _ _ _ d
theorem An{t:bX}{z:Array bW}(hz:CZ P t=some z)
  (k:∀r h',h r=none->h.Le h'->h' r=some (true,.cells z t (0,0))->(∀b,b≠r->h' b=h b)->bN (putS V dst (.pointer (some ⟨r,0,none⟩))) ds h'):B9 E ⟨dst,.alloc t,ty,pos,af,gd⟩ V ds h bN:=
 ok_alloc hz λr a=>k r _ a (A.Le.new a _ _) (A.set_same _ _ _ _) λb c=>A.set_ne _ _ _ c
theorem A1{t:bX}{a x:Operand}{b off n:Nat}{g:Bool}{v:bW}{c c':Array bW}{et:bX}(ht:DN P t=some (g,n))(ha:Ag V a=.pointer (some ⟨b,off,none⟩))(hv:Ag V x=v)(hb:h b=some (true,.cells c et (0,0)))
  (hsz:v.cells.size=n) (hf:Value.fine v=true) (hn:off+n<=c.size) (hc:CK c off v.cells.toList=c') (k:∀h',h' b=some (true,.cells c' et (0,0))->(∀x,x≠b->h' x=h x)->bN (putS V dst undef) ds h') :
  B9 E ⟨dst,.store t a x,ty,pos,af,gd⟩ V ds h bN:=
 ok_store ht ha hv hb hsz hf hn (k _ (by rw [hc];exact A.set_same _ _ _ _) λx d=>A.set_ne _ _ _ d)
def Ai{α:Type}(h:A)(v:bW)(n:Nat)(enc:α->Array bW)(xs:List α):Prop:=
 ∃a cap,v=.slice a xs.length cap/\xs.length<=cap/\xs.length<=140737488355328/\(∀i (hi:i<xs.length),∃b off,a=some ⟨b,off,none⟩/\Ao h b (off+i*n) n (enc xs[i]))
theorem Ai.le{α:Type}{h h':A}(l:h.Le h'){v:bW}{n:Nat}{enc:α->Array bW}{xs:List α}(x:Ai h v n enc xs):Ai h' v n enc xs:=by
 obtain ⟨a,c,e,f,g,j⟩:=x;refine ⟨a,c,e,f,g,λi k=>?_⟩;obtain ⟨b,d,m,o⟩:=j i k;exact ⟨b,d,m,o.le l⟩
theorem Ai.len{α:Type}{h:A}{v:bW}{n:Nat}{enc:α->Array bW}{xs:List α}(x:Ai h v n enc xs):xs.length<=140737488355328:=by
 obtain ⟨_,_,_,_,a,_⟩:=x;exact a
theorem Ai.nil{α:Type}(h:A)(n:Nat)(enc:α->Array bW):Ai h (.slice none 0 0) n enc []:=⟨none,0,rfl,Nat.le_refl _,Nat.zero_le _,λi a=>by simp at a⟩
theorem Ac{α:Type}{x:Operand}{t:bX}{n:Nat}{enc:α->Array bW}{xs:List α}{v:bW}(ht:LU P t=true)(hs:Ai h v n enc xs)(hx:Ag V x=v)(k:bN (putS V dst (.int .i64 xs.length)) ds h):B9 E ⟨dst,.call ⟨.builtin .len,#[x],#[t]⟩,ty,pos,af,gd⟩ V ds h bN:=by
 obtain ⟨a,b,rfl,_,_,_⟩:=hs;exact O5 ht hx k
theorem HB{fn:Func}{R:bW->A->Prop}(hr:fn.results=#[])(x:R (.tuple #[]) h):Hp P fn V R [] h:=by
 unfold Hp;rw [hr];exact x
theorem Mp{fn:Func}{R:bW->A->Prop}{t:Tmp}{v:bW}(hr:fn.results=#[.tmp t])(hv:V t=v)(x:R v h):Hp P fn V R [] h:=by
 unfold Hp;rw [hr];subst hv;exact x
theorem outs2{fn:Func}{R:bW->A->Prop}{t u:Tmp}{v v':bW}(hr:fn.results=#[.tmp t,.tmp u])(hv:V t=v)(hv':V u=v')(x:R (.tuple #[v,v']) h):Hp P fn V R [] h:=by
 unfold Hp;rw [hr];subst hv;subst hv';exact x
theorem outs3{fn:Func}{R:bW->A->Prop}{t u s:Tmp}{v v' v2:bW}(hr:fn.results=#[.tmp t,.tmp u,.tmp s])(hv:V t=v)(hv':V u=v')(hv2:V s=v2)(x:R (.tuple #[v,v',v2]) h):Hp P fn V R [] h:=by
 unfold Hp;rw [hr];subst hv;subst hv';subst hv2;exact x
theorem KT{fn:Func}{R:bW->A->Prop}{a:Tmp}{t:bX}{b off:Nat}{v:bW}(hr:fn.results=#[.cell a t])(ha:V a=.pointer (some ⟨b,off,none⟩))(hv:Rd P h t b off v)(x:R v h):Hp P fn V R [] h:=by
 unfold Hp;rw [hr];exact ⟨b,off,v,ha,hv,x⟩
theorem Gj{fn:Func}{R:bW->A->Prop}{a u:Tmp}{t:bX}{b off:Nat}{v v':bW}(hr:fn.results=#[.cell a t,.tmp u])(ha:V a=.pointer (some ⟨b,off,none⟩))(hv:Rd P h t b off v)(hv':V u=v')(x:R (.tuple #[v,v']) h):Hp P fn V R [] h:=by
 unfold Hp;rw [hr];subst hv';exact ⟨b,off,v,ha,hv,x⟩
theorem AE{v:bW}{p:Prop}[Decidable p](hv:v=.bool (decide p))(hp:p):v=.bool true:=by rw [hv,decide_eq_true hp]
theorem AA{v:bW}{p:Prop}[Decidable p](hv:v=.bool (decide p))(hp:¬p):v=.bool false:=by rw [hv,decide_eq_false hp]
theorem BD{v:bW}{b c:Bool}(hv:v=.bool b)(hp:b=c):v=.bool c:=by rw [hv,hp]
theorem R5{tys:Array bX}{g:FuncId}{fn:Func}(hf:P.funcs[g]? =some fn)(hc:AV fn=true)
  (x:Al E.wk g #[] h λv h'=>bN (putS V dst v) ds h'):B9 E ⟨dst,.call ⟨.value (.func g),#[],tys⟩,ty,pos,af,gd⟩ V ds h bN:=MQ hf hc aG x
theorem Ay{tys:Array bX}{g:FuncId}{fn:Func}{x1:Operand}{v1:bW}(hf:P.funcs[g]? =some fn)(hc:AV fn=true)(h1:Ag V x1=v1)
  (x:Al E.wk g #[v1] h λv h'=>bN (putS V dst v) ds h'):B9 E ⟨dst,.call ⟨.value (.func g),#[x1],tys⟩,ty,pos,af,gd⟩ V ds h bN:=MQ hf hc (by simp [h1]) x
theorem Aj{tys:Array bX}{g:FuncId}{fn:Func}{x1 x2:Operand}{v1 v2:bW}(hf:P.funcs[g]? =some fn)(hc:AV fn=true)(h1:Ag V x1=v1)(h2:Ag V x2=v2)
  (x:Al E.wk g #[v1,v2] h λv h'=>bN (putS V dst v) ds h'):B9 E ⟨dst,.call ⟨.value (.func g),#[x1,x2],tys⟩,ty,pos,af,gd⟩ V ds h bN:=MQ hf hc (by simp [h1,h2]) x
theorem Bj{tys:Array bX}{g:FuncId}{fn:Func}{x1 x2 x3:Operand}{v1 v2 v3:bW}(hf:P.funcs[g]? =some fn)(hc:AV fn=true)(h1:Ag V x1=v1)(h2:Ag V x2=v2)(h3:Ag V x3=v3)
  (x:Al E.wk g #[v1,v2,v3] h λv h'=>bN (putS V dst v) ds h'):B9 E ⟨dst,.call ⟨.value (.func g),#[x1,x2,x3],tys⟩,ty,pos,af,gd⟩ V ds h bN:=MQ hf hc (by simp [h1,h2,h3]) x
theorem GB{tys:Array bX}{g:FuncId}{fn:Func}{x1 x2 x3 x4:Operand}{v1 v2 v3 v4:bW}(hf:P.funcs[g]? =some fn)(hc:AV fn=true)(h1:Ag V x1=v1)(h2:Ag V x2=v2)(h3:Ag V x3=v3)(h4:Ag V x4=v4)
  (x:Al E.wk g #[v1,v2,v3,v4] h λv h'=>bN (putS V dst v) ds h'):B9 E ⟨dst,.call ⟨.value (.func g),#[x1,x2,x3,x4],tys⟩,ty,pos,af,gd⟩ V ds h bN:=MQ hf hc (by simp [h1,h2,h3,h4]) x
theorem X6{tys:Array bX}{g:FuncId}{fn:Func}{x1 x2 x3 x4 x5:Operand}{v1 v2 v3 v4 v5:bW}(hf:P.funcs[g]? =some fn)(hc:AV fn=true)(h1:Ag V x1=v1)(h2:Ag V x2=v2)(h3:Ag V x3=v3)(h4:Ag V x4=v4)(h5:Ag V x5=v5)
  (x:Al E.wk g #[v1,v2,v3,v4,v5] h λv h'=>bN (putS V dst v) ds h'):B9 E ⟨dst,.call ⟨.value (.func g),#[x1,x2,x3,x4,x5],tys⟩,ty,pos,af,gd⟩ V ds h bN:=MQ hf hc (by simp [h1,h2,h3,h4,h5]) x
end
end Go.Ns
namespace Go.Ns
open Go.Conc
section
variable {P:Program} {E:Ho P}
abbrev Us:=bW->A->Prop
def N0(Φ:List Us)(k:Nat):Us:=Φ.getD k λ_ _=>True
def Ut(o:Oper)(V:Nat->bW):bW:=match o.dst with
 | some d=>V d
 | none=>undef
def EB(ops:List Oper)(o:Oper)(V:Nat->bW):Prop:=match o.guard with
 | none=>True
 | some (j,want)=>match ops[j]? with
  | some oj=>match oj.dst with
   | some d=>V d=.bool want
   | none=>False
  | none=>False
def X7(ops:List Oper)(Φ:List Us)(V:Nat->bW)(h:A)(j:Nat):Prop:=match ops[j]? with
 | some o=>EB ops o V->N0 Φ j (Ut o V) h
 | none=>True
def KW(ops:List Oper)(Φ:List Us)(V:Nat->bW)(h:A):List Nat->Prop
 | []=>True
 | j ::l=>X7 ops Φ V h j/\KW ops Φ V h l
def EP(ops:List Oper)(n:Nat):List Nat:=(ops.take n).filterMap (·.dst)
def StepAt(R:A->A->Prop)(E:Ho P)(ops:List Oper)(n:Nat)(Φ:List Us)(V:Nat->bW)(ds:List Deferred)(h:A)(k:Nat)(o:Oper)(cl:List Nat):Prop:=
 ∀σ' h',R h h'->(∀t,(EP ops n).contains t=false->σ' t=V t)->KW ops Φ σ' h' cl->EB ops o σ'->
  B9 E o σ' ds h' λσ'' ds'' h''=>ds''=ds/\R h' h''/\∃v,σ''=putS σ' o.dst v/\N0 Φ k v h''
def P0(R:A->A->Prop)(E:Ho P)(ops:List Oper)(n:Nat)(Φ:List Us)(V:Nat->bW)(ds:List Deferred)(h:A)(Q:Post):Nat->Nat->List Oper->List (List Nat)->Prop
 | 0,k,rest,_=>∀σ' h',R h h'->(∀t,(EP ops n).contains t=false->σ' t=V t)->KW ops Φ σ' h' (List.range k)->Dy E ops.toArray rest σ' ds h' Q
 | m+1,k,o ::rest,cl ::cls=>StepAt R E ops n Φ V ds h k o cl/\P0 R E ops n Φ V ds h Q m (k+1) rest cls
 | _,_,_,_=>False
def JT(o:Oper)(j:Nat):Bool:=o.after.any λe=>Region.binds .any e && e.on==j
def HN(N:Nat)(ops:List Oper)(n:Nat)(cls:List (List Nat)):Bool:=
 Nat.ble n ops.length && cls.length==n && decide (EP ops n).Nodup &&
 (List.range ops.length).all λi=>match ops[i]? with
  | none=>false
  | some o=>(o.after.all λe=> !Region.binds .any e || Nat.blt e.on i) &&
   if Nat.blt i n then
    Dj o.dst N && !Do o.op && (match o.guard with | none=>true | some (j,_)=>JT o j) &&
    ((cls.getD i []).all λj=>Nat.blt j i && (JT o j || (List.range i).any λe=>JT o e && (cls.getD e []).contains j))
   else (List.range i).all λj=>JT o j || (Nat.blt j n && (List.range n).any λe=>JT o e && (cls.getD e []).contains j) || (List.range i).any λe=>Nat.ble n e && Nat.blt j e && JT o e
def WV(N:Nat)(ops:List Oper)(n:Nat)(cls:List (List Nat)):Bool:=
 HN N ops n cls && (List.range n).all λi=>match ops[i]? with
  | none=>false
  | some o=>o.dst.isSome
theorem KW.get{ops:List Oper}{Φ:List Us}{V:Nat->bW}{h:A}:∀{l:List Nat},(∀j ∈ l,X7 ops Φ V h j)->KW ops Φ V h l
 | [],_=>trivial
 | j ::l,x=>⟨x j aG,KW.get λi a=>x i (by simp [a])⟩
theorem P0.at{R:A->A->Prop}{ops:List Oper}{n:Nat}{Φ:List Us}{V:Nat->bW}{ds:List Deferred}{h:A}{Q:Post}:∀(m k:Nat)(rest:List Oper)(cls:List (List Nat)),
  P0 R E ops n Φ V ds h Q m k rest cls->(∀i o,i<m->rest[i]? =some o->StepAt R E ops n Φ V ds h (k+i) o (cls.getD i []))/\
   (∀σ' h',R h h'->(∀t,(EP ops n).contains t=false->σ' t=V t)->KW ops Φ σ' h' (List.range (k+m))->Dy E ops.toArray (rest.drop m) σ' ds h' Q)
 | 0,k,rest,cls,x=>⟨λi o d=>O,x⟩
 | m+1,k,[],cls,x=>by cases cls <;> exact x.elim
 | m+1,k,o ::rest,[],x=>x.elim
 | m+1,k,o ::rest,q ::cls,x=>by
  obtain ⟨e,f⟩:=x;obtain ⟨a,b⟩:=P0.at m (k+1) rest cls f;refine ⟨λi g d c=>?_,λσ' h' j l p=>?_⟩
  ·cases i with
   | zero=>simp at c;subst c;exact e
   | succ i=>have:=a i g O (by simpa using c);rw [show k+(i+1)=k+1+i by omega];simpa using this
  ·rw [List.drop_succ_cons];exact b σ' h' j l (by rw [show k+1+m=k+(m+1) by omega];exact p)
theorem Hv{n:Nat}{p:Nat->Bool}(h:(List.range n).all p=true){i:Nat}(hi:i<n):p i=true:=by
 rw [List.all_eq_true] at h;exact h i (List.mem_range.2 hi)
theorem Z9{ops:Array Oper}{N n:Nat}{l:List Oper}{cls:List (List Nat)}(hl:ops=l.toArray)(ok:HN N l n cls=true) :
  ∀(fuel t i:Nat)(listed:Array Bool),n<=i->i<=l.length->l.length-i<=fuel->listed.size=l.length->(∀j,j<l.length->listed.getD j false=decide (j<i))->
   Region.linearise.go .any ops fuel t listed []=List.range' i (l.length-i):=by
 subst hl;unfold HN at ok;simp only [Bool.and_eq_true] at ok;obtain ⟨⟨⟨W,X⟩,Y⟩,r⟩:=ok;intro fuel
 induction fuel with
 | zero=>intro t i listed _ _ h0 _ _;rw [show l.length-i=0 by omega];rfl
 | succ fuel z=>
  intro t i listed hn hi hf b f;by_cases R:i=l.length
  ·have hnone:Region.ready .any l.toArray listed=[]:=by
    unfold Region.ready;rw [List.filter_eq_nil_iff];intro j a;have s:j<l.length:=by simpa using a
    have u:listed.getD j true=decide (j<i):=by
     rw [<-f j s];simp [Array.getD_eq_getD_getElem?,b,s]
    rw [u];simp [show j<i by omega]
   simp only [Region.linearise.go];change (match (Region.ready .any l.toArray listed)[t%(Region.ready .any l.toArray listed).length]? with
    | some i=>Region.linearise.go .any l.toArray fuel (t / (Region.ready .any l.toArray listed).length) (listed.setIfInBounds i true) [i]
    | none=>[].reverse)=_
   rw [hnone,show l.length-i=0 by omega];rfl
  have hready:Region.ready .any l.toArray listed=[i]:=by
   unfold Region.ready;have v:∀j,j<l.length->((!listed.getD j true && ((l.toArray[j]?).map (·.after.all λe=> !Region.binds .any e || listed.getD e.on false)).getD false)=decide (j=i)):=by
    intro j a;have u:listed.getD j true=decide (j<i):=by
     rw [<-f j a];simp [Array.getD_eq_getD_getElem?,b,a]
    have c:l[j]? =some l[j]:=List.getElem?_eq_getElem a;have C:=Hv r a;simp only [c,Bool.and_eq_true] at C;rcases Nat.lt_trichotomy j i with D | heq | hgt
    ·rw [u];simp [D];omega
    ·subst heq;rw [u];simp only [Nat.lt_irrefl,decide_false,Bool.not_false,Bool.true_and,decide_true]
     have:l.toArray[j]? =some l[j]:=by simpa using c
     rw [this];simp only [Option.map_some,Option.getD_some];have g:=C.1;rw [Array.all_eq_true] at g ⊢;intro k F
     have:=g k F
     simp only [Bool.or_eq_true,Bool.not_eq_true'] at this ⊢;rcases this with e | e
     ·exact .inl e
     ·right;have e':(l[j].after[k]).on<j:=Nat.blt_eq▸e;rw [f _ O];simpa using e'
    ·rw [u];have o:¬j<i:=O
     have p:Nat.blt j n=false:=by
      cases h:Nat.blt j n with
      | false=>rfl
      | true=>have:j<n:=Nat.blt_eq▸h;omega
     have g:=C.2;rw [p] at g;simp only [Bool.false_eq_true,if_false] at g;have d:=Hv g hgt;have w:Nat.blt i n=false:=by
      cases h:Nat.blt i n with
      | false=>rfl
      | true=>have:i<n:=Nat.blt_eq▸h;omega
     rw [w] at d;simp only [Bool.false_and,Bool.or_false,Bool.or_eq_true] at d;obtain ⟨x,hi',V,H⟩:∃x,i<=x/\x<j/\JT l[j] x=true:=by
      rcases d with q | q
      ·exact ⟨i,Nat.le_refl _,hgt,q⟩
      ·rw [List.any_eq_true] at q;obtain ⟨e,he,I⟩:=q;simp only [Bool.and_eq_true] at I;have q3:i<e:=Nat.blt_eq▸I.1.2;exact ⟨e,O,List.mem_range.1 he,I.2⟩
     have:l.toArray[j]? =some l[j]:=by simpa using c
     rw [this];simp only [Option.map_some,Option.getD_some];have K:¬j=i:=O
     simp only [K,decide_false,Bool.and_eq_false_iff];right;unfold JT at H;rw [Array.any_eq_true] at H;obtain ⟨k,F,e⟩:=H;simp only [Bool.and_eq_true,beq_iff_eq] at e;rw [Array.all_eq_false];refine ⟨k,F,?_⟩
     have:=f x O
     rw [decide_eq_false O] at this;simp [e.1,e.2,this]
   have:(List.range l.toArray.size).filter (λj=> !listed.getD j true && ((l.toArray[j]?).map (·.after.all λe=> !Region.binds .any e || listed.getD e.on false)).getD false)=(List.range l.length).filter (λj=>decide (j=i)):=by
    rw [List.size_toArray];exact List.filter_congr λj a=>v j (List.mem_range.1 a)
   rw [this];have M:i<l.length:=O
   clear this v z f r
   have:∀m,(List.range m).filter (λj=>decide (j=i))=if i<m then [i] else []:=by
    intro m
    induction m with
    | zero=>simp
    | succ m z=>
     rw [List.range_succ,List.filter_append,z];by_cases o:i<m
     ·have p:i<m+1:=O
      have Q:¬m=i:=O
      simp [o,p,Q]
     ·by_cases p:m=i
      ·subst p;simp
      ·have Q:¬i<m+1:=O
       simp [o,p,Q]
   rw [this,bV M]
  simp only [Region.linearise.go];change (match (Region.ready .any l.toArray listed)[t%(Region.ready .any l.toArray listed).length]? with
   | some i=>Region.linearise.go .any l.toArray fuel (t / (Region.ready .any l.toArray listed).length) (listed.setIfInBounds i true) [i]
   | none=>[].reverse)=_
  rw [hready];simp only [List.length_singleton,Nat.mod_one,List.getElem?_cons_zero,Nat.div_one];rw [linearise_go_acc,List.reverse_singleton,List.singleton_append,show l.length-i=(l.length-(i+1))+1 by omega,List.range'_succ];rw [z t (i+1) _ O O O (by simpa using b)];intro j a;rw [Array.getD_eq_getD_getElem?,Array.getElem?_setIfInBounds];by_cases y:i=j
  ·subst y;simp [b,a]
  ·rw [bU y,<-Array.getD_eq_getD_getElem?,f j a];by_cases o:j<i
   ·have:j<i+1:=O
    simp [o,this]
   ·have:¬j<i+1:=O
    simp [o,this]
theorem EB.congr{l:List Oper}{o:Oper}{V σ':Nat->bW}(h:∀g w oj d,o.guard=some (g,w)->l[g]? =some oj->oj.dst=some d->σ' d=V d):EB l o σ'->EB l o V:=by
 unfold EB;cases a:o.guard with
 | none=>exact id
 | some x=>
  obtain ⟨g,w⟩:=x;simp only;cases b:l[g]? with
  | none=>exact id
  | some oj=>
   simp only;cases c:oj.dst with
   | none=>exact id
   | some d=>simp only;rw [h g w oj d a b c];exact id
theorem E7{l:List Oper}{n i j:Nat}{oi oj:Oper}{d e:Nat}(nd:(EP l n).Nodup)(hi:i<n)(hj:j<n)(hij:i≠j)(hoi:l[i]? =some oi)(hoj:l[j]? =some oj)(hd:oi.dst=some d)(he:oj.dst=some e):e≠d:=by
 have a:∀(oi oj:Oper)(d e:Nat)(n:Nat)(l:List Oper)(i j:Nat),(EP l n).Nodup->j<n->i<j->l[i]? =some oi->l[j]? =some oj->oi.dst=some d->oj.dst=some e->e≠d:=by
  intro oi oj d e n
  induction n with
  | zero=>intro l i j _ hj;omega
  | succ n f=>
   intro l i j nd hj hij hoi hoj hd he;cases l with
   | nil=>simp at hoi
   | cons o l=>
    cases j with
    | zero=>omega
    | succ j=>
     have g:e ∈ EP l n:=by
      simp only [EP,List.mem_filterMap];refine ⟨oj,?_,he⟩;have k:(l.take n)[j]? =some oj:=by rw [List.getElem?_take];simp at hoj;simp [show j<n by omega,hoj]
      exact List.mem_of_getElem? k
     cases i with
     | zero=>
      simp at hoi;subst hoi
      have:EP (o ::l) (n+1)=d ::EP l n:=by simp [EP,hd]
      rw [this] at nd;intro m;subst m;exact (List.nodup_cons.1 nd).1 g
     | succ i=>
      have c:(EP l n).Nodup:=by
       have:EP (o ::l) (n+1)=(match o.dst with | some x=>x ::EP l n | none=>EP l n):=by
        cases b:o.dst <;> simp [EP,b]
       rw [this] at nd;cases b:o.dst with
       | none=>rw [b] at nd;exact nd
       | some x=>rw [b] at nd;exact (List.nodup_cons.1 nd).2
      exact f l i j c O O (by simpa using hoi) (by simpa using hoj) hd he
 rcases Nat.lt_or_gt_of_ne hij with h | h
 ·exact a oi oj d e n l i j nd hj h hoi hoj hd he
 ·exact λx=>a oj oi e d n l j i nd hi h hoj hoi he hd x.symm
theorem WW{e d:Nat}(h:e≠d):Nat.beq e d=false:=by
 cases a:Nat.beq e d with
 | false=>rfl
 | true=>exact absurd (Nat.eq_of_beq_eq_true a) h
theorem X8{l:List Oper}{n k d:Nat}{o:Oper}(hk:k<n)(ho:l[k]? =some o)(hd:o.dst=some d):(EP l n).contains d=true:=by
 rw [List.contains_iff_mem];simp only [EP,List.mem_filterMap];exact ⟨o,List.mem_of_getElem? (show (l.take n)[k]? =some o by rw [List.getElem?_take];simp [hk,ho]),hd⟩
def IV(D:Nat->Bool)(i:Nat):Nat->Bool:=λj=>if i=j then true else D j
structure SInv(l:List Oper)(n:Nat)(cls:List (List Nat))(J:(Nat->Bool)->(Nat->bW)->A->Prop)(listed:Array Bool)(σ':Nat->bW)(h':A):Prop where
 inv:J (λj=>listed.getD j false) σ' h'
 size:listed.size=l.length
 clos:∀j,j<n->listed.getD j false=true->∀i ∈ cls.getD j [],i<n/\listed.getD i false=true
 suf:∀j,n<=j->j<l.length->listed.getD j false=false
theorem R6{id:Nat}{l:List Oper}{V:Nat->bW}{ds:List Deferred}{h:A}(n:Nat)(cls:List (List Nat))(J:(Nat->Bool)->(Nat->bW)->A->Prop)
  (hm:P.follows .mixedOrders=true) (ok:HN E.N l n cls=true) (i0:J (λ_=>false) V h)
  (step:∀D σ' h' i o,J D σ' h'->i<n->D i=false->l[i]? =some o->(∀q ∈ cls.getD i [],D q=true)->(∀g w,o.guard=some (g,w)->D g=true)->
   (EB l o σ'->B9 E o σ' ds h' λσ'' ds'' h''=>ds''=ds/\J (IV D i) σ'' h'')/\(¬EB l o σ'->J (IV D i) (putS σ' o.dst undef) h'))
  {b:Frame} {k:List Item} {cs:List Frame} {t:Array bW} (hb:b.fn=E.fn) (hr:b.roundOf=E.rd) (hs:CE t E.N V)
  (fin:∀D σ' h',J D σ' h'->(∀i,i<n->D i=true)->∀t',CE t' E.N σ'->E.wk.K (G (DT b t' ds (.inRegion l.toArray (List.range' n (l.drop n).length) ::k)) cs) h') :
  E.wk.K (G (DT b t ds (.code (.region id l.toArray true) ::k)) cs) h:=by
 have ok':=ok;unfold HN at ok;simp only [Bool.and_eq_true] at ok;obtain ⟨⟨⟨ok1,ok2⟩,ok3⟩,ok4⟩:=ok;have nd:(EP l n).Nodup:=of_decide_eq_true ok3;have hnl:n<=l.length:=Nat.ble_eq▸ok1;have suffix:∀(fuel m:Nat)(listed:Array Bool) (σ':Nat->bW) (h':A) (t:Array bW),SInv l n cls J listed σ' h'->(∀j,j<n->listed.getD j false=true)->listed.toList.count false<=fuel->CE t E.N σ'->
   E.wk.K (G (DT b t ds (.inRegion l.toArray (Region.linearise.go .any l.toArray fuel m listed []) ::k)) cs) h':=by
  intro fuel m listed σ' h' t I r d p;have s:=I.size;have hL:∀j,j<l.length->listed.getD j false=decide (j<n):=λj a=>by
   by_cases h1:j<n
   ·rw [r j h1];simp [h1]
   ·rw [I.suf j O a];simp [h1]
  have e:Region.linearise.go .any l.toArray fuel m listed []=List.range' n (l.drop n).length:=by
   have Y:listed.toList=List.replicate n true++List.replicate (l.length-n) false:=by
    refine List.ext_getElem (by simp [s];omega) λj h1 c=>?_;have h1':j<l.length:=by simpa [s] using h1
    have hb:=hL j h1';have h1'':j<listed.size:=O
    rw [Array.getD_eq_getD_getElem?,Array.getElem?_eq_getElem h1'',Option.getD_some] at hb;rw [Array.getElem_toList,hb,List.getElem_append];split
    ·rename_i h3;have h4:j<n:=by simpa using h3
     simp [h4]
    ·rename_i h3;have h4:¬j<n:=by simpa using h3
     simp [h4]
   have hc:l.length-n<=fuel:=by rw [Y] at d;simpa [List.count_append,List.count_replicate] using d
   rw [List.length_drop];exact Z9 (ops:=l.toArray) rfl ok' fuel m n listed (Nat.le_refl _) hnl hc s hL
  rw [e];exact fin _ σ' h' I.inv r t p
 have key:∀(fuel m:Nat)(listed:Array Bool) (σ':Nat->bW) (h':A) (t:Array bW),SInv l n cls J listed σ' h'->listed.toList.count false<=fuel->CE t E.N σ'->
   E.wk.K (G (DT b t ds (.inRegion l.toArray (Region.linearise.go .any l.toArray fuel m listed []) ::k)) cs) h':=by
  intro fuel
  induction fuel with
  | zero=>
   intro m listed σ' h' t I d p;exact suffix 0 m listed σ' h' t I (by
    intro j a;cases hb:listed.getD j false with
    | true=>rfl
    | false=>
     have s:=I.size;have z:j<listed.size:=O
     have:false ∈ listed.toList:=by
      rw [Array.getD_eq_getD_getElem?,Array.getElem?_eq_getElem z,Option.getD_some] at hb;rw [<-hb];simp
     have:=List.count_pos_iff.2 this
     omega) d p
  | succ fuel ih=>
   intro m listed σ' h' t I d p;by_cases r:∀j,j<n->listed.getD j false=true
   ·exact suffix (fuel+1) m listed σ' h' t I r d p
   have s:=I.size;have hready:∃i0,i0<n/\listed.getD i0 false=false/\∀j,j<i0->listed.getD j false=true:=by
    have hex:∃j,j<n/\listed.getD j false=false:=by
     refine Classical.byContradiction λhc=>r λj a=>?_;cases hb:listed.getD j false with
     | true=>rfl
     | false=>exact absurd ⟨j,a,hb⟩ hc
    obtain ⟨j,a⟩:=hex
    induction j using Nat.strongRecOn with
    | ind j ihj=>
     by_cases hz:∃i,i<j/\listed.getD i false=false
     ·obtain ⟨i,v,hi'⟩:=hz;exact ihj i v ⟨O,hi'⟩
     ·refine ⟨j,a.1,a.2,λi v=>?_⟩;cases hb:listed.getD i false with
      | true=>rfl
      | false=>exact absurd ⟨i,v,hb⟩ hz
   obtain ⟨i0,hi0,hl0,hb0⟩:=hready;have hget:∀j,j<l.length->listed.getD j true=listed.getD j false:=λj a=>by
    have z:j<listed.size:=O
    simp [Array.getD_eq_getD_getElem?,Array.getElem?_eq_getElem z]
   have hmem:∀i,i ∈ Region.ready .any l.toArray listed↔i<l.length/\listed.getD i false=false/\∀o,l[i]? =some o->∀e ∈ o.after,Region.binds .any e=true->listed.getD e.on false=true:=by
    intro i;unfold Region.ready;rw [List.mem_filter,List.mem_range,List.size_toArray];constructor
    ·rintro ⟨v,x⟩;rw [hget i v] at x;have hoi:l.toArray[i]? =some l[i]:=by simp [v]
     rw [hoi] at x;simp only [Option.map_some,Option.getD_some,Bool.and_eq_true,Bool.not_eq_true'] at x;refine ⟨v,x.1,λo H e M R=>?_⟩;rw [List.getElem?_eq_getElem v] at H;cases H
     have:=(Array.all_eq_true_iff_forall_mem.1 x.2) e M
     simpa [R] using this
    ·rintro ⟨v,x1,x2⟩;refine ⟨v,?_⟩;rw [hget i v];have hoi:l.toArray[i]? =some l[i]:=by simp [v]
     rw [hoi];simp only [Option.map_some,Option.getD_some,Bool.and_eq_true,Bool.not_eq_true'];refine ⟨x1,Array.all_eq_true_iff_forall_mem.2 λe M=>?_⟩;cases R:Region.binds .any e with
     | false=>rfl
     | true=>simpa using x2 _ (List.getElem?_eq_getElem v) e M R
   have hi0r:i0 ∈ Region.ready .any l.toArray listed:=by
    rw [hmem];refine ⟨O,hl0,λo H e M R=>?_⟩;have o4:=Hv ok4 (show i0<l.length by omega);simp only [H,Bool.and_eq_true] at o4
    have:=(Array.all_eq_true_iff_forall_mem.1 o4.1) e M
    simp only [R,Bool.not_true,Bool.false_or] at this;exact hb0 _ (Nat.blt_eq▸this)
   simp only [Region.linearise.go];change E.wk.K (G (DT b t ds (.inRegion l.toArray (match (Region.ready .any l.toArray listed)[m%(Region.ready .any l.toArray listed).length]? with
    | some i=>Region.linearise.go .any l.toArray fuel (m / (Region.ready .any l.toArray listed).length) (listed.setIfInBounds i true) [i]
    | none=>[].reverse) ::k)) cs) h'
   cases v:(Region.ready .any l.toArray listed)[m%(Region.ready .any l.toArray listed).length]? with
   | none=>
    exfalso;have hpos:0<(Region.ready .any l.toArray listed).length:=List.length_pos_of_mem hi0r
    have:=Nat.mod_lt m hpos
    rw [List.getElem?_eq_none_iff] at v;omega
   | some i=>
    simp only [];have him:=(hmem i).1 (List.mem_of_getElem? v);obtain ⟨hil,hiu,hie⟩:=him;obtain ⟨o,H⟩:∃o,l[i]? =some o:=⟨_,List.getElem?_eq_getElem hil⟩;have o4:=Hv ok4 hil;simp only [H,Bool.and_eq_true] at o4;have hin:i<n:=by
     refine Classical.byContradiction λhc=>?_;have c:Nat.blt i n=false:=by
      cases h:Nat.blt i n with
      | false=>rfl
      | true=>exact absurd (Nat.blt_eq▸h) hc
     have o5:=o4.2;rw [c] at o5;simp only [Bool.false_eq_true,if_false] at o5;have o6:=Hv o5 (show i0<i by omega);have onL:∀j,JT o j=true->listed.getD j false=true:=λj a=>by
      unfold JT at a;rw [Array.any_eq_true] at a;obtain ⟨q,u,e⟩:=a;simp only [Bool.and_eq_true,beq_iff_eq] at e
      have:=hie o H _ (Array.getElem_mem u) e.1
      rw [e.2] at this;exact this
     simp only [Bool.or_eq_true,Bool.and_eq_true] at o6;rcases o6 with (o6 | ⟨_,o6⟩) | o6
     rotate_left 2
     ·rw [List.any_eq_true] at o6;obtain ⟨e,M,c⟩:=o6;simp only [Bool.and_eq_true] at c;have h3:=onL e c.2;have h4:n<=e:=Nat.ble_eq▸c.1.1;have h5:e<i:=List.mem_range.1 M;rw [I.suf e h4 O] at h3;cases h3
     ·have:=onL _ o6
      rw [hl0] at this;cases this
     ·rw [List.any_eq_true] at o6;obtain ⟨e,M,c⟩:=o6;simp only [Bool.and_eq_true] at c
      have:=(I.clos e (List.mem_range.1 M) (onL e c.1) i0 (by simpa using c.2)).2
      rw [hl0] at this;cases this
    have hbl:Nat.blt i n=true:=by rw [Nat.blt_eq];exact hin
    have o5:=o4.2;rw [hbl] at o5;simp only [if_true,Bool.and_eq_true,Bool.not_eq_true'] at o5;obtain ⟨⟨⟨d2,d3⟩,d4⟩,d5⟩:=o5;have anyL:∀j,JT o j=true->listed.getD j false=true:=λj a=>by
     unfold JT at a;rw [Array.any_eq_true] at a;obtain ⟨q,u,e⟩:=a;simp only [Bool.and_eq_true,beq_iff_eq] at e
     have:=hie o H _ (Array.getElem_mem u) e.1
     rw [e.2] at this;exact this
    have hgl:∀g w,o.guard=some (g,w)->listed.getD g false=true:=λg w hg=>by
     rw [hg] at d4;exact anyL g d4
    have z:∀j,listed.getD j false=true->j<n:=λj a=>by
     by_cases h1:j<l.length
     ·by_cases c:j<n
      ·exact c
      ·rw [I.suf j O h1] at a;cases a
     ·have:listed.getD j false=false:=by
       rw [Array.getD_eq_getD_getElem?,Array.getElem?_eq_none O];rfl
      rw [this] at a;cases a
    have Y:∀j ∈ cls.getD i [],j<n/\listed.getD j false=true:=λj a=>by
     have:=(List.all_eq_true.1 d5) j a
     simp only [Bool.and_eq_true,Bool.or_eq_true] at this;rcases this.2 with h1 | h1
     ·exact ⟨z j (anyL j h1),anyL j h1⟩
     ·rw [List.any_eq_true] at h1;obtain ⟨e,_,c⟩:=h1;simp only [Bool.and_eq_true] at c;have hle:=anyL e c.1;exact I.clos e (z e hle) hle j (by simpa using c.2)
    rw [linearise_go_acc,List.reverse_singleton,List.singleton_append];have C:∀j,(listed.setIfInBounds i true).getD j false=IV (λj=>listed.getD j false) i j:=λj=>by
     show _=if i=j then true else listed.getD j false
     rw [Array.getD_eq_getD_getElem?,Array.getElem?_setIfInBounds];by_cases F:i=j
     ·subst F;simp [s,hil]
     ·rw [bU F,bU F,Array.getD_eq_getD_getElem?]
    have next:∀(σ2:Nat->bW) (c:A),J (IV (λj=>listed.getD j false) i) σ2 c->SInv l n cls J (listed.setIfInBounds i true) σ2 c:=by
     intro σ2 c hj2;refine ⟨by rw [show (λj=>(listed.setIfInBounds i true).getD j false)=IV (λj=>listed.getD j false) i from funext C];exact hj2,by simpa using s,λj a hjl q u=>?_,λj a hjl=>?_⟩
     ·rw [C] at hjl
      have:q<n/\listed.getD q false=true:=by
       by_cases F:i=j
       ·subst F;exact Y q u
       ·exact I.clos j a (by simpa [IV,F] using hjl) q u
      refine ⟨this.1,?_⟩;rw [C];unfold IV;split
      ·rfl
      ·exact this.2
     ·rw [C];unfold IV;rw [bU O];exact I.suf j a hjl
    obtain ⟨stepT,stepF⟩:=step _ σ' h' i o I.inv hin hiu H (λq u=>(Y q u).2) hgl;have W:(listed.setIfInBounds i true).toList.count false<=fuel:=by
     rw [Array.toList_setIfInBounds];have X:i<listed.toList.length:=by simpa [s] using hil
     rw [List.count_set X];have hlt2:i<listed.size:=by simpa using X
     have h3:listed.toList[i]=false:=by
      rw [Array.getD_eq_getD_getElem?,Array.getElem?_eq_getElem hlt2,Option.getD_some] at hiu;simpa using hiu
     rw [h3];simp;have h4:=List.count_pos_iff.2 (List.getElem_mem X);rw [h3] at h4;have h5:Array.count false listed=listed.toList.count false:=aG
     omega
    have hgN:∀g w og dg,o.guard=some (g,w)->l[g]? =some og->og.dst=some dg->dg<E.N:=λg w og dg hgw hog hdg=>by
     have hgn:=z g (hgl g w hgw);have o6:=Hv ok4 (show g<l.length by omega);simp only [hog,Bool.and_eq_true] at o6;have hbg:Nat.blt g n=true:=by rw [Nat.blt_eq];exact hgn
     have o7:=o6.2;rw [hbg] at o7;simp only [if_true,Bool.and_eq_true] at o7
     have:=o7.1.1.1
     rw [hdg] at this;exact Nat.blt_eq▸this
    have hwant:Region.wanted o (yielded l.toArray t)=true↔EB l o σ':=by
     unfold Region.wanted EB;cases hg:o.guard with
     | none=>simp
     | some x=>
      obtain ⟨g,w⟩:=x;simp only [yielded];have e0:l.toArray[g]? =l[g]? :=aG
      rw [e0];cases hog:l[g]? with
      | none=>simp
      | some og=>
       simp only [Option.bind_some];cases hdg:og.dst with
       | none=>simp
       | some dg=>
        simp only [Option.bind_some];have hN:=hgN g w og dg hg hog hdg;have hts:dg<t.size:=by rw [p.1];exact hN
        have hv:=p.2 dg;rw [Array.getD_eq_getD_getElem?,Array.getElem?_eq_getElem hts,Option.getD_some] at hv;rw [Array.getElem?_eq_getElem hts,hv];cases σ' dg <;> simp
    cases hw:Region.wanted o (yielded l.toArray t) with
    | true=>
     have hG:=hwant.1 hw;refine MN (E:=E) (by simpa using H) hw (.inr d3) d2 p (stepT hG) λσ2 ds2 c y t2 ht2=>?_;obtain ⟨rfl,hj2⟩:=y;exact ih _ _ σ2 c t2 (next σ2 c hj2) W ht2
    | false=>
     have hnG:¬EB l o σ':=λx=>by rw [hwant.2 x] at hw;cases hw
     refine Wk.go (DT b (Z1 t o.dst undef) ds (.inRegion l.toArray (Region.linearise.go .any l.toArray fuel (m / (Region.ready .any l.toArray listed).length) (listed.setIfInBounds i true) []) ::k)) (λw=>?_) ?_
     ·rw [<-Dp (show l.toArray[i]? =some o by simpa using H),Bc];unfold stepG.exec;have hw':((l.toArray[i]?).map (Region.wanted · (yielded l.toArray t))).getD false=false:=by
       rw [show l.toArray[i]? =some o by simpa using H];simp [hw]
      simp only [DT,hw',Bool.false_eq_true,↓reduceIte];rfl
     ·exact ih _ _ (putS σ' o.dst undef) h' _ (next _ _ (stepF hnG)) W (p.putS d2 undef)
 refine E.wk.closed _ _ rfl λw f=>?_;obtain ⟨m,w',h',es,r1,r2,r3⟩:=KO (P:=P) f (e:=choose (.order b.fn id)) (Q:=λ_ h'=>h'=h) (by exact ⟨λ_=>rfl,λ_ _=>rfl⟩);subst r3;refine ⟨G (DT b t ds (.inRegion l.toArray (Region.linearise.go .any l.toArray l.length m (Array.replicate l.length false) []) ::k)) cs,w',#[],h',?_,r2.sub λe M=>by simp at M,?_⟩
 ·rw [Bc];unfold stepG.exec;have r1':(choose (.order b.fn id)).run P w=.ok m w':=by
   have:=congrArg Prod.fst r1
   simpa [Sem.runT_eq] using this
  simp only [DT,Bool.not_true,Bool.false_eq_true,↓reduceIte,r1',Region.schedule,hm,Bool.true_or,Region.linearise,List.size_toArray];rfl
 ·refine key l.length m _ V h' t ⟨?_,aG,λj _ a=>?_,λj _ _=>?_⟩ ?_ hs
  ·have e:(λj=>(Array.replicate l.length false).getD j false)=λ_:Nat=>false:=funext λj=>by
    rw [Array.getD_eq_getD_getElem?,Array.getElem?_replicate];split <;> rfl
   rw [e];exact i0
  ·rw [Array.getD_eq_getD_getElem?,Array.getElem?_replicate] at a;split at a <;> cases a
  ·rw [Array.getD_eq_getD_getElem?,Array.getElem?_replicate];split <;> rfl
  ·simp
theorem X9{id:Nat}{l:List Oper}{V:Nat->bW}{ds:List Deferred}{h:A}{Q:Post}(n:Nat)(cls:List (List Nat))(J:(Nat->Bool)->(Nat->bW)->A->Prop)
  (hm:P.follows .mixedOrders=true) (ok:HN E.N l n cls=true) (i0:J (λ_=>false) V h)
  (step:∀D σ' h' i o,J D σ' h'->i<n->D i=false->l[i]? =some o->(∀q ∈ cls.getD i [],D q=true)->(∀g w,o.guard=some (g,w)->D g=true)->
   (EB l o σ'->B9 E o σ' ds h' λσ'' ds'' h''=>ds''=ds/\J (IV D i) σ'' h'')/\(¬EB l o σ'->J (IV D i) (putS σ' o.dst undef) h'))
  (fin:∀D σ' h',J D σ' h'->(∀i,i<n->D i=true)->Dy E l.toArray (l.drop n) σ' ds h' Q):Tr E (.region id l.toArray true) V ds h Q:=λb k f m t d e p r s=>
 R6 n cls J hm ok i0 step d e r λD σ' h' u a v c=>fin D σ' h' u a n b k f m v (λj=>aG) d e p c s
theorem B3.mono{W:Wk P}{l f:Nat}{tmps:Array bW}{a c:Code}{h:A}{R R':bW->A->Prop}(x:B3 W l f tmps a c h R)(hr:∀v h',R v h'->R' v h'):B3 W l f tmps a c h R':=
 λb d e=>x b d λv h' r=>e v h' (hr v h' r)
theorem B9.mono{o:Oper}{V:Nat->bW}{ds:List Deferred}{h:A}{bN T2:(Nat->bW)->List Deferred->A->Prop}(y:B9 E o V ds h bN)(ht:∀σ' ds' h',bN σ' ds' h'->T2 σ' ds' h'):B9 E o V ds h T2:=by
 unfold B9 at y ⊢;refine GO _ (λb h' q=>?_) _ y;cases b <;> first | exact ht _ _ _ q | exact Al.mono q λv a r=>ht _ _ _ r | exact B3.mono q λv a r=>ht _ _ _ r | exact q
structure DrawInv(R:A->A->Prop)(l:List Oper)(n:Nat)(cls:List (List Nat))(Φ:List Us)(V:Nat->bW)(h:A)(D:Nat->Bool)(σ':Nat->bW)(h':A):Prop where
 le:R h h'
 base:∀t,(EP l n).contains t=false->σ' t=V t
 lt:∀j,D j=true->j<n
 done:∀j,D j=true->X7 l Φ σ' h' j
 clos:∀j,D j=true->∀i ∈ cls.getD j [],D i=true
 grd:∀j o,D j=true->l[j]? =some o->∀g w,o.guard=some (g,w)->D g=true
theorem tr_draw(R:A->A->Prop){id:Nat}{l:List Oper}{V:Nat->bW}{ds:List Deferred}{h:A}{Q:Post}(n:Nat)(cls:List (List Nat))(Φ:List Us)
  (hm:P.follows .mixedOrders=true) (ok:WV E.N l n cls=true) (rr:∀h,R h h) (rt:∀a b c,R a b->R b c->R a c) (mono:∀k v h h',R h h'->N0 Φ k v h->N0 Φ k v h')
  (x:P0 R E l n Φ V ds h Q n 0 l cls):Tr E (.region id l.toArray true) V ds h Q:=by
 obtain ⟨steps,fin⟩:=P0.at n 0 l cls x;simp only [Nat.zero_add] at steps fin;unfold WV at ok;rw [Bool.and_eq_true] at ok;obtain ⟨ok,okd⟩:=ok;have W:=ok;unfold HN at W;simp only [Bool.and_eq_true] at W;have nd:(EP l n).Nodup:=of_decide_eq_true W.1.2;refine X9 n cls (DrawInv R l n cls Φ V h) hm ok ⟨rr h,λ_ _=>rfl,λ_ q=>(by cases q),λ_ q=>(by cases q),λ_ q=>(by cases q),λ_ _ q=>(by cases q)⟩ (λD σ' h' i o I s hiu X hcl Y=>?_) λD σ' h' I hall=>fin σ' h' I.le I.base (KW.get λj hj=>I.done j (hall j (List.mem_range.1 hj)));have r:∀j,IV D i j=if i=j then true else D j:=λ_=>rfl
 obtain ⟨d,hd⟩:∃d,o.dst=some d:=by
  have:=Hv okd s
  rw [X] at this;exact Option.isSome_iff_exists.1 this
 have next:∀(σ2:Nat->bW) (h2:A) (v:bW),σ2=putS σ' o.dst v->R h' h2->(EB l o σ2->N0 Φ i v h2)->DrawInv R l n cls Φ V h (IV D i) σ2 h2:=by
  rintro σ2 h2 v rfl F z;have hkeep:∀j t e,j<n->j≠i->l[j]? =some t->t.dst=some e->putS σ' o.dst v e=σ' e:=λj t e hj hji p he=>by
   rw [hd];exact upd_ne σ' v (WW (E7 nd s hj (λx=>hji x.symm) X p hd he))
  refine ⟨rt _ _ _ I.le F,λu hu=>?_,λj f=>?_,λj f=>?_,λj f q hq'=>?_,λj t f p g w M=>?_⟩
  ·rw [<-I.base u hu,hd];exact upd_ne σ' v (WW λe=>by rw [e,X8 s X hd] at hu;cases hu)
  ·rw [r] at f;by_cases m:i=j
   ·exact m▸s
   ·rw [bU m] at f;exact I.lt j f
  ·rw [r] at f;by_cases m:i=j
   ·subst m;unfold X7;rw [X];intro M
    have:Ut o (putS σ' o.dst v)=v:=by simp [Ut,hd,putS,upd]
    rw [this];exact z M
   ·rw [bU m] at f;have K:=I.done j f;unfold X7 at K ⊢;cases p:l[j]? with
    | none=>trivial
    | some t=>
     rw [p] at K;simp only at K ⊢;intro M;have hg':EB l t σ':=M.congr λg w og dg H hog hdg=>by
      have C:=I.grd j t f p g w H;exact hkeep g og dg (I.lt g C) (λe=>by rw [e,hiu] at C;cases C) hog hdg
     have hsv:Ut t (putS σ' o.dst v)=Ut t σ':=by
      unfold Ut;cases hdj:t.dst with
      | none=>rfl
      | some e=>exact hkeep j t e (I.lt j f) (λx=>m x.symm) p hdj
     rw [hsv];exact mono _ _ _ _ F (K hg')
  ·rw [r] at f ⊢;split
   ·rfl
   ·by_cases m:i=j
    ·subst m;exact hcl q hq'
    ·rw [bU m] at f;exact I.clos j f q hq'
  ·rw [r] at f ⊢;split
   ·rfl
   ·by_cases m:i=j
    ·subst m;rw [X] at p;cases p;exact Y g w M
    ·rw [bU m] at f;exact I.grd j t f p g w M
 refine ⟨λhG=>?_,λhnG=>?_⟩
 ·exact B9.mono (steps i o s X σ' h' I.le I.base (KW.get λj hj=>I.done j (hcl j hj)) hG) λσ2 ds2 h2 y=>⟨y.1,by
   obtain ⟨_,F,v,hσ,z⟩:=y;exact next σ2 h2 v hσ F λ_=>z⟩
 ·refine next _ _ undef rfl (rr _) λM=>absurd (M.congr λg w og dg H hog hdg=>?_) hnG;have hgi:g≠i:=λe=>by have:=Y g w H;rw [e,hiu] at this;cases this
  rw [hd];exact upd_ne σ' undef (WW (E7 nd s (I.lt g (Y g w H)) (λx=>hgi x.symm) X hog hd hdg))
end
end Go.Ns
namespace Go.Ns
open Go.Conc
section
variable {P:Program} {E:Ho P} {V:Nat->bW} {ds:List Deferred} {h:A} {bN:(Nat->bW)->List Deferred->A->Prop}
variable {dst:Option Nat} {ty:bX} {pos:String} {af:Array Edge} {gd:Option (Nat×Bool)}
variable {α:Type}
def ET(enc:α->Array bW)(xs:List α):List bW:=xs.flatMap λx=>(enc x).toList
theorem LV(enc:α->Array bW)(xs ys:List α):ET enc (xs++ys)=ET enc xs++ET enc ys:=by simp [ET]
theorem GC{enc:α->Array bW}{n:Nat}{xs:List α}(hn:∀x ∈ xs,(enc x).size=n):(ET enc xs).length=xs.length*n:=by
 induction xs with
 | nil=>simp [ET]
 | cons x xs a=>
  have:ET enc (x ::xs)=(enc x).toList++ET enc xs:=rfl
  rw [this,List.length_append,a (λy b=>hn y (by simp [b])),List.length_cons,Nat.succ_mul,Array.length_toList,hn x aG];omega
def DH:bW->Option Nat
 | .slice (some a) _ _=>some a.block
 | _=>none
def Ae(h0 h:A)(v:bW)(t:bX)(n:Nat)(enc:α->Array bW)(xs:List α):Prop:=
 (v=.slice none 0 0/\xs=[])\/∃b cap c,v=.slice (some ⟨b,0,none⟩) xs.length cap/\h0 b=none/\h b=some (true,.cells c t (0,0))/\c.size=cap*n/\xs.length<=cap/\xs.length<=140737488355328/\
  c.toList.take (xs.length*n)=ET enc xs/\∀x ∈ xs,(enc x).size=n
theorem Ae.nil(h0 h:A)(t:bX)(n:Nat)(enc:α->Array bW):Ae h0 h (.slice none 0 0) t n enc []:=.inl ⟨rfl,rfl⟩
theorem Ae.le{h0 h h':A}{v:bW}{t:bX}{n:Nat}{enc:α->Array bW}{xs:List α}(x:Ae h0 h v t n enc xs)(l:h.Le h'):Ae h0 h' v t n enc xs:=by
 rcases x with x | ⟨b,a,c,d,e,f,g⟩
 ·exact .inl x
 ·exact .inr ⟨b,a,c,d,e,l.keep f rfl,g⟩
theorem Ae.base{h0 h00 h:A}{v:bW}{t:bX}{n:Nat}{enc:α->Array bW}{xs:List α}(x:Ae h0 h v t n enc xs)(l:h00.Le h0):Ae h00 h v t n enc xs:=by
 rcases x with x | ⟨b,a,c,d,e,f,g⟩
 ·exact .inl x
 ·exact .inr ⟨b,a,c,d,l.nothing e,f,g⟩
theorem Ae.keep{h0 h h':A}{v:bW}{t:bX}{n:Nat}{enc:α->Array bW}{xs:List α}(x:Ae h0 h v t n enc xs)(l:∀b o,DH v=some b->h b=some o->h' b=some o):Ae h0 h' v t n enc xs:=by
 rcases x with x | ⟨b,a,c,d,e,f,g⟩
 ·exact .inl x
 ·exact .inr ⟨b,a,c,d,e,l b _ (by rw [d];rfl) f,g⟩
theorem R7{enc:α->Array bW}{n:Nat}{xs:List α}{l:List bW}(hn:∀x ∈ xs,(enc x).size=n)(h:l.take (xs.length*n)=ET enc xs){i:Nat}(hi:i<xs.length) :
  (l.drop (i*n)).take n=(enc xs[i]).toList:=by
 induction xs generalizing l i with
 | nil=>simp at hi
 | cons x xs b=>
  have c:=hn x aG;have e:ET enc (x ::xs)=(enc x).toList++ET enc xs:=rfl;have a:((enc x).toList).length=n:=by simp [c]
  have d:l.take n=(enc x).toList:=by
   have:=congrArg (List.take n) h
   rw [e,List.take_take,List.length_cons,Nat.succ_mul,Nat.min_eq_left (Nat.le_add_left _ _),List.take_left' a] at this;exact this
  have f:(l.drop n).take (xs.length*n)=ET enc xs:=by
   have:=congrArg (List.drop n) h
   rw [e,List.drop_left' a,List.drop_take,List.length_cons,Nat.succ_mul,Nat.add_sub_cancel] at this;exact this
  cases i with
  | zero=>simpa using d
  | succ i=>
   have:=b (λy g=>hn y (by simp [g])) f (i:=i) (by simpa using hi)
   rw [List.drop_drop] at this;rw [Nat.succ_mul,Nat.add_comm (i*n) n];simpa using this
theorem Ae.sl{h0 h:A}{v:bW}{t:bX}{n:Nat}{enc:α->Array bW}{xs:List α}(x:Ae h0 h v t n enc xs):Ai h v n enc xs:=by
 rcases x with ⟨rfl,rfl⟩ | ⟨b,a,c,f,m,g,o,d,j,k,l⟩
 ·exact Ai.nil _ _ _
 ·refine ⟨_,a,f,d,j,λi e=>⟨b,0,rfl,true,c,t,(0,0),g,?_,?_⟩⟩
  ·have:i*n+n<=xs.length*n:=by rw [<-Nat.succ_mul];exact Nat.mul_le_mul_right n e
   have:xs.length*n<=a*n:=Nat.mul_le_mul_right n d
   omega
  ·apply Array.ext';rw [Array.toList_extract,List.extract_eq_take_drop,Nat.zero_add,show i*n+n-i*n=n by omega];exact R7 l k e
theorem Ai.cells{h:A}{v:bW}{n:Nat}{enc:α->Array bW}{ys:List α}(x:Ai h v n enc ys)(hne:ys≠[]) :
  ∃b off cap p c t f,v=.slice (some ⟨b,off,none⟩) ys.length cap/\h b=some (p,.cells c t f)/\off+ys.length*n<=c.size/\(c.extract off (off+ys.length*n)).toList=ET enc ys/\∀y ∈ ys,(enc y).size=n:=by
 obtain ⟨a,cap,z,_,_,r⟩:=x;have C:0<ys.length:=List.length_pos_iff.2 hne;obtain ⟨b,off,rfl,p,c,t,f,s,I,K⟩:=r 0 C;have d:∀i (g:i<ys.length),off+i*n+n<=c.size/\c.extract (off+i*n) (off+i*n+n)=enc ys[i]:=λi g=>by
  obtain ⟨M,u,D,N,Q,R,W,j,l,m⟩:=r i g;cases D;rw [s] at j;cases j;exact ⟨l,m⟩
 have o:∀y ∈ ys,(enc y).size=n:=λy F=>by
  obtain ⟨i,g,rfl⟩:=List.mem_iff_getElem.1 F;rw [<-(d i g).2,Array.size_extract]
  have:=(d i g).1
  omega
 refine ⟨b,off,cap,p,c,t,f,z,s,?_,?_,o⟩
 ·have:=(d (ys.length-1) O).1
  have e:(ys.length-1)*n+n=ys.length*n:=by rw [<-Nat.succ_mul];congr 1;omega
  omega
 ·have q:∀i,i<=ys.length->(c.toList.drop off).take (i*n)=ET enc (ys.take i):=by
   intro i
   induction i with
   | zero=>intro _;simp [ET]
   | succ i H=>
    intro g;have k:i<ys.length:=g;rw [List.take_succ_eq_append_getElem k,LV,<-H O,Nat.succ_mul,List.take_add];congr 1
    have:=(d i k).2
    have w:=congrArg Array.toList this;rw [Array.toList_extract,List.extract_eq_take_drop,show off+i*n+n-(off+i*n)=n by omega] at w;rw [List.drop_drop,show ET enc [ys[i]]=(enc ys[i]).toList by simp [ET],<-w]
  have:=q ys.length (Nat.le_refl _)
  rw [List.take_length] at this;rw [Array.toList_extract,List.extract_eq_take_drop,show off+ys.length*n-off=ys.length*n by omega];exact this
theorem Fi(vs:List bW):∀(c:Array bW)(off:Nat),off+vs.length<=c.size->(CK c off vs).toList=c.toList.take off++vs++c.toList.drop (off+vs.length):=by
 induction vs with
 | nil=>intro c off _;simp [CK]
 | cons v vs d=>
  intro c off a;simp only [List.length_cons] at a;rw [CK,d _ _ (by simp;omega),Array.toList_setIfInBounds];have b:off<c.toList.length:=by simp;omega
  rw [List.take_succ_eq_append_getElem (by simpa using b),List.take_set_of_le (Nat.le_refl _),List.getElem_set_self,List.drop_set_of_lt O];simp only [List.append_assoc,List.length_cons,List.cons_append];rw [show off+1+vs.length=off+(vs.length+1) by omega];rfl
def JU(P:Program)(s x:bX):Option (bX×Nat×Nat):=match P.underlying s with
 | some (.slice e)=>match P.underlying x with
  | some (.slice _) | some .string=>match DN P e,CZ P e,P.info? e with
   | some (_,n),some z,some i=>if n=0\/z.size≠n\/i.bytes=0 then none else some (e,n,i.bytes)
   | _,_,_=>none
  | _=>none
 | _=>none
theorem growBy_le(need:Nat):∀(r c:Nat),c<need->Builtin.growBy need r c<=2*need+512:=by
 intro r
 induction r with
 | zero=>intro c a;unfold Builtin.growBy;omega
 | succ r b=>
  intro c a;unfold Builtin.growBy;rw [bU O];by_cases d:c+(c+768) / 4<need
  ·exact b _ d
  ·cases r with
   | zero=>unfold Builtin.growBy;omega
   | succ r=>unfold Builtin.growBy;rw [bV O];omega
theorem RM{need old:Nat}(h:old<need):Builtin.nextslicecap need old<=2*need+512:=by
 unfold Builtin.nextslicecap;split
 ·omega
 ·split
  ·omega
  ·exact growBy_le _ _ _ h
theorem gh_lenOf{h:A}{a:Option Addr}{n c:Nat}{Q:Nat->A->Prop}(q:Q n h):(Builtin.lenOf (.slice a n c)).gh P h Q:=q
theorem Jm{h:A}{v:bW}{n:Nat}{enc:α->Array bW}{ys:List α}{Q:Array bW->A->Prop}(x:Ai h v n enc ys)(q:Q (ET enc ys).toArray h):(Builtin.firstCells n ys.length v).gh P h Q:=by
 by_cases e:ys=[]
 ·subst e;obtain ⟨a,g,rfl,_,_,_⟩:=x;cases a with
  | none=>exact q
  | some a=>
   show (loadCells a (0*n)).gh P h Q;rw [Nat.zero_mul];exact q
 ·obtain ⟨b,d,g,p,c,t,f,rfl,i,j,k,_⟩:=x.cells e;show (loadCells ⟨b,d,none⟩ (ys.length*n)).gh P h Q;refine Ny (a:=⟨b,d,none⟩) rfl i _ 0 #[] (by simpa using j) ?_
  have:(#[]++c.extract (d+0) (d+0+ys.length*n):Array bW)=(ET enc ys).toArray:=by
   apply Array.ext';simp only [Array.empty_append,Nat.add_zero];exact k
  show Q (#[]++c.extract (d+0) (d+0+ys.length*n)) h;rw [this];exact q
theorem R8{s x:bX}{o1 o2:Operand}{h0:A}{v w:bW}{e n bytes:Nat}{enc:α->Array bW}{xs ys:List α}(ht:JU P s x=some (e,n,bytes))(h1:Ag V o1=v)(h2:Ag V o2=w)
  (hv:Ae h0 h v e n enc xs) (hw:Ai h w n enc ys) (l0:∀r,h r=none->h0 r=none) (hb:(2*(xs.length+ys.length)+512)*bytes<=2 ^ 48) (hfine:∀y ∈ ys,(enc y).toList.all (·.oneCell')=true)
  (k:∀v' h',Ae h0 h' v' e n enc (xs++ys)->(∀b o,h b=some o->DH v≠some b->h' b=some o)->(DH v'=DH v\/((∃r,DH v'=some r/\h r=none)/\∀b o,h b=some o->h' b=some o))->(∀b c,DH v=some b->h b=some (true,.cells c e (0,0))->∃c',h' b=some (true,.cells c' e (0,0))/\c'.size=c.size)->bN (putS V dst v') ds h') :
  B9 E ⟨dst,.call ⟨.builtin .append,#[o1,o2],#[s,x]⟩,ty,pos,af,gd⟩ V ds h bN:=by
 refine Hu (vs:=#[v,w]) (s:=Builtin.append_ #[s,x] ty #[v,w]) (by simp [h1,h2]) (λ_=>rfl) ?_;unfold JU at ht;cases hu:P.underlying s with
 | none=>rw [hu] at ht;cases ht
 | some d=>
 rw [hu] at ht;cases d <;> first | (cases ht;done) | skip
 rename_i u
 cases I:P.underlying x with
 | none=>rw [I] at ht;cases ht
 | some dx=>
 have hdx:dx=.string\/∃e',dx=.slice e':=by
  rw [I] at ht;cases dx <;> first | exact .inl rfl | exact .inr ⟨_,rfl⟩ | (cases ht;done)
 have f:(match DN P u,CZ P u,P.info? u with
   | some (_,n),some z,some i=>if n=0\/z.size≠n\/i.bytes=0 then none else some (u,n,i.bytes)
   | _,_,_=>none)=some (e,n,bytes):=by
  rw [I] at ht;cases dx <;> first | exact ht | (cases ht;done)
 clear ht;cases C:DN P u with
 | none=>rw [C] at f;cases f
 | some g=>
 obtain ⟨g1,l⟩:=g;cases Y:CZ P u with
 | none=>rw [C,Y] at f;cases f
 | some z=>
 cases hi:P.info? u with
 | none=>rw [C,Y,hi] at f;cases f
 | some i=>
 rw [C,Y,hi] at f;simp only at f;by_cases hcond:l=0\/z.size≠l\/i.bytes=0
 ·rw [bV hcond] at f;cases f
 rw [bU hcond] at f;simp only [Option.some.injEq,Prod.mk.injEq] at f;obtain ⟨rfl,rfl,rfl⟩:=f;have hn0:0<l:=O
 have hzs:z.size=l:=O
 have D:∀y ∈ ys,(enc y).size=l:=by
  by_cases K:ys=[]
  ·subst K;simp
  ·obtain ⟨_,_,_,_,_,_,_,_,_,_,_,q⟩:=hw.cells K;exact q
 obtain ⟨wa,wcap,rfl,wlc,wml,wall⟩:=hw;have hw:Ai h (.slice wa ys.length wcap) l enc ys:=⟨wa,wcap,rfl,wlc,wml,wall⟩;have hzero:∀{Q:bW->A->Prop}{h:A},(∀v,v.cells=z->Q v h)->(zeroValue u).gh P h Q:=λ{Q h} q=>by
  unfold CZ at Y;unfold zeroValue;rw [hi] at Y;simp only [Option.map_eq_some_iff] at Y;obtain ⟨v,hv,e⟩:=Y;refine AI _ _ (DU hi ?_);rw [hv];exact q v e
 have hcells:∀y ∈ (ET enc ys),y.oneCell'=true:=λy M=>by
  unfold ET at M;rw [List.mem_flatMap] at M;obtain ⟨a,ha,hb⟩:=M;exact List.all_eq_true.1 (hfine a ha) y hb
 have N:=GC D;have hbytes:1<=i.bytes:=O
 have W:xs.length+ys.length<=140737488355328:=by
  have h2:(2*(xs.length+ys.length)+512)*1<=(2*(xs.length+ys.length)+512)*i.bytes:=Nat.mul_le_mul_left _ hbytes;omega
 obtain ⟨base,sCap,rfl,hcase⟩:∃base sCap,v=.slice base xs.length sCap/\((base=none/\xs=[]/\sCap=0)\/∃b c,base=some ⟨b,0,none⟩/\h0 b=none/\h b=some (true,.cells c u (0,0))/\c.size=sCap*l/\xs.length<=sCap/\xs.length<=140737488355328/\c.toList.take (xs.length*l)=ET enc xs/\∀x ∈ xs,(enc x).size=l):=by
  rcases hv with ⟨rfl,rfl⟩ | ⟨b,cap,c,rfl,q⟩
  ·exact ⟨none,0,rfl,.inl ⟨rfl,rfl,rfl⟩⟩
  ·exact ⟨_,cap,rfl,.inr ⟨b,c,rfl,q⟩⟩
 have hsl:=hv.sl;unfold Builtin.append_;simp only [List.getElem?_toArray,List.getElem?_cons_zero,List.getElem?_cons_succ];refine AI _ _ (BG hu ?_);dsimp only;refine AI _ _ (FL C ?_);refine AI _ _ (BG I ?_);refine AI _ _ (GO _ (Q:=λz h'=>z=false/\h'=h) (λz h' q=>?_) h (by rcases hdx with rfl | ⟨e',rfl⟩ <;> exact ⟨rfl,rfl⟩));obtain ⟨rfl,hq⟩:=q;rw [hq];clear hq h';rw [bU aF];refine AI _ _ (gh_lenOf ?_);by_cases hroom:xs.length+ys.length<=sCap
 ·rw [bV hroom];show Sem.gh P _ h _;simp only [Bool.not_false,if_true];refine AI _ _ (Jm hw ?_);rcases hcase with ⟨rfl,rfl,rfl⟩ | ⟨b,c,rfl,c1,c2,c3,c4,cm,c5,c6⟩
  ·have:ys=[]:=by simpa using hroom
   subst this;refine AI _ _ (BS ?_);refine BS ?_;exact k _ h (.inl ⟨rfl,rfl⟩) (λb o hb _=>hb) (.inl rfl) (λb c hb _=>by cases hb)
  ·dsimp only;rw [KR];have F:0+xs.length*l+(ET enc ys).length<=c.size:=by
    rw [N,c3,Nat.zero_add,<-Nat.add_mul];exact Nat.mul_le_mul_right _ hroom
   refine AI _ _ (Jl (a:=⟨b,0+xs.length*l,none⟩) rfl _ 0 c h ?_ c2 (by simpa using F) ?_)
   ·intro y M;exact hcells y (by simpa using M)
   ·refine BS ?_;refine k _ _ (.inr ⟨b,sCap,_,by rw [List.length_append],c1,A.set_same _ _ _ _,by rw [IF];exact c3,by rw [List.length_append];exact hroom,by rw [List.length_append];exact W,?_,?_⟩) ?_ (.inl rfl) (λb' c' j H=>?_)
    ·simp only [Nat.zero_add,Nat.add_zero] at F ⊢;rw [Fi _ _ _ F,LV,List.length_append,Nat.add_mul,<-N,c5];have R:=GC c6;rw [<-R,<-List.length_append,List.take_append_of_le_length (Nat.le_refl _),List.take_length]
    ·intro y M;rcases List.mem_append.1 M with q | q
     ·exact c6 y q
     ·exact D y q
    ·intro b' o j K
     have:b'≠b:=λe=>K (by subst e;rfl)
     rw [A.set_ne _ _ _ this];exact j
    ·cases j;rw [c2] at H;cases H;exact ⟨_,A.set_same _ _ _ _,by rw [IF]⟩
 ·rw [bU hroom];refine AI _ _ (DU hi ?_);have hneed:xs.length+ys.length<=2 ^ 48:=by
   have h1:1<=i.bytes:=O
   have h2:(2*(xs.length+ys.length)+512)*1<=(2*(xs.length+ys.length)+512)*i.bytes:=Nat.mul_le_mul_left _ h1;omega
  have hmax:IntKind.i64.max=9223372036854775807:=by rfl
  rw [bU (by rw [hmax];omega)];refine AI _ _ (DU hi ?_);have hcap:Builtin.nextslicecap (xs.length+ys.length) sCap*i.bytes<=2 ^ 48:=Nat.le_trans (Nat.mul_le_mul_right _ (RM O)) hb;rw [bU O];refine AI _ _ ⟨λhfo=>(by cases hfo),λ_ t=>?_⟩;show Sem.gh P _ h _;have hnc:xs.length+ys.length<=Question.cut (.appendCap (xs.length+ys.length) sCap u) t:=by
   show xs.length+ys.length<=xs.length+ys.length+_;omega
  generalize Question.cut (.appendCap (xs.length+ys.length) sCap u) t=newCap at hnc ⊢;refine AI _ _ (DU hi ?_);refine AI _ _ ?_;have hask:∀(m:Nat)(Q:Unit->A->Prop),Q () h->(askRoom m).gh P h Q:=λm Q q=>by
   unfold askRoom;split
   ·exact ⟨rfl,q⟩
   ·exact q
  refine hask _ _ ?_;refine AI _ _ (Jm hsl ?_);simp only [Bool.not_false,if_true];refine AI _ _ (Jm hw ?_);refine AI _ _ (hzero λL hvz=>?_);rw [hvz];refine AI _ _ ?_;unfold newRow;refine AI _ _ (λr hr=>?_);refine BS (BS ?_);have X:∀x ∈ xs,(enc x).size=l:=by
   rcases hcase with ⟨_,rfl,_⟩ | ⟨_,_,_,_,_,_,_,_,_,q⟩
   ·simp
   ·exact q
  have R:=GC X;refine k _ _ (.inr ⟨r,newCap,_,by rw [List.length_append],l0 _ hr,A.set_same _ _ _ _,?_,by rw [List.length_append];exact hnc,by rw [List.length_append];exact W,?_,?_⟩) (λb o j _=>?_) (.inr ⟨⟨r,rfl,hr⟩,λb o j=>by rw [A.set_ne _ _ _ (A.ne_of (p:=o.1) (o:=o.2) j hr)];exact j⟩) (λb c' _ H=>⟨c',by rw [A.set_ne _ _ _ (A.ne_of H hr)];exact H,rfl⟩)
  ·simp only [Array.size_append,List.size_toArray,Builtin.zeroCells,Array.size_map,Array.size_range,R,N,hzs];rw [<-Nat.add_mul,<-Nat.add_mul];congr 1;omega
  ·simp only [Array.toList_append];rw [LV,List.length_append,Nat.add_mul,<-R,<-N,<-List.length_append,List.take_append_of_le_length (Nat.le_refl _),List.take_length]
  ·intro y M;rcases List.mem_append.1 M with q | q
   ·exact X y q
   ·exact D y q
  ·rw [A.set_ne _ _ _ (A.ne_of (p:=o.1) (o:=o.2) j hr)];exact j
theorem ok_append{s x:bX}{o1 o2:Operand}{h0:A}{v w:bW}{e n bytes:Nat}{enc:α->Array bW}{xs ys:List α}(ht:JU P s x=some (e,n,bytes))(h1:Ag V o1=v)(h2:Ag V o2=w)
  (hv:Ae h0 h v e n enc xs) (hw:Ai h w n enc ys) (l0:∀r,h r=none->h0 r=none) (hb:(2*(xs.length+ys.length)+512)*bytes<=2 ^ 48) (hfine:∀y ∈ ys,(enc y).toList.all (·.oneCell')=true)
  (k:∀v' h',Ae h0 h' v' e n enc (xs++ys)->(∀b o,h b=some o->DH v≠some b->h' b=some o)->(DH v'=DH v\/((∃r,DH v'=some r/\h r=none)/\∀b o,h b=some o->h' b=some o))->bN (putS V dst v') ds h') :
  B9 E ⟨dst,.call ⟨.builtin .append,#[o1,o2],#[s,x]⟩,ty,pos,af,gd⟩ V ds h bN:=
 R8 ht h1 h2 hv hw l0 hb hfine λv' h' a b c _=>k v' h' a b c
end
end Go.Ns
namespace Go.Ns
open Go.Conc
section
variable {P:Program} {E:Ho P} {V:Nat->bW} {ds:List Deferred} {h:A} {bN:(Nat->bW)->List Deferred->A->Prop}
variable {dst:Option Nat} {ty:bX} {pos:String} {af:Array Edge} {gd:Option (Nat×Bool)}
variable {α:Type}
theorem LI{op:BinOp}{t:bX}{x y:Operand}{a b:bW}{Q:Unit->A->Prop}{h:A}(ho:(match op with | .eql=>false | .neq=>false | _=>true)=true)(q:Q () h):(eqGuard op t x y a b).gh P h Q:=by
 unfold eqGuard;cases op <;> first | (cases ho;done) | exact q
theorem EC{k:IntKind}{i:Int}{y:Nat}{code:BoundsCode}{h:A}{Q:Nat->A->Prop}(h0:0<=i)(h1:i<=y)(q:Q i.toNat h):(Instr.sliceBound (.int k i) y code).gh P h Q:=by
 unfold Instr.sliceBound;refine AI _ _ (BS ?_);show Sem.gh P (if 0<=i/\i<=(y:Int) then _ else _) h Q;rw [bV ⟨h0,h1⟩];exact q
theorem Ai.part{h:A}{n:Nat}{enc:α->Array bW}{xs:List α}{a:Option Addr}{cap lo hi:Nat}(x:Ai h (.slice a xs.length cap) n enc xs)(hlo:lo<=hi)(hhi:hi<=xs.length) :
  Ai h (.slice (if cap=lo then a else a.map (·.add (lo*n))) (hi-lo) (cap-lo)) n enc ((xs.take hi).drop lo):=by
 obtain ⟨o,g,f,p,q,j⟩:=x;cases f;have c:((xs.take hi).drop lo).length=hi-lo:=by simp;omega
 refine ⟨_,cap-lo,by rw [c],O,O,λi d=>?_⟩;rw [c] at d;obtain ⟨b,e,k,l⟩:=j (lo+i) O;subst k;have m:((xs.take hi).drop lo)[i]'(by rw [c];exact d)=xs[lo+i]' O:=aG
 rw [m,bU O];refine ⟨b,e+lo*n,by simp [KR],?_⟩;rw [Nat.add_assoc e,<-Nat.add_mul];exact l
theorem R9{t:bX}{x:Operand}{olo ohi:Option Operand}{n:Nat}{enc:α->Array bW}{xs:List α}{v:bW}(lo hi:Nat)(ht:F6 P t=some n)(hs:Ai h v n enc xs)(hx:Ag V x=v)
  (hlo:match olo with | none=>lo=0 | some o=>∃kd,Ag V o=.int kd lo) (hhi:match ohi with | none=>hi=xs.length | some o=>∃kd,Ag V o=.int kd hi) (h1:lo<=hi) (h2:hi<=xs.length)
  (k:∀v',Ai h v' n enc ((xs.take hi).drop lo)->bN (putS V dst v') ds h):B9 E ⟨dst,.slice t x olo ohi none,ty,pos,af,gd⟩ V ds h bN:=by
 have f:=hs;obtain ⟨a,b,rfl,l,_,_⟩:=f;unfold B9 execOp;simp only [hx];refine HL ?_;unfold F6 at ht;unfold Instr.sliceAt;cases c:P.underlying t with
 | none=>rw [c] at ht;cases ht
 | some d=>
  rw [c] at ht;cases d <;> first | (cases ht;done) | skip
  rename_i e
  simp only at ht;refine AI _ _ (BG c ?_);dsimp only;unfold Instr.slice;refine AI _ _ (BG c ?_);dsimp only;have i:∀(Q:Nat×Nat×Nat->A->Prop),Q (lo,hi,b) h->(Instr.sliceBounds true xs.length b (olo.map (Ag V)) (ohi.map (Ag V)) none).gh P h Q:=λQ q=>by
   unfold Instr.sliceBounds;cases ohi with
   | none=>
    simp only at hhi;subst hhi;cases olo with
    | none=>simp only at hlo;subst hlo;exact q
    | some o=>
     obtain ⟨kd,e⟩:=hlo;simp only [Option.map_some,e];refine AI _ _ (BS (AI _ _ (BS ?_)));exact AI _ _ (EC O O (by simp only [Int.toNat_natCast];exact q))
   | some m=>
    obtain ⟨j,g⟩:=hhi;cases olo with
    | none=>
     simp only at hlo;subst hlo;simp only [Option.map_some,g];refine AI _ _ (BS (AI _ _ (EC O O ?_)));exact q
    | some o=>
     obtain ⟨kd,e⟩:=hlo;simp only [Option.map_some,e,g];refine AI _ _ (BS (AI _ _ (EC O O ?_)));exact AI _ _ (EC O (by simpa using h1) (by simp only [Int.toNat_natCast];exact q))
  refine AI _ _ (i _ ?_);dsimp only;refine AI _ _ (Ht ht (BS ?_));exact k _ (hs.part h1 h2)
theorem MR{t:bX}{x:Operand}{olo ohi:Option Operand}{n len cap:Nat}{a:Option Addr}(lo hi:Nat)(ht:F6 P t=some n)(hc:len<=cap)(hx:Ag V x=.slice a len cap)
  (hlo:match olo with | none=>lo=0 | some o=>∃kd,Ag V o=.int kd lo) (hhi:match ohi with | none=>hi=len | some o=>∃kd,Ag V o=.int kd hi) (h1:lo<=hi) (h2:hi<=len)
  (k:bN (putS V dst (.slice (if cap=lo then a else a.map (·.add (lo*n))) (hi-lo) (cap-lo))) ds h):B9 E ⟨dst,.slice t x olo ohi none,ty,pos,af,gd⟩ V ds h bN:=by
 unfold B9 execOp;simp only [hx];refine HL ?_;unfold F6 at ht;unfold Instr.sliceAt;cases b:P.underlying t with
 | none=>rw [b] at ht;cases ht
 | some d=>
  rw [b] at ht;cases d <;> first | (cases ht;done) | skip
  rename_i e
  simp only at ht;refine AI _ _ (BG b ?_);dsimp only;unfold Instr.slice;refine AI _ _ (BG b ?_);dsimp only;have f:∀(Q:Nat×Nat×Nat->A->Prop),Q (lo,hi,cap) h->(Instr.sliceBounds true len cap (olo.map (Ag V)) (ohi.map (Ag V)) none).gh P h Q:=λQ q=>by
   unfold Instr.sliceBounds;cases ohi with
   | none=>
    simp only at hhi;subst hhi;cases olo with
    | none=>simp only at hlo;subst hlo;exact q
    | some o=>
     obtain ⟨kd,e⟩:=hlo;simp only [Option.map_some,e];refine AI _ _ (BS (AI _ _ (BS ?_)));exact AI _ _ (EC O O (by simp only [Int.toNat_natCast];exact q))
   | some i=>
    obtain ⟨g,c⟩:=hhi;cases olo with
    | none=>
     simp only at hlo;subst hlo;simp only [Option.map_some,c];refine AI _ _ (BS (AI _ _ (EC O O ?_)));exact q
    | some o=>
     obtain ⟨kd,e⟩:=hlo;simp only [Option.map_some,e,c];refine AI _ _ (BS (AI _ _ (EC O O ?_)));exact AI _ _ (EC O (by simpa using h1) (by simp only [Int.toNat_natCast];exact q))
  refine AI _ _ (f _ ?_);dsimp only;refine AI _ _ (Ht ht (BS ?_));exact k
theorem Jn{xt yt:bX}{x y:Operand}{kd ke:IntKind}{a b r:Int}(hx:Ag V x=.int kd a)(hy:Ag V y=.int ke b)(h0:0<=b)(hr:a.fdiv (2 ^ (min b.toNat kd.bits))=r)(k:bN (putS V dst (.int kd r)) ds h) :
  B9 E ⟨dst,.binOp .shr xt x y yt,ty,pos,af,gd⟩ V ds h bN:=by
 subst hr;unfold B9 execOp;simp only [hx,hy];refine HL (AI _ _ ?_);refine LI rfl ?_;show Sem.gh P (if b<0 then _ else _) h _;rw [bU O];exact k
theorem ok_shl{xt yt:bX}{x y:Operand}{kd ke:IntKind}{a b r:Int}(hx:Ag V x=.int kd a)(hy:Ag V y=.int ke b)(h0:0<=b)(hr:kd.wrap (a*2 ^ (min b.toNat kd.bits))=r)(k:bN (putS V dst (.int kd r)) ds h) :
  B9 E ⟨dst,.binOp .shl xt x y yt,ty,pos,af,gd⟩ V ds h bN:=by
 subst hr;unfold B9 execOp;simp only [hx,hy];refine HL (AI _ _ ?_);refine LI rfl ?_;show Sem.gh P (if b<0 then _ else _) h _;rw [bU O];exact k
theorem ok_and1{xt yt:bX}{x y:Operand}{a:Int}(hx:Ag V x=.int .i64 a)(hy:Ag V y=.int .i64 1)(h0:0<=a)(h1:a<=9223372036854775807)(k:bN (putS V dst (.int .i64 (a%2))) ds h) :
  B9 E ⟨dst,.binOp .and xt x y yt,ty,pos,af,gd⟩ V ds h bN:=HM hx hy (by
 show (pure (Value.int .i64 (IntKind.i64.wrap ((BitVec.ofInt 64 a &&& BitVec.ofInt 64 1).toNat))):Sem bW)=_;obtain ⟨n,rfl⟩:=Int.eq_ofNat_of_zero_le h0
 have:(BitVec.ofInt 64 (n:Int) &&& BitVec.ofInt 64 1).toNat=n%2:=by
  rw [BitVec.toNat_and];have b:(BitVec.ofInt 64 (n:Int)).toNat=n:=by
   rw [BitVec.toNat_ofInt];omega
  have c:(BitVec.ofInt 64 1).toNat=1:=aF
  rw [b,c,Nat.and_one_is_mod]
 rw [this,IntWalk.i64_in _ O];congr 2) k
def bytesOf(s:bY):List Int:=s.data.toList.map λb=>(b.toNat:Int)
theorem Dq(s:bY):(bytesOf s).length=s.size:=by
 unfold bytesOf;rw [List.length_map,Array.length_toList];rfl
def s2bOf(P:Program)(s t:bX):Option bX:=match P.underlying s,P.underlying t with
 | some .string,some (.slice e)=>match P.underlying e with
  | some (.int .u8)=>some e
  | _=>none
 | _,_=>none
theorem ok_convS{s t e:bX}{x:Operand}{a:bY}(hc:s2bOf P s t=some e)(hx:Ag V x=.string a)(hs:a.size<=140737488355328)
  (k:∀v h',h.Le h'->Ai h' v 1 (λi:Int=>#[.int .u8 i]) (bytesOf a)->bN (putS V dst v) ds h'):B9 E ⟨dst,.convert s t x,ty,pos,af,gd⟩ V ds h bN:=by
 unfold B9 execOp;simp only [hx];refine HL ?_;unfold s2bOf at hc;unfold convert;cases g:P.underlying s with
 | none=>rw [g] at hc;cases hc
 | some d=>
 cases j:P.underlying t with
 | none=>rw [g,j] at hc;cases d <;> cases hc
 | some C=>
 rw [g,j] at hc;cases d <;> first | (cases hc;done) | skip
 cases C <;> first | (cases hc;done) | skip
 rename_i D
 simp only at hc;cases l:P.underlying D with
 | none=>rw [l] at hc;cases hc
 | some F=>
 rw [l] at hc;cases F <;> first | (cases hc;done) | skip
 rename_i H
 cases H <;> first | (cases hc;done) | skip
 cases hc;refine AI _ _ (BG g (AI _ _ (BG j ?_)));dsimp only;refine AI _ _ (BG l ?_);dsimp only;unfold Conv.stringToBytes;refine AI _ _ ⟨λm=>(by cases m),λ_ y=>?_⟩;show Sem.gh P _ h _;have c:a.size<=Question.cut (.appendCap a.size 0 e) y:=by
  show a.size<=a.size+_;omega
 generalize Question.cut (.appendCap a.size 0 e) y=n at c ⊢;refine AI _ _ ?_;unfold newRow;refine AI _ _ (λr z=>?_);refine BS ?_;refine AI _ _ ?_;unfold markStringish;refine AI _ _ ⟨true,_,_,_,A.set_same _ _ _ _,?_⟩;refine .inr ⟨aF,_,_,_,A.set_same _ _ _ _,?_⟩;refine BS (BS ?_);have f:(a.data.map λb=>(Value.int .u8 b.toNat)).size=a.size:=by rw [Array.size_map];rfl
 refine k _ _ (λb p o q=>⟨o,?_,.inl rfl⟩) ⟨some ⟨r,0,none⟩,n,by rw [Dq],by rw [Dq];exact c,by rw [Dq];exact hs,λi u=>⟨r,0,rfl,true,_,_,_,A.set_same _ _ _ _,?_,?_⟩⟩
 ·rw [A.set_ne _ _ _ (A.ne_of q z),A.set_ne _ _ _ (A.ne_of q z)];exact q
 ·rw [Dq] at u;rw [Array.size_append,f];omega
 ·rw [Dq] at u;have w:i<a.data.size:=u;apply Array.ext';rw [Array.toList_extract,List.extract_eq_take_drop,Array.toList_append,Nat.zero_add,Nat.mul_one,show i+1-i=1 by omega];have I:i<(a.data.map λb=>(Value.int .u8 b.toNat)).toList.length:=by simpa using w
  rw [List.drop_append_of_le_length O,List.drop_eq_getElem_cons I,List.cons_append,List.take_succ_cons,List.take_zero];simp [bytesOf]
theorem Uu{t:bX}{x ix:Operand}{s:bY}{kd:IntKind}{i:Int}(ht:R3 P t=true)(hx:Ag V x=.string s)(hi:Ag V ix=.int kd i)(h0:0<=i)(h1:i<s.size)(k:bN (putS V dst (.int .u8 ((s[i.toNat]' O).toNat:Int))) ds h) :
  B9 E ⟨dst,.index t x ix,ty,pos,af,gd⟩ V ds h bN:=by
 unfold B9 execOp;simp only [hx,hi];refine HL ?_;unfold R3 at ht;unfold Instr.index;cases a:P.underlying t with
 | none=>rw [a] at ht;cases ht
 | some d=>
  rw [a] at ht;refine AI _ _ (BS ?_);refine AI _ _ (BG a ?_);cases d <;> first | (cases ht;done) | skip
  dsimp only;rw [bV h0]
  have:s[i.toNat]? =some (s[i.toNat]' O):=by
   rw [getElem?_pos]
  rw [this];exact k
theorem gh_part{t:bX}{a:Bool}{n off:Nat}{cs:Array bW}{v:bW}{h:A}{Q:bW->A->Prop}(ht:DN P t=some (a,n))(hv:(if a then some (.agg (cs.extract off (off+n))) else cs[off]?)=some v)(q:Q v h):(part t cs off).gh P h Q:=by
 unfold part;refine AI _ _ (Rx ht ?_);cases a with
 | true=>
  simp only [if_true,Option.some.injEq] at hv ⊢;subst hv;exact AI _ _ (FL ht (BS q))
 | false=>
  simp only [Bool.false_eq_true,if_false] at hv ⊢;rw [hv];exact q
def arrOf(P:Program)(t:bX):Option (Nat×Bool×Nat):=match P.underlying t with
 | some (.array m e)=>(DN P e).map λx=>(m,x.1,x.2)
 | _=>none
theorem ok_indexA{t:bX}{x ix:Operand}{cs:Array bW}{kd:IntKind}{i:Int}{m n:Nat}{a:Bool}{v:bW}(ht:arrOf P t=some (m,a,n))(hx:Ag V x=.agg cs)(hi:Ag V ix=.int kd i)(h0:0<=i)(h1:i<m)
  (hv:(if a then some (.agg (cs.extract (i.toNat * n) (i.toNat * n+n))) else cs[i.toNat * n]?)=some v) (k:bN (putS V dst v) ds h):B9 E ⟨dst,.index t x ix,ty,pos,af,gd⟩ V ds h bN:=by
 unfold B9 execOp;simp only [hx,hi];refine HL ?_;unfold arrOf at ht;unfold Instr.index;cases c:P.underlying t with
 | none=>rw [c] at ht;cases ht
 | some d=>
  rw [c] at ht;refine AI _ _ (BS ?_);refine AI _ _ (BG c ?_);cases d <;> first | (cases ht;done) | skip
  rename_i f e
  simp only [Option.map_eq_some_iff,Prod.mk.injEq] at ht;obtain ⟨g,b,rfl,rfl,rfl⟩:=ht;dsimp only;rw [bV ⟨h0,h1⟩];refine AI _ _ (FL b ?_);exact gh_part b hv k
end
end Go.Ns
namespace Go.Ns
open Go.Conc
section
variable {P:Program} {E:Ho P} {V:Nat->bW} {ds:List Deferred} {h:A} {bN:(Nat->bW)->List Deferred->A->Prop}
variable {dst:Option Nat} {ty:bX} {pos:String} {af:Array Edge} {gd:Option (Nat×Bool)}
def I0(P:Program)(t:bX)(cs:Array bW)(off:Nat):Option bW:=match DN P t with
 | some (true,n)=>some (.agg (cs.extract off (off+n)))
 | some (false,_)=>cs[off]?
 | none=>none
def KX:List (Option Bool)->Option Bool
 | []=>some true
 | some b ::l=>match KX l with
  | some c=>some (b && c)
  | none=>none
 | none ::_=>none
def SA(P:Program):Nat->bX->bW->bW->Option Bool
 | 0,_,_,_=>none
 | d+1,t,x,y=>match P.underlying t,x,y with
  | some .bool,.bool a,.bool b=>some (a==b)
  | some (.int _),.int k a,.int k' b=>if k=k' then some (a==b) else none
  | some .string,.string a,.string b=>some (a==b)
  | some (.struct fields),.agg xs,.agg ys=>if P.stoodInHeld t then none else
   KX (fields.toList.map λf=>if f.name≠ "_" then match I0 P f.type xs f.offset,I0 P f.type ys f.offset with
    | some u,some v=>SA P d f.type u v
    | _,_=>none else some true)
  | some (.array len e),.agg xs,.agg ys=>match DN P e with
   | some (_,n)=>KX ((List.range' 0 len).map λi=>match I0 P e xs (i*n),I0 P e ys (i*n) with
    | some u,some v=>SA P d e u v
    | _,_=>none)
   | none=>none
  | _,_,_=>none
theorem I2{t:bX}{cs:Array bW}{off:Nat}{v:bW}{h:A}{Q:bW->A->Prop}(e:I0 P t cs off=some v)(q:Q v h):(part t cs off).gh P h Q:=by
 unfold I0 at e;cases b:DN P t with
 | none=>rw [b] at e;cases e
 | some x=>
  obtain ⟨a,n⟩:=x;rw [b] at e;refine gh_part b ?_ q;cases a <;> simpa using e
theorem YA{α:Type}{h:A}(body:α->Option Bool×Unit->Sem (ForInStep (Option Bool×Unit)))(f:α->Option Bool)
  (hb:∀a r (Q:ForInStep (Option Bool×Unit)->A->Prop),f a=some r->Q (if r then .yield (none,()) else .done (some false,())) h->(body a (none,())).gh P h Q) :
  ∀(l:List α)(r:Bool)(Q:Option Bool×Unit->A->Prop),KX (l.map f)=some r->Q (if r then (none,()) else (some false,())) h->(forIn l ((none,()):Option Bool×Unit) body).gh P h Q:=by
 intro l
 induction l with
 | nil=>intro r Q e q;simp [KX] at e;subst e;exact q
 | cons a l i=>
  intro r Q e q;rw [List.forIn_cons];rw [List.map_cons] at e;cases d:f a with
  | none=>rw [d] at e;cases e
  | some b=>
   rw [d] at e;simp only [KX] at e;cases g:KX (l.map f) with
   | none=>rw [g] at e;cases e
   | some c=>
    rw [g] at e;simp only [Option.some.injEq] at e;refine AI _ _ (hb a b _ d ?_);cases b with
    | true=>
     simp only [Bool.true_and] at e;subst e;exact i c Q g q
    | false=>
     simp only [Bool.false_and] at e;subst e;exact q
theorem KZ:∀(d D:Nat)(t:bX)(x y:bW)(r:Bool)(h:A)(Q:Bool->A->Prop),d<=D->SA P d t x y=some r->Q r h->(Op.equalIn D t x y).gh P h Q:=by
 intro d
 induction d with
 | zero=>intro D t x y r h Q _ e;cases e
 | succ d ih=>
  intro D t x y r h Q hD e q;obtain ⟨D,rfl⟩:∃D',D=D'+1:=⟨D-1,O⟩;unfold SA at e;unfold Op.equalIn;cases hu:P.underlying t with
  | none=>rw [hu] at e;cases e
  | some ty=>
   rw [hu] at e;refine AI _ _ (BG hu ?_);cases ty with
   | bool=>cases x <;> first | (cases e;done) | (cases y <;> first | (cases e;done) | (cases e;exact q))
   | string=>cases x <;> first | (cases e;done) | (cases y <;> first | (cases e;done) | (cases e;exact q))
   | int k=>
    cases x <;> first | (cases e;done) | skip
    cases y <;> first | (cases e;done) | skip
    simp only at e;split at e
    ·rename_i hk
     cases e;show Sem.gh P (if _ then _ else _) h Q;rw [bV hk];exact q
    ·cases e
   | struct fields=>
    cases x <;> first | (cases e;done) | skip
    cases y <;> first | (cases e;done) | skip
    rename_i xs ys
    simp only at e;split at e
    ·cases e
    rename_i hst
    show Sem.gh P (bind program _) h Q;refine AI _ _ ?_;show Sem.gh P (if P.stoodInHeld t then _ else _) h Q;rw [bU hst];rw [<-Array.forIn_toList];refine AI _ _ (YA _ _ (λf b Q' hf q'=>?_) fields.toList r _ e ?_)
    ·by_cases hn:f.name≠ "_"
     ·rw [bV hn] at hf ⊢;cases h1:I0 P f.type xs f.offset with
      | none=>rw [h1] at hf;cases hf
      | some u=>
       cases h2:I0 P f.type ys f.offset with
       | none=>rw [h1,h2] at hf;cases hf
       | some v=>
        rw [h1,h2] at hf;refine AI _ _ (I2 h1 ?_);refine AI _ _ (I2 h2 ?_);refine AI _ _ (ih D f.type u v b h _ O hf ?_);cases b <;> exact q'
     ·rw [bU hn] at hf ⊢;cases hf;exact q'
    ·cases r <;> exact q
   | array len el=>
    cases x <;> first | (cases e;done) | skip
    cases y <;> first | (cases e;done) | skip
    rename_i xs ys
    simp only at e;cases ht:DN P el with
    | none=>rw [ht] at e;cases e
    | some z=>
     obtain ⟨a,n⟩:=z;rw [ht] at e;simp only at e;show Sem.gh P (bind (sizeOf el) _) h Q;refine AI _ _ (FL ht ?_);rw [Std.Legacy.Range.forIn_eq_forIn_range'];rw [show List.range' (Std.Legacy.Range.mk 0 len 1 aF).start (Std.Legacy.Range.mk 0 len 1 aF).size (Std.Legacy.Range.mk 0 len 1 aF).step=List.range' 0 len from by simp [Std.Legacy.Range.size]];refine AI _ _ (YA _ _ (λi b Q' hf q'=>?_) (List.range' 0 len) r _ e ?_)
     ·cases h1:I0 P el xs (i*n) with
      | none=>rw [h1] at hf;cases hf
      | some u=>
       cases h2:I0 P el ys (i*n) with
       | none=>rw [h1,h2] at hf;cases hf
       | some v=>
        rw [h1,h2] at hf;refine AI _ _ (I2 h1 ?_);refine AI _ _ (I2 h2 ?_);refine AI _ _ (ih D el u v b h _ O hf ?_);cases b <;> exact q'
     ·cases r <;> exact q
   | _=>cases x <;> cases y <;> cases e
theorem P1{op:BinOp}{t:bX}{x y:Operand}{xs ys:Array bW}{h:A}{Q:Unit->A->Prop}(hg:P.eqGuardType P.depth t=false)(q:Q () h):(eqGuard op t x y (.agg xs) (.agg ys)).gh P h Q:=by
 have a:∀s,(do
   if !(<-program).eqGuardType (<-program).depth t then return
   if<-Op.eqGuardIn Op.maxDepth t (.agg xs) (.agg ys) then unsupported (.noEntry s):Sem Unit).gh P h Q:=by
  intro s;refine AI _ _ ?_;show Sem.gh P _ h _;refine AI _ _ ?_;show Sem.gh P (if !(P.eqGuardType P.depth t) then _ else _) h _;rw [hg];exact q
 unfold eqGuard;cases op <;> first | exact q | exact a _
theorem ok_eqlA{xt yt:bX}{x y:Operand}{xs ys:Array bW}{r:Bool}(d:Nat)(hd:Nat.ble d 10000=true)(hg:P.eqGuardType P.depth xt=false)(hx:Ag V x=.agg xs)(hy:Ag V y=.agg ys)(he:SA P d xt (.agg xs) (.agg ys)=some r)
  (k:bN (putS V dst (.bool r)) ds h):B9 E ⟨dst,.binOp .eql xt x y yt,ty,pos,af,gd⟩ V ds h bN:=by
 unfold B9 execOp;simp only [hx,hy];refine HL (AI _ _ (P1 hg ?_));show Sem.gh P (do pure (Value.bool (<-Op.equal xt (.agg xs) (.agg ys))):Sem bW) h _;refine AI _ _ ?_;exact KZ d _ _ _ _ r h _ (Nat.le_of_ble_eq_true hd) he k
theorem Ka{xt yt:bX}{x y:Operand}{xs ys:Array bW}{r:Bool}(d:Nat)(hd:Nat.ble d 10000=true)(hg:P.eqGuardType P.depth xt=false)(hx:Ag V x=.agg xs)(hy:Ag V y=.agg ys)(he:SA P d xt (.agg xs) (.agg ys)=some r)
  (k:bN (putS V dst (.bool (!r))) ds h):B9 E ⟨dst,.binOp .neq xt x y yt,ty,pos,af,gd⟩ V ds h bN:=by
 unfold B9 execOp;simp only [hx,hy];refine HL (AI _ _ (P1 hg ?_));show Sem.gh P (do pure (Value.bool (!(<-Op.equal xt (.agg xs) (.agg ys)))):Sem bW) h _;refine AI _ _ ?_;exact KZ d _ _ _ _ r h _ (Nat.le_of_ble_eq_true hd) he k
end
end Go.Ns
namespace Go.Ns
open Go.Conc
section
variable {P:Program} {E:Ho P} {V:Nat->bW} {ds:List Deferred} {h:A} {bN:(Nat->bW)->List Deferred->A->Prop}
variable {dst:Option Nat} {ty:bX} {pos:String} {af:Array Edge} {gd:Option (Nat×Bool)}
def LJ(f:bW->Bool):List MapEntry->Nat->Option (Nat×bW)
 | [],_=>none
 | e ::es,i=>if f e.key then some (i,e.val) else LJ f es (i+1)
theorem YB{d:Nat}{t:bX}{ty:TypeDesc}{k v:bW}{b:Bool}(hu:P.underlying t=some ty)(e:Instr.sameNow ty k v=some b):SA P (d+1) t k v=some b:=by
 unfold SA;rw [hu];unfold Instr.sameNow at e;cases ty <;> first | (cases e;done) | skip
 all_goals (cases k <;> first | (cases e;done) | skip)
 all_goals (cases v <;> first | (cases e;done) | skip)
 all_goals exact e
theorem SB{d:Nat}{kt:bX}{ty:TypeDesc}{k:bW}{f:bW->Bool}{h:A}{Q:Option (Nat×bW)->A->Prop}{es:List MapEntry}(hu:P.underlying kt=some ty)(hd:Nat.ble (d+1) 10000=true)
  (hf:∀e ∈ es,SA P (d+1) kt k e.key=some (f e.key)) (q:Q (LJ f es 0) h):(Instr.findKey kt k es).gh P h Q:=by
 unfold Instr.findKey;refine AI _ _ (BG hu ?_);have g:∀(es:List MapEntry)(i:Nat) r,(∀e ∈ es,SA P (d+1) kt k e.key=some (f e.key))->Instr.findNow ty k es i=some r->r=LJ f es i:=by
  intro es
  induction es with
  | nil=>intro i r _ e;cases e;rfl
  | cons a es j=>
   intro i r hf e;unfold Instr.findNow at e;have o:=hf a aG;cases l:Instr.sameNow ty k a.key with
   | none=>rw [l] at e;cases e
   | some b=>
    rw [l] at e
    have:=YB (d:=d) hu l
    rw [o] at this;cases this;unfold LJ;cases c:f a.key with
    | true=>rw [c] at e;cases e;rfl
    | false=>rw [c] at e;exact j (i+1) r (λm n=>hf m (by simp [n])) e
 have asking:∀(es:List MapEntry)(i:Nat),(∀e ∈ es,SA P (d+1) kt k e.key=some (f e.key))->Q (LJ f es i) h->(Instr.findAsking kt k es i).gh P h Q:=by
  intro es
  induction es with
  | nil=>intro i _ q;exact q
  | cons a es j=>
   intro i hf q;unfold Instr.findAsking;refine AI _ _ (KZ (d+1) _ _ _ _ _ h _ (Nat.le_of_ble_eq_true hd) (hf a aG) ?_);unfold LJ at q;cases c:f a.key with
   | true=>rw [c] at q;exact q
   | false=>rw [c] at q;exact j (i+1) (λm n=>hf m (by simp [n])) q
 cases p:Instr.findNow ty k es 0 with
 | none=>exact asking es 0 hf q
 | some r=>rw [g es 0 r hf p];exact q
def ckP(P:Program):Nat->bX->bW->Bool
 | 0,_,_=>false
 | d+1,t,v=>match P.underlying t,v with
  | some (.interface _),_=>false
  | some (.array len e),.agg cs=>match DN P e with
   | some (_,n)=>(List.range' 0 len).all λi=>match I0 P e cs (i*n) with
    | some u=>ckP P d e u
    | none=>false
   | none=>false
  | some (.array _ _),_=>false
  | some (.struct fields),.agg cs=>fields.toList.all λf=>if f.name≠ "_" then match I0 P f.type cs f.offset with
   | some u=>ckP P d f.type u
   | none=>false else true
  | some (.struct _),_=>false
  | some _,_=>true
  | none,_=>false
theorem gh_forU{α:Type}{h:A}(body:α->Unit->Sem (ForInStep Unit)):∀(l:List α)(Q:Unit->A->Prop),(∀a ∈ l,∀(Q:ForInStep Unit->A->Prop),Q (.yield ()) h->(body a ()).gh P h Q)->Q () h->(forIn l () body).gh P h Q:=by
 intro l
 induction l with
 | nil=>intro Q _ q;exact q
 | cons a l e=>
  intro Q d q;rw [List.forIn_cons];refine AI _ _ (d a aG _ ?_);exact e Q (λb c=>d b (by simp [c])) q
theorem P3:∀(d D:Nat)(emp:Bool)(t:bX)(v:bW)(h:A)(Q:Unit->A->Prop),d<=D->ckP P d t v=true->Q () h->(Instr.checkKey emp D t v).gh P h Q:=by
 intro d
 induction d with
 | zero=>intro D emp t v h Q _ e;cases e
 | succ d ih=>
  intro D emp t v h Q hD e q;obtain ⟨D,rfl⟩:∃D',D=D'+1:=⟨D-1,O⟩;unfold ckP at e;unfold Instr.checkKey;cases hu:P.underlying t with
  | none=>rw [hu] at e;cases e
  | some ty=>
   rw [hu] at e;refine AI _ _ (BG hu ?_);cases ty with
   | struct fields=>
    cases v <;> first | (cases e;done) | skip
    rename_i cs
    simp only [List.all_eq_true] at e;dsimp only;rw [<-Array.forIn_toList];refine AI _ _ (gh_forU _ _ _ (λf hf Q' q'=>?_) (BS q))
    have:=e f hf
    by_cases hn:f.name≠ "_"
    ·rw [bV hn] at this;rw [bV hn];cases h1:I0 P f.type cs f.offset with
     | none=>rw [h1] at this;cases this
     | some u=>
      rw [h1] at this;refine AI _ _ (I2 h1 ?_);exact AI _ _ (ih D emp f.type u h _ O this q')
    ·rw [bU hn];exact q'
   | interface _=>cases e
   | array len el=>
    cases v <;> first | (cases e;done) | skip
    rename_i cs
    simp only at e;cases ht:DN P el with
    | none=>rw [ht] at e;cases e
    | some g=>
     rw [ht] at e;obtain ⟨g,n⟩:=g;simp only [List.all_eq_true] at e;dsimp only;rw [Std.Legacy.Range.forIn_eq_forIn_range'];rw [show List.range' (Std.Legacy.Range.mk 0 len 1 aF).start (Std.Legacy.Range.mk 0 len 1 aF).size (Std.Legacy.Range.mk 0 len 1 aF).step=List.range' 0 len from by simp [Std.Legacy.Range.size]];refine AI _ _ (gh_forU _ _ _ (λi hi Q' q'=>?_) (BS q))
     have:=e i hi
     cases h1:I0 P el cs (i*n) with
     | none=>rw [h1] at this;cases this
     | some u=>
      rw [h1] at this;refine AI _ _ (FL ht ?_);refine AI _ _ (I2 h1 ?_);exact AI _ _ (ih D emp el u h _ O this q')
   | _=>cases v <;> exact q
section
variable {κ ν:Type} [DecidableEq κ]
def MapAt(h:A)(r:Nat)(p:Bool)(ek:κ->bW)(ev:ν->bW)(M:κ->Option ν):Prop:=
 ∃es clk,h r=some (p,.map es clk)/\∃l:List (κ×ν),es.toList.map (λe=>(e.key,e.val))=l.map (λx=>(ek x.1,ev x.2))/\∀a,M a=l.lookup a
abbrev DZ(h:A)(r:Nat)(ek:κ->bW)(ev:ν->bW)(M:κ->Option ν):Prop:=MapAt h r true ek ev M
theorem NA{ek:κ->bW}{ev:ν->bW}{f:bW->Bool}{a:κ}(hf:∀b,f (ek b)=decide (a=b)):∀(es:List MapEntry)(l:List (κ×ν))(i:Nat),es.map (λe=>(e.key,e.val))=l.map (λx=>(ek x.1,ev x.2))->
  (LJ f es i).map (·.2)=(l.lookup a).map ev/\(∀j v,LJ f es i=some (j,v)->i<=j/\j<i+es.length/\(∀e,es[j-i]? =some e->e.key=ek a)/\
   ∀(x:ν),(es.modify (j-i) λe=>{ e with key:=ek a,val:=ev x }).map (λe=>(e.key,e.val))=(l.set (j-i) (a,x)).map (λy=>(ek y.1,ev y.2))/\∀b,(l.set (j-i) (a,x)).lookup b=if b=a then some x else l.lookup b):=by
 intro es
 induction es with
 | nil=>
  intro l i e;cases l with
  | nil=>exact ⟨rfl,λj v g=>by cases g⟩
  | cons x l=>simp at e
 | cons H es w=>
  intro l i e;cases l with
  | nil=>simp at e
  | cons x l=>
   obtain ⟨k,I⟩:=x;simp only [List.map_cons,List.cons.injEq,Prod.mk.injEq] at e;obtain ⟨⟨n,s⟩,t⟩:=e;obtain ⟨o,p⟩:=w l (i+1) t;unfold LJ;by_cases c:a=k
   ·subst c;rw [n,hf a];simp only [decide_true,if_true];refine ⟨by simp [s],λj v g=>?_⟩;cases g;refine ⟨Nat.le_refl _,aG,?_,λy=>?_⟩
    ·intro e m;simp at m;subst m;exact n
    ·rw [Nat.sub_self];refine ⟨by simp [t],λb=>?_⟩;simp only [List.set_cons_zero,List.lookup_cons];by_cases d:b=a
     ·subst d;simp
     ·have:(b==a)=false:=by simpa using d
      simp [d,this]
   ·rw [n,hf k];simp only [c,decide_false,Bool.false_eq_true,if_false];have r:(a==k)=false:=by simpa using c
    refine ⟨by rw [o,List.lookup_cons,r],λj v g=>?_⟩;obtain ⟨K,M,z,C⟩:=p j v g;have u:j-i=(j-(i+1))+1:=O
    refine ⟨O,by simp;omega,?_,λy=>?_⟩
    ·intro e m;rw [u] at m;exact z e (by simpa using m)
    ·rw [u];obtain ⟨D,F⟩:=C y;refine ⟨by simp [List.modify_succ_cons,n,s,D],λb=>?_⟩;simp only [List.set_cons_succ,List.lookup_cons];rw [F b];by_cases d:b=k
     ·subst d
      have:¬b=a:=λq=>c q.symm
      simp [this]
     ·have:(b==k)=false:=by simpa using d
      simp [this]
theorem SC{ek:κ->bW}{f:bW->Bool}{ev:ν->bW}{a:κ}(hf:∀b,f (ek b)=decide (a=b)){es:List MapEntry}{l:List (κ×ν)}(e:es.map (λe=>(e.key,e.val))=l.map (λx=>(ek x.1,ev x.2)))(hn:LJ f es 0=none):l.lookup a=none:=by
 have:=(NA hf es l 0 e).1
 rw [hn] at this;cases c:l.lookup a with
 | none=>rfl
 | some v=>rw [c] at this;cases this
def N1(P:Program)(t:bX):Option (bX×bX):=match P.underlying t with
 | some (.map k v)=>if (P.underlying k).isSome then some (k,v) else none
 | _=>none
theorem NB{t:bX}(k:∀r h',h r=none->h.Le h'->h' r=some (true,.map #[] 0)->(∀b,b≠r->h' b=h b)->bN (putS V dst (.map (some r))) ds h'):B9 E ⟨dst,.makeMap t none,ty,pos,af,gd⟩ V ds h bN:=by
 unfold B9 execOp;simp only [];refine HL ?_;unfold Instr.makeMap;refine AI _ _ (λr a=>?_);exact k r _ a (A.Le.new a _ _) (A.set_same _ _ _ _) λb c=>A.set_ne _ _ _ c
theorem DZ.empty{h:A}{r:Nat}{ek:κ->bW}{ev:ν->bW}(x:h r=some (true,.map #[] 0)):DZ h r ek ev (λ_=>none):=⟨_,_,x,[],rfl,λ_=>rfl⟩
theorem Uv{t kt vt:bX}{x ix:Operand}{ok pm:Bool}{r d:Nat}{ek:κ->bW}{ev:ν->bW}{M:κ->Option ν}{a:κ}{z:bW}(ht:N1 P t=some (kt,vt))(hx:Ag V x=.map (some r))(hk:Ag V ix=ek a)(hm:MapAt h r pm ek ev M)(hd:Nat.ble (d+1) 10000=true)
  (hc:ckP P (d+1) kt (ek a)=true) (he:∀b,SA P (d+1) kt (ek a) (ek b)=some (decide (a=b))) (hz:(P.info? vt).bind (·.zero)=some z)
  (k:bN (putS V dst (if ok then .tuple #[((M a).map ev).getD z,.bool (M a).isSome] else ((M a).map ev).getD z)) ds h):B9 E ⟨dst,.lookup t x ix ok,ty,pos,af,gd⟩ V ds h bN:=by
 obtain ⟨q,I,K,l,s,H⟩:=hm;unfold N1 at ht;cases u:P.underlying t with
 | none=>rw [u] at ht;cases ht
 | some N=>
 rw [u] at ht;cases N <;> first | (cases ht;done) | skip
 rename_i n w
 simp only at ht;split at ht
 rotate_left
 ·cases ht
 rename_i hsome
 simp only [Option.some.injEq,Prod.mk.injEq] at ht;obtain ⟨rfl,rfl⟩:=ht;obtain ⟨Q,o⟩:=Option.isSome_iff_exists.1 hsome;let f:bW->Bool:=λv=>(SA P (d+1) n (ek a) v).getD false;have C:∀b,f (ek b)=decide (a=b):=λb=>by simp [f,he b]
 have c:∀e ∈ q.toList,∃b v,e.key=ek b/\e.val=ev v:=λe c=>by
  have:(e.key,e.val) ∈ l.map (λx=>(ek x.1,ev x.2)):=by rw [<-s];exact List.mem_map.2 ⟨e,c,rfl⟩
  obtain ⟨x,_,m⟩:=List.mem_map.1 this;simp only [Prod.mk.injEq] at m;exact ⟨x.1,x.2,m.1.symm,m.2.symm⟩
 have D:∀e ∈ q.toList,SA P (d+1) n (ek a) e.key=some (f e.key):=λe hm=>by
  obtain ⟨b,v,R,_⟩:=c e hm;rw [R,C,he]
 unfold B9 execOp;simp only [hx,hk];refine HL ?_;unfold Instr.lookup;refine AI _ _ (BG u ?_);dsimp only;refine AI _ _ ⟨pm,_,K,rfl,rfl,?_⟩;refine AI _ _ (BS ?_);refine AI _ _ (P3 (d+1) 10000 _ _ _ h _ (Nat.le_of_ble_eq_true hd) hc ?_);refine AI _ _ (SB (d:=d) (f:=f) o hd D ?_);have g:=(NA C q.toList l 0 s).1;cases p:LJ f q.toList 0 with
 | none=>
  have:=SC C s p
  rw [H,this] at k;dsimp only;refine AI _ _ (AI _ _ ?_);cases F:P.info? w with
  | none=>rw [F] at hz;cases hz
  | some i=>
   rw [F] at hz;simp only [Option.bind_some] at hz;refine DU F ?_;rw [hz];refine BS ?_;cases ok <;> exact k
 | some y=>
  obtain ⟨j,v⟩:=y;rw [p] at g;rw [H,<-g] at k;dsimp only;refine AI _ _ (BS ?_);have W:(l.lookup a).isSome=true:=by
   cases X:l.lookup a with
   | none=>rw [X] at g;cases g
   | some _=>rfl
  rw [W] at k;cases ok <;> exact k
theorem DZ.le_other{h h':A}{r:Nat}{ek:κ->bW}{ev:ν->bW}{M:κ->Option ν}(x:DZ h r ek ev M)(e:h' r=h r):DZ h' r ek ev M:=by
 obtain ⟨b,a,c,y⟩:=x;exact ⟨b,a,e.trans c,y⟩
theorem N2{t kt vt:bX}{om ok ox:Operand}{r d:Nat}{ek:κ->bW}{ev:ν->bW}{M:κ->Option ν}{a:κ}{v:ν}(ht:N1 P t=some (kt,vt))(hm':Ag V om=.map (some r))(hk:Ag V ok=ek a)(hv:Ag V ox=ev v)(hm:DZ h r ek ev M)(hd:Nat.ble (d+1) 10000=true)
  (hc:ckP P (d+1) kt (ek a)=true) (he:∀b,SA P (d+1) kt (ek a) (ek b)=some (decide (a=b))) (hs:Instr.sameBits 10000 (ek a) (ek a)=true)
  (k:∀h',DZ h' r ek ev (λb=>if b=a then some v else M b)->(∀b,b≠r->h' b=h b)->bN (putS V dst undef) ds h'):B9 E ⟨dst,.mapUpdate t om ok ox,ty,pos,af,gd⟩ V ds h bN:=by
 obtain ⟨c,R,z,l,w,I⟩:=hm;unfold N1 at ht;cases C:P.underlying t with
 | none=>rw [C] at ht;cases ht
 | some W=>
 rw [C] at ht;cases W <;> first | (cases ht;done) | skip
 rename_i m X
 simp only at ht;split at ht
 rotate_left
 ·cases ht
 rename_i hsome
 simp only [Option.some.injEq,Prod.mk.injEq] at ht;obtain ⟨rfl,rfl⟩:=ht;obtain ⟨Y,n⟩:=Option.isSome_iff_exists.1 hsome;let f:bW->Bool:=λv=>(SA P (d+1) m (ek a) v).getD false;have D:∀b,f (ek b)=decide (a=b):=λb=>by simp [f,he b]
 have F:∀e ∈ c.toList,SA P (d+1) m (ek a) e.key=some (f e.key):=λe o=>by
  have:(e.key,e.val) ∈ l.map (λx=>(ek x.1,ev x.2)):=by rw [<-w];exact List.mem_map.2 ⟨e,o,rfl⟩
  obtain ⟨x,_,p⟩:=List.mem_map.1 this;simp only [Prod.mk.injEq] at p;rw [<-p.1,D,he]
 unfold B9 execOp;simp only [hm',hk,hv];refine gh_u ?_;unfold Instr.mapUpdate;refine AI _ _ (BG C ?_);dsimp only;refine AI _ _ ⟨true,_,z,rfl,rfl,?_⟩;refine AI _ _ (P3 (d+1) 10000 _ _ _ h _ (Nat.le_of_ble_eq_true hd) hc ?_);refine AI _ _ (SB (d:=d) (f:=f) n hd F ?_);obtain ⟨s1,s2⟩:=NA D c.toList l 0 w;cases q:LJ f c.toList 0 with
 | none=>
  have H:=SC D w q;dsimp only;refine ⟨_,z,rfl,rfl,rfl,?_⟩;refine BS (k _ ⟨_,_,A.set_same _ _ _ _,l++[(a,v)],by simp [w],λb=>?_⟩ (λb g=>A.set_ne _ _ _ g));show (if b=a then some v else M b)=_;by_cases i:b=a
  ·subst i;simp only [if_true];rw [List.lookup_append,H];simp
  ·rw [bU i,I,List.lookup_append]
   have:(b==a)=false:=by simpa using i
   simp [List.lookup,this]
 | some y=>
  obtain ⟨j,u⟩:=y;obtain ⟨g1,g2,K,g4⟩:=s2 j u q;obtain ⟨N,Q⟩:=g4 v;rw [Nat.sub_zero] at K N Q;have hj:j<c.size:=by simpa using g2
  have s:((c[j]?).map (·.key)).getD (ek a)=ek a:=by
   have:c[j]? =c.toList[j]? :=aG
   rw [this];cases hq:c.toList[j]? with
   | none=>rfl
   | some e=>simp [K e hq]
  dsimp only;rw [s];refine AI _ _ ?_;unfold Instr.keyThatStays;rw [bV hs];refine BS ?_;refine ⟨_,z,rfl,rfl,rfl,?_⟩;refine BS (k _ ⟨_,_,A.set_same _ _ _ _,l.set j (a,v),?_,λb=>?_⟩ (λb g=>A.set_ne _ _ _ g))
  ·rw [Array.toList_modify];exact N
  ·show (if b=a then some v else M b)=_;rw [Q b,I b]
end
end
end Go.Ns
