/- Rules and walks, part 1 of 6. No conditions. -/
import Derived.Conc.Beside
import Derived.Conc.CrowdBase
import Derived.Conc.CrowdComm
import Derived.Conc.Own2
import Derived.Conc.Own3
import Derived.Conc.RecvAny
import Derived.IntWalk
import Derived.KernelRfl
import Derived.Orders
import Derived.StepT
set_option linter.unusedVariables false
set_option linter.unusedSimpArgs false
set_option linter.unnecessarySimpa false
set_option linter.unusedSectionVars false
namespace Go.Ns
open Go.Conc
theorem aA{p:Prop}(h:p:=by omega):p:=h
theorem aB{p:Prop}(h:p:=by kernel_rfl):p:=h
theorem aC{p:Prop}(h:p:=by decide):p:=h
theorem aD{p:Prop}(h:p:=by simp):p:=h
theorem aE{p:Prop}(h:p:=by simp_all):p:=h
theorem aF{p:Prop}(h:p:=by simp <;> omega):p:=h
theorem aG{p:Prop}(h:p:=by intro x hx;rfl):p:=h
theorem aH{p:Prop}(h:p:=by intro y hy;rfl):p:=h
theorem aI{p:Prop}(h:p:=by (intro j hj;omega)):p:=h
theorem aJ{p:Prop}(h:p:=by simp only [List.length_singleton,List.length_nil];omega):p:=h
theorem aK{p:Prop}(h:p:=by (try simp only [Array.size_setIfInBounds]);omega):p:=h
abbrev GH:=Nat->Option (Bool×Obj)
def GH.set(h:GH)(r:Nat)(p:Bool)(o:Obj):GH:=λb=>if b=r then some (p,o) else h b
theorem GH.set_same(h:GH)(r:Nat)(p:Bool)(o:Obj):h.set r p o r=some (p,o):=by simp [GH.set]
theorem GH.set_ne(h:GH){r b:Nat}(p:Bool)(o:Obj)(hb:b≠r):h.set r p o b=h b:=by simp [GH.set,hb]
def KE:Obj->Bool:=λ_=>false
def GH.Le(h h':GH):Prop:=∀b p o,h b=some (p,o)->∃o',h' b=some (p,o')/\(o'=o\/(KE o=true/\KE o'=true))
theorem GH.Le.keep{h h':GH}(l:h.Le h'){b:Nat}{p:Bool}{o:Obj}(hb:h b=some (p,o))(ho:KE o=false):h' b=some (p,o):=by
 obtain ⟨o',h1,rfl | ⟨h2,_⟩⟩:=l _ _ _ hb
 ·exact h1
 ·rw [ho] at h2;cases h2
theorem GH.Le.refl(h:GH):h.Le h:=λ_ _ o x=>⟨o,x,.inl rfl⟩
theorem GH.Le.trans{a b c:GH}(h:a.Le b)(h':b.Le c):a.Le c:=λ_ _ _ x=>by
 obtain ⟨o1,h1,h2⟩:=h _ _ _ x;obtain ⟨o2,h3,h4⟩:=h' _ _ _ h1;refine ⟨o2,h3,?_⟩;rcases h2 with rfl | h2
 ·exact h4
 ·rcases h4 with rfl | h4
  ·exact .inr h2
  ·exact .inr ⟨h2.1,h4.2⟩
theorem GH.ne_of{h:GH}{b r:Nat}{p:Bool}{o:Obj}(hb:h b=some (p,o))(hr:h r=none):b≠r:=by
 intro e;subst e;rw [hr] at hb;cases hb
theorem GH.Le.new{h:GH}{r:Nat}(hr:h r=none)(p:Bool)(o:Obj):h.Le (h.set r p o):=λb q x hb=>by
 rw [GH.set_ne h p o (GH.ne_of hb hr)];exact ⟨x,hb,.inl rfl⟩
def EO(w:World)(h:GH):Prop:=∀b p o,h b=some (p,o)->w.heap[b]? =some o
theorem EO.lt{w:World}{h:GH}(f:EO w h){b:Nat}{p:Bool}{o:Obj}(hb:h b=some (p,o)):b<w.heap.size:=by
 have:=f b p o hb
 rcases Nat.lt_or_ge b w.heap.size with x | x
 ·exact x
 ·rw [Array.getElem?_eq_none x] at this;cases this
theorem EO.fresh{w:World}{h:GH}(f:EO w h):h w.heap.size=none:=by
 cases hb:h w.heap.size with
 | none=>rfl
 | some x=>exact absurd (f.lt (p:=x.1) (o:=x.2) hb) (Nat.lt_irrefl _)
def Ti(h:GH)(n:Nat)(b:Nat)(wr:Bool):Prop:=(∃p o,h b=some (p,o)/\o.isChan=false/\(wr=true->p=true))\/n<=b
def C5:Loc->Option Nat
 | .cell a=>some a.block
 | .obj r=>some r
 | _=>none
def Uv(h:GH)(n:Nat)(e:Event):Prop:=
 e.sync=false/\match e.loc with
  | .cell a=>Ti h n a.block e.write
  | .obj r=>Ti h n r e.write
  | _=>False
def Zt(h:GH)(n:Nat)(e:Event):Prop:=Uv h n e\/e=⟨.mark .noRoom,false,true⟩
structure Bl(h:GH)(w:World)(es:Array Event)(h':GH)(w':World):Prop where
 fits0:EO w h
 fits:EO w' h'
 frame:∀b,b<w.heap.size->(∀o,h b≠some (true,o))->w'.heap[b]? =w.heap[b]?
 size:w.heap.size<=w'.heap.size
 os:w'.os=w.os
 out:w'.output=w.output
 own:∀b o,h' b=some (true,o)->(∃o',h b=some (true,o'))\/w.heap.size<=b
 ro:∀b o,h' b=some (false,o)->h b=some (false,o)
 keep:∀b p o o',h b=some (true,o')->o'.isChan=true->h' b=some (p,o)->o=o'
 chn:∀b p o,h' b=some (p,o)->o.isChan=true->h b=some (p,o)\/(w.heap.size<=b/\∀e ∈ es,C5 e.loc≠some b)
 evb:∀e ∈ es,∀b,C5 e.loc=some b->b<w'.heap.size
 evs:∀e ∈ es,Zt h w.heap.size e
theorem Bl.refl{h:GH}{w:World}(f:EO w h):Bl h w #[] h w where
 fits0:=f
 fits:=f
 frame:=λ_ _ _=>rfl
 size:=Nat.le_refl _
 os:=rfl
 out:=rfl
 own:=λ_ o x=>.inl ⟨o,x⟩
 ro:=λ_ _ x=>x
 keep:=λ_ _ _ _ x _ y=>by rw [x] at y;cases y;rfl
 chn:=λ_ _ _ x _=>.inl x
 evb:=λe he=>by simp at he
 evs:=λe he=>by simp at he
theorem Bl.look{h:GH}{w:World}(f:EO w h){es:Array Event}(hb:∀e ∈ es,∀b,C5 e.loc=some b->b<w.heap.size)(hes:∀e ∈ es,Zt h w.heap.size e):Bl h w es h w where
 fits0:=f
 fits:=f
 frame:=λ_ _ _=>rfl
 size:=Nat.le_refl _
 os:=rfl
 out:=rfl
 own:=λ_ o x=>.inl ⟨o,x⟩
 ro:=λ_ _ x=>x
 keep:=λ_ _ _ _ x _ y=>by rw [x] at y;cases y;rfl
 chn:=λ_ _ _ x _=>.inl x
 evb:=hb
 evs:=hes
theorem Bl.drew{h:GH}{w:World}(f:EO w h)(d:Nat):Bl h w #[] h { w with drawn:=d } where
 fits0:=f
 fits:=f
 frame:=λ_ _ _=>rfl
 size:=Nat.le_refl _
 os:=rfl
 out:=rfl
 own:=λ_ o x=>.inl ⟨o,x⟩
 ro:=λ_ _ x=>x
 keep:=λ_ _ _ _ x _ y=>by rw [x] at y;cases y;rfl
 chn:=λ_ _ _ x _=>.inl x
 evb:=λe he=>by simp at he
 evs:=λe he=>by simp at he
theorem Ti.mono{h h':GH}{w:World}{n:Nat}{b:Nat}{wr:Bool}(hn:w.heap.size<=n)
  (own:∀b o,h' b=some (true,o)->(∃o',h b=some (true,o'))\/w.heap.size<=b) (ro:∀b o,h' b=some (false,o)->h b=some (false,o))
  (keep:∀b p o o',h b=some (true,o')->o'.isChan=true->h' b=some (p,o)->o=o') (hb:Ti h' n b wr):Ti h w.heap.size b wr:=by
 rcases hb with ⟨p,o,x,c,y⟩ | x
 ·cases p with
  | true=>
   rcases own b o x with ⟨o',z⟩ | z
   ·refine .inl ⟨true,o',z,?_,λ_=>rfl⟩;cases hc:o'.isChan with
    | false=>rfl
    | true=>have:=keep b _ _ o' z hc x;subst this;rw [hc] at c;cases c
   ·exact .inr z
  | false=>exact .inl ⟨false,o,ro b o x,c,y⟩
 ·exact .inr (Nat.le_trans hn x)
theorem Zt.mono{h h':GH}{w:World}{n:Nat}{e:Event}(hn:w.heap.size<=n)
  (own:∀b o,h' b=some (true,o)->(∃o',h b=some (true,o'))\/w.heap.size<=b) (ro:∀b o,h' b=some (false,o)->h b=some (false,o))
  (keep:∀b p o o',h b=some (true,o')->o'.isChan=true->h' b=some (p,o)->o=o') (he:Zt h' n e):Zt h w.heap.size e:=by
 rcases he with he | he
 case inr=>exact .inr he
 left;obtain ⟨hs,he⟩:=he;refine ⟨hs,?_⟩;cases hl:e.loc with
 | cell a=>rw [hl] at he;exact Ti.mono hn own ro keep he
 | obj r=>rw [hl] at he;exact Ti.mono hn own ro keep he
 | output=>rw [hl] at he;exact he
 | goroutines=>rw [hl] at he;exact he
 | mark m=>rw [hl] at he;exact he
theorem Bl.trans{h h₁ h₂:GH}{w w₁ w₂:World}{es es':Array Event}(a:Bl h w es h₁ w₁)(b:Bl h₁ w₁ es' h₂ w₂):Bl h w (es++es') h₂ w₂ where
 fits0:=a.fits0
 fits:=b.fits
 frame:=λr hr hn=>by
  have h1:∀o,h₁ r≠some (true,o):=λo x=>by
   rcases a.own r o x with ⟨o',y⟩ | y
   ·exact hn o' y
   ·exact absurd hr (Nat.not_lt.2 y)
  rw [b.frame r (Nat.lt_of_lt_of_le hr a.size) h1,a.frame r hr hn]
 size:=Nat.le_trans a.size b.size
 os:=b.os.trans a.os
 out:=b.out.trans a.out
 own:=λr o x=>by
  rcases b.own r o x with ⟨o',y⟩ | y
  ·exact a.own r o' y
  ·exact .inr (Nat.le_trans a.size y)
 ro:=λr o x=>a.ro r o (b.ro r o x)
 keep:=λr p o o' x y z=>by
  have h1:∃q x1,h₁ r=some (q,x1):=by
   cases p with
   | true=>
    rcases b.own r o z with ⟨o1,y1⟩ | y1
    ·exact ⟨_,_,y1⟩
    ·exact absurd (Nat.le_trans a.size y1) (Nat.not_le.2 (a.fits0.lt x))
   | false=>exact ⟨_,_,b.ro r o z⟩
  obtain ⟨q,x1,h1⟩:=h1;have e1:=a.keep r q x1 o' x y h1;subst e1;cases q with
  | true=>exact b.keep r p o x1 h1 y z
  | false=>have:=a.ro r x1 h1;rw [x] at this;cases this
 chn:=λr p o x y=>by
  rcases b.chn r p o x y with z | ⟨z1,z2⟩
  ·rcases a.chn r p o z y with u | ⟨u1,u2⟩
   ·exact .inl u
   ·refine .inr ⟨u1,λe he=>?_⟩;rcases Array.mem_append.1 he with v | v
    ·exact u2 e v
    ·intro hl;have ev:=b.evs e v;have hop:∃wr,Ti h₁ w₁.heap.size r wr:=by
      rcases ev with ev | ev
      case inr=>rw [ev] at hl;cases hl
      unfold C5 at hl;have ev2:=ev.2;cases hq:e.loc with
      | cell ad=>rw [hq] at hl ev2;cases hl;exact ⟨_,ev2⟩
      | obj r'=>rw [hq] at hl ev2;cases hl;exact ⟨_,ev2⟩
      | output=>rw [hq] at hl;cases hl
      | goroutines=>rw [hq] at hl;cases hl
      | mark m=>rw [hq] at hl;cases hl
     obtain ⟨wr,⟨p',o',h1,h2,_⟩ | hlt⟩:=hop
     ·rw [z] at h1;cases h1;rw [y] at h2;cases h2
     ·exact absurd (a.fits.lt z) (Nat.not_lt.2 hlt)
  ·refine .inr ⟨Nat.le_trans a.size z1,λe he=>?_⟩;rcases Array.mem_append.1 he with v | v
   ·exact λhl=>absurd (a.evb e v r hl) (Nat.not_lt.2 z1)
   ·exact z2 e v
 evb:=λe he r hl=>by
  rcases Array.mem_append.1 he with x | x
  ·exact Nat.lt_of_lt_of_le (a.evb e x r hl) b.size
  ·exact b.evb e x r hl
 evs:=λe he=>by
  rcases Array.mem_append.1 he with x | x
  ·exact a.evs e x
  ·exact (b.evs e x).mono a.size a.own a.ro a.keep
theorem Bl.new{h:GH}{w:World}(f:EO w h)(o:Obj):Bl h w #[] (h.set w.heap.size true o) { w with heap:=w.heap.push o } where
 fits0:=f
 fits:=λb p x hb=>by
  by_cases e:b=w.heap.size
  ·subst e;rw [GH.set_same] at hb;cases hb;simp
  ·rw [GH.set_ne h true o e] at hb
   have:=f.lt hb
   simp only [Array.getElem?_push];rw [if_neg e];exact f b p x hb
 frame:=λb hb _=>by
  simp only [Array.getElem?_push];rw [if_neg (Nat.ne_of_lt hb)]
 size:=aD
 os:=rfl
 out:=rfl
 own:=λb x hb=>by
  by_cases e:b=w.heap.size
  ·exact .inr (Nat.le_of_eq e.symm)
  ·rw [GH.set_ne h true o e] at hb;exact .inl ⟨x,hb⟩
 ro:=λb x hb=>by
  by_cases e:b=w.heap.size
  ·subst e;rw [GH.set_same] at hb;cases hb
  ·rw [GH.set_ne h true o e] at hb;exact hb
 keep:=λb p x o' hx _ hb=>by
  have e:b≠w.heap.size:=Nat.ne_of_lt (f.lt hx);rw [GH.set_ne h true o e,hx] at hb;cases hb;rfl
 chn:=λb p x hb _=>by
  by_cases e:b=w.heap.size
  ·exact .inr ⟨Nat.le_of_eq e.symm,λe he=>by simp at he⟩
  ·rw [GH.set_ne h true o e] at hb;exact .inl hb
 evb:=λe he=>by simp at he
 evs:=λe he=>by simp at he
theorem Bl.turn{h:GH}{w:World}(f:EO w h){r:Nat}{o o':Obj}(hr:h r=some (true,o))(ho:o.isChan=false)(ho':o'.isChan=false){hp:Array Obj}(hsz:hp.size=w.heap.size)
  (hhere:hp[r]? =some o') (hother:∀b,b≠r->hp[b]? =w.heap[b]?) {es:Array Event} (hb:∀e ∈ es,∀b,C5 e.loc=some b->b<w.heap.size) (hes:∀e ∈ es,Zt h w.heap.size e) :
  Bl h w es (h.set r true o') { w with heap:=hp } where
 fits0:=f
 fits:=λb p x hb=>by
  by_cases e:b=r
  ·subst e;rw [GH.set_same] at hb;cases hb;exact hhere
  ·rw [GH.set_ne h true o' e] at hb;exact (hother b e).trans (f b p x hb)
 frame:=λb _ hn=>hother b (λe=>hn o (e▸hr))
 size:=Nat.le_of_eq hsz.symm
 os:=rfl
 out:=rfl
 own:=λb x hb=>by
  by_cases e:b=r
  ·subst e;exact .inl ⟨o,hr⟩
  ·rw [GH.set_ne h true o' e] at hb;exact .inl ⟨x,hb⟩
 ro:=λb x hb=>by
  by_cases e:b=r
  ·subst e;rw [GH.set_same] at hb;cases hb
  ·rw [GH.set_ne h true o' e] at hb;exact hb
 keep:=λb p x x' hx hc hb=>by
  have e:b≠r:=λe=>by subst e;rw [hr] at hx;cases hx;rw [ho] at hc;cases hc
  rw [GH.set_ne h true o' e,hx] at hb;cases hb;rfl
 chn:=λb p x hb hc=>by
  by_cases e:b=r
  ·subst e;rw [GH.set_same] at hb;cases hb;rw [ho'] at hc;cases hc
  ·rw [GH.set_ne h true o' e] at hb;exact .inl hb
 evb:=λe he b hl=>by rw [hsz];exact hb e he b hl
 evs:=hes
def Obj.isCells:Obj->Bool
 | .cells .. =>true
 | _=>false
def frz(f:Nat×Nat)(o n:Nat):Nat×Nat:=if f.1==f.2 then (o,o+n) else (min f.1 o,max f.2 (o+n))
end Go.Ns
namespace Go
open Go.Conc Go.Ns
def Sem.gh{V:Type}(P:Program):Sem V->GH->(V->GH->Prop)->Prop
 | .pure a,h,Q=>Q a h
 | .load m a k,h,Q=>m=.plain/\a.spot=none/\∃p c t f v,h a.block=some (p,.cells c t f)/\c[a.off]? =some v/\(k v).gh P h Q
 | .store m a v k,h,Q=>m=.plain/\a.spot=none/\v.oneCell'=true/\∃c t f,h a.block=some (true,.cells c t f)/\a.off<c.size/\
   (f.1<=a.off && a.off<f.2)=false/\k.gh P (h.set a.block true (.cells (c.setIfInBounds a.off v) t f)) Q
 | .new o k,h,Q=>∀r,h r=none->(k r).gh P (h.set r true o) Q
 | .shape r k,h,Q=>∃p c t f,h r=some (p,.cells c t f)/\(k (some (t,c.size))).gh P h Q
 | .freeze a n k,h,Q=>(n=0/\k.gh P h Q)\/(n≠0/\∃c t f,h a.block=some (true,.cells c t f)/\k.gh P (h.set a.block true (.cells c t (frz f a.off n))) Q)
 | .frozen a k,h,Q=>∃p c t f,h a.block=some (p,.cells c t f)/\(k (f.1<=a.off && a.off<f.2)).gh P h Q
 | .getObj r k,h,Q=>∃p o,h r=some (p,o)/\Obj.isCells o=false/\o.isChan=false/\(k o).gh P h Q
 | .setObj r o k,h,Q=>∃o',h r=some (true,o')/\Obj.isCells o'=false/\o'.isChan=false/\o.isChan=false/\k.gh P (h.set r true o) Q
 | .choose q k,h,Q=>(q.forced=true->(k 0).gh P h Q)/\(q.forced=false->∀t,(k (q.cut t)).gh P h Q)
 | .program k,h,Q=>(k P).gh P h Q
 | .sys _ _,_,_=>False
 | .mark m k,h,Q=>m=.noRoom/\k.gh P h Q
 | .halt _,_,_=>False
end Go
namespace Go.Ns
open Go.Conc
theorem FS{V:Type}{P:Program}(e:Sem V){Q Q':V->GH->Prop}(hq:∀a h,Q a h->Q' a h):∀h,e.gh P h Q->e.gh P h Q':=by
 induction e with
 | pure a=>intro h x;exact hq _ _ x
 | load m a k ih=>rintro h ⟨x1,x2,p,c,t,f,v,y1,y2,z⟩;exact ⟨x1,x2,p,c,t,f,v,y1,y2,ih v h z⟩
 | store m a v k ih=>rintro h ⟨x1,x2,x3,c,t,f,y1,y2,y3,z⟩;exact ⟨x1,x2,x3,c,t,f,y1,y2,y3,ih _ z⟩
 | new o k ih=>intro h x r hr;exact ih r _ (x r hr)
 | shape r k ih=>rintro h ⟨p,c,t,f,y,z⟩;exact ⟨p,c,t,f,y,ih _ h z⟩
 | freeze a n k ih=>
  rintro h (⟨y,z⟩ | ⟨y,c,t,f,y2,z⟩)
  ·exact .inl ⟨y,ih h z⟩
  ·exact .inr ⟨y,c,t,f,y2,ih _ z⟩
 | frozen a k ih=>rintro h ⟨p,c,t,f,y,z⟩;exact ⟨p,c,t,f,y,ih _ h z⟩
 | getObj r k ih=>rintro h ⟨p,o,y1,y2,y3,z⟩;exact ⟨p,o,y1,y2,y3,ih _ h z⟩
 | setObj r o k ih=>rintro h ⟨o',y1,y2,y2',y3,z⟩;exact ⟨o',y1,y2,y2',y3,ih _ z⟩
 | choose q k ih=>rintro h ⟨y,z⟩;exact ⟨λx=>ih _ h (y x),λx t=>ih _ h (z x t)⟩
 | sys c k ih=>intro h x;exact x
 | program k ih=>intro h x;exact ih _ h x
 | mark m k ih=>rintro h ⟨y,z⟩;exact ⟨y,ih h z⟩
 | halt x=>intro h y;exact y
theorem gh_bind'{V β:Type}{P:Program}(e:Sem V)(f:V->Sem β){Q:β->GH->Prop}:∀h,e.gh P h (λa h'=>(f a).gh P h' Q)->(e.bind f).gh P h Q:=by
 induction e with
 | pure a=>intro h x;exact x
 | load m a k ih=>rintro h ⟨x1,x2,p,c,t,f,v,y1,y2,z⟩;exact ⟨x1,x2,p,c,t,f,v,y1,y2,ih v h z⟩
 | store m a v k ih=>rintro h ⟨x1,x2,x3,c,t,f,y1,y2,y3,z⟩;exact ⟨x1,x2,x3,c,t,f,y1,y2,y3,ih _ z⟩
 | new o k ih=>intro h x r hr;exact ih r _ (x r hr)
 | shape r k ih=>rintro h ⟨p,c,t,f,y,z⟩;exact ⟨p,c,t,f,y,ih _ h z⟩
 | freeze a n k ih=>
  rintro h (⟨y,z⟩ | ⟨y,c,t,f,y2,z⟩)
  ·exact .inl ⟨y,ih h z⟩
  ·exact .inr ⟨y,c,t,f,y2,ih _ z⟩
 | frozen a k ih=>rintro h ⟨p,c,t,f,y,z⟩;exact ⟨p,c,t,f,y,ih _ h z⟩
 | getObj r k ih=>rintro h ⟨p,o,y1,y2,y3,z⟩;exact ⟨p,o,y1,y2,y3,ih _ h z⟩
 | setObj r o k ih=>rintro h ⟨o',y1,y2,y2',y3,z⟩;exact ⟨o',y1,y2,y2',y3,ih _ z⟩
 | choose q k ih=>rintro h ⟨y,z⟩;exact ⟨λx=>ih _ h (y x),λx t=>ih _ h (z x t)⟩
 | sys c k ih=>intro h x;exact x
 | program k ih=>intro h x;exact ih _ h x
 | mark m k ih=>rintro h ⟨y,z⟩;exact ⟨y,ih h z⟩
 | halt x=>intro h y;exact y
theorem AD{V β:Type}{P:Program}(e:Sem V)(f:V->Sem β){h:GH}{Q:β->GH->Prop}(x:e.gh P h (λa h'=>(f a).gh P h' Q)):(e>>=f).gh P h Q:=gh_bind' e f h x
theorem Ar{V:Type}{P:Program}{a:V}{h:GH}{Q:V->GH->Prop}(x:Q a h):(Pure.pure a:Sem V).gh P h Q:=x
theorem cell?_of_fits{w:World}{h:GH}(f:EO w h){a:Addr}{p:Bool}{c:Array Value}{t:TypeId}{z:Nat×Nat}{v:Value}(hs:a.spot=none)(hb:h a.block=some (p,.cells c t z))(hc:c[a.off]? =some v) :
  w.cell? a=some v:=by
 unfold World.cell?;rw [f _ _ _ hb];simp [hs,hc]
theorem frozen?_of_fits{w:World}{h:GH}(f:EO w h){a:Addr}{p:Bool}{c:Array Value}{t:TypeId}{z:Nat×Nat}(hb:h a.block=some (p,.cells c t z)) :
  w.frozen? a=(z.1<=a.off && a.off<z.2):=by
 unfold World.frozen?;rw [f _ _ _ hb]
theorem gh_sound{V:Type}{P:Program}(e:Sem V){Q:V->GH->Prop}:∀(h₀ h:GH) (w₀ w:World) (es:Array Event),Bl h₀ w₀ es h w->e.gh P h Q->
  ∃a w' h' es',e.runT P w es=(.ok a w',es')/\Bl h₀ w₀ es' h' w'/\Q a h':=by
 induction e with
 | pure a=>intro h₀ h w₀ w es s x;exact ⟨a,w,h,es,rfl,s,x⟩
 | load m a k ih=>
  rintro h₀ h w₀ w es s ⟨rfl,x2,p,c,t,f,v,y1,y2,z⟩;have hc:=cell?_of_fits s.fits x2 y1 y2;have s':Bl h₀ w₀ (es.push ⟨.cell a,false,false⟩) h w:=by
   have:=s.trans (Bl.look s.fits (es:=#[⟨.cell a,false,false⟩]) (λe he b hl=>by simp at he;subst he;cases hl;exact s.fits.lt y1) (λe he=>by
    simp at he;subst he;exact .inl ⟨rfl,.inl ⟨p,_,y1,rfl,λx=>by cases x⟩⟩))
   simpa using this
  obtain ⟨b,w',h',es',r1,r2,r3⟩:=ih v h₀ h w₀ w _ s' z;exact ⟨b,w',h',es',by simp only [Sem.runT,hc];exact r1,r2,r3⟩
 | store m a v k ih=>
  rintro h₀ h w₀ w es s ⟨rfl,x2,x3,c,t,f,y1,y2,y3,z⟩;have hc:=cell?_of_fits s.fits x2 y1 (v:=c[a.off]) (by simp [y2]);have hf:=(frozen?_of_fits s.fits y1).trans y3;have hlt:=s.fits.lt y1;have hget:=s.fits _ _ _ y1;have s1:Bl h w #[⟨.cell a,true,false⟩] (h.set a.block true (.cells (c.setIfInBounds a.off v) t f)) (w.setCell a v):=by
   refine Bl.turn s.fits y1 rfl rfl aD ?_ ?_ (λe he b hl=>by simp at he;subst he;cases hl;exact hlt) ?_
   ·simp only [Array.getElem?_modify];simp [hget,x2]
   ·intro b hb;simp only [Array.getElem?_modify];rw [if_neg (λe=>hb e.symm)]
   ·intro e he;simp at he;subst he;exact .inl ⟨rfl,.inl ⟨true,_,y1,rfl,λ_=>rfl⟩⟩
  have s':=s.trans s1;obtain ⟨b,w',h',es',r1,r2,r3⟩:=ih h₀ _ w₀ _ _ s' z;refine ⟨b,w',h',es',?_,r2,r3⟩;have e1:(es++ #[⟨.cell a,true,false⟩]:Array Event)=es.push ⟨.cell a,true,false⟩:=aD
  rw [e1] at r1;cases v <;> first | (simp only [Value.oneCell'] at x3;cases x3;done) | (simp only [Sem.runT,hc,hf];exact r1)
 | new o k ih=>
  intro h₀ h w₀ w es s x;have s':=s.trans (Bl.new s.fits o);obtain ⟨b,w',h',es',r1,r2,r3⟩:=ih w.heap.size h₀ _ w₀ _ _ s' (x w.heap.size s.fits.fresh);exact ⟨b,w',h',es',by simp only [Sem.runT];simpa using r1,r2,r3⟩
 | shape r k ih=>
  rintro h₀ h w₀ w es s ⟨p,c,t,f,y,z⟩;have hs:w.shape? r=some (t,c.size):=by unfold World.shape?;rw [s.fits _ _ _ y]
  obtain ⟨b,w',h',es',r1,r2,r3⟩:=ih _ h₀ _ w₀ _ _ s z;exact ⟨b,w',h',es',by simp only [Sem.runT,hs];exact r1,r2,r3⟩
 | freeze a n k ih=>
  rintro h₀ h w₀ w es s (⟨rfl,z⟩ | ⟨hn,c,t,f,y,z⟩)
  ·obtain ⟨b,w',h',es',r1,r2,r3⟩:=ih h₀ _ w₀ _ _ s z;exact ⟨b,w',h',es',by simp only [Sem.runT,World.freeze];exact r1,r2,r3⟩
  ·have hget:=s.fits _ _ _ y;have s1:Bl h w #[] (h.set a.block true (.cells c t (frz f a.off n))) (w.freeze a n):=by
    unfold World.freeze;rw [if_neg hn];refine Bl.turn s.fits y rfl rfl aD ?_ ?_ (λe he b hl=>by simp at he) (λe he=>by simp at he)
    ·rw [Array.getElem?_modify];simp only [if_true,hget,Option.map_some];obtain ⟨f1,f2⟩:=f;rfl
    ·intro b hb;rw [Array.getElem?_modify,if_neg (λe=>hb e.symm)]
   have s':=s.trans s1;rw [Array.append_empty] at s';obtain ⟨b,w',h',es',r1,r2,r3⟩:=ih h₀ _ w₀ _ _ s' z;exact ⟨b,w',h',es',by simp only [Sem.runT];exact r1,r2,r3⟩
 | frozen a k ih=>
  rintro h₀ h w₀ w es s ⟨p,c,t,f,y,z⟩;have hf:=frozen?_of_fits s.fits y;obtain ⟨b,w',h',es',r1,r2,r3⟩:=ih _ h₀ _ w₀ _ _ s z;exact ⟨b,w',h',es',by simp only [Sem.runT,hf];exact r1,r2,r3⟩
 | getObj r k ih=>
  rintro h₀ h w₀ w es s ⟨p,o,y1,y2,y3,z⟩;have s':Bl h₀ w₀ (es.push ⟨.obj r,false,false⟩) h w:=by
   have:=s.trans (Bl.look s.fits (es:=#[⟨.obj r,false,false⟩]) (λe he b hl=>by simp at he;subst he;cases hl;exact s.fits.lt y1) (λe he=>by
    simp at he;subst he;exact .inl ⟨rfl,.inl ⟨p,_,y1,y3,λx=>by cases x⟩⟩))
   simpa using this
  obtain ⟨b,w',h',es',r1,r2,r3⟩:=ih o h₀ _ w₀ _ _ s' z;refine ⟨b,w',h',es',?_,r2,r3⟩;have hg:=s.fits _ _ _ y1;simp only [Sem.runT,hg];cases o <;> first | (simp [Obj.isCells] at y2;done) | (simp [Go.Obj.isChan] at y3;done) | exact r1
 | setObj r o k ih=>
  rintro h₀ h w₀ w es s ⟨o',y1,y2,y2',y3,z⟩;have hget:=s.fits _ _ _ y1;have hlt:=s.fits.lt y1;have s1:Bl h w #[⟨.obj r,true,false⟩] (h.set r true o) { w with heap:=w.heap.setIfInBounds r o }:=by
   refine Bl.turn s.fits y1 y2' y3 aD ?_ ?_ (λe he b hl=>by simp at he;subst he;cases hl;exact hlt) ?_
   ·simp [hlt]
   ·intro b hb;rw [Array.getElem?_setIfInBounds_ne (λe=>hb e.symm)]
   ·intro e he;simp at he;subst he;exact .inl ⟨rfl,.inl ⟨true,_,y1,y2',λ_=>rfl⟩⟩
  have s':=s.trans s1;obtain ⟨b,w',h',es',r1,r2,r3⟩:=ih h₀ _ w₀ _ _ s' z;refine ⟨b,w',h',es',?_,r2,r3⟩;have e1:(es++ #[⟨.obj r,true,false⟩]:Array Event)=es.push ⟨.obj r,true,false⟩:=aD
  rw [e1] at r1;simp only [Sem.runT,hget];cases o' <;> first | (simp [Obj.isCells] at y2;done) | (rw [y3];exact r1)
 | choose q k ih=>
  rintro h₀ h w₀ w es s ⟨y,z⟩;cases hq:q.forced with
  | true=>
   obtain ⟨b,w',h',es',r1,r2,r3⟩:=ih 0 h₀ _ w₀ _ _ s (y hq);exact ⟨b,w',h',es',by simp only [Sem.runT,hq];exact r1,r2,r3⟩
  | false=>
   have s':=s.trans (Bl.drew s.fits (w.drawn+1));obtain ⟨b,w',h',es',r1,r2,r3⟩:=ih _ h₀ _ w₀ _ _ s' (z hq (w.tape w.drawn q));exact ⟨b,w',h',es',by simp only [Sem.runT,hq];simpa using r1,r2,r3⟩
 | sys c k ih=>intro h₀ h w₀ w es s x;exact x.elim
 | program k ih=>
  intro h₀ h w₀ w es s x;obtain ⟨b,w',h',es',r1,r2,r3⟩:=ih P h₀ _ w₀ _ _ s x;exact ⟨b,w',h',es',by simp only [Sem.runT];exact r1,r2,r3⟩
 | mark m k ih=>
  rintro h₀ h w₀ w es s ⟨rfl,z⟩;have s':Bl h₀ w₀ (es.push ⟨.mark .noRoom,false,true⟩) h w:=by
   have:=s.trans (Bl.look s.fits (es:=#[⟨.mark .noRoom,false,true⟩]) (λe he b hl=>by simp at he;subst he;cases hl) (λe he=>by
    simp at he;subst he;exact .inr rfl))
   simpa using this
  obtain ⟨b,w',h',es',r1,r2,r3⟩:=ih h₀ _ w₀ _ _ s' z;exact ⟨b,w',h',es',by simp only [Sem.runT];exact r1,r2,r3⟩
 | halt x=>intro h₀ h w₀ w es s y;exact y.elim
theorem JR{V:Type}{P:Program}{e:Sem V}{Q:V->GH->Prop}{h:GH}{w:World}(f:EO w h)(x:e.gh P h Q) :
  ∃a w' h' es,e.runT P w #[]=(.ok a w',es)/\Bl h w es h' w'/\Q a h':=gh_sound e h h w w #[] (Bl.refl f) x
end Go.Ns
namespace Go.Ns
open Go.Conc
def Tj(P:Program)(main:Bool)(K:Goroutine->GH->Prop):Prop:=
 ∀g h,g.status=.running->(∀w,EO w h->∃g' w' es h',stepG P main g w=.go g' w' es/\Bl h w es h' w'/\K g' h')->K g h
structure Wk(P:Program) where
 main:Bool
 K:Goroutine->GH->Prop
 closed:Tj P main K
section
variable {P:Program} {W:Wk P}
theorem Wk.move{fr fr':Frame}{cs cs':List Frame}{h:GH}(hs:∀w,stepG P W.main (G fr cs) w=.go (G fr' cs') w)(hk:W.K (G fr' cs') h):W.K (G fr cs) h:=
 W.closed _ _ rfl λw f=>⟨_,w,#[],h,hs w,Bl.refl f,hk⟩
theorem Wk.go{fr:Frame}(fr':Frame){cs:List Frame}{h:GH}(hs:∀w,stepG P W.main (G fr cs) w=.go (G fr' cs) w)(hk:W.K (G fr' cs) h):W.K (G fr cs) h:=Wk.move hs hk
def Ci(b:Frame)(t:Array Value)(ds:List Deferred)(todo:List Item):Frame:={ b with tmps:=t,todo:=todo,defers:=ds,mode:=.run }
def E2(b:Frame)(t:Array Value)(ds:List Deferred)(todo:List Item):Frame:={ b with tmps:=t,todo:=todo,defers:=ds,mode:=.returning }
def BX(t:Array Value)(N:Nat)(O:Nat->Value):Prop:=t.size=N/\∀i,t.getD i undef=O i
def upd(O:Nat->Value)(d:Nat)(v:Value):Nat->Value:=λi=>bif Nat.beq i d then v else O i
theorem upd_same(O:Nat->Value)(d:Nat)(v:Value):upd O d v d=v:=by simp [upd]
theorem upd_ne(O:Nat->Value){d i:Nat}(v:Value)(h:Nat.beq i d=false):upd O d v i=O i:=by simp [upd,h]
theorem BX.put{t:Array Value}{N:Nat}{O:Nat->Value}(s:BX t N O){d:Nat}(hd:Nat.blt d N=true)(v:Value):BX (t.setIfInBounds d v) N (upd O d v):=by
 refine ⟨by simp [s.1],λi=>?_⟩;have hlt:d<t.size:=by rw [s.1];exact Nat.blt_eq▸hd
 by_cases e:i=d
 ·subst e;rw [upd_same];simp [Array.getD_eq_getD_getElem?,hlt]
 ·have hb:Nat.beq i d=false:=by
   cases hq:Nat.beq i d with
   | false=>rfl
   | true=>exact absurd (Nat.eq_of_beq_eq_true hq) e
  rw [upd_ne O v hb,<-s.2 i];simp [Array.getD_eq_getD_getElem?,Array.getElem?_setIfInBounds_ne (λx=>e x.symm)]
def AQ(O:Nat->Value):Operand->Value
 | .tmp t=>O t
 | .const v=>v
 | .global g=>.pointer (some ⟨g,0,none⟩)
 | .func f=>.func (.func f) #[] #[]
theorem MF{b:Frame}{t:Array Value}{ds:List Deferred}{k:List Item}{N:Nat}{O:Nat->Value}(s:BX t N O):(Ci b t ds k).eval=AQ O:=by
 funext x;cases x with
 | tmp i=>exact s.2 i
 | const v=>rfl
 | global g=>rfl
 | func f=>rfl
abbrev Lv:=Option Code->Array Value->List Deferred->GH->Prop
structure MG(W:Wk P)(b:Frame)(cs:List Frame)(L:Lv):Prop where
 stop:∀t ds h,L none t ds h->W.K (G (Ci b t ds []) cs) h
 ret:∀t ds h k,L (some .ret) t ds h->W.K (G (Ci b t ds (.code .ret ::k)) cs) h
 exit:∀id t ds h k,exitTo id k=none->L (some (.exit id)) t ds h->W.K (G (Ci b t ds (.code (.exit id) ::k)) cs) h
def DJ(W:Wk P)(L:Lv)(b:Frame)(k:List Item)(cs:List Frame):Exit->Array Value->List Deferred->GH->Prop
 | .normal,t,ds,h=>W.K (G (Ci b t ds k) cs) h
 | .exit id,t,ds,h=>match exitTo id k with
  | some k'=>W.K (G (Ci b t ds k') cs) h
  | none=>L (some (.exit id)) t ds h
 | .ret,t,ds,h=>L (some .ret) t ds h
 | _,_,_,_=>False
theorem DJ.push{L:Lv}{b:Frame}{x:Item}{k:List Item}{cs:List Frame}{e:Exit}{t:Array Value}{ds:List Deferred}{h:GH}(hx:x.plain=true)(he:e≠.normal)
  (a:DJ W L b k cs e t ds h):DJ W L b (x ::k) cs e t ds h:=by
 cases e with
 | normal=>exact absurd rfl he
 | exit id=>
  have:exitTo id (x ::k)=exitTo id k:=by cases x <;> simp_all [exitTo,Item.plain]
  simp only [DJ,this] at a ⊢;exact a
 | ret=>exact a
 | goto l=>exact a
 | panic ch=>exact a
 | outgrown=>exact a
structure Gq(P:Program) where
 wk:Wk P
 fn:FuncId
 rd:Option Nat
 N:Nat
abbrev Post:=Exit->(Nat->Value)->List Deferred->GH->Prop
def Tr(E:Gq P)(c:Code)(O:Nat->Value)(ds:List Deferred)(h:GH)(Q:Post):Prop:=
 ∀(b:Frame)(k:List Item)(cs:List Frame)(L:Lv)(t:Array Value),b.fn=E.fn->b.roundOf=E.rd->MG E.wk b cs L->BX t E.N O->
  (∀e σ' ds' h',Q e σ' ds' h'->∀t',BX t' E.N σ'->DJ E.wk L b k cs e t' ds' h')->E.wk.K (G (Ci b t ds (.code c ::k)) cs) h
def DL(E:Gq P)(ops:Array Oper)(l:List Oper)(O:Nat->Value)(ds:List Deferred)(h:GH)(Q:Post):Prop:=
 ∀(i:Nat)(b:Frame)(k:List Item)(cs:List Frame)(L:Lv)(t:Array Value),(∀j,l[j]? =ops[i+j]?)->b.fn=E.fn->b.roundOf=E.rd->MG E.wk b cs L->BX t E.N O->
  (∀e σ' ds' h',Q e σ' ds' h'->∀t',BX t' E.N σ'->DJ E.wk L b k cs e t' ds' h')->E.wk.K (G (Ci b t ds (.inRegion ops (List.range' i l.length) ::k)) cs) h
variable {E:Gq P} {O:Nat->Value} {ds:List Deferred} {h:GH} {Q:Post}
theorem Kx{c:Code}{Q':Post}(hq:∀e O ds h,Q e O ds h->Q' e O ds h)(x:Tr E c O ds h Q):Tr E c O ds h Q':=
 λb k cs L t hb hr hl hs hc=>x b k cs L t hb hr hl hs λe σ' ds' h' q=>hc e σ' ds' h' (hq _ _ _ _ q)
theorem A5{main:Bool}{b:Frame}{t:Array Value}{ds:List Deferred}{k:List Item}{cs:List Frame}{w:World}:stepG P main (G (Ci b t ds k) cs) w=stepG.exec P main true (Ci b t ds k) cs none w:=rfl
theorem tr_skip(q:Q .normal O ds h):Tr E .skip O ds h Q:=λb k cs L t _ _ _ hs hc=>
 Wk.go _ (λw=>by rw [A5];simp [stepG.exec,Ci,G]) (hc _ _ _ _ q t hs)
theorem Uw{l:Nat}(q:Q .normal O ds h):Tr E (.label l) O ds h Q:=λb k cs L t _ _ _ hs hc=>
 Wk.go _ (λw=>by rw [A5];simp [stepG.exec,Ci,G]) (hc _ _ _ _ q t hs)
theorem tr_ret(q:Q .ret O ds h):Tr E .ret O ds h Q:=λb k cs L t _ _ hl hs hc=>hl.ret t ds h k (hc _ _ _ _ q t hs)
theorem tr_exit{id:Nat}(q:Q (.exit id) O ds h):Tr E (.exit id) O ds h Q:=λb k cs L t _ _ hl hs hc=>by
 have:=hc _ _ _ _ q t hs
 cases hx:exitTo id k with
 | none=>simp only [DJ,hx] at this;exact hl.exit id t ds h k hx this
 | some k'=>
  simp only [DJ,hx] at this;exact Wk.go _ (λw=>by rw [A5];simp [stepG.exec,Ci,G,hx]) this
theorem tr_seq{x y:Code}(a:Tr E x O ds h (λe σ' ds' h'=>match e with | .normal=>Tr E y σ' ds' h' Q | e=>Q e σ' ds' h')):Tr E (.seq x y) O ds h Q:=by
 intro b k cs L t hb hr hl hs hc;refine Wk.go (Ci b t ds (.code x ::.code y ::k)) (λw=>by rw [A5];simp [stepG.exec,Ci,G]) ?_;refine a b (.code y ::k) cs L t hb hr hl hs λe σ' ds' h' q t' ht'=>?_;cases e with
 | normal=>exact q b k cs L t' hb hr hl ht' hc
 | exit id=>exact DJ.push rfl aD (hc _ _ _ _ q t' ht')
 | ret=>exact DJ.push rfl aD (hc _ _ _ _ q t' ht')
 | goto l=>exact DJ.push rfl aD (hc _ _ _ _ q t' ht')
 | panic l=>exact DJ.push rfl aD (hc _ _ _ _ q t' ht')
 | outgrown=>exact DJ.push rfl aD (hc _ _ _ _ q t' ht')
theorem BC{x y:Code}(M:(Nat->Value)->List Deferred->GH->Prop)(a:Tr E x O ds h (λe σ' ds' h'=>match e with | .normal=>M σ' ds' h' | e=>Q e σ' ds' h'))
  (r:∀σ' ds' h',M σ' ds' h'->Tr E y σ' ds' h' Q):Tr E (.seq x y) O ds h Q:=
 tr_seq (Kx (λe σ' ds' h' q=>by cases e <;> first | exact r _ _ _ q | exact q) a)
theorem ZE{c:Operand}{x y:Code}{t:Bool}(hc:AQ O c=.bool t)(a:Tr E (if t then x else y) O ds h Q):Tr E (.cond c x y) O ds h Q:=by
 intro b k cs L tm hb hr hl hs hq;refine Wk.go (Ci b tm ds (.code (if t then x else y) ::k)) (λw=>?_) (a b k cs L tm hb hr hl hs hq);have he:(Ci b tm ds (.code (.cond c x y) ::k)).eval c=.bool t:=by rw [MF hs];exact hc
 simp only [Ci] at he;rw [A5];simp [stepG.exec,Ci,G,he]
theorem C0{c:Operand}{x y:Code}(hc:AQ O c=.bool true)(a:Tr E x O ds h Q):Tr E (.cond c x y) O ds h Q:=ZE hc a
theorem BY{c:Operand}{x y:Code}(hc:AQ O c=.bool false)(a:Tr E y O ds h Q):Tr E (.cond c x y) O ds h Q:=ZE hc a
theorem AS{c:Operand}{x y:Code}{p:Prop}[Decidable p](hc:AQ O c=.bool (decide p))(a:p->Tr E x O ds h Q)(a':¬p->Tr E y O ds h Q):Tr E (.cond c x y) O ds h Q:=by
 by_cases hp:p
 ·exact C0 (by rw [hc];simp [hp]) (a hp)
 ·exact BY (by rw [hc];simp [hp]) (a' hp)
theorem Bu{c:Operand}{x y:Code}{t:Bool}(hc:AQ O c=.bool t)(a:t=true->Tr E x O ds h Q)(a':t=false->Tr E y O ds h Q):Tr E (.cond c x y) O ds h Q:=by
 cases t with
 | true=>exact C0 hc (a rfl)
 | false=>exact BY hc (a' rfl)
theorem tr_block{id:Nat}{c:Code}(a:Tr E c O ds h (λe σ' ds' h'=>match e with | .normal=>Q .normal σ' ds' h' | .exit id'=>if id'=id then Q .normal σ' ds' h' else Q (.exit id') σ' ds' h' | e=>Q e σ' ds' h')) :
  Tr E (.block id c) O ds h Q:=by
 intro b k cs L t hb hr hl hs hc;refine Wk.go (Ci b t ds (.code c ::.inBlock id ::k)) (λw=>by rw [A5];simp [stepG.exec,Ci,G]) ?_;refine a b (.inBlock id ::k) cs L t hb hr hl hs λe σ' ds' h' q t' ht'=>?_;cases e with
 | normal=>exact Wk.go (Ci b t' ds' k) (λw=>by rw [A5];simp [stepG.exec,Ci,G]) (hc _ _ _ _ q t' ht')
 | exit id'=>
  by_cases hid:id'=id
  ·simp only [hid,if_true] at q
   have:=hc _ _ _ _ q t' ht'
   simp only [DJ,exitTo,hid,beq_self_eq_true,if_true];exact this
  ·simp only [hid,if_false] at q
   have:=hc _ _ _ _ q t' ht'
   have hne:(id==id')=false:=by simp;exact λh=>hid h.symm
   simp only [DJ,exitTo,hne] at this ⊢;exact this
 | ret=>exact hc _ _ _ _ q t' ht'
 | goto l=>exact hc _ _ _ _ q t' ht'
 | panic l=>exact hc _ _ _ _ q t' ht'
 | outgrown=>exact hc _ _ _ _ q t' ht'
theorem Ux{c:Code}(a:Tr E c O ds h Q):Tr E (.scope c) O ds h Q:=by
 intro b k cs L t hb hr hl hs hc;refine Wk.go (Ci b t ds (.code c ::.inScope c ::k)) (λw=>by rw [A5];simp [stepG.exec,Ci,G]) ?_;refine a b (.inScope c ::k) cs L t hb hr hl hs λe σ' ds' h' q t' ht'=>?_
 have:=hc _ _ _ _ q t' ht'
 cases e with
 | normal=>exact Wk.go (Ci b t' ds' k) (λw=>by rw [A5];simp [stepG.exec,Ci,G]) this
 | exit id=>simp only [DJ,exitTo] at this ⊢;exact this
 | ret=>exact this
 | goto l=>exact this.elim
 | panic l=>exact this.elim
 | outgrown=>exact this.elim
theorem Aa{c:Code}(I:Nat->(Nat->Value)->List Deferred->GH->Prop){n:Nat}(i0:I n O ds h)
  (round:∀n O ds h,I n O ds h->Tr E c O ds h (λe σ' ds' h'=>match e with | .normal=>∃m,m<n/\I m σ' ds' h' | e=>Q e σ' ds' h')):Tr E (.loop c) O ds h Q:=by
 intro b k cs L t hb hr hl hs hc;refine Wk.go (Ci b t ds (.code c ::.inLoop c ::k)) (λw=>by rw [A5];simp [stepG.exec,Ci,G]) ?_;have key:∀n O ds h t,I n O ds h->BX t E.N O->E.wk.K (G (Ci b t ds (.code c ::.inLoop c ::k)) cs) h:=by
  intro n
  induction n using Nat.strongRecOn with
  | ind n ih=>
   intro O ds h t hi hs;refine round n O ds h hi b (.inLoop c ::k) cs L t hb hr hl hs λe σ' ds' h' q t' ht'=>?_;cases e with
   | normal=>
    obtain ⟨m,hm,hi'⟩:=q;exact Wk.go (Ci b t' ds' (.code c ::.inLoop c ::k)) (λw=>by rw [A5];simp [stepG.exec,Ci,G]) (ih m hm _ _ _ _ hi' ht')
   | exit id=>exact DJ.push rfl aD (hc _ _ _ _ q t' ht')
   | ret=>exact DJ.push rfl aD (hc _ _ _ _ q t' ht')
   | goto l=>exact DJ.push rfl aD (hc _ _ _ _ q t' ht')
   | panic l=>exact DJ.push rfl aD (hc _ _ _ _ q t' ht')
   | outgrown=>exact DJ.push rfl aD (hc _ _ _ _ q t' ht')
 exact key n O ds h t i0 hs
theorem Zu{id:Nat}{l:List Oper}(a:DL E l.toArray l O ds h Q):Tr E (.region id l.toArray false) O ds h Q:=by
 intro b k cs L t hb hr hl hs hc;refine Wk.go (Ci b t ds (.inRegion l.toArray (List.range' 0 l.length) ::k)) (λw=>?_) (a 0 b k cs L t aD hb hr hl hs hc);rw [A5];simp [stepG.exec,Ci,G,List.range_eq_range']
theorem trL_nil{ops:Array Oper}(q:Q .normal O ds h):DL E ops [] O ds h Q:=by
 intro i b k cs L t hi hb hr hl hs hc;exact Wk.go (Ci b t ds k) (λw=>by rw [A5];simp [stepG.exec,Ci,G]) (hc _ _ _ _ q t hs)
def AV(W:Wk P)(f:FuncId)(args:Array Value)(h:GH)(R:Value->GH->Prop):Prop:=
 ∀(c:Frame)(cs:List Frame),(∀v h',R v h'->W.K (G (c.finish v) cs) h')->W.K (G (Frame.enter P f args .normal) (c ::cs)) h
theorem AV.mono{f:FuncId}{args:Array Value}{R R':Value->GH->Prop}(x:AV W f args h R)(hr:∀v h',R v h'->R' v h'):AV W f args h R':=
 λc cs hc=>x c cs λv h' r=>hc v h' (hr v h' r)
def BP(W:Wk P)(l:Nat)(f:FuncId)(tmps:Array Value)(assign body:Code)(h:GH)(R:Value->GH->Prop):Prop:=
 ∀(c:Frame)(cs:List Frame),(∀v h',R v h'->W.K (G (c.finish v) cs) h')->W.K (G (Frame.round l f tmps assign body .normal) (c ::cs)) h
def Wf(t:Array Value)(dst:Option Nat)(v:Value):Array Value:=match dst with
 | some d=>t.setIfInBounds d v
 | none=>t
def putS(O:Nat->Value)(dst:Option Nat)(v:Value):Nat->Value:=match dst with
 | some d=>upd O d v
 | none=>O
def C3(dst:Option Nat)(N:Nat):Bool:=match dst with
 | some d=>Nat.blt d N
 | none=>true
def C6:Op->Bool
 | .defer _=>true
 | _=>false
def Upon(E:Gq P)(o:Oper)(O:Nat->Value)(ds:List Deferred)(T:(Nat->Value)->List Deferred->GH->Prop):Next->GH->Prop
 | .value v,h=>T (putS O o.dst v) ds h
 | .skip,h=>T (putS O o.dst undef) ds h
 | .enter f args,h=>AV E.wk f args h λv h'=>T (putS O o.dst v) ds h'
 | .round l f tmps a c,h=>BP E.wk l f tmps a c h λv h'=>T (putS O o.dst v) ds h'
 | .defer d,h=>T (putS O o.dst undef) (d ::ds) h
 | _,_=>False
theorem Bl.sub{h h':GH}{w w':World}{es es':Array Event}(s:Bl h w es h' w')(hs:∀e ∈ es',e ∈ es):Bl h w es' h' w':=
 { s with evs:=λe he=>s.evs e (hs e he),evb:=λe he=>s.evb e (hs e he),chn:=λb p o x y=>(s.chn b p o x y).imp id λz=>⟨z.1,λe he=>z.2 e (hs e he)⟩ }
theorem C7{b:Frame}{t:Array Value}{ds:List Deferred}{ops:Array Oper}{i:Nat}{rest:List Nat}{k:List Item}{o:Oper}(ho:ops[i]? =some o)(v:Value) :
  (Ci b t ds (.inRegion ops (i ::rest) ::k)).finish v=Ci b (Wf t o.dst v) ds (.inRegion ops rest ::k):=by
 cases hd:o.dst <;> simp [Frame.finish,Ci,ho,hd,Wf]
theorem BX.putS{t:Array Value}{N:Nat}{O:Nat->Value}(s:BX t N O){dst:Option Nat}(hd:C3 dst N=true)(v:Value) :
  BX (Wf t dst v) N (putS O dst v):=by
 cases dst with
 | none=>exact s
 | some d=>exact s.put hd v
theorem Ky{b:Frame}{t:Array Value}{ds:List Deferred}{ops:Array Oper}{i:Nat}{rest:List Nat}{k:List Item}{cs:List Frame}{o:Oper}{T:(Nat->Value)->List Deferred->GH->Prop}
  (ho:ops[i]? =some o) (hw:Region.wanted o (yielded ops t)=true) (hdf:b.roundOf=none\/C6 o.op=false) (hd:C3 o.dst E.N=true) (hs:BX t E.N O)
  (x:(execOp (AQ O) o).gh P h (Upon E o O ds T))
  (hT:∀σ' ds' h',T σ' ds' h'->∀t',BX t' E.N σ'->E.wk.K (G (Ci b t' ds' (.inRegion ops rest ::k)) cs) h') :
  E.wk.K (G (Ci b t ds (.inRegion ops (i ::rest) ::k)) cs) h:=by
 refine E.wk.closed _ _ rfl λw f=>?_;obtain ⟨nx,w',h',es,r1,r2,r3⟩:=JR f x;have hev:=MF (b:=b) (ds:=ds) (k:=.inRegion ops (i ::rest) ::k) hs;have hop:stepG P E.wk.main (G (Ci b t ds (.inRegion ops (i ::rest) ::k)) cs) w=
   stepG.apply P true (Ci b t ds (.inRegion ops (i ::rest) ::k)) cs none (execOp (AQ O) o) w:=by
  rw [<-hev];have hw':((ops[i]?).map (Region.wanted · (yielded ops t))).getD false=true:=by simp [ho,hw]
  rw [A5];unfold stepG.exec;simp only [Ci,hw',↓reduceIte];unfold stepG.oper;simp only [Frame.oper?,ho];rcases hdf with e | e
  ·simp only [e]
  ·cases hq:o.op <;> first | rfl | (rw [hq] at e;cases e;done) | (cases b.roundOf <;> rfl)
 have hseen:∀q:Bool,∀e ∈ seen P b.fn (if q then #[] else es),e ∈ es:=λq e he=>by
  have:=mem_seen he
  cases q with
  | true=>simp at this
  | false=>simpa using this
 have hsub:∀q:Bool,Bl h w (seen P b.fn (if q then #[] else es)++ #[]) h' w':=λq=>by
  refine r2.sub λe he=>hseen q e (by simpa using he)
 rw [hop];cases nx with
 | value v=>
  refine ⟨_,w',_,h',?_,hsub (b.kind==.early),hT _ _ _ r3 _ (hs.putS hd v)⟩;simp only [stepG.apply,r1,if_true];rw [C7 ho];rfl
 | skip=>
  refine ⟨_,w',_,h',?_,hsub (b.kind==.early),hT _ _ _ r3 _ (hs.putS hd undef)⟩;simp only [stepG.apply,r1,if_true];rw [C7 ho];rfl
 | enter f' args=>
  refine ⟨_,w',_,h',?_,hsub (b.kind==.early),r3 (Ci b t ds (.inRegion ops (i ::rest) ::k)) cs λv h'' q=>?_⟩
  ·simp only [stepG.apply,r1,if_true];rfl
  ·rw [C7 ho];exact hT _ _ _ q _ (hs.putS hd v)
 | round l f' tmps a c=>
  refine ⟨_,w',_,h',?_,hsub (b.kind==.early),r3 (Ci b t ds (.inRegion ops (i ::rest) ::k)) cs λv h'' q=>?_⟩
  ·simp only [stepG.apply,r1,if_true];rfl
  ·rw [C7 ho];exact hT _ _ _ q _ (hs.putS hd v)
 | defer d=>
  refine ⟨_,w',_,h',?_,hsub (b.kind==.early),hT _ _ _ r3 _ (hs.putS hd undef)⟩;simp only [stepG.apply,r1,if_true];show GStep.go (G ((Ci b t (d ::ds) (.inRegion ops (i ::rest) ::k)).finish undef) cs) w' _=_;rw [C7 ho];rfl
 | _=>exact r3.elim
theorem trL_op{ops:Array Oper}{o:Oper}{l:List Oper}(hg:o.guard=none)(hdf:E.rd=none\/C6 o.op=false)(hd:C3 o.dst E.N=true)
  (x:(execOp (AQ O) o).gh P h (Upon E o O ds λσ' ds' h'=>DL E ops l σ' ds' h' Q)):DL E ops (o ::l) O ds h Q:=by
 intro i b k cs L t hi hb hr hl hs hc;have ho:ops[i]? =some o:=by simpa using (hi 0).symm
 refine Ky (E:=E) (rest:=List.range' (i+1) l.length) ho (by simp [Region.wanted,hg]) (hr▸hdf) hd hs x λσ' ds' h' y t' ht'=>?_;exact y (i+1) b k cs L t' (λj=>by have:=hi (j+1);simpa [Nat.add_assoc,Nat.add_comm 1 j] using this) hb hr hl ht' hc
theorem Tk{ops:Array Oper}{o:Oper}{l:List Oper}{j d:Nat}{want:Bool}{oj:Oper}(hg:o.guard=some (j,want))(hj:ops[j]? =some oj)(hjd:oj.dst=some d)(hv:O d=.bool want)(hdj:Nat.blt d E.N=true)
  (hdf:E.rd=none\/C6 o.op=false) (hd:C3 o.dst E.N=true)
  (x:(execOp (AQ O) o).gh P h (Upon E o O ds λσ' ds' h'=>DL E ops l σ' ds' h' Q)):DL E ops (o ::l) O ds h Q:=by
 intro i b k cs L t hi hb hr hl hs hc;have ho:ops[i]? =some o:=by simpa using (hi 0).symm
 have hy:yielded ops t j=some want:=by
  have hlt:d<t.size:=by rw [hs.1];exact Nat.blt_eq▸hdj
  have h2:=hs.2 d;rw [hv] at h2;have h3:t[d]? =some (.bool want):=by
   simp only [Array.getD_eq_getD_getElem?,Array.getElem?_eq_getElem hlt,Option.getD_some] at h2;rw [Array.getElem?_eq_getElem hlt,h2]
  simp [yielded,hj,hjd,h3]
 refine Ky (E:=E) (rest:=List.range' (i+1) l.length) ho (by simp [Region.wanted,hg,hy]) (hr▸hdf) hd hs x λσ' ds' h' y t' ht'=>?_;exact y (i+1) b k cs L t' (λj=>by have:=hi (j+1);simpa [Nat.add_assoc,Nat.add_comm 1 j] using this) hb hr hl ht' hc
theorem PD{ops:Array Oper}{o:Oper}{l:List Oper}{j d:Nat}{want is:Bool}{oj:Oper}(hg:o.guard=some (j,want))(hj:ops[j]? =some oj)(hjd:oj.dst=some d)(hv:O d=.bool is)(hdj:Nat.blt d E.N=true)(hne:want≠is)
  (hd:C3 o.dst E.N=true) (x:DL E ops l (putS O o.dst undef) ds h Q):DL E ops (o ::l) O ds h Q:=by
 intro i b k cs L t hi hb hr hl hs hc;have ho:ops[i]? =some o:=by simpa using (hi 0).symm
 have hy:yielded ops t j=some is:=by
  have hlt:d<t.size:=by rw [hs.1];exact Nat.blt_eq▸hdj
  have h2:=hs.2 d;rw [hv] at h2;have h3:t[d]? =some (.bool is):=by
   simp only [Array.getD_eq_getD_getElem?,Array.getElem?_eq_getElem hlt,Option.getD_some] at h2;rw [Array.getElem?_eq_getElem hlt,h2]
  simp [yielded,hj,hjd,h3]
 refine Wk.go (Ci b (Wf t o.dst undef) ds (.inRegion ops (List.range' (i+1) l.length) ::k)) (λw=>?_) ?_
 ·have hw':((ops[i]?).map (Region.wanted · (yielded ops t))).getD false=false:=by
   simp only [ho,Option.map_some,Option.getD_some,Region.wanted,hg,hy];cases want <;> cases is <;> simp_all
  rw [<-C7 ho (rest:=List.range' (i+1) l.length),List.length_cons,List.range'_succ,A5];unfold stepG.exec;simp only [Ci,hw',Bool.false_eq_true,↓reduceIte];rfl
 ·exact x (i+1) b k cs L _ (λj=>by have:=hi (j+1);simpa [Nat.add_assoc,Nat.add_comm 1 j] using this) hb hr hl (hs.putS hd undef) hc
end
end Go.Ns
namespace Go.Ns
open Go.Conc
theorem ND{h:GH}{n:Nat}{e:Event}(x:Uv h n e):MemAct.ofEvent e=.access e/\(MemAct.ofEvent e).touch? =some ⟨e.loc,e.write,.plain⟩:=by
 obtain ⟨hs,hl⟩:=x;obtain ⟨l,wr,sy⟩:=e;simp only at hs hl;subst hs;cases l with
 | cell a=>exact ⟨rfl,rfl⟩
 | obj r=>cases wr <;> exact ⟨rfl,rfl⟩
 | output=>exact hl.elim
 | goroutines=>exact hl.elim
 | mark m=>exact hl.elim
theorem MH{h:GH}{n:Nat}{e:Event}(x:Uv h n e):∃b,C5 e.loc=some b/\Ti h n b e.write:=by
 obtain ⟨_,hl⟩:=x;cases he:e.loc with
 | cell a=>rw [he] at hl;exact ⟨_,rfl,hl⟩
 | obj r=>rw [he] at hl;exact ⟨_,rfl,hl⟩
 | output=>rw [he] at hl;exact hl.elim
 | goroutines=>rw [he] at hl;exact hl.elim
 | mark m=>rw [he] at hl;exact hl.elim
theorem Bd{t u:Trace}{k:Nat}{a:Touch}(h:touchAt (t++u) k=some a):(k<t.size/\touchAt t k=some a)\/(t.size<=k/\∃op ∈ u,(t++u)[k]? =some op/\op.act.touch? =some a):=by
 obtain ⟨op,h1,h2⟩:=touch_of h;rcases getElem?_append_cases h1 with ⟨x,y⟩ | ⟨x,y⟩
 ·exact .inl ⟨x,by rw [touchAt_of y];exact h2⟩
 ·exact .inr ⟨x,op,y,h1,h2⟩
def Lg(hs:Nat->GH)(i:Nat)(h:GH):Nat->GH:=λj=>if j=i then h else hs j
theorem FT(hs:Nat->GH)(i:Nat)(h:GH):Lg hs i h i=h:=by simp [Lg]
theorem Hw(hs:Nat->GH){i j:Nat}(h:GH)(e:j≠i):Lg hs i h j=hs j:=by simp [Lg,e]
structure HS(w:World)(n:Nat)(hs:Nat->GH):Prop where
 fits:∀i,i<n->EO w (hs i)
 disj:∀i j b o x,i<n->j<n->i≠j->hs i b=some (true,o)->hs j b=some x->False
theorem HS.at{w:World}{n:Nat}{hs:Nat->GH}(h:HS w n hs)(d:Nat):HS (w.at d) n hs:=⟨h.fits,h.disj⟩
theorem HS.step{w w':World}{n:Nat}{hs:Nat->GH}(h:HS w n hs){i:Nat}(hi:i<n){es:Array Event}{h':GH}(s:Bl (hs i) w es h' w'):HS w' n (Lg hs i h') where
 fits:=λj hj=>by
  by_cases e:j=i
  ·subst e;rw [FT];exact s.fits
  ·rw [Hw hs h' e];intro b p o hb;rw [s.frame b ((h.fits j hj).lt hb) λo' x=>h.disj i j b o' (p,o) hi hj (λy=>e y.symm) x hb];exact h.fits j hj b p o hb
 disj:=λa c b o x ha hc hac hx hy=>by
  by_cases ea:a=i
  ·subst ea;rw [FT] at hx;rw [Hw hs h' (λy=>hac y.symm)] at hy;rcases s.own b o hx with ⟨o',z⟩ | z
   ·exact h.disj a c b o' x ha hc hac z hy
   ·exact absurd ((h.fits c hc).lt (p:=x.1) (o:=x.2) hy) (Nat.not_lt.2 z)
  ·rw [Hw hs h' ea] at hx;by_cases ec:c=i
   ·subst ec;rw [FT] at hy;obtain ⟨p,o'⟩:=x;cases p with
    | true=>
     rcases s.own b o' hy with ⟨o2,z⟩ | z
     ·exact h.disj a c b o _ ha hc hac hx z
     ·exact absurd ((h.fits a ha).lt hx) (Nat.not_lt.2 z)
    | false=>exact h.disj a c b o _ ha hc hac hx (s.ro b o' hy)
   ·rw [Hw hs h' ec] at hy;exact h.disj a c b o x ha hc hac hx hy
structure TI(t:Trace)(n B:Nat)(hs:Nat->GH):Prop where
 words:Wordless t
 clean:∀said,¬Race said t
 low:∀k a b,touchAt t k=some a->C5 a.loc=some b->b<B
 num:∀op ∈ t,op.g<n
 own:∀i b o k a,i<n->hs i b=some (true,o)->touchAt t k=some a->C5 a.loc=some b->Knows t i k
 ro:∀i b o k a,i<n->hs i b=some (false,o)->touchAt t k=some a->C5 a.loc=some b->a.write=true->Knows t i k
 chn:∀i b p o k a,i<n->hs i b=some (p,o)->o.isChan=true->touchAt t k=some a->C5 a.loc=some b->a.kind=.atomic
theorem TI.knows{t:Trace}{n B:Nat}{hs:Nat->GH}(T:TI t n B hs){i b:Nat}{p:Bool}{o:Obj}{k:Nat}{a:Touch}(hi:i<n)(hb:hs i b=some (p,o))(hk:touchAt t k=some a)(hl:C5 a.loc=some b)
  (hw:p=true\/a.write=true):Knows t i k:=by
 cases p with
 | true=>exact T.own i b o k a hi hb hk hl
 | false=>exact T.ro i b o k a hi hb hk hl (hw.elim (λx=>by cases x) id)
theorem TI.step{t:Trace}{n:Nat}{hs:Nat->GH}{w w':World}(T:TI t n w.heap.size hs)(H:HS w n hs){i:Nat}(hi:i<n){es:Array Event}{h':GH}(s:Bl (hs i) w es h' w')(fn:FuncId)(pos:String) :
  TI (t++MemOp.ofEvents i fn pos es) n w'.heap.size (Lg hs i h'):=by
 have hu:∀op ∈ MemOp.ofEvents i fn pos es,op.g=i:=λop hop=>by obtain ⟨e,_,rfl⟩:=Go.Conc.mem_ofEvents hop;rfl
 have ht:∀op ∈ MemOp.ofEvents i fn pos es,∀a,op.act.touch? =some a->∃e ∈ es,a=⟨e.loc,e.write,.plain⟩/\Uv (hs i) w.heap.size e:=by
  intro op hop a ha;obtain ⟨e,he,rfl⟩:=Go.Conc.mem_ofEvents hop;rcases s.evs e he with h0 | h0
  ·have h1:=ND h0;simp only [h1.2,Option.some.injEq] at ha;exact ⟨e,he,ha.symm,h0⟩
  ·rw [h0] at ha;cases ha
 have hother:∀j b p o,j<n->j≠i->hs j b=some (p,o)->∀op ∈ MemOp.ofEvents i fn pos es,∀a,op.act.touch? =some a->C5 a.loc=some b->p=false/\a.write=false/\o.isChan=false:=by
  intro j b p o hj hji hb op hop a ha hl;obtain ⟨e,he,rfl,ho⟩:=ht op hop a ha;obtain ⟨b',hb',hop'⟩:=MH ho;simp only at hl;rw [hl] at hb';cases hb';rcases hop' with ⟨p',o',x,y,z⟩ | x
  ·have hp:p=false:=by
    cases p with
    | false=>rfl
    | true=>exact (H.disj j i b o _ hj hi hji hb x).elim
   have hp':p'=false:=by
    cases p' with
    | false=>rfl
    | true=>exact (H.disj i j b o' _ hi hj (λq=>hji q.symm) x hb).elim
   refine ⟨hp,?_,?_⟩
   ·cases hw:e.write with
    | false=>rfl
    | true=>rw [z hw] at hp';cases hp'
   ·have e1:=H.fits j hj b p o hb;have e2:=H.fits i hi b p' o' x;rw [e1] at e2;cases e2;exact y
  ·exact absurd ((H.fits j hj).lt hb) (Nat.not_lt.2 x)
 refine ⟨?_,?_,?_,?_,?_,?_,?_⟩
 ·refine T.words.append λop hop m hm=>?_;obtain ⟨e,he,rfl⟩:=Go.Conc.mem_ofEvents hop;rcases s.evs e he with h0 | h0
  ·simp only [(ND h0).1] at hm;cases hm
  ·rw [h0] at hm;cases hm;exact rfl
 ·intro said;refine noRace_append (T.clean said) hu λk a hk op hop b hb hc=>?_;obtain ⟨e,he,rfl,ho⟩:=ht op hop b hb;obtain ⟨blk,hblk,hop'⟩:=MH ho;obtain ⟨c1,_,c3,_⟩:=hc;have hl:C5 a.loc=some blk:=by rw [c1];exact hblk
  rcases hop' with ⟨p,o,x,_,z⟩ | x
  ·refine T.knows hi x hk hl ?_;cases p with
   | true=>exact .inl rfl
   | false=>
    rcases c3 with c3 | c3
    ·exact .inr c3
    ·have:=z c3;cases this
  ·exact absurd (T.low k a blk hk hl) (Nat.not_lt.2 x)
 ·intro k a b hk hl;rcases Bd hk with ⟨_,hk⟩ | ⟨_,op,hop,_,ha⟩
  ·exact Nat.lt_of_lt_of_le (T.low k a b hk hl) s.size
  ·obtain ⟨e,he,rfl,_⟩:=ht op hop a ha;exact s.evb e he b hl
 ·intro op hop;rcases Array.mem_append.1 hop with x | x
  ·exact T.num op x
  ·rw [hu op x];exact hi
 ·intro j b o k a hj hb hk hl;by_cases e:j=i
  ·subst e;rw [FT] at hb;rcases Bd hk with ⟨_,hk⟩ | ⟨_,op,hop,h1,_⟩
   ·rcases s.own b o hb with ⟨o',x⟩ | x
    ·exact (T.own j b o' k a hj x hk hl).app _
    ·exact absurd (T.low k a b hk hl) (Nat.not_lt.2 x)
   ·have:=knows_own h1;rw [hu op hop] at this;exact this
  ·rw [Hw hs h' e] at hb;rcases Bd hk with ⟨_,hk⟩ | ⟨_,op,hop,_,ha⟩
   ·exact (T.own j b o k a hj hb hk hl).app _
   ·have:=(hother j b true o hj e hb op hop a ha hl).1;cases this
 ·intro j b o k a hj hb hk hl hw;by_cases e:j=i
  ·subst e;rw [FT] at hb;rcases Bd hk with ⟨_,hk⟩ | ⟨_,op,hop,h1,_⟩
   ·exact (T.ro j b o k a hj (s.ro b o hb) hk hl hw).app _
   ·have:=knows_own h1;rw [hu op hop] at this;exact this
  ·rw [Hw hs h' e] at hb;rcases Bd hk with ⟨_,hk⟩ | ⟨_,op,hop,_,ha⟩
   ·exact (T.ro j b o k a hj hb hk hl hw).app _
   ·have:=(hother j b false o hj e hb op hop a ha hl).2.1;rw [hw] at this;cases this
 ·intro j b p o k a hj hb hc hk hl;by_cases e:j=i
  ·subst e;rw [FT] at hb;rcases Bd hk with ⟨_,hk⟩ | ⟨_,op,hop,_,ha⟩
   ·rcases s.chn b p o hb hc with x | x
    ·exact T.chn j b p o k a hj x hc hk hl
    ·exact absurd (T.low k a b hk hl) (Nat.not_lt.2 x.1)
   ·obtain ⟨e,he,rfl,ho⟩:=ht op hop a ha;obtain ⟨b',hb',hop'⟩:=MH ho;simp only at hl;rw [hl] at hb';cases hb';rcases s.chn b p o hb hc with x | x
    ·rcases hop' with ⟨p',o',y,z,_⟩ | y
     ·rw [x] at y;cases y;rw [hc] at z;cases z
     ·exact absurd (s.fits0.lt x) (Nat.not_lt.2 y)
    ·exact absurd hl (x.2 e he)
  ·rw [Hw hs h' e] at hb;rcases Bd hk with ⟨_,hk⟩ | ⟨_,op,hop,_,ha⟩
   ·exact T.chn j b p o k a hj hb hc hk hl
   ·have:=(hother j b p o hj e hb op hop a ha hl).2.2;rw [hc] at this;cases this
theorem TI.mute{t u:Trace}{n B:Nat}{hs:Nat->GH}(T:TI t n B hs)(hn:∀op ∈ u,op.act.touch? =none)(hw:Wordless u)(hg:∀op ∈ u,op.g<n):TI (t++u) n B hs:=by
 have old:∀k a,touchAt (t++u) k=some a->touchAt t k=some a:=λk a hk=>by
  rcases Bd hk with ⟨_,hk⟩ | ⟨_,op,hop,_,ha⟩
  ·exact hk
  ·rw [hn op hop] at ha;cases ha
 refine ⟨T.words.append hw,?_,λk a b hk=>T.low k a b (old k a hk),?_,λi b o k a hi hb hk hl=>(T.own i b o k a hi hb (old k a hk) hl).app _,
  λi b o k a hi hb hk hl hw=>(T.ro i b o k a hi hb (old k a hk) hl hw).app _,λi b p o k a hi hb hc hk=>T.chn i b p o k a hi hb hc (old k a hk)⟩
 ·rintro said ⟨i,j,hij,⟨a,b,ha,hb,hc⟩,n1,n2⟩;refine T.clean said ⟨i,j,hij,⟨a,b,old i a ha,old j b hb,hc⟩,λx=>n1 (hb_app u x),λx=>n2 (hb_app u x)⟩
 ·intro op hop;rcases Array.mem_append.1 hop with x | x
  ·exact T.num op x
  ·exact hg op x
end Go.Ns
namespace Go.Ns
open Go.Conc
section
variable {P:Program} {Post:Value->World->Prop}
def Bp(P:Program)(Post:Value->World->Prop)(m:Machine)(t:Trace):Prop:=
 ∃N last o w t',runNT P (N+1) m t=(.ended o w,t')/\runN P N m=.next last/\step P last=.ended o w/\Conc.Good P Post last o w t'
theorem Bp.step{m m':Machine}{t ops:Trace}(hs:stepT P m=(.next m',ops))(h:Bp P Post m' (t++ops)):Bp P Post m t:=by
 obtain ⟨n,last,o,w,t',h1,h2,h3,h4⟩:=h;exact ⟨n+1,last,o,w,t',by rw [runNT_succ_next hs];exact h1,by rw [runN_succ_next hs];exact h2,h3,h4⟩
def JS(Post:Value->World->Prop)(os:Os)(out:Array (Nat×ByteArray)):Value->World->Prop:=λv w=>Post v w/\w.os=os/\w.output=out
theorem Bp.at{m:Machine}{t:Trace}{os os':Os}{out out':Array (Nat×ByteArray)}(e:os'=os)(e':out'=out)(h:Bp P (JS Post os' out') m t):Bp P (JS Post os out) m t:=by subst e e';exact h
structure Iw(P:Program)(g:Goroutine)(h:GH)(gs:Array Goroutine)(w:World)(q:Nat->Nat)(t:Trace):Prop where
 here:gs[0]? =some g
 old:∀j x,0<j->gs[j]? =some x->QuitsIn P (q j) x
 fits:EO w h
 words:Wordless t
 clean:∀said,¬Race said t
 low:∀k a b,touchAt t k=some a->C5 a.loc=some b->b<w.heap.size
 num:∀op ∈ t,op.g<gs.size
 known:∀k a,touchAt t k=some a->Knows t 0 k
 chn:∀b p o k a,h b=some (p,o)->o.isChan=true->touchAt t k=some a->C5 a.loc=some b->a.kind=.atomic
def EJ(P:Program)(Post:Value->World->Prop)(g:Goroutine)(h:GH):Prop:=
 ∀gs w sl q t,Iw P g h gs w q t->Bp P (JS Post w.os w.output) (crowd gs w sl) t
def only(h:GH):Nat->GH:=λj=>if j=0 then h else λ_=>none
theorem Iw.HS{g:Goroutine}{h:GH}{gs:Array Goroutine}{w:World}{q:Nat->Nat}{t:Trace}(B:Iw P g h gs w q t):HS w gs.size (only h) where
 fits:=λi _=>by
  unfold only;split
  ·exact B.fits
  ·intro b p o x;cases x
 disj:=λi j b o x _ _ hij hx hy=>by
  unfold only at hx hy;split at hx
  ·split at hy
   ·omega
   ·cases hy
  ·cases hx
theorem Iw.TI{g:Goroutine}{h:GH}{gs:Array Goroutine}{w:World}{q:Nat->Nat}{t:Trace}(B:Iw P g h gs w q t):TI t gs.size w.heap.size (only h) where
 words:=B.words
 clean:=B.clean
 low:=B.low
 num:=B.num
 own:=λi b o k a _ hb hk _=>by
  unfold only at hb;split at hb
  ·rename_i e;subst e;exact B.known k a hk
  ·cases hb
 ro:=λi b o k a _ hb hk _ _=>by
  unfold only at hb;split at hb
  ·rename_i e;subst e;exact B.known k a hk
  ·cases hb
 chn:=λi b p o k a _ hb=>by
  unfold only at hb;split at hb
  ·exact B.chn b p o k a hb
  ·cases hb
theorem Iw.lt{g:Goroutine}{h:GH}{gs:Array Goroutine}{w:World}{q:Nat->Nat}{t:Trace}(B:Iw P g h gs w q t):0<gs.size:=(Array.getElem?_eq_some_iff.1 B.here).1
theorem Iw.step{g g':Goroutine}{h h':GH}{gs:Array Goroutine}{w w':World}{q:Nat->Nat}{t:Trace}(B:Iw P g h gs w q t){es:Array Event}(s:Bl h w es h' w')(fn:FuncId)(pos:String)(wk:Goroutine->Goroutine)
  (hwk:∀j x,0<j->gs[j]? =some x->wk x=x):Iw P g' h' ((gs.map wk).setIfInBounds 0 g') w' q (t++MemOp.ofEvents 0 fn pos es):=by
 have s0:Bl (only h 0) w es h' w':=s;have T':=B.TI.step B.HS B.lt s0 fn pos;refine ⟨by simp [B.lt],?_,s.fits,T'.words,T'.clean,T'.low,by simpa using T'.num,?_,?_⟩
 ·intro j x hj hx;have hne:0≠j:=aA
  rw [Array.getElem?_setIfInBounds_ne hne,Array.getElem?_map] at hx;obtain ⟨y,hy,rfl⟩:=Option.map_eq_some_iff.1 hx;rw [hwk j y hj hy];exact B.old j y hj hy
 ·intro k a hk;rcases Bd hk with ⟨_,hk⟩ | ⟨_,op,hop,h1,_⟩
  ·exact (B.known k a hk).app _
  ·have:=knows_own h1
   obtain ⟨e,_,rfl⟩:=Go.Conc.mem_ofEvents hop;exact this
 ·intro b p o k a hb;refine T'.chn 0 b p o k a B.lt ?_;rw [FT];exact hb
theorem Iw.quit{g:Goroutine}{h:GH}{gs:Array Goroutine}{w:World}{q:Nat->Nat}{t:Trace}(B:Iw P g h gs w q t)(hg:g.status=.running){i k d:Nat}{x x':Goroutine}(hi:0<i)(hx:gs[i]? =some x)(hq:QuitsIn P k x') :
  Iw P g h ((gs.map (woken P x x' (w.at d))).setIfInBounds i x') (w.at d) (Go.ConcN.upd q i k) t:=by
 refine ⟨?_,?_,B.fits,B.words,B.clean,B.low,by simpa using B.num,B.known,B.chn⟩
 ·rw [Array.getElem?_setIfInBounds_ne aA,Array.getElem?_map,B.here];simp [woken_running hg]
 ·intro j y hj hy;by_cases e:i=j
  ·subst e;have hlt:i<gs.size:=(Array.getElem?_eq_some_iff.1 hx).1;rw [Array.getElem?_setIfInBounds_self_of_lt (by simpa using hlt)] at hy;obtain rfl:=Option.some.inj hy;rw [Go.ConcN.upd_same];exact hq
  ·rw [Array.getElem?_setIfInBounds_ne e,Array.getElem?_map] at hy;obtain ⟨z,hz,rfl⟩:=Option.map_eq_some_iff.1 hy;have hqj:=B.old j z hj hz;rw [woken_quits hqj,Go.ConcN.upd_ne q k (Ne.symm e)];exact hqj
theorem Iw.awake{g:Goroutine}{h:GH}{gs:Array Goroutine}{w:World}{q:Nat->Nat}{t:Trace}(B:Iw P g h gs w q t)(hg:g.status=.running):∀x ∈ gs,awake x:=by
 intro x hx;obtain ⟨i,hi,rfl⟩:=Array.mem_iff_getElem.1 hx;rcases Nat.eq_zero_or_pos i with rfl | hpos
 ·have:gs[0]=g:=by have:=B.here;simpa [Array.getElem?_eq_getElem hi] using this
  rw [this];exact awake_of (.inl hg)
 ·exact awake_of ((B.old i _ hpos (Array.getElem?_eq_getElem hi)).status.elim .inl λx=>.inr (.inr x))
theorem SI{g:Goroutine}{h:GH}(hg:g.status=.running)
  (go:∀gs w w₀ sl sl₀ q t,Iw P g h gs w q t->stepT P (crowd gs w₀ sl₀)=runT P (crowd gs w sl) 0->Bp P (JS Post w.os w.output) (crowd gs w₀ sl₀) t):EJ P Post g h:=by
 have key:∀μ gs w sl q t,Go.ConcN.sumTo gs.size q=μ->Iw P g h gs w q t->Bp P (JS Post w.os w.output) (crowd gs w sl) t:=by
  intro μ
  induction μ using Nat.strongRecOn with
  | ind μ ih=>
   intro gs w sl q t hμ B;obtain ⟨i,x,d,sl',hi,hx,hst⟩:=crowd_pick (P:=P) (w:=w) (sl:=sl) (B.awake hg) ⟨0,g,B.here,hg⟩;rcases Nat.eq_zero_or_pos i with rfl | hpos
   ·have B':Iw P g h gs (w.at d) q t:=⟨B.here,B.old,B.fits,B.words,B.clean,B.low,B.num,B.known,B.chn⟩;exact go gs (w.at d) w sl' sl q t B' hst
   ·have hq:=B.old i x hpos hi;have hi0:(i==0)=false:=by simp;omega
    have hlt:i<gs.size:=(Array.getElem?_eq_some_iff.1 hi).1;cases hqi:q i with
    | zero=>rw [hqi] at hq;rw [show x.status=.finished from hq] at hx;cases hx
    | succ k=>
     rw [hqi] at hq;rcases hq with hf | ⟨_,x',hstp,hq'⟩
     ·rw [hf] at hx;cases hx
     have hrunT:=runT_crowd_go (P:=P) (sl:=sl') (i:=i) hi (by rw [hi0];exact hstp (w.at d));have hsz:((gs.map (woken P x x' (w.at d))).setIfInBounds i x').size=gs.size:=aD
     have hsum:Go.ConcN.sumTo gs.size (Go.ConcN.upd q i k)+(k+1)=Go.ConcN.sumTo gs.size q+k:=by
      have:=Go.ConcN.sumTo_upd q k id hlt
      simpa [hqi] using this
     refine Bp.step (hst.trans hrunT) ?_;have e:t++MemOp.ofEvents i x.frame.fn x.frame.place #[]=t:=by simp [MemOp.ofEvents]
     rw [e];exact ih (Go.ConcN.sumTo gs.size (Go.ConcN.upd q i k)) aA _ _ _ (Go.ConcN.upd q i k) _ (by rw [hsz]) (B.quit hg hpos hi hq')
 intro gs w sl q t B;exact key _ gs w sl q t rfl B
theorem LS:Tj P true (EJ P Post):=by
 intro g h hg hs;refine SI hg λgs w w₀ sl sl₀ q t B hm=>?_;obtain ⟨g',w',es,h',h1,h2,h3⟩:=hs w B.fits;have hrunT:=runT_crowd_go (P:=P) (sl:=sl) (i:=0) B.here (show stepG P (0==0) g w=_ from h1);refine Bp.step (hm.trans hrunT) (Bp.at h2.os h2.out (h3 _ _ _ q _ (B.step h2 _ _ _ λj x hj hx=>woken_quits (B.old j x hj hx))))
theorem Wg{g:Goroutine}{h:GH}(hg:g.status=.running)
  (hs:∀w,EO w h->∃v w' es h',stepG P true g w=.ended (.done v) w' es/\Bl h w es h' w'/\Post v w'):EJ P Post g h:=by
 refine SI hg λgs w w₀ sl sl₀ q t B hm=>?_;obtain ⟨v,w',es,h',h1,h2,h3⟩:=hs w B.fits;have hrunT:=runT_many_ended (P:=P) (sl:=sl) (i:=0) B.here (show stepG P (0==0) g w=_ from h1);have B':=B.step (g':=g) h2 g.frame.fn g.frame.place id λ_ _ _ _=>rfl;have hs1:=hm.trans hrunT;refine ⟨0,crowd gs w₀ sl₀,.done v,w',t++MemOp.ofEvents 0 g.frame.fn g.frame.place es,by simp [runNT,hs1],rfl,by simp [step,hs1],?_⟩;refine ⟨v,rfl,⟨h3,h2.os,h2.out⟩,B'.clean,?_,?_,?_⟩
 ·intro i g' hgi hg0 hc;obtain ⟨x,hx,_,_⟩:=hc;obtain ⟨p,z,hp,hz,hb⟩:=B'.known i x hx;refine ⟨p,by simp [Trace.g?,hp,hz],?_⟩;rcases hb with rfl | hb
  ·exfalso;apply hg0
   have:(t++MemOp.ofEvents 0 g.frame.fn g.frame.place es).g? i=some z.g:=by simp [Trace.g?,hp]
   rw [this] at hgi;cases hgi;exact hz
  ·exact hb
 ·refine ⟨λx hx=>?_,rfl⟩;obtain ⟨j,hj⟩:=List.mem_iff_getElem?.1 hx;rw [List.getElem?_drop] at hj;exact ⟨_,(B.old (1+j) x aA (by simpa [crowd] using hj)).leaves⟩
 ·intro j x hx hj;refine ⟨q j,?_⟩;rw [B'.words.deaf j];exact (B.old j x aA hx).hears _ _
end
end Go.Ns
namespace Go.Ns
open Go.Conc
inductive Wh where
 | leaf
 | node (f:World->Wh)
section
variable {P:Program}
def SJ(P:Program)(main:Bool)(Stop:Goroutine->GH->Prop):Wh->Goroutine->GH->Prop
 | .leaf,g,h=>Stop g h
 | .node f,g,h=>Stop g h\/(g.status=.running/\∀w,EO w h->∃g' w' es h',stepG P main g w=.go g' w' es/\Bl h w es h' w'/\SJ P main Stop (f w) g' h')
def Ee(P:Program)(main:Bool)(Stop:Goroutine->GH->Prop)(g:Goroutine)(h:GH):Prop:=∃T,SJ P main Stop T g h
theorem Ee.stop{main:Bool}{Stop:Goroutine->GH->Prop}{g:Goroutine}{h:GH}(x:Stop g h):Ee P main Stop g h:=⟨.leaf,x⟩
theorem MI(main:Bool)(Stop:Goroutine->GH->Prop):Tj P main (Ee P main Stop):=by
 intro g h hg hs;have hch:∀w,∃T,EO w h->∃g' w' es h',stepG P main g w=.go g' w' es/\Bl h w es h' w'/\SJ P main Stop T g' h':=by
  intro w;by_cases f:EO w h
  ·obtain ⟨g',w',es,h',h1,h2,T,h3⟩:=hs w f;exact ⟨T,λ_=>⟨g',w',es,h',h1,h2,h3⟩⟩
  ·exact ⟨.leaf,λx=>absurd x f⟩
 exact ⟨.node λw=>Classical.choose (hch w),.inr ⟨hg,λw f=>Classical.choose_spec (hch w) f⟩⟩
theorem Ee.elim{main:Bool}{K:Goroutine->GH->Prop}(hK:Tj P main K){g:Goroutine}{h:GH}(x:Ee P main K g h):K g h:=by
 obtain ⟨T,x⟩:=x
 induction T generalizing g h with
 | leaf=>exact x
 | node f ih=>
  rcases x with x | ⟨hg,x⟩
  ·exact x
  ·refine hK g h hg λw hw=>?_;obtain ⟨g',w',es,h',h1,h2,h3⟩:=x w hw;exact ⟨g',w',es,h',h1,h2,ih w h3⟩
def GH.Sub(h1 h:GH):Prop:=∀b p o,h1 b=some (p,o)->∃p0,h b=some (p0,o)/\(p=true->p0=true)
def GH.Apart(a b:GH):Prop:=∀r o x,a r=some (true,o)->b r=some x->False
structure GH.Split(h h1 h2:GH):Prop where
 left:h1.Sub h
 right:h2.Sub h
 one:h1.Apart h2
 two:h2.Apart h1
def GH.join(h h2:GH):GH:=λb=>match h b with
 | some x=>some x
 | none=>h2 b
theorem GH.Apart.mono{a b a' b':GH}(x:a.Apart b)(ha:a'.Sub a)(hb:b'.Sub b):a'.Apart b':=λr o y h1 h2=>by
 obtain ⟨p0,h3,h4⟩:=ha r true o h1;obtain rfl:=h4 rfl;obtain ⟨q0,h5,_⟩:=hb r y.1 y.2 h2;exact x r o _ h3 h5
theorem GH.Sub.refl(a:GH):a.Sub a:=λ_ p _ x=>⟨p,x,id⟩
theorem GH.Apart.join_right{a x y:GH}(h1:a.Apart x)(h2:a.Apart y):a.Apart (x.join y):=λr o z h3 h4=>by
 unfold GH.join at h4;cases hx:x r with
 | some u=>exact h1 r o u h3 hx
 | none=>rw [hx] at h4;exact h2 r o z h3 h4
theorem GH.Apart.join_left{a x y:GH}(h1:x.Apart a)(h2:y.Apart a):(x.join y).Apart a:=λr o z h3 h4=>by
 unfold GH.join at h3;cases hx:x r with
 | some u=>rw [hx] at h3;cases h3;exact h1 r o z hx h4
 | none=>rw [hx] at h3;exact h2 r o z h3 h4
theorem GH.join_some{x y:GH}{r:Nat}{p:Bool}{o:Obj}(h:x.join y r=some (p,o)):x r=some (p,o)\/y r=some (p,o):=by
 unfold GH.join at h;cases hx:x r with
 | some u=>rw [hx] at h;exact .inl h
 | none=>rw [hx] at h;exact .inr h
theorem EO.sub{w:World}{h h1:GH}(f:EO w h)(s:h1.Sub h):EO w h1:=λb p o x=>by
 obtain ⟨p0,y,_⟩:=s b p o x;exact f b p0 o y
theorem EO.join{w:World}{x y:GH}(f:EO w x)(g:EO w y):EO w (x.join y):=λb p o z=>(GH.join_some z).elim (f b p o) (g b p o)
def GH.Compat(h hm:GH):Prop:=∀b p o q o',h b=some (p,o)->hm b=some (q,o')->p=false/\q=false/\o=o'
theorem GH.compat{w:World}{h k hm:GH}(f:EO w h)(f':EO w k)(a:h.Apart k)(a':k.Apart h)(s:hm.Sub k):h.Compat hm:=λb p o q o' x y=>by
 obtain ⟨q0,z,hz⟩:=s b q o' y;have e1:=f b p o x;have e2:=f' b q0 o' z;rw [e1] at e2;refine ⟨?_,?_,by cases e2;rfl⟩
 ·cases p with
  | false=>rfl
  | true=>exact (a b o _ x z).elim
 ·cases q with
  | false=>rfl
  | true=>obtain rfl:=hz rfl;exact (a' b o' _ z x).elim
def GH.cut(h:GH)(r:Nat):GH:=λb=>if b=r then none else h b
inductive Cp (M:Type) where
 | send (c:Nat) (m:M) (next:Cp M)
 | recv (c:Nat) (next:Option M->Cp M)
 | close (c:Nat) (next:Cp M)
 | spawn (child next:Cp M)
 | make (next:Nat->Cp M)
 | stop
 | done
 | never
def Cp.isDone{M:Type}:Cp M->Prop
 | .done=>True
 | _=>False
variable {M:Type} {Rep:Nat->M->Value->GH->Prop} {KS:Goroutine->GH->Prop}
structure Tl(P:Program)(main:Bool)(Rep:Nat->M->Value->GH->Prop)(c:Nat)(m:M)(Next:Goroutine->GH->Prop)(fr:Frame)(cs:List Frame)(v z:Value)(hm h1 h:GH):Prop where
 step:∀w,EO w h->stepG P main (G fr cs) w=.comm (G fr cs) #[scase c v z] true .send w #[]
 split:GH.Split h h1 hm
 rep:Rep c m v hm
 next:Next (G (fr.finish undef) cs) h1
structure Lh(P:Program)(main:Bool)(Rep:Nat->M->Value->GH->Prop)(c:Nat)(Next:Option M->Goroutine->GH->Prop)(fr:Frame)(cs:List Frame)(z:Value)(ok:Bool)(h:GH):Prop where
 step:∀w,EO w h->stepG P main (G fr cs) w=.comm (G fr cs) #[rcase c z] true (.recv ok) w #[]
 some:∀m v hm,Rep c m v hm->h.Compat hm->Next (some m) (G (fr.finish (recvd ok v true)) cs) (h.join hm)
 none:Next none (G (fr.finish (recvd ok z false)) cs) h
structure ZF(P:Program)(main:Bool)(c:Nat)(Next:Goroutine->GH->Prop)(fr:Frame)(cs:List Frame)(fr':Frame)(cs':List Frame)(h:GH):Prop where
 step:∀w s r,EO w h->w.heap[c]? =some (.chan 0 #[] false s r false)->stepG P main (G fr cs) w=.go (G fr' cs') { w with heap:=w.heap.setIfInBounds c (.chan 0 #[] true s r false) } #[⟨.obj c,false,true⟩,⟨.obj c,true,true⟩]
 wake:mayWake P (G fr cs)=true
 next:Next (G fr' cs') h
structure Tm(P:Program)(main:Bool)(Child Next:Goroutine->GH->Prop)(fr:Frame)(cs:List Frame)(fr':Frame)(d:Deferred)(hc h1 h:GH):Prop where
 step:∀w,EO w h->stepG P main (G fr cs) w=.spawn (G fr' cs) (born P d) w #[]
 split:GH.Split h h1 hc
 next:Next (G fr' cs) h1
 child:Child (born P d) hc
def Fm(P:Program)(Rep:Nat->M->Value->GH->Prop)(KS:Goroutine->GH->Prop):Cp M->Bool->Goroutine->GH->Prop
 | .send c m nx,main=>Ee P main λg h=>∃fr cs v z hm h1,g=G fr cs/\Tl P main Rep c m (Fm P Rep KS nx main) fr cs v z hm h1 h
 | .recv c f,main=>Ee P main λg h=>∃fr cs z ok,g=G fr cs/\Lh P main Rep c (λo=>Fm P Rep KS (f o) main) fr cs z ok h
 | .close c nx,main=>Ee P main λg h=>∃fr cs fr' cs',g=G fr cs/\ZF P main c (Fm P Rep KS nx main) fr cs fr' cs' h
 | .spawn ch nx,main=>Ee P main λg h=>∃fr cs fr' d hc h1,g=G fr cs/\Tm P main (Fm P Rep KS ch false) (Fm P Rep KS nx main) fr cs fr' d hc h1 h
 | .make f,main=>Ee P main λg h=>g.status=.running/\∃c,h c=some (true,.chan 0 #[] false 0 0 false)/\Fm P Rep KS (f c) main g (h.cut c)
 | .stop,main=>Ee P main KS
 | .never,main=>Ee P main λg _=>g.status=.running
 | .done,_=>λg _=>∃n,QuitsIn P n g
def Ix(P:Program)(Rep:Nat->M->Value->GH->Prop)(KS:Goroutine->GH->Prop):Cp M->Bool->Goroutine->GH->Prop
 | .send c m nx,main=>λg h=>∃fr cs v z hm h1,g=G fr cs/\Tl P main Rep c m (Fm P Rep KS nx main) fr cs v z hm h1 h
 | .recv c f,main=>λg h=>∃fr cs z ok,g=G fr cs/\Lh P main Rep c (λo=>Fm P Rep KS (f o) main) fr cs z ok h
 | .close c nx,main=>λg h=>∃fr cs fr' cs',g=G fr cs/\ZF P main c (Fm P Rep KS nx main) fr cs fr' cs' h
 | .spawn ch nx,main=>λg h=>∃fr cs fr' d hc h1,g=G fr cs/\Tm P main (Fm P Rep KS ch false) (Fm P Rep KS nx main) fr cs fr' d hc h1 h
 | .make f,main=>λg h=>g.status=.running/\∃c,h c=some (true,.chan 0 #[] false 0 0 false)/\Fm P Rep KS (f c) main g (h.cut c)
 | .stop,_=>KS
 | .done,_=>λ_ _=>False
 | .never,_=>λg _=>g.status=.running
theorem HT{s:Cp M}{main:Bool}(hs:¬s.isDone):Fm P Rep KS s main=Ee P main (Ix P Rep KS s main):=by
 cases s <;> first | rfl | exact absurd trivial hs
inductive Iy where
 | low
 | leave (n:Nat)
 | walk (T:Wh)
inductive RLt:Iy->Iy->Prop
 | low (T:Wh):RLt .low (.walk T)
 | leave (n:Nat):RLt (.leave n) (.leave (n+1))
 | walk (f:World->Wh) (w:World):RLt (.walk (f w)) (.walk (.node f))
theorem rlt_wf(r:Iy):Acc RLt r:=by
 have hlow:Acc RLt .low:=⟨_,λy hy=>by cases hy⟩;cases r with
 | low=>exact hlow
 | leave n=>
  induction n with
  | zero=>exact ⟨_,λy hy=>by cases hy⟩
  | succ n ih=>exact ⟨_,λy hy=>by cases hy;exact ih⟩
 | walk T=>
  induction T with
  | leaf=>exact ⟨_,λy hy=>by cases hy;exact hlow⟩
  | node f ih=>exact ⟨_,λy hy=>by
    cases hy with
    | low=>exact hlow
    | walk f w=>exact ih w⟩
def Tn(n:Nat)(r' r:Nat->Iy):Prop:=∃i,i<n/\RLt (r' i) (r i)/\∀j,j<n->j≠i->r' j=r j
theorem ranks_wf(n:Nat):∀r,Acc (Tn n) r:=by
 induction n with
 | zero=>exact λr=>⟨_,λy ⟨i,hi,_⟩=>aA⟩
 | succ n hn=>
  have key:∀a:Iy,Acc RLt a->∀r,Acc (Tn n) r->r n=a->Acc (Tn (n+1)) r:=by
   intro a ha
   induction ha with
   | intro a _ ih=>
    intro r hr
    induction hr with
    | intro r hr' ih2=>
     intro e;refine ⟨_,λy ⟨i,hi,hlt,ho⟩=>?_⟩;rcases Nat.lt_or_ge i n with hin | hin
     ·exact ih2 y ⟨i,hin,hlt,λj hj hji=>ho j aA hji⟩ (by rw [ho n aA aA,e])
     ·obtain rfl:i=n:=aA
      exact ih (y i) (e▸hlt) y (hn y) rfl
  exact λr=>key (r n) (rlt_wf _) r (hn r) rfl
structure HU(M:Type) where
 n:Nat
 s:Nat->Cp M
 kn:Nat->Nat->Prop
 cl:Nat->Bool
 ck:Nat->Nat->Prop
def HU.meet(N:HU M)(i j:Nat)(si sj:Cp M):HU M:=
 { N with s:=λx=>if x=i then si else if x=j then sj else N.s x,kn:=λx y=>if x=i\/x=j then N.kn i y\/N.kn j y\/(y=i/\si.isDone)\/(y=j/\sj.isDone) else N.kn x y }
def HU.shut(N:HU M)(i c:Nat)(nx:Cp M):HU M:=
 { N with s:=λx=>if x=i then nx else N.s x,cl:=λx=>if x=c then true else N.cl x,ck:=λx y=>if x=c then N.kn i y\/(y=i/\nx.isDone) else N.ck x y }
def HU.hear(N:HU M)(j c:Nat)(nx:Cp M):HU M:=
 { N with s:=λx=>if x=j then nx else N.s x,kn:=λx y=>if x=j then N.kn j y\/N.ck c y else N.kn x y }
def HU.hire(N:HU M)(i:Nat)(ch nx:Cp M):HU M:=
 { N with n:=N.n+1,s:=λx=>if x=N.n then ch else if x=i then nx else N.s x,kn:=λx y=>if y=N.n then False else if x=N.n then N.kn i y else N.kn x y,ck:=λx y=>if y=N.n then False else N.ck x y }
def HU.mk'(N:HU M)(i c:Nat)(nx:Cp M):HU M:=
 { N with s:=λx=>if x=i then nx else N.s x,cl:=λx=>if x=c then false else N.cl x }
inductive JE:HU M->HU M->Prop
 | hire {N:HU M} {i:Nat} {ch nx:Cp M}:i<N.n->N.s i=.spawn ch nx->JE N (N.hire i ch nx)
 | meet {N:HU M} {i j c:Nat} {m:M} {nx:Cp M} {f:Option M->Cp M}:i<N.n->j<N.n->i≠j->N.s i=.send c m nx->N.s j=.recv c f->JE N (N.meet i j nx (f (some m)))
 | shut {N:HU M} {i c:Nat} {nx:Cp M}:i<N.n->N.s i=.close c nx->JE N (N.shut i c nx)
 | hear {N:HU M} {j c:Nat} {f:Option M->Cp M}:j<N.n->N.s j=.recv c f->N.cl c=true->JE N (N.hear j c (f none))
def KF(used:Nat->Prop)(cl:Nat->Bool)(i:Nat):Cp M->Prop
 | .send c _ _=>used c/\cl c=false
 | .recv c _=>used c
 | .close c _=>used c/\cl c=false
 | .spawn _ _=>True
 | .make _=>True
 | .stop=>False
 | .done=>i≠0
 | .never=>False
inductive Fp:(Nat->Prop)->HU M->Prop
 | stop (used:Nat->Prop) (N:HU M):0<N.n->N.s 0=.stop->(∀j,0<j->j<N.n->N.s j=.done/\N.kn 0 j)->Fp used N
 | step (used:Nat->Prop) (N:HU M):0<N.n->((∃N',JE N N')\/∃i f,i<N.n/\N.s i=.make f)->(∀i,i<N.n->KF used N.cl i (N.s i))->(∀N',JE N N'->Fp used N')->
   (∀i f c,i<N.n->N.s i=.make f->¬used c->Fp (λx=>used x\/x=c) (N.mk' i c (f c)))->Fp used N
theorem Fp.plain{used:Nat->Prop}(N:HU M)(h0:0<N.n)(he:∃N',JE N N')(hf:∀i,i<N.n->KF used N.cl i (N.s i))(hs:∀N',JE N N'->Fp used N')(nm:∀i f,i<N.n->N.s i≠.make f):Fp used N:=
 .step used N h0 (.inl he) hf hs λi f _ hi e _=>absurd e (nm i f hi)
theorem Fp.sendOpen{used:Nat->Prop}{N:HU M}(h:Fp used N){j c:Nat}{m:M}{nx:Cp M}(hj:j<N.n)(hs:N.s j=.send c m nx):N.cl c=false:=by
 cases h with
 | stop _ _ h0 h1 h2=>
  rcases Nat.eq_zero_or_pos j with rfl | hp
  ·rw [hs] at h1;cases h1
  ·rw [(h2 j hp hj).1] at hs;cases hs
 | step _ _ _ _ h2 _ _=>have:=h2 j hj;rw [hs] at this;exact this.2
end
end Go.Ns
namespace Go.Ns
open Go.Conc
section
theorem Uy{t u:Trace}{k:Nat}{x:MemOp}(h:u[k]? =some x):(t++u)[t.size+k]? =some x:=by
 rw [Array.getElem?_append_right aA];simpa using h
theorem JT{t u:Trace}{g k q:Nat}{y:MemOp}(hk:Knows t g k)(hq:t.size<=q)(hy:(t++u)[q]? =some y)(hg:y.g=g):HappensBefore (t++u) k q:=hk.hb_new hq hy hg
theorem PE{t:Trace}{k q r g:Nat}{z:MemOp}(h1:HappensBefore t k q)(h2:HappensBefore t q r)(hz:t[r]? =some z)(hg:z.g=g):Knows t g k:=⟨r,z,hz,hg,.inr (h1.trans h2)⟩
theorem Kz{t:Trace}(hw:Wordless t){i j:Nat}(h:Notices t i j){x y:MemOp}(hi:t[i]? =some x)(hj:t[j]? =some y):HappensBefore t i j:=.single (.inr ⟨h,hw.heard hi,hw.heard hj⟩)
theorem Zv{t:Trace}{i j c s:Nat}{f1 f2 f3 f4:FuncId}{p1 p2 p3 p4:String}{u:Trace}
  (hu:u=#[{ g:=i,fn:=f1,pos:=p1,act:=.send c s },{ g:=j,fn:=f2,pos:=p2,act:=.recv c s 0 },{ g:=i,fn:=f3,pos:=p3,act:=.sendDone c s },{ g:=j,fn:=f4,pos:=p4,act:=.recvDone c s }])
  (hw:Wordless (t++u)) {k:Nat} (hk:Knows t i k\/Knows t j k):Knows (t++u) i k/\Knows (t++u) j k:=by
 subst hu;have a0:=Uy (t:=t) (u:=#[{ g:=i,fn:=f1,pos:=p1,act:=.send c s },{ g:=j,fn:=f2,pos:=p2,act:=.recv c s 0 },{ g:=i,fn:=f3,pos:=p3,act:=.sendDone c s },{ g:=j,fn:=f4,pos:=p4,act:=.recvDone c s }]) (k:=0) rfl;have a1:=Uy (t:=t) (u:=#[{ g:=i,fn:=f1,pos:=p1,act:=.send c s },{ g:=j,fn:=f2,pos:=p2,act:=.recv c s 0 },{ g:=i,fn:=f3,pos:=p3,act:=.sendDone c s },{ g:=j,fn:=f4,pos:=p4,act:=.recvDone c s }]) (k:=1) rfl;have a2:=Uy (t:=t) (u:=#[{ g:=i,fn:=f1,pos:=p1,act:=.send c s },{ g:=j,fn:=f2,pos:=p2,act:=.recv c s 0 },{ g:=i,fn:=f3,pos:=p3,act:=.sendDone c s },{ g:=j,fn:=f4,pos:=p4,act:=.recvDone c s }]) (k:=2) rfl;have a3:=Uy (t:=t) (u:=#[{ g:=i,fn:=f1,pos:=p1,act:=.send c s },{ g:=j,fn:=f2,pos:=p2,act:=.recv c s 0 },{ g:=i,fn:=f3,pos:=p3,act:=.sendDone c s },{ g:=j,fn:=f4,pos:=p4,act:=.recvDone c s }]) (k:=3) rfl;refine ⟨?_,?_⟩
 ·rcases hk with hk | hk
  ·exact hk.app _
  ·refine PE (JT hk aA a1 rfl) (Kz hw (.room (c:=c) (k:=s) (cap:=0) (act?_of a1) ?_) a1 a2) a2 rfl;exact act?_of a2
 ·rcases hk with hk | hk
  ·exact PE (JT hk aA a0 rfl) (Kz hw (.handOver (c:=c) (k:=s) (act?_of a0) (act?_of a3)) a0 a3) a3 rfl
  ·exact hk.app _
theorem TI.redist{t u:Trace}{n n' B:Nat}{hs hs':Nat->GH}(T:TI t n B hs)(hn:∀op ∈ u,op.act.touch? =none)(hw:Wordless u)(hg:∀op ∈ t++u,op.g<n')
  (src:∀j b p o,j<n'->hs' j b=some (p,o)->∃j0,j0<n/\(∃p0,hs j0 b=some (p0,o)/\(p=true->p0=true))/\∀k,Knows t j0 k->Knows (t++u) j k):TI (t++u) n' B hs':=by
 have old:∀k a,touchAt (t++u) k=some a->touchAt t k=some a:=λk a hk=>by
  rcases Bd hk with ⟨_,hk⟩ | ⟨_,op,hop,_,ha⟩
  ·exact hk
  ·rw [hn op hop] at ha;cases ha
 refine ⟨T.words.append hw,?_,λk a b hk=>T.low k a b (old k a hk),hg,?_,?_,?_⟩
 ·rintro said ⟨i,j,hij,⟨a,b,ha,hb,hc⟩,n1,n2⟩;refine T.clean said ⟨i,j,hij,⟨a,b,old i a ha,old j b hb,hc⟩,λx=>n1 (hb_app u x),λx=>n2 (hb_app u x)⟩
 ·intro i b o k a hi hb hk hl;obtain ⟨j0,hj0,⟨p0,x,y⟩,z⟩:=src i b true o hi hb;obtain rfl:=y rfl;exact z k (T.own j0 b o k a hj0 x (old k a hk) hl)
 ·intro i b o k a hi hb hk hl hw';obtain ⟨j0,hj0,⟨p0,x,y⟩,z⟩:=src i b false o hi hb;exact z k (T.knows hj0 x (old k a hk) hl (.inr hw'))
 ·intro i b p o k a hi hb hc hk hl;obtain ⟨j0,hj0,⟨p0,x,y⟩,z⟩:=src i b p o hi hb;exact T.chn j0 b p0 o k a hj0 x hc (old k a hk) hl
theorem TI.atomic{t u:Trace}{n B c g:Nat}{hs:Nat->GH}(T:TI t n B hs)(hg:g<n)(hu:∀op ∈ u,op.g=g)(ha:∀op ∈ u,∀a,op.act.touch? =some a->C5 a.loc=some c/\a.kind=.atomic)(hw:Wordless u)
  (hc:c<B) (free:∀i,i<n->hs i c=none) (atom:∀k a,touchAt t k=some a->C5 a.loc=some c->a.kind=.atomic):TI (t++u) n B hs:=by
 refine ⟨T.words.append hw,?_,?_,?_,?_,?_,?_⟩
 ·intro said;refine noRace_append (T.clean said) hu λk a hk op hop b hb hcf=>?_;obtain ⟨h1,h2⟩:=ha op hop b hb;have h3:=atom k a hk (by rw [hcf.1];exact h1);obtain ⟨_,_,_,h4⟩:=hcf;rw [h2,h3] at h4;rcases h4 with h4 | h4 | ⟨_,h4,_⟩ <;> cases h4
 ·intro k a b hk hl;rcases Bd hk with ⟨_,hk⟩ | ⟨_,op,hop,_,hx⟩
  ·exact T.low k a b hk hl
  ·rw [(ha op hop a hx).1] at hl;cases hl;exact hc
 ·intro op hop;rcases Array.mem_append.1 hop with x | x
  ·exact T.num op x
  ·rw [hu op x];exact hg
 ·intro i b o k a hi hb hk hl;rcases Bd hk with ⟨_,hk⟩ | ⟨_,op,hop,_,hx⟩
  ·exact (T.own i b o k a hi hb hk hl).app _
  ·rw [(ha op hop a hx).1] at hl;cases hl;rw [free i hi] at hb;cases hb
 ·intro i b o k a hi hb hk hl hwr;rcases Bd hk with ⟨_,hk⟩ | ⟨_,op,hop,_,hx⟩
  ·exact (T.ro i b o k a hi hb hk hl hwr).app _
  ·rw [(ha op hop a hx).1] at hl;cases hl;rw [free i hi] at hb;cases hb
 ·intro i b p o k a hi hb hc' hk hl;rcases Bd hk with ⟨_,hk⟩ | ⟨_,op,hop,_,hx⟩
  ·exact T.chn i b p o k a hi hb hc' hk hl
  ·rw [(ha op hop a hx).1] at hl;cases hl;rw [free i hi] at hb;cases hb
theorem TI.raise{t:Trace}{n B B':Nat}{hs:Nat->GH}(T:TI t n B hs)(h:B<=B'):TI t n B' hs:=
 { T with low:=λk a b hk hl=>Nat.lt_of_lt_of_le (T.low k a b hk hl) h }
end
end Go.Ns
namespace Go.Ns
open Go.Conc
section
variable {P:Program} {M:Type} {Rep:Nat->M->Value->GH->Prop} {KS:Goroutine->GH->Prop}
inductive O2 (P:Program) (Rep:Nat->M->Value->GH->Prop) (KS:Goroutine->GH->Prop) (s:Cp M) (cl:Nat->Bool) (main:Bool) (g:Goroutine) (h:GH):Iy->Prop
 | walk (T:Wh):¬s.isDone->SJ P main (Ix P Rep KS s main) T g h->O2 P Rep KS s cl main g h (.walk T)
 | leave (k:Nat):s=.done->QuitsIn P k g->O2 P Rep KS s cl main g h (.leave k)
 | psend {c:Nat} {m:M} {nx:Cp M} {fr:Frame} {cs:List Frame} {v z:Value} {hm h1:GH}:s=.send c m nx->cl c=false->g=parked (G fr cs) #[scase c v z] .send->Tl P main Rep c m (Fm P Rep KS nx main) fr cs v z hm h1 h->O2 P Rep KS s cl main g h .low
 | precv {c:Nat} {f:Option M->Cp M} {fr:Frame} {cs:List Frame} {z:Value} {ok:Bool}:s=.recv c f->cl c=false->g=parked (G fr cs) #[rcase c z] (.recv ok)->Lh P main Rep c (λo=>Fm P Rep KS (f o) main) fr cs z ok h->O2 P Rep KS s cl main g h .low
 | wokn {c:Nat} {f:Option M->Cp M} {fr:Frame} {cs:List Frame} {z:Value} {ok:Bool}:s=.recv c f->cl c=true->g={ parked (G fr cs) #[rcase c z] (.recv ok) with status:=.running }->Lh P main Rep c (λo=>Fm P Rep KS (f o) main) fr cs z ok h->O2 P Rep KS s cl main g h .low
theorem HV{s:Cp M}{cl:Nat->Bool}{main:Bool}{g:Goroutine}{h:GH}(x:Fm P Rep KS s main g h):∃r,O2 P Rep KS s cl main g h r:=by
 by_cases hs:s.isDone
 ·cases s <;> first | exact hs.elim | skip
  obtain ⟨n,hn⟩:=x;exact ⟨_,.leave n rfl hn⟩
 ·rw [HT hs] at x;obtain ⟨T,hT⟩:=x;exact ⟨_,.walk T hs hT⟩
theorem MJ{s:Cp M}{main:Bool}{g:Goroutine}{h:GH}(hs:¬s.isDone)(h0:s≠.stop)(x:Ix P Rep KS s main g h):g.status=.running:=by
 cases s with
 | send c m nx=>obtain ⟨fr,cs,_,_,_,_,rfl,_⟩:=x;rfl
 | recv c f=>obtain ⟨fr,cs,_,_,rfl,_⟩:=x;rfl
 | close c nx=>obtain ⟨fr,cs,_,_,rfl,_⟩:=x;rfl
 | spawn ch nx=>obtain ⟨fr,cs,_,_,_,_,rfl,_⟩:=x;rfl
 | make f=>exact x.1
 | stop=>exact absurd rfl h0
 | done=>exact absurd trivial hs
 | never=>exact x
theorem Bv{s:Cp M}{main:Bool}{g:Goroutine}{h:GH}{T:Wh}(hs:¬s.isDone)(h0:s≠.stop)(x:SJ P main (Ix P Rep KS s main) T g h):g.status=.running:=by
 cases T with
 | leaf=>exact MJ hs h0 x
 | node f=>exact x.elim (MJ hs h0) (·.1)
theorem O2.status{s:Cp M}{cl:Nat->Bool}{main:Bool}{g:Goroutine}{h:GH}{r:Iy}(x:O2 P Rep KS s cl main g h r)(h0:s≠.stop):g.status=.running\/g.status=.blocked\/g.status=.finished:=by
 cases x with
 | walk T hs hT=>exact .inl (Bv hs h0 hT)
 | leave k hs hq=>exact hq.status.elim .inl λx=>.inr (.inr x)
 | psend _ _ hg _=>rw [hg];exact .inr (.inl rfl)
 | precv _ _ hg _=>rw [hg];exact .inr (.inl rfl)
 | wokn _ _ hg _=>rw [hg];exact .inl rfl
theorem O2.keep{s:Cp M}{cl:Nat->Bool}{main:Bool}{g:Goroutine}{h:GH}{r:Iy}(x:O2 P Rep KS s cl main g h r)(h0:s≠.stop){w:World}{used:Nat->Prop}{i:Nat}(hf:KF used cl i s)
  (hc:∀c,used c->∃n,w.heap[c]? =some (.chan 0 #[] (cl c) n n false)) (a a':Goroutine):woken P a a' w g=g:=by
 cases x with
 | walk T hs hT=>exact woken_running (Bv hs h0 hT)
 | leave k hs hq=>exact woken_quits hq
 | psend hs hcl hg _=>
  subst hs;obtain ⟨n,hn⟩:=hc _ hf.1;rw [hcl] at hn;rw [hg];exact woken_send_open a a' hn
 | precv hs hcl hg _=>
  subst hs;obtain ⟨n,hn⟩:=hc _ hf;rw [hcl] at hn;rw [hg];exact woken_recv_open a a' hn
 | wokn _ _ hg _=>rw [hg];exact woken_running rfl
structure Fq(P:Program)(Rep:Nat->M->Value->GH->Prop)(KS:Goroutine->GH->Prop)(used:Nat->Prop)(N:HU M)(gs:Array Goroutine)(w:World)(t:Trace)(hs:Nat->GH)(r:Nat->Iy):Prop where
 size:gs.size=N.n
 apart:HS w N.n hs
 tr:TI t N.n w.heap.size hs
 sit:∀i g,gs[i]? =some g->O2 P Rep KS (N.s i) N.cl (i==0) g (hs i) (r i)
 chans:∀c,used c->∃s,w.heap[c]? =some (.chan 0 #[] (N.cl c) s s false)
 free:∀c i,used c->i<N.n->hs i c=none
 atom:∀c k a,used c->touchAt t k=some a->C5 a.loc=some c->a.kind=.atomic
 nomeet:∀(i j:Nat)(gi gj:Goroutine)(c:Nat)(v z:Value)(sh:CommShape)(z':Value)(sh':CommShape),gs[i]? =some (parked gi #[scase c v z] sh)->gs[j]? =some (parked gj #[rcase c z'] sh')->False
 kn:∀i j,i<N.n->j<N.n->N.kn i j->N.s j=.done/\∀k a,touchAt t k=some a->t.g? k=some j->Knows t i k
 ck:∀c,used c->N.cl c=true->∃p op,t[p]? =some op/\op.act=.close c/\∀x,x<N.n->N.ck c x->N.s x=.done/\∀k a,touchAt t k=some a->t.g? k=some x->Before t k p
variable {used:Nat->Prop} {N:HU M} {gs:Array Goroutine} {w:World} {t:Trace} {hs:Nat->GH} {r:Nat->Iy}
theorem Fq.at(I:Fq P Rep KS used N gs w t hs r)(d:Nat):Fq P Rep KS used N gs (w.at d) t hs r:=
 { I with apart:=I.apart.at d,tr:=I.tr,chans:=I.chans }
theorem g?_app{t u:Trace}{k g:Nat}(h:(t++u).g? k=some g)(hk:k<t.size):t.g? k=some g:=by
 simp only [Trace.g?,getElem?_append_old hk] at h ⊢;exact h
theorem kn_app{u:Trace}{x y g:Nat}(hk:∀k a,touchAt t k=some a->t.g? k=some y->Knows t x k)(hu:∀op ∈ u,op.g=g\/op.act.touch? =none)(hy:y≠g) :
  ∀k a,touchAt (t++u) k=some a->(t++u).g? k=some y->Knows (t++u) x k:=by
 intro k a ha hg;rcases Bd ha with ⟨hlt,ha⟩ | ⟨_,op,hop,h1,h2⟩
 ·exact (hk k a ha (g?_app hg hlt)).app _
 ·rcases hu op hop with e | e
  ·have:(t++u).g? k=some op.g:=by simp [Trace.g?,h1]
   rw [this] at hg;cases hg;exact absurd e hy
  ·rw [e] at h2;cases h2
theorem ck_app{u:Trace}{x g p:Nat}(hk:∀k a,touchAt t k=some a->t.g? k=some x->Before t k p)(hu:∀op ∈ u,op.g=g\/op.act.touch? =none)(hx:x≠g) :
  ∀k a,touchAt (t++u) k=some a->(t++u).g? k=some x->Before (t++u) k p:=by
 intro k a ha hg;rcases Bd ha with ⟨hlt,ha⟩ | ⟨_,op,hop,h1,h2⟩
 ·exact (hk k a ha (g?_app hg hlt)).app _
 ·rcases hu op hop with e | e
  ·have:(t++u).g? k=some op.g:=by simp [Trace.g?,h1]
   rw [this] at hg;cases hg;exact absurd e hx
  ·rw [e] at h2;cases h2
def Ei(r:Nat->Iy)(i:Nat)(x:Iy):Nat->Iy:=λj=>if j=i then x else r j
theorem Du{gs:Array Goroutine}{i:Nat}{g':Goroutine}{f:Goroutine->Goroutine}{j:Nat}{x:Goroutine}(h:((gs.map f).setIfInBounds i g')[j]? =some x) :
  (j=i/\x=g')\/(j≠i/\∃y,gs[j]? =some y/\x=f y):=by
 by_cases e:i=j
 ·subst e;by_cases hlt:i<gs.size
  ·rw [Array.getElem?_setIfInBounds_self_of_lt (by simpa using hlt)] at h;exact .inl ⟨rfl,(Option.some.inj h).symm⟩
  ·rw [Array.getElem?_eq_none (by simp;omega)] at h;cases h
 ·rw [Array.getElem?_setIfInBounds_ne e,Array.getElem?_map] at h;obtain ⟨y,hy,rfl⟩:=Option.map_eq_some_iff.1 h;exact .inr ⟨λx=>e x.symm,y,hy,rfl⟩
theorem E7{gs:Array Goroutine}{i:Nat}{g':Goroutine}{j:Nat}{x:Goroutine}(h:(gs.setIfInBounds i g')[j]? =some x):(j=i/\x=g')\/(j≠i/\gs[j]? =some x):=by
 have:((gs.map id).setIfInBounds i g')[j]? =some x:=by simpa using h
 rcases Du this with x | ⟨h1,y,h2,rfl⟩
 ·exact .inl x
 ·exact .inr ⟨h1,h2⟩
theorem Fq.step(I:Fq P Rep KS used N gs w t hs r)(hf:∀i,i<N.n->KF used N.cl i (N.s i)){i:Nat}{g g':Goroutine}{w':World}{es:Array Event}{h':GH}{x:Iy}(hi:gs[i]? =some g)(hnd:¬(N.s i).isDone)
  (s:Bl (hs i) w es h' w') (hg':g'.status=.running) (hx:O2 P Rep KS (N.s i) N.cl (i==0) g' h' x) (fn:FuncId) (pos:String) :
  Fq P Rep KS used N ((gs.map (woken P g g' w')).setIfInBounds i g') w' (t++MemOp.ofEvents i fn pos es) (Lg hs i h') (Ei r i x):=by
 have hlt:i<N.n:=by rw [<-I.size];exact (Array.getElem?_eq_some_iff.1 hi).1
 have hch:∀c,used c->∃s,w'.heap[c]? =some (.chan 0 #[] (N.cl c) s s false):=λc hc=>by
  obtain ⟨n,hn⟩:=I.chans c hc;have hcl:c<w.heap.size:=(Array.getElem?_eq_some_iff.1 hn).1;refine ⟨n,?_⟩;rw [s.frame c hcl (λo y=>by rw [I.free c i hc hlt] at y;cases y)];exact hn
 have hstop:∀j,j<N.n->N.s j≠.stop:=λj hj e=>by have:=hf j hj;rw [e] at this;exact this
 have hu:∀op ∈ MemOp.ofEvents i fn pos es,op.g=i\/op.act.touch? =none:=λop hop=>by obtain ⟨e,_,rfl⟩:=Go.Conc.mem_ofEvents hop;exact .inl rfl
 have hkeep:∀j y,j≠i->gs[j]? =some y->woken P g g' w' y=y:=λj y _ hj=>by
  have hjl:j<N.n:=by rw [<-I.size];exact (Array.getElem?_eq_some_iff.1 hj).1
  exact (I.sit j y hj).keep (hstop j hjl) (hf j hjl) hch g g'
 refine ⟨by simpa using I.size,I.apart.step hlt s,I.tr.step I.apart hlt s fn pos,?_,hch,?_,?_,?_,?_,?_⟩
 ·intro j y hy;rcases Du hy with ⟨rfl,rfl⟩ | ⟨hne,y',hy',rfl⟩
  ·rw [FT,Ei,if_pos rfl];exact hx
  ·rw [hkeep j y' hne hy',Hw hs h' hne,Ei,if_neg hne];exact I.sit j y' hy'
 ·intro c j hc hj;by_cases e:j=i
  ·subst e;rw [FT];cases hq:h' c with
   | none=>rfl
   | some y=>
    obtain ⟨p,o⟩:=y;obtain ⟨n,hn⟩:=I.chans c hc;have hcl:c<w.heap.size:=(Array.getElem?_eq_some_iff.1 hn).1;cases p with
    | true=>
     rcases s.own c o hq with ⟨o',z⟩ | z
     ·rw [I.free c j hc hj] at z;cases z
     ·omega
    | false=>have:=s.ro c o hq;rw [I.free c j hc hj] at this;cases this
  ·rw [Hw hs h' e];exact I.free c j hc hj
 ·intro c k a hc hk hl;rcases Bd hk with ⟨_,hk⟩ | ⟨_,op,hop,_,ha⟩
  ·exact I.atom c k a hc hk hl
  ·obtain ⟨e,he,rfl⟩:=Go.Conc.mem_ofEvents hop;have hev:Uv (hs i) w.heap.size e:=by
    rcases s.evs e he with h0 | h0
    ·exact h0
    ·rw [h0] at ha;cases ha
   simp only [(ND hev).2,Option.some.injEq] at ha;subst ha;obtain ⟨b,hb,hop'⟩:=MH hev;simp only at hl;rw [hl] at hb;cases hb;obtain ⟨n,hn⟩:=I.chans c hc;have hcl:c<w.heap.size:=(Array.getElem?_eq_some_iff.1 hn).1;rcases hop' with ⟨p,o,z,_⟩ | z
   ·rw [I.free c i hc hlt] at z;cases z
   ·omega
 ·intro a b ga gb c v z sh z' sh' h1 h2;have hpark:∀(k:Nat)(y g0:Goroutine)(cs:Array CommCase)(sh:CommShape),y=parked g0 cs sh->((gs.map (woken P g g' w')).setIfInBounds i g')[k]? =some y->gs[k]? =some y:=by
   intro k y g0 cs sh he hk;rcases Du hk with ⟨rfl,rfl⟩ | ⟨hne,y',hy',rfl⟩
   ·rw [he] at hg';cases hg'
   ·rw [hkeep k y' hne hy'];exact hy'
  exact I.nomeet a b ga gb c v z sh z' sh' (hpark a _ _ _ _ rfl h1) (hpark b _ _ _ _ rfl h2)
 ·intro a b ha hb hk;obtain ⟨h1,h2⟩:=I.kn a b ha hb hk;exact ⟨h1,kn_app h2 hu (λe=>hnd (by rw [<-e,h1];trivial))⟩
 ·intro c hc hcl;obtain ⟨p,op,h1,h2,h3⟩:=I.ck c hc hcl;refine ⟨p,op,by rw [getElem?_append_old (lt_size_of_getElem? h1)];exact h1,h2,λy hy hk=>?_⟩;obtain ⟨h4,h5⟩:=h3 y hy hk;exact ⟨h4,ck_app h5 hu (λe=>hnd (by rw [<-e,h4];trivial))⟩
theorem Fq.quit(I:Fq P Rep KS used N gs w t hs r)(hf:∀i,i<N.n->KF used N.cl i (N.s i)){i k:Nat}{g g':Goroutine}(hi:gs[i]? =some g)(hd:N.s i=.done)(hq:QuitsIn P k g') :
  Fq P Rep KS used N ((gs.map (woken P g g' w)).setIfInBounds i g') w t hs (Ei r i (.leave k)):=by
 have hstop:∀j,j<N.n->N.s j≠.stop:=λj hj e=>by have:=hf j hj;rw [e] at this;exact this
 have hkeep:∀j y,j≠i->gs[j]? =some y->woken P g g' w y=y:=λj y _ hj=>by
  have hjl:j<N.n:=by rw [<-I.size];exact (Array.getElem?_eq_some_iff.1 hj).1
  exact (I.sit j y hj).keep (hstop j hjl) (hf j hjl) I.chans g g'
 refine ⟨by simpa using I.size,I.apart,I.tr,?_,I.chans,I.free,I.atom,?_,I.kn,I.ck⟩
 ·intro j y hy;rcases Du hy with ⟨rfl,rfl⟩ | ⟨hne,y',hy',rfl⟩
  ·rw [Ei,if_pos rfl];exact .leave k hd hq
  ·rw [hkeep j y' hne hy',Ei,if_neg hne];exact I.sit j y' hy'
 ·intro a b ga gb c v z sh z' sh' h1 h2;have hpark:∀(k:Nat)(y g0:Goroutine)(cs:Array CommCase)(sh:CommShape),y=parked g0 cs sh->((gs.map (woken P g g' w)).setIfInBounds i g')[k]? =some y->gs[k]? =some y:=by
   intro k y g0 cs sh he hk;rcases Du hk with ⟨rfl,rfl⟩ | ⟨hne,y',hy',rfl⟩
   ·rw [he] at hq;rcases hq.status with h | h <;> cases h
   ·rw [hkeep k y' hne hy'];exact hy'
  exact I.nomeet a b ga gb c v z sh z' sh' (hpark a _ _ _ _ rfl h1) (hpark b _ _ _ _ rfl h2)
end
end Go.Ns
namespace Go.Ns
open Go.Conc
section
variable {P:Program} {M:Type} {Rep:Nat->M->Value->GH->Prop} {KS:Goroutine->GH->Prop}
variable {used:Nat->Prop} {N:HU M} {gs:Array Goroutine} {w:World} {t:Trace} {hs:Nat->GH} {r:Nat->Iy}
theorem IC{a b:Goroutine}{c c':Nat}{z z' v:Value}{sh sh':CommShape}(h:parked a #[rcase c z] sh=parked b #[scase c' v z'] sh'):False:=by
 simp [parked,rcase,scase] at h
theorem SK{a b:Goroutine}{c c':Nat}{z z':Value}{sh sh':CommShape}(h:parked a #[rcase c z] sh=parked b #[rcase c' z'] sh'):a.frame=b.frame/\a.callers=b.callers/\a.dying=b.dying/\c=c'/\z=z'/\sh=sh':=by
 simp only [parked,Goroutine.mk.injEq,rcase,Option.some.injEq,Prod.mk.injEq] at h;obtain ⟨h1,h2,_,h3,h4,h5⟩:=h;simp at h4;exact ⟨h1,h2,h3,h4.1,h4.2,h5⟩
theorem SL{a b:Goroutine}{c c':Nat}{v v' z z':Value}{sh sh':CommShape}(h:parked a #[scase c v z] sh=parked b #[scase c' v' z'] sh'):a.frame=b.frame/\a.callers=b.callers/\a.dying=b.dying/\c=c'/\v=v'/\z=z'/\sh=sh':=by
 simp only [parked,Goroutine.mk.injEq,scase,Option.some.injEq,Prod.mk.injEq] at h;obtain ⟨h1,h2,_,h3,h4,h5⟩:=h;simp at h4;exact ⟨h1,h2,h3,h4.1,h4.2.1,h4.2.2,h5⟩
theorem SM{g:Goroutine}{fr:Frame}{cs:List Frame}(h1:g.frame=fr)(h2:g.callers=cs)(h3:g.dying=none)(v:Value):Go.Conc.served g v=G (fr.finish v) cs:=by
 simp [Go.Conc.served,G,h1,h2,h3]
theorem SN{h:GH}{c:Nat}{o:Obj}{d:Nat}(f:EO w h)(hc:h c=none):EO { w.at d with heap:=w.heap.setIfInBounds c o } h:=λb p x hb=>by
 have hne:c≠b:=λe=>by subst e;rw [hc] at hb;cases hb
 show (w.heap.setIfInBounds c o)[b]? =_;rw [Array.getElem?_setIfInBounds_ne hne];exact f b p x hb
theorem Zw{cl:Nat->Bool}(hc:∀c,used c->∃s,w.heap[c]? =some (.chan 0 #[] (cl c) s s false)){c s d:Nat}{b:Bool}(hu:used c) :
  ∀c',used c'->∃n,(({ w.at d with heap:=w.heap.setIfInBounds c (.chan 0 #[] b s s false) }:World)).heap[c']? =some (.chan 0 #[] (if c'=c then b else cl c') n n false):=by
 intro c' hc'
 show∃n,(w.heap.setIfInBounds c (.chan 0 #[] b s s false))[c']? =_
 by_cases e:c'=c
 ·subst e;obtain ⟨n,hn⟩:=hc c' hc';have hlt:c'<w.heap.size:=(Array.getElem?_eq_some_iff.1 hn).1;rw [if_pos rfl];exact ⟨s,by simp [hlt]⟩
 ·rw [if_neg e,Array.getElem?_setIfInBounds_ne (λx=>e x.symm)];exact hc c' hc'
theorem Fq.park(I:Fq P Rep KS used N gs w t hs r){i:Nat}{g:Goroutine}(hi:i<N.n){x:Goroutine}(hx:x=parked g #[] .send\/True)(hsit:O2 P Rep KS (N.s i) N.cl (i==0) x (hs i) .low)
  (hno:∀(j:Nat)(gj:Goroutine),gs[j]? =some gj->(∀g0 c v z sh g1 z' sh',x=parked g0 #[scase c v z] sh->gj=parked g1 #[rcase c z'] sh'->False)/\(∀g0 c v z sh g1 z' sh',gj=parked g0 #[scase c v z] sh->x=parked g1 #[rcase c z'] sh'->False)) :
  Fq P Rep KS used N (gs.setIfInBounds i x) w t hs (Ei r i .low):=by
 refine ⟨by simpa using I.size,I.apart,I.tr,?_,I.chans,I.free,I.atom,?_,I.kn,I.ck⟩
 ·intro j y hy;rcases E7 hy with ⟨rfl,rfl⟩ | ⟨hne,hy'⟩
  ·rw [Ei,if_pos rfl];exact hsit
  ·rw [Ei,if_neg hne];exact I.sit j y hy'
 ·intro a b ga gb c v z sh z' sh' h1 h2;rcases E7 h1 with ⟨e1,e2⟩ | ⟨e1,e2⟩
  ·rcases E7 h2 with ⟨e3,e4⟩ | ⟨e3,e4⟩
   ·rw [<-e4] at e2;exact IC e2.symm
   ·exact (hno b _ e4).1 _ _ _ _ _ _ _ _ e2.symm rfl
  ·rcases E7 h2 with ⟨e3,e4⟩ | ⟨e3,e4⟩
   ·exact (hno a _ e2).2 _ _ _ _ _ _ _ _ rfl e4.symm
   ·exact I.nomeet a b ga gb c v z sh z' sh' e2 e4
theorem Fq.meet(I:Fq P Rep KS used N gs w t hs r){i j c s d:Nat}{m:M}{nx:Cp M}{f:Option M->Cp M}(hi:i<N.n)(hj:j<N.n)(hij:i≠j)(hsi:N.s i=.send c m nx)(hsj:N.s j=.recv c f)(hu:used c)
  (hcl:N.cl c=false)
  {fr:Frame} {cs:List Frame} {v z:Value} {hm h1:GH} (A:Tl P (i==0) Rep c m (Fm P Rep KS nx (i==0)) fr cs v z hm h1 (hs i))
  {fr':Frame} {cs':List Frame} {z':Value} {ok:Bool} (B:Lh P (j==0) Rep c (λo=>Fm P Rep KS (f o) (j==0)) fr' cs' z' ok (hs j))
  {gs':Array Goroutine} (gi:gs'[i]? =some (G (fr.finish undef) cs)) (gj:gs'[j]? =some (G (fr'.finish (recvd ok v true)) cs')) (gk:∀k,k≠i->k≠j->gs'[k]? =gs[k]?) (hsz:gs'.size=gs.size)
  {f1 f2 f3 f4:FuncId} {p1 p2 p3 p4:String} {u:Trace}
  (hu':u=#[{ g:=i,fn:=f1,pos:=p1,act:=.send c s },{ g:=j,fn:=f2,pos:=p2,act:=.recv c s 0 },{ g:=i,fn:=f3,pos:=p3,act:=.sendDone c s },{ g:=j,fn:=f4,pos:=p4,act:=.recvDone c s }]) :
  ∃hs' r',Fq P Rep KS used (N.meet i j nx (f (some m))) gs' { w.at d with heap:=w.heap.setIfInBounds c (.chan 0 #[] false (s+1) (s+1) false) } (t++u) hs' r':=by
 have hmute:∀op ∈ u,op.act.touch? =none:=by
  subst hu';intro op hop;simp at hop;rcases hop with rfl | rfl | rfl | rfl <;> rfl
 have hwu:Wordless u:=by
  subst hu';intro op hop mk hmk;simp at hop;rcases hop with rfl | rfl | rfl | rfl <;> cases hmk
 have hgu:∀op ∈ u,op.g=i\/op.g=j:=by
  subst hu';intro op hop;simp at hop;rcases hop with rfl | rfl | rfl | rfl <;> simp
 have hW:=I.tr.words.append hwu;have K:∀k,Knows t i k\/Knows t j k->Knows (t++u) i k/\Knows (t++u) j k:=λk hk=>Zv hu' hW hk;have aij:(hs i).Apart (hs j):=λb o x y z=>I.apart.disj i j b o x hi hj hij y z;have aji:(hs j).Apart (hs i):=λb o x y z=>I.apart.disj j i b o x hj hi (λe=>hij e.symm) y z;have hcomp:(hs j).Compat hm:=GH.compat (I.apart.fits j hj) (I.apart.fits i hi) aji aij A.split.right;obtain ⟨ri,hri⟩:=HV (cl:=N.cl) A.next;obtain ⟨rj,hrj⟩:=HV (cl:=N.cl) (B.some m v hm A.rep hcomp);have hji:j≠i:=λe=>hij e.symm;let hs':Nat->GH:=λx=>if x=i then h1 else if x=j then (hs j).join hm else hs x
 have ei:hs' i=h1:=if_pos rfl;have ej:hs' j=(hs j).join hm:=by show (if j=i then _ else if j=j then _ else _)=_;rw [if_neg hji,if_pos rfl]
 have ek:∀k,k≠i->k≠j->hs' k=hs k:=λk h1 h2=>by show (if k=i then _ else if k=j then _ else _)=_;rw [if_neg h1,if_neg h2]
 have hfree:∀c' k,used c'->k<N.n->hs' k c'=none:=by
  intro c' k hc' hk;have fi:=I.free c' i hc' hi;by_cases e:k=i
  ·subst e;rw [ei];cases hq:h1 c' with
   | none=>rfl
   | some y=>obtain ⟨p0,h2,_⟩:=A.split.left c' y.1 y.2 hq;rw [fi] at h2;cases h2
  ·by_cases e2:k=j
   ·subst e2;rw [ej];cases hq:(hs k).join hm c' with
    | none=>rfl
    | some y=>
     rcases GH.join_some (p:=y.1) (o:=y.2) hq with h2 | h2
     ·rw [I.free c' k hc' hk] at h2;cases h2
     ·obtain ⟨p0,h3,_⟩:=A.split.right c' y.1 y.2 h2;rw [fi] at h3;cases h3
   ·rw [ek k e e2];exact I.free c' k hc' hk
 have hsrc:∀k b p o,k<N.n->hs' k b=some (p,o)->∃j0,j0<N.n/\(∃p0,hs j0 b=some (p0,o)/\(p=true->p0=true))/\∀q,Knows t j0 q->Knows (t++u) k q:=by
  intro k b p o hk hb;by_cases e:k=i
  ·subst e;rw [ei] at hb;exact ⟨k,hk,A.split.left b p o hb,λq hq=>hq.app _⟩
  ·by_cases e2:k=j
   ·subst e2;rw [ej] at hb;rcases GH.join_some hb with h2 | h2
    ·exact ⟨k,hk,⟨p,h2,id⟩,λq hq=>hq.app _⟩
    ·exact ⟨i,hi,A.split.right b p o h2,λq hq=>(K q (.inl hq)).2⟩
   ·rw [ek k e e2] at hb;exact ⟨k,hk,⟨p,hb,id⟩,λq hq=>hq.app _⟩
 have hap:∀a b,a<N.n->b<N.n->a≠b->(hs a).Apart (hs b):=λa b ha hb hab r o x y z=>I.apart.disj a b r o x ha hb hab y z;have hap':∀a b,a<N.n->b<N.n->a≠b->(hs' a).Apart (hs' b):=by
  intro a b ha hb hab;by_cases ea:a=i
  ·subst ea;rw [ei];by_cases eb:b=j
   ·subst eb;rw [ej];exact GH.Apart.join_right ((hap a b ha hb hab).mono A.split.left (GH.Sub.refl _)) A.split.one
   ·rw [ek b (λe=>hab e.symm) eb];exact (hap a b ha hb hab).mono A.split.left (GH.Sub.refl _)
  ·by_cases ea2:a=j
   ·subst ea2;rw [ej];by_cases eb:b=i
    ·subst eb;rw [ei];exact GH.Apart.join_left ((hap a b ha hb hab).mono (GH.Sub.refl _) A.split.left) A.split.two
    ·rw [ek b eb (λe=>hab e.symm)];exact GH.Apart.join_left (hap a b ha hb hab) ((hap i b hi hb (λe=>eb e.symm)).mono A.split.right (GH.Sub.refl _))
   ·rw [ek a ea ea2];by_cases eb:b=i
    ·subst eb;rw [ei];exact (hap a b ha hb hab).mono (GH.Sub.refl _) A.split.left
    ·by_cases eb2:b=j
     ·subst eb2;rw [ej];exact GH.Apart.join_right (hap a b ha hb hab) ((hap a i ha hi ea).mono (GH.Sub.refl _) A.split.right)
     ·rw [ek b eb eb2];exact hap a b ha hb hab
 have hnd:∀y,N.s y=.done->y≠i/\y≠j:=λy hy=>⟨(λe=>by rw [e,hsi] at hy;cases hy),(λe=>by rw [e,hsj] at hy;cases hy)⟩;have htouch:∀k a,touchAt (t++u) k=some a->touchAt t k=some a:=λk a ha=>by
  rcases Bd ha with ⟨_,ha⟩ | ⟨_,op,hop,_,h2⟩
  ·exact ha
  ·rw [hmute op hop] at h2;cases h2
 have hg? :∀k a y,touchAt t k=some a->(t++u).g? k=some y->t.g? k=some y:=λk a y ha hg=>by
  obtain ⟨op,h2,_⟩:=touch_of ha;exact g?_app hg (lt_size_of_getElem? h2)
 have hown:∀k a y,touchAt t k=some a->t.g? k=some y->Knows t y k:=λk a y ha hg=>by
  obtain ⟨op,h2,_⟩:=touch_of ha
  have:=knows_own h2
  simp [Trace.g?,h2] at hg;rw [hg] at this;exact this
 refine ⟨hs',Ei (Ei r j rj) i ri,⟨by rw [hsz];exact I.size,⟨?_,?_⟩,?_,?_,?_,hfree,?_,?_,?_,?_⟩⟩
 ·intro k hk;refine SN (h:=hs' k) ?_ (hfree c k hu hk);by_cases e:k=i
  ·subst e;rw [ei];exact (I.apart.fits k hk).sub A.split.left
  ·by_cases e2:k=j
   ·subst e2;rw [ej];exact (I.apart.fits k hk).join ((I.apart.fits i hi).sub A.split.right)
   ·rw [ek k e e2];exact I.apart.fits k hk
 ·exact λa b r o x ha hb hab y z=>hap' a b ha hb hab r o x y z
 ·have:=I.tr.redist hmute hwu (n':=N.n) (hs':=hs') (λop hop=>by
   rcases Array.mem_append.1 hop with x | x
   ·exact I.tr.num op x
   ·rcases hgu op x with e | e <;> rw [e] <;> assumption) hsrc
  exact this.raise aD
 ·intro k g hk;show O2 P Rep KS (if k=i then nx else if k=j then f (some m) else N.s k) N.cl (k==0) g (hs' k) _;by_cases e:k=i
  ·subst e;rw [gi] at hk;cases hk;rw [if_pos rfl,ei,Ei,if_pos rfl];exact hri
  ·by_cases e2:k=j
   ·subst e2;rw [gj] at hk;cases hk;rw [if_neg e,if_pos rfl,ej,Ei,if_neg e,Ei,if_pos rfl];exact hrj
   ·rw [gk k e e2] at hk;rw [if_neg e,if_neg e2,ek k e e2,Ei,if_neg e,Ei,if_neg e2];exact I.sit k g hk
 ·intro c' hc';obtain ⟨n,hn⟩:=Zw I.chans (s:=s+1) (d:=d) (b:=false) hu c' hc';refine ⟨n,?_⟩;rw [hn];by_cases e:c'=c
  ·subst e;rw [if_pos rfl];show some (Obj.chan 0 #[] false n n false)=some (Obj.chan 0 #[] (N.cl c') n n false);rw [hcl]
  ·rw [if_neg e];rfl
 ·exact λc' k a hc' hk=>I.atom c' k a hc' (htouch k a hk)
 ·intro a b ga gb c' v' z1 sh z2 sh' h2 h3;have hold:∀(k:Nat)(g0:Goroutine)(cs0:Array CommCase)(sh0:CommShape),gs'[k]? =some (parked g0 cs0 sh0)->gs[k]? =some (parked g0 cs0 sh0):=by
   intro k g0 cs0 sh0 hk;by_cases e:k=i
   ·subst e;rw [gi] at hk;simp [G,parked] at hk
   ·by_cases e2:k=j
    ·subst e2;rw [gj] at hk;simp [G,parked] at hk
    ·rw [gk k e e2] at hk;exact hk
  exact I.nomeet a b ga gb c' v' z1 sh z2 sh' (hold _ _ _ _ h2) (hold _ _ _ _ h3)
 ·intro x y hx hy hk;have hdone:∀{y},N.s y=.done->(N.meet i j nx (f (some m))).s y=.done:=λ{y} h=>by
   obtain ⟨h2,h3⟩:=hnd y h;show (if y=i then nx else if y=j then f (some m) else N.s y)=_;rw [if_neg h2,if_neg h3];exact h
  by_cases e:x=i\/x=j
  ·have hk':N.kn i y\/N.kn j y\/(y=i/\nx.isDone)\/(y=j/\(f (some m)).isDone):=by
    have:(if x=i\/x=j then N.kn i y\/N.kn j y\/(y=i/\nx.isDone)\/(y=j/\(f (some m)).isDone) else N.kn x y):=hk
    rw [if_pos e] at this;exact this
   have fin:(∀q a,touchAt t q=some a->t.g? q=some y->Knows t i q\/Knows t j q)->∀q a,touchAt (t++u) q=some a->(t++u).g? q=some y->Knows (t++u) x q:=by
    intro h q a ha hg;have ha':=htouch q a ha
    have:=K q (h q a ha' (hg? q a y ha' hg))
    rcases e with e | e <;> subst e
    ·exact this.1
    ·exact this.2
   rcases hk' with h | h | ⟨h,h'⟩ | ⟨h,h'⟩
   ·obtain ⟨h2,h3⟩:=I.kn i y hi hy h;exact ⟨hdone h2,fin λq a ha hg=>.inl (h3 q a ha hg)⟩
   ·obtain ⟨h2,h3⟩:=I.kn j y hj hy h;exact ⟨hdone h2,fin λq a ha hg=>.inr (h3 q a ha hg)⟩
   ·subst h;refine ⟨?_,fin λq a ha hg=>.inl (hown q a y ha hg)⟩;show (if y=y then nx else _)=_;rw [if_pos rfl];cases nx <;> first | rfl | exact h'.elim
   ·subst h;refine ⟨?_,fin λq a ha hg=>.inr (hown q a y ha hg)⟩;show (if y=i then nx else if y=y then f (some m) else _)=_;rw [if_neg hji,if_pos rfl];cases hq:f (some m) <;> first | rfl | (rw [hq] at h';exact h'.elim)
  ·have hk':N.kn x y:=by
    have:(if x=i\/x=j then N.kn i y\/N.kn j y\/(y=i/\nx.isDone)\/(y=j/\(f (some m)).isDone) else N.kn x y):=hk
    rw [if_neg e] at this;exact this
   obtain ⟨h2,h3⟩:=I.kn x y hx hy hk';exact ⟨hdone h2,λq a ha hg=>by
    have ha':=htouch q a ha;exact (h3 q a ha' (hg? q a y ha' hg)).app _⟩
 ·intro c' hc' hcl';obtain ⟨p,op,h2,h3,h4⟩:=I.ck c' hc' hcl';refine ⟨p,op,by rw [getElem?_append_old (lt_size_of_getElem? h2)];exact h2,h3,λy hy hk=>?_⟩;obtain ⟨h5,h6⟩:=h4 y hy hk;obtain ⟨h7,h8⟩:=hnd y h5;refine ⟨?_,λq a ha hg=>?_⟩
  ·show (if y=i then nx else if y=j then f (some m) else N.s y)=_;rw [if_neg h7,if_neg h8];exact h5
  ·have ha':=htouch q a ha;exact (h6 q a ha' (hg? q a y ha' hg)).app _
end
end Go.Ns
namespace Go.Ns
open Go.Conc
section
variable {P:Program} {M:Type} {Rep:Nat->M->Value->GH->Prop} {KS:Goroutine->GH->Prop}
variable {used:Nat->Prop} {N:HU M} {gs:Array Goroutine} {w:World} {t:Trace} {hs:Nat->GH} {r:Nat->Iy}
theorem Wi(t:Trace){k y:Nat}{a:Touch}(ha:touchAt t k=some a)(hg:t.g? k=some y):Knows t y k:=by
 obtain ⟨op,h2,_⟩:=touch_of ha
 have:=knows_own h2
 simp [Trace.g?,h2] at hg;rw [hg] at this;exact this
theorem done_of{s:Cp M}(h:s.isDone):s=.done:=by cases s <;> first | rfl | exact h.elim
theorem Fq.hear(I:Fq P Rep KS used N gs w t hs r){j c:Nat}{f:Option M->Cp M}(hj:j<N.n)(hsj:N.s j=.recv c f)(hu:used c)(hcl:N.cl c=true)
  {fr':Frame} {cs':List Frame} {z':Value} {ok:Bool} (B:Lh P (j==0) Rep c (λo=>Fm P Rep KS (f o) (j==0)) fr' cs' z' ok (hs j)) {fn:FuncId} {pos:String} {u:Trace} (hu':u=#[{ g:=j,fn:=fn,pos:=pos,act:=.recvClosed c }]) :
  ∃r',Fq P Rep KS used (N.hear j c (f none)) (gs.setIfInBounds j (G (fr'.finish (recvd ok z' false)) cs')) w (t++u) hs r':=by
 have hmute:∀op ∈ u,op.act.touch? =none:=by
  subst hu';intro op hop;simp at hop;subst hop;rfl
 have hwu:Wordless u:=by
  subst hu';intro op hop mk hmk;simp at hop;subst hop;cases hmk
 have hW:=I.tr.words.append hwu;have hnd:∀y,N.s y=.done->y≠j:=λy hy e=>by rw [e,hsj] at hy;cases hy
 have htouch:∀k a,touchAt (t++u) k=some a->touchAt t k=some a:=λk a ha=>by
  rcases Bd ha with ⟨_,ha⟩ | ⟨_,op,hop,_,h2⟩
  ·exact ha
  ·rw [hmute op hop] at h2;cases h2
 have hg? :∀k a y,touchAt t k=some a->(t++u).g? k=some y->t.g? k=some y:=λk a y ha hg=>by
  obtain ⟨op,h2,_⟩:=touch_of ha;exact g?_app hg (lt_size_of_getElem? h2)
 obtain ⟨rj,hrj⟩:=HV (cl:=N.cl) B.none;have a0:(t++u)[t.size+0]? =some { g:=j,fn:=fn,pos:=pos,act:=.recvClosed c }:=by subst hu';exact Uy rfl
 refine ⟨Ei r j rj,⟨by show _=N.n;simpa using I.size,I.apart,I.tr.mute hmute hwu (λop hop=>by subst hu';simp at hop;subst hop;exact hj),?_,I.chans,I.free,λc' k a hc' hk=>I.atom c' k a hc' (htouch k a hk),?_,?_,?_⟩⟩
 ·intro k g hk;show O2 P Rep KS (if k=j then f none else N.s k) N.cl (k==0) g (hs k) _;rcases E7 hk with ⟨rfl,rfl⟩ | ⟨hne,hk'⟩
  ·rw [if_pos rfl,Ei,if_pos rfl];exact hrj
  ·rw [if_neg hne,Ei,if_neg hne];exact I.sit k g hk'
 ·intro a b ga gb c' v' z1 sh z2 sh' h2 h3;have hold:∀(k:Nat)(g0:Goroutine)(cs0:Array CommCase)(sh0:CommShape),(gs.setIfInBounds j (G (fr'.finish (recvd ok z' false)) cs'))[k]? =some (parked g0 cs0 sh0)->gs[k]? =some (parked g0 cs0 sh0):=by
   intro k g0 cs0 sh0 hk;rcases E7 hk with ⟨rfl,e⟩ | ⟨hne,hk'⟩
   ·simp [G,parked] at e
   ·exact hk'
  exact I.nomeet a b ga gb c' v' z1 sh z2 sh' (hold _ _ _ _ h2) (hold _ _ _ _ h3)
 ·intro x y hx hy hk;have hdone:∀{y},N.s y=.done->(N.hear j c (f none)).s y=.done:=λ{y} h=>by
   show (if y=j then f none else N.s y)=_;rw [if_neg (hnd y h)];exact h
  by_cases e:x=j
  ·have hk':N.kn j y\/N.ck c y:=by
    have:(if x=j then N.kn j y\/N.ck c y else N.kn x y):=hk
    rw [if_pos e] at this;exact this
   subst e;rcases hk' with h | h
   ·obtain ⟨h2,h3⟩:=I.kn x y hx hy h;exact ⟨hdone h2,λq a ha hg=>(h3 q a (htouch q a ha) (hg? q a y (htouch q a ha) hg)).app _⟩
   ·obtain ⟨p,op,h2,h3,h4⟩:=I.ck c hu hcl;obtain ⟨h5,h6⟩:=h4 y hy h;refine ⟨hdone h5,λq a ha hg=>?_⟩;have hb:=h6 q a (htouch q a ha) (hg? q a y (htouch q a ha) hg);have hp:(t++u)[p]? =some op:=by rw [getElem?_append_old (lt_size_of_getElem? h2)];exact h2
    have hn:HappensBefore (t++u) p (t.size+0):=Kz hW (.closed (c:=c) (by rw [act?_of hp,h3]) (act?_of a0)) hp a0;exact ⟨_,_,a0,rfl,.inr ((hb.app _).hb hn)⟩
  ·have hk':N.kn x y:=by
    have:(if x=j then N.kn j y\/N.ck c y else N.kn x y):=hk
    rw [if_neg e] at this;exact this
   obtain ⟨h2,h3⟩:=I.kn x y hx hy hk';exact ⟨hdone h2,λq a ha hg=>(h3 q a (htouch q a ha) (hg? q a y (htouch q a ha) hg)).app _⟩
 ·intro c' hc' hcl';obtain ⟨p,op,h2,h3,h4⟩:=I.ck c' hc' hcl';refine ⟨p,op,by rw [getElem?_append_old (lt_size_of_getElem? h2)];exact h2,h3,λy hy hk=>?_⟩;obtain ⟨h5,h6⟩:=h4 y hy hk;refine ⟨?_,λq a ha hg=>(h6 q a (htouch q a ha) (hg? q a y (htouch q a ha) hg)).app _⟩;show (if y=j then f none else N.s y)=_;rw [if_neg (hnd y h5)];exact h5
theorem Fq.shut(I:Fq P Rep KS used N gs w t hs r)(hf:∀i,i<N.n->KF used N.cl i (N.s i)){i c s:Nat}{nx:Cp M}(hi:i<N.n)(hsi:N.s i=.close c nx)(hu:used c)(hcw:w.heap[c]? =some (.chan 0 #[] false s s false))
  (hgood:Fp used (N.shut i c nx)) {g:Goroutine} (hgi:gs[i]? =some g) {fr':Frame} {cs':List Frame} (hmw:mayWake P g=true) (hx:Fm P Rep KS nx (i==0) (G fr' cs') (hs i)) {fn:FuncId} {pos:String} {u:Trace} (hu':u=#[{ g:=i,fn:=fn,pos:=pos,act:=.access ⟨.obj c,false,true⟩ },{ g:=i,fn:=fn,pos:=pos,act:=.close c }]) :
  ∃r',Fq P Rep KS used (N.shut i c nx) ((gs.map (woken P g (G fr' cs') { w with heap:=w.heap.setIfInBounds c (.chan 0 #[] true s s false) })).setIfInBounds i (G fr' cs')) { w with heap:=w.heap.setIfInBounds c (.chan 0 #[] true s s false) }
   (t++u) hs r':=by
 have hu1:∀op ∈ u,op.g=i:=by
  subst hu';intro op hop;simp at hop;rcases hop with rfl | rfl <;> rfl
 have hu2:∀op ∈ u,∀a,op.act.touch? =some a->C5 a.loc=some c/\a.kind=.atomic:=by
  subst hu';intro op hop a ha;simp at hop;rcases hop with rfl | rfl
  ·cases ha;exact ⟨rfl,rfl⟩
  ·cases ha
 have hwu:Wordless u:=by
  subst hu';intro op hop mk hmk;simp at hop;rcases hop with rfl | rfl <;> cases hmk
 have hlt:c<w.heap.size:=(Array.getElem?_eq_some_iff.1 hcw).1;have hT:=I.tr.atomic hi hu1 hu2 hwu hlt (λk hk=>I.free c k hu hk) (λk a=>I.atom c k a hu);obtain ⟨ri,hri⟩:=HV (cl:=λx=>if x=c then true else N.cl x) hx;have hstop:∀j,j<N.n->N.s j≠.stop:=λj hj e=>by have:=hf j hj;rw [e] at this;exact this
 have hch:∀c',used c'->∃n,({ w with heap:=w.heap.setIfInBounds c (.chan 0 #[] true s s false) }:World).heap[c']? =some (.chan 0 #[] (if c'=c then true else N.cl c') n n false):=λc' hc'=>by
  by_cases e:c'=c
  ·subst e;exact ⟨s,by simp [hlt]⟩
  ·rw [if_neg e]
   show∃n,(w.heap.setIfInBounds c _)[c']? =_
   rw [Array.getElem?_setIfInBounds_ne (λx=>e x.symm)];exact I.chans c' hc'
 have hopen:∀j c' (m:M) nx',j<N.n->N.s j=.send c' m nx'->c'≠c:=λj c' m nx' hj h e=>by
  have hji:j≠i:=λe2=>by rw [e2,hsi] at h;cases h
  have hj':j<(N.shut i c nx).n:=hj
  have:=hgood.sendOpen hj' (c:=c') (m:=m) (nx:=nx') (by show (if j=i then nx else N.s j)=_;rw [if_neg hji];exact h)
  have h2:(if c'=c then true else N.cl c')=false:=this;rw [if_pos e] at h2;cases h2
 have hothers:∀j y,j≠i->gs[j]? =some y->O2 P Rep KS (N.s j) (λx=>if x=c then true else N.cl x) (j==0) (woken P g (G fr' cs') { w with heap:=w.heap.setIfInBounds c (.chan 0 #[] true s s false) } y) (hs j) (r j):=by
  intro j y hji hy;have hjl:j<N.n:=by rw [<-I.size];exact (Array.getElem?_eq_some_iff.1 hy).1
  generalize hrk:r j=rk;have hsit:=I.sit j y hy;rw [hrk] at hsit;cases hsit with
  | walk T h1 h2=>rw [woken_running (Bv h1 (hstop j hjl) h2)];exact .walk T h1 h2
  | leave k h1 h2=>rw [woken_quits h2];exact .leave k h1 h2
  | psend h1 h2 h3 h4=>
   have hne:=hopen j _ _ _ hjl h1;have hfj:=hf j hjl;rw [h1] at hfj;obtain ⟨n,hn⟩:=hch _ hfj.1;rw [if_neg hne,h2] at hn;rw [h3,woken_send_open g _ hn,<-h3];exact .psend h1 (by simp [hne,h2]) h3 h4
  | @precv c' f' _ _ _ _ h1 h2 h3 h4=>
   have hfj:=hf j hjl;rw [h1] at hfj;obtain ⟨n,hn⟩:=hch _ hfj;by_cases e:c'=c
   ·subst e;rw [if_pos rfl] at hn;refine .wokn h1 aD ?_ h4;rw [h3];unfold woken;rw [if_pos (by rw [hmw];rfl)];exact again_recv_closed hn
   ·rw [if_neg e,h2] at hn;rw [h3,woken_recv_open g _ hn,<-h3];exact .precv h1 (by simp [e,h2]) h3 h4
  | @wokn c2 f' _ _ _ _ h1 h2 h3 h4=>
   rw [show woken P g (G fr' cs') { w with heap:=w.heap.setIfInBounds c (.chan 0 #[] true s s false) } y=y from woken_running (by rw [h3])];refine .wokn h1 ?_ h3 h4;by_cases e:c2=c
   ·exact if_pos e
   ·exact (if_neg e).trans h2
 have hnd:∀y,N.s y=.done->y≠i:=λy hy e=>by rw [e,hsi] at hy;cases hy
 have hup:∀op ∈ u,op.g=i\/op.act.touch? =none:=λop hop=>.inl (hu1 op hop);have a1:(t++u)[t.size+1]? =some { g:=i,fn:=fn,pos:=pos,act:=.close c }:=by subst hu';exact Uy rfl
 have hdone:∀{y},N.s y=.done->(N.shut i c nx).s y=.done:=λ{y} h=>by
  show (if y=i then nx else N.s y)=_;rw [if_neg (hnd y h)];exact h
 refine ⟨Ei r i ri,⟨by show _=N.n;simpa using I.size,⟨λk hk=>?_,I.apart.disj⟩,hT.raise aD,?_,hch,I.free,?_,?_,?_,?_⟩⟩
 ·exact SN (d:=w.drawn) (I.apart.fits k hk) (I.free c k hu hk)
 ·intro k y hk;show O2 P Rep KS (if k=i then nx else N.s k) _ (k==0) y (hs k) _;rcases Du hk with ⟨rfl,rfl⟩ | ⟨hne,y',hy',rfl⟩
  ·rw [if_pos rfl,Ei,if_pos rfl];exact hri
  ·rw [if_neg hne,Ei,if_neg hne];exact hothers k y' hne hy'
 ·intro c' k a hc' hk hl;rcases Bd hk with ⟨_,hk⟩ | ⟨_,op,hop,_,ha⟩
  ·exact I.atom c' k a hc' hk hl
  ·exact (hu2 op hop a ha).2
 ·intro a b ga gb c' v' z1 sh z2 sh' m1 m2;have hold:∀(k:Nat)(g0:Goroutine)(cs0:Array CommCase)(sh0:CommShape),((gs.map (woken P g (G fr' cs') { w with heap:=w.heap.setIfInBounds c (.chan 0 #[] true s s false) })).setIfInBounds i (G fr' cs'))[k]? =some (parked g0 cs0 sh0)->gs[k]? =some (parked g0 cs0 sh0):=by
   intro k g0 cs0 sh0 hk;rcases Du hk with ⟨rfl,e⟩ | ⟨hne,y',hy',e⟩
   ·simp [G,parked] at e
   ·have hkl:k<N.n:=by rw [<-I.size];exact (Array.getElem?_eq_some_iff.1 hy').1
    have hsit:=I.sit k y' hy';have hw1:(woken P g (G fr' cs') { w with heap:=w.heap.setIfInBounds c (.chan 0 #[] true s s false) } y').status=.blocked:=by rw [<-e];rfl
    generalize hrk:r k=rk at hsit;cases hsit with
    | walk T h1 h2=>rw [woken_running (Bv h1 (hstop k hkl) h2),Bv h1 (hstop k hkl) h2] at hw1;cases hw1
    | leave q h1 h2=>rw [woken_quits h2] at hw1;rcases h2.status with h | h <;> rw [h] at hw1 <;> cases hw1
    | psend h1 h2 h3 h4=>
     have hne2:=hopen k _ _ _ hkl h1;have hfj:=hf k hkl;rw [h1] at hfj;obtain ⟨n,hn⟩:=hch _ hfj.1;rw [if_neg hne2,h2] at hn;rw [h3,woken_send_open g _ hn] at e;rw [hy',h3,e]
    | @precv c2 f' _ _ _ _ h1 h2 h3 h4=>
     have hfj:=hf k hkl;rw [h1] at hfj;obtain ⟨n,hn⟩:=hch _ hfj;by_cases e2:c2=c
     ·subst e2;rw [if_pos rfl] at hn;rw [h3] at hw1;unfold woken at hw1;rw [if_pos (by rw [hmw];rfl),again_recv_closed hn] at hw1;cases hw1
     ·rw [if_neg e2,h2] at hn;rw [h3,woken_recv_open g _ hn] at e;rw [hy',h3,e]
    | wokn h1 h2 h3 h4=>
     rw [woken_running (by rw [h3]),h3] at hw1;cases hw1
  exact I.nomeet a b ga gb c' v' z1 sh z2 sh' (hold _ _ _ _ m1) (hold _ _ _ _ m2)
 ·intro x y hx hy hk;obtain ⟨h2,h3⟩:=I.kn x y hx hy hk;exact ⟨hdone h2,kn_app h3 hup (hnd y h2)⟩
 ·intro c' hc' hcl';by_cases e:c'=c
  ·subst e;refine ⟨_,_,a1,rfl,λy hy hk=>?_⟩;have hk':N.kn i y\/(y=i/\nx.isDone):=by
    have:(if c'=c' then N.kn i y\/(y=i/\nx.isDone) else N.ck c' y):=hk
    rw [if_pos rfl] at this;exact this
   have fin:∀k,Knows t i k->Before (t++u) k (t.size+1):=
    λk hk=>.inr (JT hk aA a1 rfl)
   rcases hk' with h | ⟨h,h'⟩
   ·obtain ⟨h2,h3⟩:=I.kn i y hi hy h;refine ⟨hdone h2,λq a ha hg=>?_⟩;rcases Bd ha with ⟨hlt',ha⟩ | ⟨_,op,hop,h5,_⟩
    ·exact fin q (h3 q a ha (g?_app hg hlt'))
    ·have h6:(t++u).g? q=some op.g:=by simp only [Trace.g?,h5,Option.map_some]
     rw [h6,hu1 op hop] at hg;cases hg;exact absurd rfl (hnd i h2)
   ·subst h;refine ⟨by show (if y=y then nx else N.s y)=_;rw [if_pos rfl];exact done_of h',λq a ha hg=>?_⟩;rcases Bd ha with ⟨hlt',ha⟩ | ⟨hge,op,hop,h5,h6⟩
    ·exact fin q (Wi t ha (g?_app hg hlt'))
    ·have hq:q<t.size+2:=by
      have h8:=lt_size_of_getElem? h5;subst hu';simpa using h8
     rcases Nat.lt_or_ge q (t.size+1) with h7 | h7
     ·refine .inr (hb_po aA h5 a1 ?_);exact hu1 op hop
     ·have:q=t.size+1:=aA
      subst this;exact .inl rfl
  ·have hcl2:N.cl c'=true:=by
    have:(if c'=c then true else N.cl c')=true:=hcl'
    rw [if_neg e] at this;exact this
   obtain ⟨p,op,h2,h3,h4⟩:=I.ck c' hc' hcl2;refine ⟨p,op,by rw [getElem?_append_old (lt_size_of_getElem? h2)];exact h2,h3,λy hy hk=>?_⟩;have hk':N.ck c' y:=by
    have:(if c'=c then N.kn i y\/(y=i/\nx.isDone) else N.ck c' y):=hk
    rw [if_neg e] at this;exact this
   obtain ⟨h5,h6⟩:=h4 y hy hk';exact ⟨hdone h5,ck_app h6 hup (hnd y h5)⟩
end
end Go.Ns
namespace Go.Ns
open Go.Conc
section
variable {P:Program} {M:Type} {Rep:Nat->M->Value->GH->Prop} {KS:Goroutine->GH->Prop}
variable {used:Nat->Prop} {N:HU M} {gs:Array Goroutine} {w:World} {t:Trace} {hs:Nat->GH} {r:Nat->Iy}
theorem Ny{gs:Array Goroutine}{x:Goroutine}{j:Nat}{y:Goroutine}(h:(gs.push x)[j]? =some y):(j=gs.size/\y=x)\/(j≠gs.size/\gs[j]? =some y):=by
 rw [Array.getElem?_push] at h;split at h
 ·rename_i e;exact .inl ⟨e,(Option.some.inj h).symm⟩
 ·rename_i e;exact .inr ⟨e,h⟩
theorem Fq.hire(I:Fq P Rep KS used N gs w t hs r){i:Nat}{ch nx:Cp M}(hi:i<N.n)(hsi:N.s i=.spawn ch nx){fr:Frame}{cs:List Frame}{fr':Frame}{d:Deferred}{hc h1:GH}
  (A:Tm P (i==0) (Fm P Rep KS ch false) (Fm P Rep KS nx (i==0)) fr cs fr' d hc h1 (hs i)) {f1 f2:FuncId} {p1 p2:String} {u:Trace}
  (hu':u=#[{ g:=i,fn:=f1,pos:=p1,act:=.go N.n },{ g:=N.n,fn:=f2,pos:=p2,act:=.start }]) :
  ∃hs' r',Fq P Rep KS used (N.hire i ch nx) ((gs.setIfInBounds i (G fr' cs)).push (born P d)) w (t++u) hs' r':=by
 have hmute:∀op ∈ u,op.act.touch? =none:=by
  subst hu';intro op hop;simp at hop;rcases hop with rfl | rfl <;> rfl
 have hwu:Wordless u:=by
  subst hu';intro op hop mk hmk;simp at hop;rcases hop with rfl | rfl <;> cases hmk
 have hgu:∀op ∈ u,op.g=i\/op.g=N.n:=by
  subst hu';intro op hop;simp at hop;rcases hop with rfl | rfl <;> simp
 have hW:=I.tr.words.append hwu;have a0:(t++u)[t.size+0]? =some { g:=i,fn:=f1,pos:=p1,act:=.go N.n }:=by subst hu';exact Uy rfl
 have a1:(t++u)[t.size+1]? =some { g:=N.n,fn:=f2,pos:=p2,act:=.start }:=by subst hu';exact Uy rfl
 have K:∀k,Knows t i k->Knows (t++u) N.n k:=λk hk=>
  PE (JT hk aA a0 rfl) (Kz hW (.spawn (child:=N.n) (act?_of a0) (act?_of a1) (by simp only [Trace.g?,a1,Option.map_some])) a0 a1) a1 rfl
 obtain ⟨ri,hri⟩:=HV (cl:=N.cl) A.next;obtain ⟨rc,hrc⟩:=HV (cl:=N.cl) A.child;have hin:i≠N.n:=Nat.ne_of_lt hi;have hn0:(N.n==0)=false:=by simp;omega
 let hs':Nat->GH:=λx=>if x=N.n then hc else if x=i then h1 else hs x
 have en:hs' N.n=hc:=if_pos rfl;have ei:hs' i=h1:=by show (if i=N.n then _ else if i=i then _ else _)=_;rw [if_neg hin,if_pos rfl]
 have ek:∀k,k≠N.n->k≠i->hs' k=hs k:=λk h1 h2=>by show (if k=N.n then _ else if k=i then _ else _)=_;rw [if_neg h1,if_neg h2]
 have hap:∀a b,a<N.n->b<N.n->a≠b->(hs a).Apart (hs b):=λa b ha hb hab r o x y z=>I.apart.disj a b r o x ha hb hab y z;have hap':∀a b,a<N.n+1->b<N.n+1->a≠b->(hs' a).Apart (hs' b):=by
  intro a b ha hb hab;by_cases ea:a=N.n
  ·subst ea;rw [en];by_cases eb:b=i
   ·subst eb;rw [ei];exact A.split.two
   ·rw [ek b (λe=>hab e.symm) eb];exact (hap i b hi aA (λe=>eb e.symm)).mono A.split.right (GH.Sub.refl _)
  ·by_cases ea2:a=i
   ·subst ea2;rw [ei];by_cases eb:b=N.n
    ·subst eb;rw [en];exact A.split.one
    ·rw [ek b eb (λe=>hab e.symm)];exact (hap a b hi aA hab).mono A.split.left (GH.Sub.refl _)
   ·rw [ek a ea ea2];by_cases eb:b=N.n
    ·subst eb;rw [en];exact (hap a i aA hi ea2).mono (GH.Sub.refl _) A.split.right
    ·by_cases eb2:b=i
     ·subst eb2;rw [ei];exact (hap a b aA hi hab).mono (GH.Sub.refl _) A.split.left
     ·rw [ek b eb eb2];exact hap a b aA aA hab
 have hnd:∀y,N.s y=.done->y≠i:=λy hy e=>by rw [e,hsi] at hy;cases hy
 have hdone:∀{y},y<N.n->N.s y=.done->(N.hire i ch nx).s y=.done:=λ{y} hy h=>by
  show (if y=N.n then ch else if y=i then nx else N.s y)=_;rw [if_neg (Nat.ne_of_lt hy),if_neg (hnd y h)];exact h
 have htouch:∀k a,touchAt (t++u) k=some a->touchAt t k=some a:=λk a ha=>by
  rcases Bd ha with ⟨_,ha⟩ | ⟨_,op,hop,_,h2⟩
  ·exact ha
  ·rw [hmute op hop] at h2;cases h2
 have hg? :∀k a y,touchAt t k=some a->(t++u).g? k=some y->t.g? k=some y:=λk a y ha hg=>by
  obtain ⟨op,h2,_⟩:=touch_of ha;exact g?_app hg (lt_size_of_getElem? h2)
 have hfree:∀c' k,used c'->k<N.n+1->hs' k c'=none:=by
  intro c' k hc' hk;have fi:=I.free c' i hc' hi;by_cases e:k=N.n
  ·subst e;rw [en];cases hq:hc c' with
   | none=>rfl
   | some y=>obtain ⟨p0,h2,_⟩:=A.split.right c' y.1 y.2 hq;rw [fi] at h2;cases h2
  ·by_cases e2:k=i
   ·subst e2;rw [ei];cases hq:h1 c' with
    | none=>rfl
    | some y=>obtain ⟨p0,h2,_⟩:=A.split.left c' y.1 y.2 hq;rw [fi] at h2;cases h2
   ·rw [ek k e e2];exact I.free c' k hc' aA
 refine ⟨hs',Ei (Ei r N.n rc) i ri,⟨?_,⟨?_,λa b r o x ha hb hab y z=>hap' a b ha hb hab r o x y z⟩,?_,?_,I.chans,hfree,λc' k a hc' hk=>I.atom c' k a hc' (htouch k a hk),?_,?_,?_⟩⟩
 ·show _=N.n+1;simp [I.size]
 ·intro k hk;have hk':k<N.n+1:=hk;by_cases e:k=N.n
  ·subst e;rw [en];exact (I.apart.fits i hi).sub A.split.right
  ·by_cases e2:k=i
   ·subst e2;rw [ei];exact (I.apart.fits k hi).sub A.split.left
   ·rw [ek k e e2];exact I.apart.fits k aA
 ·refine I.tr.redist hmute hwu (λop hop=>?_) ?_
  ·show op.g<N.n+1;rcases Array.mem_append.1 hop with x | x
   ·have:=I.tr.num op x;omega
   ·rcases hgu op x with e | e <;> omega
  ·intro k b p o hk hb;have hk':k<N.n+1:=hk;by_cases e:k=N.n
   ·subst e;rw [en] at hb;exact ⟨i,hi,A.split.right b p o hb,K⟩
   ·by_cases e2:k=i
    ·subst e2;rw [ei] at hb;exact ⟨k,hi,A.split.left b p o hb,λq hq=>hq.app _⟩
    ·rw [ek k e e2] at hb;exact ⟨k,aA,⟨p,hb,id⟩,λq hq=>hq.app _⟩
 ·intro k g hk;show O2 P Rep KS (if k=N.n then ch else if k=i then nx else N.s k) N.cl (k==0) g (hs' k) _;rcases Ny hk with ⟨e,rfl⟩ | ⟨e,hk'⟩
  ·have e':k=N.n:=by rw [e];simp [I.size]
   subst e';rw [if_pos rfl,en,Ei,if_neg (λx=>hin x.symm),Ei,if_pos rfl,hn0];exact hrc
  ·have e':k≠N.n:=λx=>e (by rw [x];simp [I.size]);rcases E7 hk' with ⟨rfl,rfl⟩ | ⟨hne,hk''⟩
   ·rw [if_neg e',if_pos rfl,ei,Ei,if_pos rfl];exact hri
   ·rw [if_neg e',if_neg hne,ek k e' hne,Ei,if_neg hne,Ei,if_neg e'];exact I.sit k g hk''
 ·intro a b ga gb c' v' z1 sh z2 sh' m1 m2;have hold:∀(k:Nat)(g0:Goroutine)(cs0:Array CommCase)(sh0:CommShape),((gs.setIfInBounds i (G fr' cs)).push (born P d))[k]? =some (parked g0 cs0 sh0)->gs[k]? =some (parked g0 cs0 sh0):=by
   intro k g0 cs0 sh0 hk;rcases Ny hk with ⟨_,e⟩ | ⟨_,hk'⟩
   ·simp [born,parked] at e
   ·rcases E7 hk' with ⟨_,e⟩ | ⟨_,hk''⟩
    ·simp [G,parked] at e
    ·exact hk''
  exact I.nomeet a b ga gb c' v' z1 sh z2 sh' (hold _ _ _ _ m1) (hold _ _ _ _ m2)
 ·intro x y hx hy hk;have hx':x<N.n+1:=hx;have hy':y<N.n+1:=hy;have hk':if y=N.n then False else if x=N.n then N.kn i y else N.kn x y:=hk
  by_cases ey:y=N.n
  ·rw [if_pos ey] at hk';exact hk'.elim
  ·rw [if_neg ey] at hk';by_cases ex:x=N.n
   ·subst ex;rw [if_pos rfl] at hk';obtain ⟨h2,h3⟩:=I.kn i y hi aA hk';exact ⟨hdone aA h2,λq a ha hg=>K q (h3 q a (htouch q a ha) (hg? q a y (htouch q a ha) hg))⟩
   ·rw [if_neg ex] at hk';obtain ⟨h2,h3⟩:=I.kn x y aA aA hk';exact ⟨hdone aA h2,λq a ha hg=>(h3 q a (htouch q a ha) (hg? q a y (htouch q a ha) hg)).app _⟩
 ·intro c' hc' hcl';obtain ⟨p,op,h2,h3,h4⟩:=I.ck c' hc' hcl';refine ⟨p,op,by rw [getElem?_append_old (lt_size_of_getElem? h2)];exact h2,h3,λy hy hk=>?_⟩;have hy':y<N.n+1:=hy;have hk':if y=N.n then False else N.ck c' y:=hk
  by_cases ey:y=N.n
  ·rw [if_pos ey] at hk';exact hk'.elim
  ·rw [if_neg ey] at hk';obtain ⟨h5,h6⟩:=h4 y aA hk';exact ⟨hdone aA h5,λq a ha hg=>(h6 q a (htouch q a ha) (hg? q a y (htouch q a ha) hg)).app _⟩
end
section
variable {P:Program} {M:Type} {Rep:Nat->M->Value->GH->Prop} {Post:Value->World->Prop}
variable {used:Nat->Prop}
theorem O2.chans{KS:Goroutine->GH->Prop}{s:Cp M}{cl cl':Nat->Bool}{main:Bool}{g:Goroutine}{h:GH}{r:Iy}{i:Nat}(x:O2 P Rep KS s cl main g h r)(hf:KF used cl i s)(e:∀c,used c->cl' c=cl c):O2 P Rep KS s cl' main g h r:=by
 cases x with
 | walk T h1 h2=>exact .walk T h1 h2
 | leave k h1 h2=>exact .leave k h1 h2
 | psend h1 h2 h3 h4=>subst h1;exact .psend rfl (by rw [e _ hf.1];exact h2) h3 h4
 | precv h1 h2 h3 h4=>subst h1;exact .precv rfl (by rw [e _ hf];exact h2) h3 h4
 | wokn h1 h2 h3 h4=>subst h1;exact .wokn rfl (by rw [e _ hf];exact h2) h3 h4
theorem Fq.make{KS:Goroutine->GH->Prop}{N:HU M}{gs:Array Goroutine}{w:World}{t:Trace}{hs:Nat->GH}{r:Nat->Iy}(I:Fq P Rep KS used N gs w t hs r)(hf:∀i,i<N.n->KF used N.cl i (N.s i)){i c:Nat}{nx:Cp M}(hi:i<N.n)
  (hnd:N.s i≠.done) {g:Goroutine} (hgi:gs[i]? =some g) (hc:hs i c=some (true,.chan 0 #[] false 0 0 false)) (hx:Fm P Rep KS nx (i==0) g ((hs i).cut c)) :
  ¬used c/\∃hs' r',Fq P Rep KS (λx=>used x\/x=c) (N.mk' i c nx) gs w t hs' r':=by
 have hu:¬used c:=λq=>by have:=I.free c i q hi;rw [hc] at this;cases this
 have hsub:∀j b p o,Lg hs i ((hs i).cut c) j b=some (p,o)->hs j b=some (p,o):=by
  intro j b p o hb;unfold Lg at hb;split at hb
  ·rename_i e;subst e
   unfold GH.cut at hb;split at hb
   ·cases hb
   ·exact hb
  ·exact hb
 have hcl:∀x,used x->(if x=c then false else N.cl x)=N.cl x:=λx q=>if_neg λe=>by subst e;exact hu q
 have hnone:∀x j,(used x\/x=c)->j<N.n->Lg hs i ((hs i).cut c) j x=none:=by
  intro x j hq hj;unfold Lg;split
  ·unfold GH.cut;split
   ·rfl
   ·rename_i e;exact I.free x i (hq.elim id λq=>absurd q e) hi
  ·rename_i hji
   rcases hq with q | rfl
   ·exact I.free x j q hj
   ·cases hb:hs j x with
    | none=>rfl
    | some y=>exact (I.apart.disj i j x _ y hi hj (λe=>hji e.symm) hc hb).elim
 have hdone:∀{y},N.s y=.done->(N.mk' i c nx).s y=.done:=λ{y} h=>by
  show (if y=i then nx else N.s y)=_;rw [if_neg λe=>by subst e;exact hnd h];exact h
 obtain ⟨ri,hri⟩:=HV (cl:=(N.mk' i c nx).cl) hx;refine ⟨hu,Lg hs i ((hs i).cut c),Ei r i ri,⟨I.size,⟨λj hj b p o hb=>I.apart.fits j hj b p o (hsub j b p o hb),λa b q o x ha hb hab h1 h2=>?_⟩,?_,?_,?_,hnone,?_,I.nomeet,?_,?_⟩⟩
 ·obtain ⟨p,y⟩:=x;exact I.apart.disj a b q o _ ha hb hab (hsub _ _ _ _ h1) (hsub _ _ _ _ h2)
 ·exact ⟨I.tr.words,I.tr.clean,I.tr.low,I.tr.num,λj b o k a hj hb=>I.tr.own j b o k a hj (hsub _ _ _ _ hb),λj b o k a hj hb=>I.tr.ro j b o k a hj (hsub _ _ _ _ hb),λj b p o k a hj hb=>I.tr.chn j b p o k a hj (hsub _ _ _ _ hb)⟩
 ·intro k g' hk;have hkn:k<N.n:=by rw [<-I.size];exact (Array.getElem?_eq_some_iff.1 hk).1
  show O2 P Rep KS (if k=i then nx else N.s k) _ (k==0) g' (Lg hs i _ k) (Ei r i ri k);by_cases e:k=i
  ·subst e;rw [hgi] at hk;cases hk;rw [if_pos rfl,Ei,if_pos rfl];unfold Lg;rw [if_pos rfl];exact hri
  ·rw [if_neg e,Ei,if_neg e];unfold Lg;rw [if_neg e];exact (I.sit k g' hk).chans (hf k hkn) hcl
 ·rintro x (q | rfl)
  ·obtain ⟨s,h1⟩:=I.chans x q;exact ⟨s,by show w.heap[x]? =some (.chan 0 #[] (if x=c then false else N.cl x) s s false);rw [hcl x q];exact h1⟩
  ·exact ⟨0,by show w.heap[x]? =some (.chan 0 #[] (if x=x then false else N.cl x) 0 0 false);rw [if_pos rfl];exact I.apart.fits i hi _ _ _ hc⟩
 ·rintro x k a (q | rfl) h1 h2
  ·exact I.atom x k a q h1 h2
  ·exact I.tr.chn i x _ _ k a hi hc rfl h1 h2
 ·intro x y hx hy hk;obtain ⟨h2,h3⟩:=I.kn x y hx hy hk;exact ⟨hdone h2,h3⟩
 ·rintro x (q | rfl) hx
  ·have hx':(if x=c then false else N.cl x)=true:=hx;rw [hcl x q] at hx';obtain ⟨p,op,h2,h3,h4⟩:=I.ck x q hx';exact ⟨p,op,h2,h3,λy hy hk=>⟨hdone (h4 y hy hk).1,(h4 y hy hk).2⟩⟩
  ·have hx':(if x=x then false else N.cl x)=true:=hx;rw [if_pos rfl] at hx';cases hx'
theorem Fq.runs{KS:Goroutine->GH->Prop}{N:HU M}{gs:Array Goroutine}{w:World}{t:Trace}{hs:Nat->GH}{r:Nat->Iy}(I:Fq P Rep KS used N gs w t hs r)(hf:∀i,i<N.n->KF used N.cl i (N.s i))(he:∃N',JE N N') :
  ∃(i:Nat)(g:Goroutine),gs[i]? =some g/\g.status=.running:=by
 have hget:∀i,i<N.n->∃g,gs[i]? =some g:=λi hi=>⟨_,Array.getElem?_eq_getElem (by rw [I.size];exact hi)⟩;obtain ⟨N',h⟩:=he;cases h with
 | @hire i ch nx hi hs=>
  obtain ⟨g,hg⟩:=hget i hi;refine ⟨i,g,hg,?_⟩;have x:=I.sit i g hg;generalize r i=rk at x;cases x with
  | walk T h1 h2=>exact Bv h1 (λe=>by rw [hs] at e;cases e) h2
  | leave k h1 _=>rw [hs] at h1;cases h1
  | psend h1 _ _ _=>rw [hs] at h1;cases h1
  | precv h1 _ _ _=>rw [hs] at h1;cases h1
  | wokn h1 _ _ _=>rw [hs] at h1;cases h1
 | @shut i c nx hi hs=>
  obtain ⟨g,hg⟩:=hget i hi;refine ⟨i,g,hg,?_⟩;have x:=I.sit i g hg;generalize r i=rk at x;cases x with
  | walk T h1 h2=>exact Bv h1 (λe=>by rw [hs] at e;cases e) h2
  | leave k h1 _=>rw [hs] at h1;cases h1
  | psend h1 _ _ _=>rw [hs] at h1;cases h1
  | precv h1 _ _ _=>rw [hs] at h1;cases h1
  | wokn h1 _ _ _=>rw [hs] at h1;cases h1
 | @hear j c f hj hs hcl=>
  obtain ⟨g,hg⟩:=hget j hj;refine ⟨j,g,hg,?_⟩;have x:=I.sit j g hg;generalize r j=rk at x;cases x with
  | walk T h1 h2=>exact Bv h1 (λe=>by rw [hs] at e;cases e) h2
  | leave k h1 _=>rw [hs] at h1;cases h1
  | psend h1 _ _ _=>rw [hs] at h1;cases h1
  | precv h1 h2 _ _=>rw [hs] at h1;cases h1;rw [hcl] at h2;cases h2
  | wokn h1 _ h3 _=>rw [h3]
 | @meet i j c m nx f hi hj hij hs hs'=>
  obtain ⟨g,hg⟩:=hget i hi;obtain ⟨g',hg'⟩:=hget j hj;have x:=I.sit i g hg;have y:=I.sit j g' hg';generalize r i=rk at x;generalize r j=rk' at y;cases x with
  | walk T h1 h2=>exact ⟨i,g,hg,Bv h1 (λe=>by rw [hs] at e;cases e) h2⟩
  | leave k h1 _=>rw [hs] at h1;cases h1
  | precv h1 _ _ _=>rw [hs] at h1;cases h1
  | wokn h1 _ _ _=>rw [hs] at h1;cases h1
  | psend h1 h2 h3 h4=>
   cases y with
   | walk T h1 h2=>exact ⟨j,g',hg',Bv h1 (λe=>by rw [hs'] at e;cases e) h2⟩
   | leave k h1 _=>rw [hs'] at h1;cases h1
   | psend h1 _ _ _=>rw [hs'] at h1;cases h1
   | wokn h1 _ h3 _=>exact ⟨j,g',hg',by rw [h3]⟩
   | precv k1 k2 k3 k4=>
    rw [hs] at h1;cases h1;rw [hs'] at k1;cases k1;rw [h3] at hg;rw [k3] at hg';exact (I.nomeet _ _ _ _ _ _ _ _ _ _ hg hg').elim
theorem Fq.runs'{KS:Goroutine->GH->Prop}{N:HU M}{gs:Array Goroutine}{w:World}{t:Trace}{hs:Nat->GH}{r:Nat->Iy}(I:Fq P Rep KS used N gs w t hs r)(hf:∀i,i<N.n->KF used N.cl i (N.s i))
  (he:(∃N',JE N N')\/∃i f,i<N.n/\N.s i=.make f):∃(i:Nat)(g:Goroutine),gs[i]? =some g/\g.status=.running:=by
 rcases he with he | ⟨i,f,hi,hs⟩
 ·exact I.runs hf he
 ·refine ⟨i,_,Array.getElem?_eq_getElem (by rw [I.size];exact hi),?_⟩;have x:=I.sit i _ (Array.getElem?_eq_getElem (by rw [I.size];exact hi));generalize r i=rk at x;cases x with
  | walk T h1 h2=>exact Bv h1 (λe=>by rw [hs] at e;cases e) h2
  | leave k h1 _=>rw [hs] at h1;cases h1
  | psend h1 _ _ _=>rw [hs] at h1;cases h1
  | precv h1 _ _ _=>rw [hs] at h1;cases h1
  | wokn h1 _ _ _=>rw [hs] at h1;cases h1
theorem FU(g:Nat)(fn:FuncId)(pos:String):MemOp.ofEvents g fn pos #[]=#[]:=rfl
set_option maxHeartbeats 1000000 in
theorem net_runs{N:HU M}(hN:Fp used N):∀r gs w sl t hs,Fq P Rep (EJ P Post) used N gs w t hs r->Bp P (JS Post w.os w.output) (crowd gs w sl) t:=by
 induction hN with
 | stop used N h0 hs0 hrest=>
  intro r gs w sl t hs I;obtain ⟨g,hg⟩:∃g,gs[0]? =some g:=⟨_,Array.getElem?_eq_getElem (by rw [I.size];exact h0)⟩;have x:=I.sit 0 g hg;generalize hr0:r 0=r0 at x;have hok:EJ P Post g (hs 0):=by
   cases x with
   | walk T h1 h2=>
    rw [hs0] at h2;exact Ee.elim LS ⟨T,h2⟩
   | leave k h1 _=>rw [hs0] at h1;cases h1
   | psend h1 _ _ _=>rw [hs0] at h1;cases h1
   | precv h1 _ _ _=>rw [hs0] at h1;cases h1
   | wokn h1 _ _ _=>rw [hs0] at h1;cases h1
  refine hok gs w sl (λj=>match r j with | .leave k=>k | _=>0) t ⟨hg,?_,I.apart.fits 0 h0,I.tr.words,I.tr.clean,I.tr.low,by rw [I.size];exact I.tr.num,?_,λb p o k a hb=>I.tr.chn 0 b p o k a h0 hb⟩
  ·intro j y hj hy;have hjl:j<N.n:=by rw [<-I.size];exact (Array.getElem?_eq_some_iff.1 hy).1
   have y1:=I.sit j y hy;have hd:=(hrest j hj hjl).1;generalize r j=rk at y1;cases y1 with
   | walk T h1 h2=>rw [hd] at h1;exact absurd trivial h1
   | leave k h1 h2=>exact h2
   | psend h1 _ _ _=>rw [hd] at h1;cases h1
   | precv h1 _ _ _=>rw [hd] at h1;cases h1
   | wokn h1 _ _ _=>rw [hd] at h1;cases h1
  ·intro k a hk;obtain ⟨op,h1,_⟩:=touch_of hk;have hg1:t.g? k=some op.g:=by simp [Trace.g?,h1]
   have hlt:=I.tr.num op (mem_of_getElem? h1);rcases Nat.eq_zero_or_pos op.g with e | e
   ·have:=knows_own h1;rw [e] at this;exact this
   ·exact (I.kn 0 op.g h0 hlt (hrest op.g e hlt).2).2 k a hk hg1
 | step used N h0 he hf hgd hmk ih ihm=>
  intro r
  induction ranks_wf N.n r with
  | intro r _ ihr=>
  intro gs w sl t hs I;by_cases hmake:∃i f g,i<N.n/\N.s i=.make f/\gs[i]? =some g/\Ix P Rep (EJ P Post) (.make f) (i==0) g (hs i)
  ·obtain ⟨i,f,g,hi,hsi,hgi,_,c,hc,hd⟩:=hmake;obtain ⟨hu,hs',r',hI⟩:=I.make hf hi (λe=>by rw [hsi] at e;cases e) hgi hc hd;exact ihm i f c hi hsi hu r' gs w sl t hs' hI
  have hstop:∀j,j<N.n->N.s j≠.stop:=λj hj e=>by have:=hf j hj;rw [e] at this;exact this
  have haw:∀g ∈ gs,awake g:=by
   intro g hg;obtain ⟨i,hi,rfl⟩:=Array.mem_iff_getElem.1 hg;exact awake_of ((I.sit i _ (Array.getElem?_eq_getElem hi)).status (hstop i (by rw [<-I.size];exact hi)))
  obtain ⟨i,g,d,sl',hi,hg,hst⟩:=crowd_pick (P:=P) (w:=w) (sl:=sl) haw (I.runs' hf he);have hil:i<N.n:=by rw [<-I.size];exact (Array.getElem?_eq_some_iff.1 hi).1
  have I1:=I.at d;have hio:(w.at d).os=w.os/\(w.at d).output=w.output:=⟨rfl,rfl⟩;generalize w.at d=w1 at I1 hst hio;have parks:∀{fr cs cases shape},(∀x,stepG P (i==0) g w1=x->x=.comm (G fr cs) cases true shape w1 #[])->(∀cc ∈ cases,NoWays w1 (gs.setIfInBounds i ph) cc)->
    O2 P Rep (EJ P Post) (N.s i) N.cl (i==0) (parked (G fr cs) cases shape) (hs i) .low->RLt .low (r i)->
    (∀(j:Nat)(gj:Goroutine),gs[j]? =some gj->(∀g0 c v z sh g1 z' sh',parked (G fr cs) cases shape=parked g0 #[scase c v z] sh->gj=parked g1 #[rcase c z'] sh'->False)/\(∀g0 c v z sh g1 z' sh',gj=parked g0 #[scase c v z] sh->parked (G fr cs) cases shape=parked g1 #[rcase c z'] sh'->False))->
    Bp P (JS Post w.os w.output) (crowd gs w sl) t:=by
   intro fr cs cases shape hstep hw hsit hlt hno;have hrun:=crowd_waits (P:=P) (sl:=sl') hi (hstep _ rfl) hw;refine Bp.step (hst.trans hrun) (Bp.at hio.1 hio.2 ?_);rw [FU,Array.append_empty];exact ihr _ ⟨i,hil,by rw [Ei,if_pos rfl];exact hlt,λj _ hj=>by rw [Ei,if_neg hj]⟩ _ _ _ _ _ (I1.park (g:=g) hil (.inr trivial) hsit hno)
  have recvs:∀{c f fr cs z ok},N.s i=.recv c f->Lh P (i==0) Rep c (λo=>Fm P Rep (EJ P Post) (f o) (i==0)) fr cs z ok (hs i)->stepG P (i==0) g w1=stepG P (i==0) (G fr cs) w1->
    (N.cl c=false->RLt .low (r i))->Bp P (JS Post w.os w.output) (crowd gs w sl) t:=by
   intro c f fr cs z ok hsi B hsame hlow;have hfi:=hf i hil;rw [hsi] at hfi;have hstep:stepG P (i==0) g w1=.comm (G fr cs) #[rcase c z] true (.recv ok) w1 #[]:=hsame.trans (B.step w1 (I1.apart.fits i hil));obtain ⟨s,hcw⟩:=I1.chans c hfi;cases hcl:N.cl c with
   | true=>
    rw [hcl] at hcw;have hp:partners (gs.setIfInBounds i ph) c true=[]:=partners_nil λj gj hj=>by
     rcases getElem?_stand gs i j gj hj with ⟨_,rfl⟩ | ⟨_,hj'⟩
     ·rfl
     ·have hjl:j<N.n:=by rw [<-I.size];exact (Array.getElem?_eq_some_iff.1 hj').1
      have y:=I1.sit j gj hj';generalize r j=rk at y;cases y with
      | walk T h1 h2=>exact offersAt_of_not_blocked (by rw [Bv h1 (hstop j hjl) h2];simp) _ _
      | leave k h1 h2=>exact offersAt_of_not_blocked (by rcases h2.status with h | h <;> rw [h] <;> simp) _ _
      | @psend c' _ _ _ _ _ _ _ _ h1 h2 h3 _=>
       rw [h3,offersAt_parked_send]
       have:c'≠c:=λe=>by rw [e,hcl] at h2;cases h2
       rw [if_neg this]
      | precv h1 h2 h3 _=>rw [h3];exact offersAt_parked_recv' _ _ _ _ _
      | wokn h1 h2 h3 _=>exact offersAt_of_not_blocked (by rw [h3];simp) _ _
    have hrun:=crowd_recv_closed (P:=P) (sl:=sl') hi hstep hcw hp;rw [finishComm_recv,FU,Array.empty_append] at hrun;obtain ⟨r',hI⟩:=I1.hear hil hsi hfi hcl B (fn:=fr.fn) (pos:=fr.place) rfl;exact Bp.step (hst.trans hrun) (Bp.at hio.1 hio.2 (ih _ (.hear hil hsi hcl) r' _ _ _ _ _ hI))
   | false=>
    rw [hcl] at hcw;by_cases hp:partners (gs.setIfInBounds i ph) c true=[]
    ·refine parks (λx hx=>by rw [<-hx];exact hstep) (λcc hcc=>?_) (.precv hsi hcl rfl B) (hlow hcl) ?_
     ·simp at hcc;subst hcc;exact ways_recv_none hcw hp
     ·intro j gj hj;refine ⟨λg0 c' v z1 sh g1 z2 sh' h1 _=>IC h1,λg0 c' v z1 sh g1 z2 sh' h1 h2=>?_⟩;obtain ⟨_,_,_,rfl,_,_⟩:=SK h2;have hji:j≠i:=λe=>by subst e;rw [hi] at hj;cases hj;rw [h1] at hg;cases hg
      have:(j,0) ∈ partners (gs.setIfInBounds i ph) c true:=mem_partners.2 ⟨gj,stand_get hji hj,by rw [h1,offersAt_parked_send,if_pos rfl];simp⟩
      rw [hp] at this;cases this
    ·have hall:∀j k,(j,k) ∈ partners (gs.setIfInBounds i ph) c true->k=0/\j≠i/\∃gj vj zj shj,gs[j]? =some (parked gj #[scase c vj zj] shj):=by
      intro j k hjk;obtain ⟨gj,hj,ho⟩:=mem_partners.1 hjk;rcases getElem?_stand gs i j gj hj with ⟨_,rfl⟩ | ⟨hji,hj'⟩
      ·rw [offersAt_ph] at ho;cases ho
      ·have hjl:j<N.n:=by rw [<-I.size];exact (Array.getElem?_eq_some_iff.1 hj').1
       have y:=I1.sit j gj hj';generalize r j=rk at y;cases y with
       | walk T h1 h2=>rw [offersAt_of_not_blocked (by rw [Bv h1 (hstop j hjl) h2];simp)] at ho;cases ho
       | leave k h1 h2=>rw [offersAt_of_not_blocked (by rcases h2.status with h | h <;> rw [h] <;> simp)] at ho;cases ho
       | @psend c' _ _ _ _ _ _ _ _ h1 h2 h3 _=>
        rw [h3,offersAt_parked_send] at ho;by_cases e:c'=c
        ·subst e;rw [if_pos rfl] at ho;rw [h3] at hj';exact ⟨by simpa using ho,hji,_,_,_,_,hj'⟩
        ·rw [if_neg e] at ho;cases ho
       | precv h1 h2 h3 _=>rw [h3,offersAt_parked_recv'] at ho;cases ho
       | wokn h1 h2 h3 _=>rw [offersAt_of_not_blocked (by rw [h3];simp)] at ho;cases ho
     obtain ⟨j,gj,vj,zj,shj,d',hji,hj,hrun⟩:=crowd_recv_meets_some (P:=P) (sl:=sl') hi hstep hcw hp hall;have hjl:j<N.n:=by rw [<-I.size];exact (Array.getElem?_eq_some_iff.1 hj).1
     have y:=I1.sit j _ hj;generalize r j=rk at y;cases y with
     | walk T h1 h2=>have:=Bv h1 (hstop j hjl) h2;cases this
     | leave k h1 h2=>rcases h2.status with h | h <;> cases h
     | precv h1 h2 h3 _=>exact (IC h3.symm).elim
     | wokn h1 h2 h3 _=>have:=congrArg Goroutine.status h3;cases this
     | @psend c' m nx fr2 cs2 v2 z2 hm h1' h1 h2 h3 A=>
      obtain ⟨e1,e2,e3,rfl,rfl,rfl,rfl⟩:=SL h3;rw [finishComm_recv,finishComm_send,FU,Array.empty_append,SM e1 e2 e3] at hrun;have hij:i≠j:=λe=>hji e.symm;obtain ⟨hs',r',hI⟩:=I1.meet (d:=d') hjl hil hji h1 hsi hfi hcl A B (gs':=(gs.setIfInBounds j (G (fr2.finish undef) cs2)).setIfInBounds i (G (fr.finish (recvd ok vj true)) cs))
       (by rw [Array.getElem?_setIfInBounds_ne hij];simp [I.size,hjl]) (by simp [I.size,hil])
       (λk hk1 hk2=>by rw [Array.getElem?_setIfInBounds_ne (λe=>hk2 e.symm),Array.getElem?_setIfInBounds_ne (λe=>hk1 e.symm)]) aD (s:=s) rfl
      exact Bp.step (hst.trans hrun) (Bp.at hio.1 hio.2 (ih _ (.meet hjl hil hji h1 hsi) r' _ _ _ _ _ hI))
  have x:=I1.sit i g hi;generalize hri:r i=ri at x;cases x with
  | leave k h1 h2=>
   cases k with
   | zero=>rw [show g.status=.finished from h2] at hg;cases hg
   | succ k=>
    rcases h2 with h2 | ⟨_,g',hstp,hq⟩
    ·rw [h2] at hg;cases hg
    have hi0:(i==0)=false:=by
     have h9:=hf i hil;rw [h1] at h9;have h10:i≠0:=h9;simpa using h10
    have hrun:=runT_crowd_go (P:=P) (sl:=sl') (i:=i) hi (by rw [hi0];exact hstp w1);refine Bp.step (hst.trans hrun) (Bp.at hio.1 hio.2 ?_);rw [FU,Array.append_empty];exact ihr _ ⟨i,hil,by rw [Ei,if_pos rfl,hri];exact .leave k,λj _ hj=>by rw [Ei,if_neg hj]⟩ _ _ _ _ _ (I1.quit hf hi h1 hq)
  | psend h1 h2 h3 _=>rw [h3] at hg;cases hg
  | precv h1 h2 h3 _=>rw [h3] at hg;cases hg
  | wokn h1 h2 h3 B=>
   refine recvs h1 B ?_ (λe=>by rw [h2] at e;cases e);rw [h3,stepG_tries];rfl
  | walk T hnd hT=>
   have hcase:Ix P Rep (EJ P Post) (N.s i) (i==0) g (hs i)\/∃f,T=.node f/\∀w,EO w (hs i)->∃g' w' es h',stepG P (i==0) g w=.go g' w' es/\Bl (hs i) w es h' w'/\SJ P (i==0) (Ix P Rep (EJ P Post) (N.s i) (i==0)) (f w) g' h':=by
    cases T with
    | leaf=>exact .inl hT
    | node f=>exact hT.imp id λx=>⟨f,rfl,x.2⟩
   rcases hcase with hS | ⟨f,rfl,hstp⟩
   ·have hlow:RLt .low (r i):=by rw [hri];exact .low T
    have hfi:=hf i hil;cases hsc:N.s i with
    | stop=>exact absurd hsc (hstop i hil)
    | never=>rw [hsc] at hfi;exact hfi.elim
    | done=>rw [hsc] at hnd;exact absurd trivial hnd
    | make f=>rw [hsc] at hS;exact absurd ⟨i,f,g,hil,hsc,hi,hS⟩ hmake
    | recv c f=>
     rw [hsc] at hS;obtain ⟨fr,cs,z,ok,rfl,B⟩:=hS;exact recvs hsc B rfl (λ_=>hlow)
    | close c nx=>
     rw [hsc] at hS hfi;obtain ⟨fr,cs,fr',cs',rfl,A⟩:=hS;obtain ⟨s,hcw⟩:=I1.chans c hfi.1;rw [hfi.2] at hcw;have hstep:=A.step w1 s s (I1.apart.fits i hil) hcw;have hrun:=runT_crowd_go (P:=P) (sl:=sl') (i:=i) hi hstep;have eU:MemOp.ofEvents i (G fr cs).frame.fn (G fr cs).frame.place #[⟨.obj c,false,true⟩,⟨.obj c,true,true⟩]=#[{ g:=i,fn:=fr.fn,pos:=fr.place,act:=.access ⟨.obj c,false,true⟩ },{ g:=i,fn:=fr.fn,pos:=fr.place,act:=.close c }]:=by simp [MemOp.ofEvents,MemAct.ofEvent,G]
     have hst':JE N (N.shut i c nx):=.shut hil hsc;have hgood:Fp used (N.shut i c nx):=hgd _ hst';obtain ⟨r',hI⟩:=I1.shut hf hil hsc hfi.1 hcw hgood hi A.wake A.next eU;exact Bp.step (hst.trans hrun) (Bp.at hio.1 hio.2 (ih _ hst' r' _ _ _ _ _ hI))
    | spawn ch nx=>
     rw [hsc] at hS;obtain ⟨fr,cs,fr',d',hc,h1,rfl,A⟩:=hS;have hrun:=runT_crowd_spawn (P:=P) (sl:=sl') (i:=i) hi (A.step w1 (I1.apart.fits i hil));obtain ⟨hs',r',hI⟩:=I1.hire hil hsc A (u:=(MemOp.ofEvents i (G fr cs).frame.fn (G fr cs).frame.place #[]).push { g:=i,fn:=(G fr cs).frame.fn,pos:=(G fr cs).frame.place,act:=.go gs.size } |>.push { g:=gs.size,fn:=(born P d').frame.fn,pos:=(G fr cs).frame.place,act:=.start }) (by rw [FU,I.size];rfl);exact Bp.step (hst.trans hrun) (Bp.at hio.1 hio.2 (ih _ (.hire hil hsc) r' _ _ _ _ _ hI))
    | send c m nx=>
     rw [hsc] at hS hfi;obtain ⟨fr,cs,v,z,hm,h1,rfl,A⟩:=hS;obtain ⟨s,hcw⟩:=I1.chans c hfi.1;rw [hfi.2] at hcw;have hstep:=A.step w1 (I1.apart.fits i hil);by_cases hp:partners (gs.setIfInBounds i ph) c false=[]
     ·refine parks (λx hx=>by rw [<-hx];exact hstep) (λcc hcc=>?_) (.psend hsc hfi.2 rfl A) hlow ?_
      ·simp at hcc;subst hcc;exact ways_send_none hcw aD hp
      ·intro j gj hj;refine ⟨λg0 c' v1 z1 sh g1 z2 sh' h1 h2=>?_,λg0 c' v1 z1 sh g1 z2 sh' _ h2=>IC h2.symm⟩;obtain ⟨_,_,_,rfl,_,_,_⟩:=SL h1;have hji:j≠i:=λe=>by subst e;rw [hi] at hj;cases hj;rw [h2] at hg;cases hg
       have:(j,0) ∈ partners (gs.setIfInBounds i ph) c false:=mem_partners.2 ⟨gj,stand_get hji hj,by rw [h2,offersAt_parked_recv,if_pos rfl];simp⟩
       rw [hp] at this;cases this
     ·have hall:∀j k,(j,k) ∈ partners (gs.setIfInBounds i ph) c false->k=0/\j≠i/\∃gj zj shj,gs[j]? =some (parked gj #[rcase c zj] shj):=by
       intro j k hjk;obtain ⟨gj,hj,ho⟩:=mem_partners.1 hjk;rcases getElem?_stand gs i j gj hj with ⟨_,rfl⟩ | ⟨hji,hj'⟩
       ·rw [offersAt_ph] at ho;cases ho
       ·have hjl:j<N.n:=by rw [<-I.size];exact (Array.getElem?_eq_some_iff.1 hj').1
        have y:=I1.sit j gj hj';generalize r j=rk at y;cases y with
        | walk T h1 h2=>rw [offersAt_of_not_blocked (by rw [Bv h1 (hstop j hjl) h2];simp)] at ho;cases ho
        | leave k h1 h2=>rw [offersAt_of_not_blocked (by rcases h2.status with h | h <;> rw [h] <;> simp)] at ho;cases ho
        | psend h1 h2 h3 _=>rw [h3,offersAt_parked_send'] at ho;cases ho
        | @precv c' _ _ _ _ _ h1 h2 h3 _=>
         rw [h3,offersAt_parked_recv] at ho;by_cases e:c'=c
         ·subst e;rw [if_pos rfl] at ho;rw [h3] at hj';exact ⟨by simpa using ho,hji,_,_,_,hj'⟩
         ·rw [if_neg e] at ho;cases ho
        | wokn h1 h2 h3 _=>rw [offersAt_of_not_blocked (by rw [h3];simp)] at ho;cases ho
      obtain ⟨j,gj,zj,shj,d',hji,hj,hrun⟩:=crowd_send_meets_some (P:=P) (sl:=sl') hi hstep hcw hp hall;have hjl:j<N.n:=by rw [<-I.size];exact (Array.getElem?_eq_some_iff.1 hj).1
      have y:=I1.sit j _ hj;generalize r j=rk at y;cases y with
      | walk T h1 h2=>have:=Bv h1 (hstop j hjl) h2;cases this
      | leave k h1 h2=>rcases h2.status with h | h <;> cases h
      | psend h1 h2 h3 _=>exact (IC h3).elim
      | wokn h1 h2 h3 _=>have:=congrArg Goroutine.status h3;cases this
      | @precv c' f fr2 cs2 z2 ok k1 k2 k3 B=>
       obtain ⟨e1,e2,e3,rfl,rfl,rfl⟩:=SK k3;rw [finishComm_recv,finishComm_send,FU,Array.empty_append,SM e1 e2 e3] at hrun;have hij:i≠j:=λe=>hji e.symm;obtain ⟨hs',r',hI⟩:=I1.meet (d:=d') hil hjl hij hsc k1 hfi.1 hfi.2 A B (gs':=(gs.setIfInBounds j (G (fr2.finish (recvd ok v true)) cs2)).setIfInBounds i (G (fr.finish undef) cs))
        (by simp [I.size,hil]) (by rw [Array.getElem?_setIfInBounds_ne hij];simp [I.size,hjl])
        (λk hk1 hk2=>by rw [Array.getElem?_setIfInBounds_ne (λe=>hk1 e.symm),Array.getElem?_setIfInBounds_ne (λe=>hk2 e.symm)]) aD (s:=s) rfl
       exact Bp.step (hst.trans hrun) (Bp.at hio.1 hio.2 (ih _ (.meet hil hjl hij hsc k1) r' _ _ _ _ _ hI))
   ·obtain ⟨g',w',es,h',h1,h2,h3⟩:=hstp w1 (I1.apart.fits i hil);have hrun:=runT_crowd_go (P:=P) (sl:=sl') (i:=i) hi h1;refine Bp.step (hst.trans hrun) (Bp.at (h2.os.trans hio.1) (h2.out.trans hio.2) ?_);refine ihr _ ⟨i,hil,by rw [Ei,if_pos rfl,hri];exact .walk f w1,λj _ hj=>by rw [Ei,if_neg hj]⟩ _ _ _ _ _ (I1.step hf hi hnd h2 (Bv hnd (hstop i hil) h3) (.walk (f w1) hnd h3) _ _)
end
end Go.Ns
namespace Go.Ns
open Go.Conc
section
variable {P:Program}
def isAggD:TypeDesc->Bool
 | .struct _=>true
 | .array _ _=>true
 | _=>false
def CL(P:Program)(t:TypeId):Option (Bool×Nat):=
 match P.underlying t with
 | none=>none
 | some d=>match P.info? t with
  | none=>none
  | some i=>some (isAggD d,i.size)
theorem SO{t:TypeId}{a:Bool}{n:Nat}(h:CL P t=some (a,n)):∃d i,P.underlying t=some d/\P.info? t=some i/\isAggD d=a/\i.size=n:=by
 unfold CL at h;cases hu:P.underlying t with
 | none=>rw [hu] at h;cases h
 | some d=>
  cases hi:P.info? t with
  | none=>rw [hu] at h;simp only [hi] at h;cases h
  | some i=>
   rw [hu] at h;simp only [hi,Option.some.injEq,Prod.mk.injEq] at h;exact ⟨d,i,rfl,rfl,h.1,h.2⟩
theorem Al{t:TypeId}{d:TypeDesc}{h:GH}{Q:TypeDesc->GH->Prop}(ht:P.underlying t=some d)(x:Q d h):(underlying t).gh P h Q:=by
 unfold underlying;refine AD _ _ ?_;show (match P.underlying t with | some d=>(pure d:Sem TypeDesc) | none=>stuck "no such type").gh P h Q;rw [ht];exact x
theorem Cl{t:TypeId}{i:TypeInfo}{h:GH}{Q:TypeInfo->GH->Prop}(ht:P.info? t=some i)(x:Q i h):(typeInfo t).gh P h Q:=by
 unfold typeInfo;refine AD _ _ ?_;show (match P.info? t with | some i=>(pure i:Sem TypeInfo) | none=>stuck "no such type").gh P h Q;rw [ht];exact x
theorem PG{t:TypeId}{a:Bool}{n:Nat}{h:GH}{Q:Bool->GH->Prop}(ht:CL P t=some (a,n))(x:Q a h):(isAgg t).gh P h Q:=by
 obtain ⟨d,i,h1,h2,rfl,rfl⟩:=SO ht;unfold isAgg;refine AD _ _ (Al h1 ?_);cases d <;> exact x
theorem D9{t:TypeId}{a:Bool}{n:Nat}{h:GH}{Q:Nat->GH->Prop}(ht:CL P t=some (a,n))(x:Q n h):(sizeOf t).gh P h Q:=by
 obtain ⟨d,i,h1,h2,rfl,rfl⟩:=SO ht;unfold sizeOf;exact AD _ _ (Cl h2 x)
theorem ZG{a:Addr}{p:Bool}{c:Array Value}{t:TypeId}{f:Nat×Nat}{v:Value}{h:GH}{Q:Value->GH->Prop}(hs:a.spot=none)(hb:h a.block=some (p,.cells c t f))(hc:c[a.off]? =some v)(x:Q v h):(load a).gh P h Q:=
 ⟨rfl,hs,p,c,t,f,v,hb,hc,x⟩
theorem Uz{a:Addr}(n:Nat)(h:a.spot=none):(a.add n).spot=none:=by unfold Addr.add;split <;> simp [h]
theorem NE(a:Addr)(n:Nat):(a.add n).block=a.block:=by unfold Addr.add;split <;> rfl
theorem To(a:Addr)(n:Nat):(a.add n).off=a.off+n:=by
 unfold Addr.add;split
 ·rename_i e;subst e;rfl
 ·rfl
theorem Iz(b off n:Nat):(Addr.add ⟨b,off,none⟩ n)=⟨b,off+n,none⟩:=by
 unfold Addr.add;split
 ·rename_i e;subst e;rfl
 ·rfl
theorem MK{a:Addr}{p:Bool}{c:Array Value}{t:TypeId}{f:Nat×Nat}{h:GH}{Q:Array Value->GH->Prop}(hs:a.spot=none)(hb:h a.block=some (p,.cells c t f)) :
  ∀(n i:Nat)(acc:Array Value),a.off+i+n<=c.size->Q (acc++c.extract (a.off+i) (a.off+i+n)) h->(loadCellsFrom a i n acc).gh P h Q:=by
 intro n
 induction n with
 | zero=>
  intro i acc _ x
  have:acc++c.extract (a.off+i) (a.off+i+0)=acc:=by simp;omega
  rw [this] at x;exact x
 | succ n ih=>
  intro i acc hn x;unfold loadCellsFrom;refine AD _ _ (ZG (v:=c[a.off+i]) (Uz i hs) (by rw [NE];exact hb) (by rw [To];simp) ?_);refine ih (i+1) (acc.push c[a.off+i]) aA ?_;have e:acc++c.extract (a.off+i) (a.off+i+(n+1))=acc.push c[a.off+i]++c.extract (a.off+(i+1)) (a.off+(i+1)+n):=by
   apply Array.ext';simp only [Array.toList_append,Array.toList_push,Array.toList_extract,List.extract_eq_take_drop,List.append_assoc];congr 1;have h1:a.off+i+(n+1)-(a.off+i)=n+1:=aA
   have h2:a.off+(i+1)+n-(a.off+(i+1))=n:=aA
   rw [h1,h2];have hlt:a.off+i<c.toList.length:=by simp;omega
   rw [List.drop_eq_getElem_cons hlt,List.take_succ_cons];simp [Nat.add_assoc]
  rw [<-e];exact x
def Rd(P:Program)(h:GH)(t:TypeId)(b off:Nat)(v:Value):Prop:=
 ∃p c ty f,h b=some (p,.cells c ty f)/\((∃n,CL P t=some (false,n)/\c[off]? =some v)\/∃n,CL P t=some (true,n)/\off+n<=c.size/\v=.agg (c.extract off (off+n)))
theorem Rd.one{h:GH}{t:TypeId}{n b off:Nat}{v:Value}{p:Bool}{c:Array Value}{ty:TypeId}{f:Nat×Nat}(ht:CL P t=some (false,n))(hb:h b=some (p,.cells c ty f))(hc:c[off]? =some v):Rd P h t b off v:=
 ⟨p,c,ty,f,hb,.inl ⟨n,ht,hc⟩⟩
theorem Rd.agg{h:GH}{t:TypeId}{n b off:Nat}{vs:Array Value}{p:Bool}{c:Array Value}{ty:TypeId}{f:Nat×Nat}(ht:CL P t=some (true,n))(hb:h b=some (p,.cells c ty f))(hn:off+n<=c.size)(hv:c.extract off (off+n)=vs):Rd P h t b off (.agg vs):=
 ⟨p,c,ty,f,hb,.inr ⟨n,ht,hn,by rw [hv]⟩⟩
theorem PH{h:GH}{t:TypeId}{b off:Nat}{v:Value}{Q:Value->GH->Prop}(r:Rd P h t b off v)(x:Q v h):(loadVar t ⟨b,off,none⟩).gh P h Q:=by
 obtain ⟨p,c,ty,f,hb,⟨n,ht,hc⟩ | ⟨n,ht,hn,rfl⟩⟩:=r
 ·unfold loadVar;refine AD _ _ (PG ht ?_);exact ZG rfl hb hc x
 ·unfold loadVar;refine AD _ _ (PG ht ?_);refine AD _ _ (D9 ht ?_);refine AD _ _ (MK (a:=⟨b,off,none⟩) rfl hb n 0 #[] (by simpa using hn) ?_);exact Ar (by simpa using x)
def BZ(c:Array Value)(off:Nat):List Value->Array Value
 | []=>c
 | v ::vs=>BZ (c.setIfInBounds off v) (off+1) vs
theorem HF(vs:List Value):∀(c:Array Value)(off:Nat),(BZ c off vs).size=c.size:=by
 induction vs with
 | nil=>intro c off;rfl
 | cons v vs ih=>intro c off;simp [BZ,ih]
theorem gh_store{a:Addr}{v:Value}{c:Array Value}{t:TypeId}{h:GH}{Q:Unit->GH->Prop}(hs:a.spot=none)(hv:v.oneCell'=true)(hb:h a.block=some (true,.cells c t (0,0)))(ho:a.off<c.size)
  (x:Q () (h.set a.block true (.cells (c.setIfInBounds a.off v) t (0,0)))):(store a v).gh P h Q:=
 ⟨rfl,hs,hv,c,t,(0,0),hb,ho,aD,x⟩
theorem set_set(h:GH)(r:Nat)(p q:Bool)(o o':Obj):(h.set r p o).set r q o'=h.set r q o':=by
 funext b;unfold GH.set;split <;> rfl
theorem HG{a:Addr}{t:TypeId}{Q:Unit->GH->Prop}(hs:a.spot=none):∀(vs:List Value)(i:Nat)(c:Array Value)(h:GH),(∀v ∈ vs,v.oneCell'=true)->h a.block=some (true,.cells c t (0,0))->a.off+i+vs.length<=c.size->
  Q () (h.set a.block true (.cells (BZ c (a.off+i) vs) t (0,0)))->(storeCells a vs i).gh P h Q:=by
 intro vs
 induction vs with
 | nil=>
  intro i c h _ hb _ x
  have:h.set a.block true (.cells (BZ c (a.off+i) []) t (0,0))=h:=by
   funext b;unfold GH.set;split
   ·rename_i e;subst e;exact hb.symm
   ·rfl
  rw [this] at x;unfold storeCells;exact x
 | cons v vs ih=>
  intro i c h hv hb hn x;unfold storeCells;simp only [List.length_cons] at hn;refine AD _ _ (gh_store (Uz i hs) (hv v aD) (by rw [NE];exact hb) (by rw [To];omega) ?_);rw [NE,To];refine ih (i+1) (c.setIfInBounds (a.off+i) v) _ (λy hy=>hv y (by simp [hy])) (GH.set_same _ _ _ _) (by simp;omega) ?_;rw [set_set];exact x
def Value.fine(v:Value):Bool:=v.cells.toList.all λx=>x.oneCell'
theorem U0{h:GH}{t:TypeId}{b off:Nat}{v:Value}{g:Bool}{n:Nat}{c:Array Value}{ty:TypeId}{Q:Unit->GH->Prop}(ht:CL P t=some (g,n))(hb:h b=some (true,.cells c ty (0,0)))(hsz:v.cells.size=n)(hv:Value.fine v=true)
  (hn:off+n<=c.size) (x:Q () (h.set b true (.cells (BZ c off v.cells.toList) ty (0,0)))):(storeVar t ⟨b,off,none⟩ v).gh P h Q:=by
 unfold storeVar;refine AD _ _ (D9 ht ?_);rw [if_neg (by rw [hsz];simp)];refine HG (a:=⟨b,off,none⟩) rfl _ 0 c h ?_ hb ?_ ?_
 ·intro y hy;unfold Value.fine at hv;exact List.all_eq_true.1 hv y hy
 ·show off+0+v.cells.toList.length<=c.size;simp;omega
 ·exact x
def LT(P:Program)(O:Nat->Value)(h:GH):List ResultVar->(List Value->Prop)->Prop
 | [],Q=>Q []
 | .tmp t ::l,Q=>LT P O h l λvs=>Q (O t ::vs)
 | .cell a t ::l,Q=>∃b off v,O a=.pointer (some ⟨b,off,none⟩)/\Rd P h t b off v/\LT P O h l λvs=>Q (v ::vs)
def K0(vs:List Value):Value:=match vs with
 | [v]=>v
 | vs=>.tuple vs.toArray
theorem Wj{fn:Func}{t:Array Value}{N:Nat}{O:Nat->Value}{h:GH}{R:Value->GH->Prop}(hs:BX t N O)(x:LT P O h fn.results.toList λvs=>R (K0 vs) h):(results fn t).gh P h R:=by
 unfold results;refine AD _ _ ?_;have key:∀(l:List ResultVar)(Q:List Value->Prop)(K:List Value->GH->Prop),(∀vs,Q vs->K vs h)->LT P O h l Q->
   (l.mapM (m:=Sem) fun | .tmp u=>pure (t.getD u undef) | .cell a ty=>do loadVar ty (<-asAddr (t.getD a undef))).gh P h K:=by
  intro l
  induction l with
  | nil=>intro Q K hQ x;rw [List.mapM_nil];exact hQ _ x
  | cons r l ih=>
   intro Q K hQ x;rw [List.mapM_cons];cases r with
   | tmp u=>
    refine AD _ _ (Ar ?_);refine AD _ _ (ih (λvs=>Q (O u ::vs)) (λvs h'=>K (t.getD u undef ::vs) h') (λvs q=>by rw [hs.2 u];exact hQ _ q) x)
   | cell a ty=>
    obtain ⟨b,off,v,h1,h2,h3⟩:=x;refine AD _ _ (AD _ _ ?_);rw [hs.2 a,h1];refine PH h2 ?_;exact AD _ _ (ih (λvs=>Q (v ::vs)) (λvs h'=>K (v ::vs) h') (λvs q=>hQ _ q) h3)
 rw [Array.mapM_eq_mapM_toList,map_eq_pure_bind];refine AD _ _ (key fn.results.toList _ _ (λvs q=>Ar ?_) x);show (pure (if h:vs.toArray.size=1 then vs.toArray[0] else .tuple vs.toArray):Sem Value).gh P h R;have e:(if h:vs.toArray.size=1 then vs.toArray[0] else .tuple vs.toArray)=K0 vs:=by
  match vs with
  | []=>rfl
  | [v]=>rfl
  | v ::u ::l=>simp [K0]
 rw [e];exact q
end
end Go.Ns
namespace Go.Ns
open Go.Conc
section
variable {P:Program} {W:Wk P}
def GU(P:Program)(fn:Func)(O:Nat->Value)(R:Value->GH->Prop):List Deferred->GH->Prop
 | [],h=>LT P O h fn.results.toList λvs=>R (K0 vs) h
 | d ::ds,h=>∃r,d={ target:=.collected r,args:=#[] }/\∃o,h r=some (true,.deferred (some o))/\o=[]/\GU P fn O R ds (h.set r true (.deferred none))
theorem Li{main:Bool}{b:Frame}{t:Array Value}{ds:List Deferred}{k:List Item}{cs:List Frame}{w:World}:stepG P main (G (E2 b t ds k) cs) w=unwind P main (E2 b t ds k) cs none w:=rfl
theorem Oi{r:Nat}{ds:List Deferred}{h:GH}{Q:List Deferred->GH->Prop}(hr:h r=some (true,.deferred (some ds)))(x:Q ds (h.set r true (.deferred none))):(Instr.takeDeferred r).gh P h Q:=by
 unfold Instr.takeDeferred;refine AD _ _ ⟨true,_,hr,rfl,rfl,?_⟩;exact AD _ _ ⟨_,hr,rfl,rfl,rfl,x⟩
theorem Lj{O:Nat->Value}{h:GH}(l:List ResultVar):∀{Q Q':List Value->Prop},(∀vs,Q vs->Q' vs)->LT P O h l Q->LT P O h l Q':=by
 induction l with
 | nil=>intro Q Q' hq x;exact hq _ x
 | cons r l ih=>
  intro Q Q' hq x;cases r with
  | tmp u=>exact ih (λvs y=>hq _ y) x
  | cell a ty=>obtain ⟨b,off,v,y1,y2,y3⟩:=x;exact ⟨b,off,v,y1,y2,ih (λvs y=>hq _ y) y3⟩
theorem Nz{f:FuncId}{fn:Func}(hf:P.funcs[f]? =some fn){b:Frame}(hb:b.fn=f){N:Nat}{O:Nat->Value}{R:Value->GH->Prop}{cs:List Frame}
  (fin:∀(t:Array Value)(k:List Item)(v:Value)(h h':GH),R v h'->(∀w,EO w h->∃w' es,(results fn t).runT P w #[]=(.ok v w',es)/\Bl h w es h' w')->W.K (G (E2 b t [] k) cs) h) :
  ∀(ds:List Deferred)(h:GH)(t:Array Value)(k:List Item),BX t N O->GU P fn O R ds h->W.K (G (E2 b t ds k) cs) h:=by
 intro ds
 induction ds with
 | nil=>
  intro h t k hs x;have key:∀(l:List ResultVar)(Q:List Value->Prop),LT P O h l Q->∃vs,Q vs/\LT P O h l (λws=>ws=vs):=by
   intro l
   induction l with
   | nil=>intro Q x;exact ⟨[],x,rfl⟩
   | cons r l ih=>
    intro Q x;cases r with
    | tmp u=>
     obtain ⟨vs,h1,h2⟩:=ih _ x;refine ⟨O u ::vs,h1,?_⟩;show LT P O h l λws=>O u ::ws=O u ::vs;exact Lj l (λws e=>by rw [e]) h2
    | cell a ty=>
     obtain ⟨b,off,v,y1,y2,y3⟩:=x;obtain ⟨vs,h1,h2⟩:=ih _ y3;refine ⟨v ::vs,h1,b,off,v,y1,y2,?_⟩;exact Lj l (λws e=>by rw [e]) h2
  obtain ⟨vs,h1,h2⟩:=key _ _ x;refine fin t k (K0 vs) h h h1 λw f=>?_;obtain ⟨a,w',h',es,r1,r2,r3,r4⟩:=JR f (Wj hs (R:=λv h'=>v=K0 vs/\h'=h) (by
   exact Lj _ (λws e=>by rw [e];exact ⟨rfl,rfl⟩) h2))
  subst r3;subst r4;exact ⟨w',es,r1,r2⟩
 | cons d ds ih=>
  rintro h t k hs ⟨r,rfl,o,hr,rfl,x⟩;refine W.closed _ _ rfl λw f=>?_;obtain ⟨calls,w',h',es,r1,r2,r3,r4⟩:=JR f (Oi (P:=P) (Q:=λl h'=>l=[]/\h'=h.set r true (.deferred none)) hr ⟨rfl,rfl⟩);subst r3;subst r4;refine ⟨G (E2 b t ds k) cs,w',_,_,?_,r2.sub (es':=seen P b.fn es++ #[]) λe he=>?_,ih _ t k hs x⟩
  ·rw [Li];unfold unwind;simp only [E2,r1,GStep.after];rfl
  ·rw [Array.append_empty] at he;exact mem_seen he
theorem Wl{f:FuncId}{fn:Func}{c:Code}{args:Array Value}{h:GH}{R:Value->GH->Prop}(hf:P.funcs[f]? =some fn)(hb:fn.body=some c)(hsz:args.size<=fn.ntmps)
  (x:Tr ⟨W,f,none,fn.ntmps⟩ c (λi=>args.getD i undef) [] h (λe O ds h'=>(e=.normal\/e=.ret)/\GU P fn O R ds h')):AV W f args h R:=by
 intro cl cs hc;have e0:Frame.enter P f args .normal=Ci (Frame.enter P f args .normal) (args++Array.replicate (fn.ntmps-args.size) undef) [] [.code c]:=by
  simp [Frame.enter,Ci,hf,hb]
 rw [e0];let L:Lv:=λj t ds h'=>(j=none\/j=some .ret)/\∃O,BX t fn.ntmps O/\GU P fn O R ds h';have fin:∀O ds h' t k,BX t fn.ntmps O->GU P fn O R ds h'->W.K (G (E2 (Frame.enter P f args .normal) t ds k) (cl ::cs)) h':=by
  intro O ds h' t k hs ho;refine Nz (W:=W) (R:=R) hf (b:=Frame.enter P f args .normal) rfl (λt k v h h' hr hrun=>?_) ds h' t k hs ho;refine W.closed _ _ rfl λw fw=>?_;obtain ⟨w',es,r1,r2⟩:=hrun w fw;refine ⟨G (cl.finish v) cs,w',_,h',?_,r2.sub (es':=seen P f es++ #[]) λe he=>?_,hc v h' hr⟩
  ·rw [Li];unfold unwind;have hfn:(E2 (Frame.enter P f args .normal) t [] k).fn=f:=rfl;have hk:(E2 (Frame.enter P f args .normal) t [] k).kind=.normal:=rfl;have hm:(E2 (Frame.enter P f args .normal) t [] k).mode=.returning:=rfl;have hd:(E2 (Frame.enter P f args .normal) t [] k).defers=[]:=rfl;have ht:(E2 (Frame.enter P f args .normal) t [] k).tmps=t:=rfl;simp only [hd,hm,hfn,hf,ht,r1,GStep.after,doReturn,hk];rfl
  ·rw [Array.append_empty] at he;exact mem_seen he
 refine x (Frame.enter P f args .normal) [] (cl ::cs) L _ rfl rfl ⟨?_,?_,?_⟩ ⟨by simp;omega,λi=>?_⟩ ?_
 ·rintro t ds h' ⟨_,O,hs,ho⟩;exact Wk.go (E2 (Frame.enter P f args .normal) t ds []) (λw=>by rw [A5];simp [stepG.exec,Ci,E2,G,Frame.enter]) (fin O ds h' t [] hs ho)
 ·rintro t ds h' k ⟨_,O,hs,ho⟩;exact Wk.go (E2 (Frame.enter P f args .normal) t ds (.code .ret ::k)) (λw=>by rw [A5];simp [stepG.exec,Ci,E2,G,Frame.enter]) (fin O ds h' t _ hs ho)
 ·rintro id t ds h' k _ ⟨h1 | h1,_⟩ <;> cases h1
 ·by_cases hi:i<args.size
  ·simp [Array.getD_eq_getD_getElem?,Array.getElem?_append_left hi]
  ·simp only [Array.getD_eq_getD_getElem?];rw [Array.getElem?_append_right aA,Array.getElem?_eq_none (show args.size<=i by omega),Array.getElem?_replicate];split <;> rfl
 ·rintro e O ds h' ⟨he,ho⟩ t' ht';rcases he with rfl | rfl
  ·refine Wk.go (E2 (Frame.enter P f args .normal) t' ds []) (λw=>by rw [A5];simp [stepG.exec,Ci,E2,G,Frame.enter]) (fin O ds h' t' [] ht' ho)
  ·exact ⟨.inr rfl,O,ht',ho⟩
def AK(fn:Func):Bool:= !(fn.name== "runtime.NumGoroutine") && fn.body.isSome
theorem N0{f:FuncId}{fn:Func}{args:Array Value}{h:GH}{Q:Next->GH->Prop}(hf:P.funcs[f]? =some fn)(hc:AK fn=true)(x:Q (.enter f args) h):(callFunc f args).gh P h Q:=by
 unfold AK at hc;simp only [Bool.and_eq_true,Bool.not_eq_true'] at hc;unfold callFunc;refine AD _ _ ?_;show (match P.funcs[f]? with | none=>_ | some fn=>_:Sem Next).gh P h Q;rw [hf];simp only [];rw [if_neg (by rw [hc.1];simp),if_neg (by cases hb:fn.body with | none=>rw [hb] at hc;simp at hc | some c=>simp)];exact x
variable {E:Gq P} {O:Nat->Value} {ds:List Deferred} {h:GH} {T:(Nat->Value)->List Deferred->GH->Prop}
def BQ(E:Gq P)(o:Oper)(O:Nat->Value)(ds:List Deferred)(h:GH)(T:(Nat->Value)->List Deferred->GH->Prop):Prop:=(execOp (AQ O) o).gh P h (Upon E o O ds T)
theorem IJ{dst:Option Nat}{f:Operand}{args:Array Operand}{tys:Array TypeId}{ty:TypeId}{pos:String}{af:Array Edge}{gd:Option (Nat×Bool)}{g:FuncId}{fn:Func}{first cap:Array Value}{vs:Array Value}
  (hv:AQ O f=.func (.func g) first cap) (hf:P.funcs[g]? =some fn) (hc:AK fn=true) (ha:first++args.map (AQ O)++cap=vs)
  (x:AV E.wk g vs h λv h'=>T (putS O dst v) ds h'):BQ E ⟨dst,.call ⟨.value f,args,tys⟩,ty,pos,af,gd⟩ O ds h T:=by
 unfold BQ execOp;simp only [];refine AD _ _ ?_;unfold resolve;simp only [hv,Deferred.ofValue];refine Ar ?_;subst ha;exact N0 hf hc x
theorem ML{dst:Option Nat}{args:Array Operand}{tys:Array TypeId}{ty:TypeId}{pos:String}{af:Array Edge}{gd:Option (Nat×Bool)}{g:FuncId}{fn:Func}{vs:Array Value}
  (hf:P.funcs[g]? =some fn) (hc:AK fn=true) (ha:args.map (AQ O)=vs) (x:AV E.wk g vs h λv h'=>T (putS O dst v) ds h'):BQ E ⟨dst,.call ⟨.value (.func g),args,tys⟩,ty,pos,af,gd⟩ O ds h T:=
 IJ (first:=#[]) (cap:=#[]) rfl hf hc (by rw [ha];simp) x
end
end Go.Ns
namespace Go.Ns
open Go.Conc
section
variable {P:Program} {E:Gq P} {O:Nat->Value} {ds:List Deferred} {h:GH} {T:(Nat->Value)->List Deferred->GH->Prop}
variable {dst:Option Nat} {ty:TypeId} {pos:String} {af:Array Edge} {gd:Option (Nat×Bool)}
theorem Gu{ops:Array Oper}{o:Oper}{l:List Oper}{Q:Post}(hg:o.guard=none)(hdf:C6 o.op=false)(hd:C3 o.dst E.N=true)
  (x:BQ E o O ds h λσ' ds' h'=>DL E ops l σ' ds' h' Q):DL E ops (o ::l) O ds h Q:=trL_op hg (.inr hdf) hd x
theorem Tp{x:Operand}{v:Value}(hx:AQ O x=v)(k:T (putS O dst v) ds h):BQ E ⟨dst,.move x,ty,pos,af,gd⟩ O ds h T:=by
 subst hx;exact k
theorem FV{x:Operand}{v:Value}(hx:AQ O x=v)(k:T (putS O dst v) ds h):BQ E ⟨dst,.assign x,ty,pos,af,gd⟩ O ds h T:=by
 subst hx;exact k
theorem F7{s:Sem Value}{Q:Next->GH->Prop}(x:s.gh P h λv h'=>Q (.value v) h'):(do pure (.value (<-s)):Sem Next).gh P h Q:=AD _ _ (FS _ (λ_ _ y=>y) _ x)
theorem gh_u{s:Sem Unit}{Q:Next->GH->Prop}(x:s.gh P h λ_ h'=>Q .skip h'):(do s;pure .skip:Sem Next).gh P h Q:=AD _ _ (FS _ (λ_ _ y=>y) _ x)
theorem Ao{c a b:Operand}{t:Bool}{v:Value}(hc:AQ O c=.bool t)(hv:(if t then AQ O a else AQ O b)=v)(k:T (putS O dst v) ds h):BQ E ⟨dst,.pick c a b,ty,pos,af,gd⟩ O ds h T:=by
 unfold BQ execOp;simp only [hc,asBool];subst hv;exact k
theorem PI{op:BinOp}{t:TypeId}{x y:Operand}{k:IntKind}{a:Int}{b:Value}{Q:Unit->GH->Prop}(q:Q () h):(eqGuard op t x y (.int k a) b).gh P h Q:=by
 unfold eqGuard;split <;> exact q
theorem I0{op:BinOp}{xt yt:TypeId}{x y:Operand}{k:IntKind}{a b:Int}{v:Value}(hx:AQ O x=.int k a)(hy:AQ O y=.int k b)(hv:binOp op xt (.int k a) (.int k b)=pure v)(kk:T (putS O dst v) ds h) :
  BQ E ⟨dst,.binOp op xt x y yt,ty,pos,af,gd⟩ O ds h T:=by
 unfold BQ execOp;simp only [hx,hy];refine F7 (AD _ _ (PI ?_));rw [hv];exact kk
theorem NF{xt yt:TypeId}{x y:Operand}{a b:Int}(hx:AQ O x=.int .i64 a)(hy:AQ O y=.int .i64 b)(hr: -9223372036854775808<=a+b/\a+b<=9223372036854775807)(k:T (putS O dst (.int .i64 (a+b))) ds h) :
  BQ E ⟨dst,.binOp .add xt x y yt,ty,pos,af,gd⟩ O ds h T:=I0 hx hy (by
 show (pure (Value.int .i64 (IntKind.i64.wrap (a+b))):Sem Value)=_;rw [IntWalk.i64_in _ hr]) k
theorem Ca{xt yt:TypeId}{x y:Operand}{a b:Int}(hx:AQ O x=.int .i64 a)(hy:AQ O y=.int .i64 b)(hr: -9223372036854775808<=a-b/\a-b<=9223372036854775807)(k:T (putS O dst (.int .i64 (a-b))) ds h) :
  BQ E ⟨dst,.binOp .sub xt x y yt,ty,pos,af,gd⟩ O ds h T:=I0 hx hy (by
 show (pure (Value.int .i64 (IntKind.i64.wrap (a-b))):Sem Value)=_;rw [IntWalk.i64_in _ hr]) k
theorem ok_rem{xt yt:TypeId}{x y:Operand}{a b:Int}(hx:AQ O x=.int .i64 a)(hy:AQ O y=.int .i64 b)(ha:0<=a)(hb:0<b)(k:T (putS O dst (.int .i64 (a%b))) ds h) :
  BQ E ⟨dst,.binOp .rem xt x y yt,ty,pos,af,gd⟩ O ds h T:=I0 hx hy (by
 show (if b=0 then _ else (pure (Value.int .i64 (a.tmod b)):Sem Value))=_;rw [if_neg aA,Int.tmod_eq_emod_of_nonneg ha]) k
theorem Ac{xt yt:TypeId}{x y:Operand}{kd:IntKind}{a b:Int}(hx:AQ O x=.int kd a)(hy:AQ O y=.int kd b)(k:T (putS O dst (.bool (decide (a<b)))) ds h):BQ E ⟨dst,.binOp .lss xt x y yt,ty,pos,af,gd⟩ O ds h T:=
 I0 hx hy (by simp [binOp,Op.intCmp]) k
theorem DH{xt yt:TypeId}{x y:Operand}{kd:IntKind}{a b:Int}(hx:AQ O x=.int kd a)(hy:AQ O y=.int kd b)(k:T (putS O dst (.bool (decide (a<=b)))) ds h):BQ E ⟨dst,.binOp .leq xt x y yt,ty,pos,af,gd⟩ O ds h T:=
 I0 hx hy (by simp [binOp,Op.intCmp]) k
theorem Bq{xt yt:TypeId}{x y:Operand}{kd:IntKind}{a b:Int}(hx:AQ O x=.int kd a)(hy:AQ O y=.int kd b)(k:T (putS O dst (.bool (decide (b<a)))) ds h):BQ E ⟨dst,.binOp .gtr xt x y yt,ty,pos,af,gd⟩ O ds h T:=
 I0 hx hy (by simp [binOp,Op.intCmp]) k
theorem Cq{xt yt:TypeId}{x y:Operand}{kd:IntKind}{a b:Int}(hx:AQ O x=.int kd a)(hy:AQ O y=.int kd b)(k:T (putS O dst (.bool (decide (b<=a)))) ds h):BQ E ⟨dst,.binOp .geq xt x y yt,ty,pos,af,gd⟩ O ds h T:=
 I0 hx hy (by simp [binOp,Op.intCmp]) k
theorem B6{xt yt:TypeId}{x y:Operand}{kd:IntKind}{a b:Int}(hx:AQ O x=.int kd a)(hy:AQ O y=.int kd b)(k:T (putS O dst (.bool (decide (a=b)))) ds h):BQ E ⟨dst,.binOp .eql xt x y yt,ty,pos,af,gd⟩ O ds h T:=
 I0 hx hy (by simp only [binOp,Op.intCmp,ne_eq,not_true_eq_false,↓reduceIte];congr 2) k
theorem At{xt yt:TypeId}{x y:Operand}{kd:IntKind}{a b:Int}(hx:AQ O x=.int kd a)(hy:AQ O y=.int kd b)(k:T (putS O dst (.bool (decide (¬a=b)))) ds h):BQ E ⟨dst,.binOp .neq xt x y yt,ty,pos,af,gd⟩ O ds h T:=
 I0 hx hy (by simp only [binOp,Op.intCmp,ne_eq,not_true_eq_false,↓reduceIte];congr 2;rw [decide_not];rfl) k
theorem CM{xt:TypeId}{x:Operand}{b:Bool}(hx:AQ O x=.bool b)(k:T (putS O dst (.bool (!b))) ds h):BQ E ⟨dst,.unOp .not xt x,ty,pos,af,gd⟩ O ds h T:=by
 unfold BQ execOp;simp only [hx,Op.unary];exact k
theorem A8{xt:TypeId}{x:Operand}{p:Prop}[Decidable p](hx:AQ O x=.bool (decide p))(k:T (putS O dst (.bool (decide (¬p)))) ds h):BQ E ⟨dst,.unOp .not xt x,ty,pos,af,gd⟩ O ds h T:=
 CM hx (by rw [<-decide_not];exact k)
theorem O3{xt yt:TypeId}{x y:Operand}{a b:ByteArray}(hx:AQ O x=.string a)(hy:AQ O y=.string b)(k:T (putS O dst (.bool (a.toList==b.toList))) ds h):BQ E ⟨dst,.binOp .eql xt x y yt,ty,pos,af,gd⟩ O ds h T:=by
 unfold BQ execOp;simp only [hx,hy];exact k
theorem ok_neqS{xt yt:TypeId}{x y:Operand}{a b:ByteArray}(hx:AQ O x=.string a)(hy:AQ O y=.string b)(k:T (putS O dst (.bool (!(a.toList==b.toList)))) ds h):BQ E ⟨dst,.binOp .neq xt x y yt,ty,pos,af,gd⟩ O ds h T:=by
 unfold BQ execOp;simp only [hx,hy];exact k
def Cm(P:Program)(s:TypeId)(f:Nat):Option Nat:=
 match P.underlying s with
 | some (.struct fields)=>match fields[f]? with
  | some fl=>match P.info? fl.type with
   | some i=>if i.size=0 then none else some fl.offset
   | none=>none
  | none=>none
 | _=>none
theorem AC{s:TypeId}{x:Operand}{f o b off:Nat}(hf:Cm P s f=some o)(hx:AQ O x=.pointer (some ⟨b,off,none⟩))(k:T (putS O dst (.pointer (some ⟨b,off+o,none⟩))) ds h) :
  BQ E ⟨dst,.fieldAddr s x f,ty,pos,af,gd⟩ O ds h T:=by
 unfold BQ execOp;simp only [hx];refine F7 ?_;unfold Cm at hf;unfold Instr.fieldAt;cases hu:P.underlying s with
 | none=>rw [hu] at hf;cases hf
 | some d=>
  refine AD _ _ (Al hu ?_);rw [hu] at hf;cases d <;> first | (cases hf;done) | skip
  rename_i fields
  simp only at hf ⊢;cases hfl:fields[f]? with
  | none=>rw [hfl] at hf;cases hf
  | some fl=>
   rw [hfl] at hf;simp only at hf ⊢;cases hi:P.info? fl.type with
   | none=>rw [hi] at hf;cases hf
   | some i=>
    rw [hi] at hf;simp only at hf;by_cases hz:i.size=0
    ·rw [if_pos hz] at hf;cases hf
    ·rw [if_neg hz] at hf;cases hf;refine AD _ _ (Ar ?_);refine AD _ _ ?_;unfold fieldPlace;refine AD _ _ ?_;unfold sizeOf;refine AD _ _ (Cl hi (Ar ?_));rw [if_neg hz,Iz];exact k
def EB(P:Program)(t:TypeId):Option Nat:=
 match P.underlying t with
 | some (.slice e)=>(CL P e).map (·.2)
 | _=>none
def KG(P:Program)(t:TypeId):Option (Nat×Nat):=
 match P.underlying t with
 | some (.array n e)=>(CL P e).map λx=>(n,x.2)
 | _=>none
theorem F8{e:TypeId}{n:Nat}{Q:Nat->GH->Prop}(he:(CL P e).map (·.2)=some n)(q:Q n h):(sizeOf e).gh P h Q:=by
 cases ht:CL P e with
 | none=>rw [ht] at he;cases he
 | some x=>rw [ht] at he;cases he;exact D9 ht q
theorem Bf{t:TypeId}{x ix:Operand}{n b off len cap:Nat}{kd:IntKind}{i:Int}(ht:EB P t=some n)(hx:AQ O x=.slice (some ⟨b,off,none⟩) len cap)(hi:AQ O ix=.int kd i)(h0:0<=i)(h1:i<len)
  (k:T (putS O dst (.pointer (some ⟨b,off+i.toNat * n,none⟩))) ds h):BQ E ⟨dst,.indexAddr t x ix,ty,pos,af,gd⟩ O ds h T:=by
 unfold BQ execOp;simp only [hx,hi];refine F7 ?_;unfold EB at ht;unfold Instr.indexAt;cases hu:P.underlying t with
 | none=>rw [hu] at ht;cases ht
 | some d=>
  rw [hu] at ht;cases d <;> first | (cases ht;done) | skip
  rename_i e
  refine AD _ _ (Ar ?_);refine AD _ _ (Al hu ?_);dsimp only;refine AD _ _ (Ar ?_);dsimp only;refine AD _ _ (Al hu ?_);dsimp only;rw [if_pos ⟨h0,h1⟩];refine AD _ _ (F8 ht (Ar ?_));rw [Iz];exact k
theorem A0{t:TypeId}{x ix:Operand}{n m b off:Nat}{kd:IntKind}{i:Int}(ht:KG P t=some (m,n))(hx:AQ O x=.pointer (some ⟨b,off,none⟩))(hi:AQ O ix=.int kd i)(h0:0<=i)(h1:i<m)
  (k:T (putS O dst (.pointer (some ⟨b,off+i.toNat * n,none⟩))) ds h):BQ E ⟨dst,.indexAddr t x ix,ty,pos,af,gd⟩ O ds h T:=by
 unfold BQ execOp;simp only [hx,hi];refine F7 ?_;unfold KG at ht;unfold Instr.indexAt;cases hu:P.underlying t with
 | none=>rw [hu] at ht;cases ht
 | some d=>
  rw [hu] at ht;cases d <;> first | (cases ht;done) | skip
  rename_i e
  simp only [Option.map_eq_some_iff,Prod.mk.injEq] at ht;obtain ⟨x0,hx0,rfl,rfl⟩:=ht;refine AD _ _ (Ar ?_);refine AD _ _ (Al hu ?_);dsimp only;refine AD _ _ (Ar ?_);refine AD _ _ (Ar ?_);dsimp only;refine AD _ _ (Al hu ?_);dsimp only;rw [if_pos ⟨h0,h1⟩];refine AD _ _ (D9 hx0 (Ar ?_));rw [Iz];exact k
theorem BT{t:TypeId}{x:Operand}{b off:Nat}{v:Value}(hx:AQ O x=.pointer (some ⟨b,off,none⟩))(hr:Rd P h t b off v)(k:T (putS O dst v) ds h):BQ E ⟨dst,.load t x,ty,pos,af,gd⟩ O ds h T:=by
 unfold BQ execOp;simp only [hx];refine F7 ?_;unfold Instr.loadAt;exact AD _ _ (Ar (PH hr k))
theorem ok_store{t:TypeId}{a x:Operand}{b off n:Nat}{g:Bool}{v:Value}{c:Array Value}{et:TypeId}(ht:CL P t=some (g,n))(ha:AQ O a=.pointer (some ⟨b,off,none⟩))(hv:AQ O x=v)(hb:h b=some (true,.cells c et (0,0)))
  (hsz:v.cells.size=n) (hf:Value.fine v=true) (hn:off+n<=c.size) (k:T (putS O dst undef) ds (h.set b true (.cells (BZ c off v.cells.toList) et (0,0)))):BQ E ⟨dst,.store t a x,ty,pos,af,gd⟩ O ds h T:=by
 unfold BQ execOp;simp only [ha,hv];refine gh_u ?_;unfold Instr.storeAt;exact AD _ _ (Ar (U0 ht hb hsz hf hn k))
def Bm(P:Program)(t:TypeId):Option (Array Value):=
 match P.info? t with
 | some i=>i.zero.map (·.cells)
 | none=>none
theorem ok_alloc{t:TypeId}{z:Array Value}(hz:Bm P t=some z)(k:∀r,h r=none->T (putS O dst (.pointer (some ⟨r,0,none⟩))) ds (h.set r true (.cells z t (0,0)))):BQ E ⟨dst,.alloc t,ty,pos,af,gd⟩ O ds h T:=by
 unfold BQ execOp;refine F7 ?_;unfold Bm at hz;unfold Instr.alloc zeroValue;cases hi:P.info? t with
 | none=>rw [hi] at hz;cases hz
 | some i=>
  rw [hi] at hz;simp only [Option.map_eq_some_iff] at hz;obtain ⟨v,hv,rfl⟩:=hz;refine AD _ _ (AD _ _ (Cl hi ?_));rw [hv];refine Ar ?_;refine AD _ _ ?_;unfold newVar newRow;refine AD _ _ ?_;exact λr hr=>k r hr
theorem ok_box{t:TypeId}{x:Operand}{c:Array Value}(hx:(AQ O x).cells=c)(k:∀r,h r=none->T (putS O dst (.pointer (some ⟨r,0,none⟩))) ds (h.set r true (.cells c t (0,0)))):BQ E ⟨dst,.box t x,ty,pos,af,gd⟩ O ds h T:=by
 unfold BQ execOp;refine F7 ?_;unfold Instr.box newVar newRow;subst hx;refine AD _ _ (AD _ _ ?_);exact λr hr=>k r hr
theorem ok_field{t:TypeId}{x:Operand}{f:Nat}{v:Value}(hv:(Instr.field t (AQ O x) f).gh P h λu h'=>u=v/\h'=h)(k:T (putS O dst v) ds h):BQ E ⟨dst,.field t x f,ty,pos,af,gd⟩ O ds h T:=by
 unfold BQ execOp;exact F7 (FS _ (λu h' ⟨e1,e2⟩=>by subst e1;subst e2;exact k) _ hv)
theorem Wm{x:Operand}{n:Nat}{vs:Array Value}{v:Value}(hx:AQ O x=.tuple vs)(hv:vs[n]? =some v)(k:T (putS O dst v) ds h):BQ E ⟨dst,.extract x n,ty,pos,af,gd⟩ O ds h T:=by
 unfold BQ execOp;simp only [hx];refine F7 ?_;unfold Instr.extract;simp only [hv];exact k
theorem Ef{f:Fn}{first cap:Array Operand}{v:Value}(hv:Value.func f (first.map (AQ O)) (cap.map (AQ O))=v)(k:T (putS O dst v) ds h):BQ E ⟨dst,.makeFunc f first cap,ty,pos,af,gd⟩ O ds h T:=by
 subst hv;exact k
theorem EC{x:Operand}{a:Addr}(hx:AQ O x=.pointer (some a))(k:T (putS O dst (.pointer (some a))) ds h):BQ E ⟨dst,.nilCheck x,ty,pos,af,gd⟩ O ds h T:=by
 unfold BQ execOp;simp only [hx];exact k
def ET(P:Program)(t:TypeId):Option (List (Nat×Nat)):=
 match P.underlying t with
 | some (.struct fields)=>fields.toList.mapM λf=>(CL P f.type).map λx=>(f.offset,x.2)
 | _=>none
theorem PJ(l:List Field):∀{ps:List (Nat×Nat)}{Q:List (Nat×Nat)->GH->Prop},(l.mapM λf=>(CL P f.type).map λx=>(f.offset,x.2))=some ps->Q ps h->
  (l.mapM (m:=Sem) λf=>do pure (f.offset,<-sizeOf f.type)).gh P h Q:=by
 induction l with
 | nil=>intro ps Q e q;simp at e;subst e;exact q
 | cons f l ih=>
  intro ps Q e q;rw [List.mapM_cons] at e ⊢;cases ht:CL P f.type with
  | none=>rw [ht] at e;simp at e
  | some x=>
   rw [ht] at e;simp only [Option.map_some,Option.bind_eq_bind,Option.bind_some,Option.bind_eq_some_iff] at e;obtain ⟨qs,hq,e2⟩:=e;simp at e2;subst e2;refine AD _ _ (AD _ _ (D9 ht (Ar ?_)));exact AD _ _ (ih hq q)
theorem BK{t:TypeId}{parts:Array (Nat×Operand)}{ps:List (Nat×Nat)}{z cells:Array Value}(hp:ET P t=some ps)(hz:Bm P t=some z)(hf:Instr.fill (ps.toArray[·]?) z (parts.map λ(i,x)=>(i,AQ O x)).toList=some cells)
  (k:T (putS O dst (.agg cells)) ds h):BQ E ⟨dst,.build t parts,ty,pos,af,gd⟩ O ds h T:=by
 unfold BQ execOp;refine F7 ?_;unfold Bm at hz;unfold ET at hp;unfold Instr.build zeroValue;cases hi:P.info? t with
 | none=>rw [hi] at hz;cases hz
 | some i=>
  rw [hi] at hz;simp only [Option.map_eq_some_iff] at hz;obtain ⟨v,hv,rfl⟩:=hz;refine AD _ _ (AD _ _ (Cl hi ?_));rw [hv];refine Ar ?_;cases hu:P.underlying t with
  | none=>rw [hu] at hp;cases hp
  | some d=>
   rw [hu] at hp;cases d <;> first | (cases hp;done) | skip
   rename_i fields
   refine AD _ _ (Al hu ?_);simp only at hp ⊢;rw [Array.mapM_eq_mapM_toList,map_eq_pure_bind];refine AD _ _ (AD _ _ (PJ _ hp (Ar ?_)));simp only [hf];exact k
def Da(P:Program)(t:TypeId):Option (Nat×Array Value×TypeId):=
 match P.underlying t with
 | some (.slice e)=>match CL P e,Bm P e with
  | some x,some z=>some (x.2,z,e)
  | _,_=>none
 | _=>none
theorem Rr{t:TypeId}{len n:Nat}{z cells:Array Value}{e:TypeId}{parts:Array (Nat×Operand)}(hs:Da P t=some (n,z,e))(hl:len*n<=2 ^ 24)(hn:(len*n=0)=False)
  (hf:Instr.fill (λi=>some (i*n,n)) ((Array.range (len*n)).map (z[·%z.size]!)) (parts.map λ(i,x)=>(i,AQ O x)).toList=some cells)
  (k:∀r,h r=none->T (putS O dst (.slice (some ⟨r,0,none⟩) len len)) ds (h.set r true (.cells cells e (0,0)))):BQ E ⟨dst,.buildSlice t len parts,ty,pos,af,gd⟩ O ds h T:=by
 unfold BQ execOp;refine F7 ?_;unfold Da at hs;unfold Instr.buildSlice;cases hu:P.underlying t with
 | none=>rw [hu] at hs;cases hs
 | some d=>
  rw [hu] at hs;cases d <;> first | (cases hs;done) | skip
  rename_i e'
  simp only at hs;cases ht:CL P e' with
  | none=>rw [ht] at hs;cases hs
  | some x=>
   cases hz:Bm P e' with
   | none=>rw [ht,hz] at hs;cases hs
   | some z'=>
    rw [ht,hz] at hs;simp only [Option.some.injEq,Prod.mk.injEq] at hs;obtain ⟨rfl,rfl,rfl⟩:=hs;refine AD _ _ (Al hu ?_);refine AD _ _ (F8 (by rw [ht];rfl) ?_);rw [if_neg (Nat.not_lt.2 hl)];dsimp only at hn ⊢;rw [if_neg (by rw [hn];exact id)];unfold Bm at hz;unfold zeroValue;cases hi:P.info? e' with
    | none=>rw [hi] at hz;cases hz
    | some i=>
    rw [hi] at hz;simp only [Option.map_eq_some_iff] at hz;obtain ⟨v,hv,rfl⟩:=hz;refine AD _ _ (AD _ _ (Cl hi ?_));rw [hv];refine Ar ?_;refine AD _ _ (Ar ?_);dsimp only at hf ⊢;rw [hf];dsimp only;refine AD _ _ ?_;unfold newRow;refine AD _ _ ?_;exact λr hr=>k r hr
theorem F9{b:Builtin}{args:Array Operand}{tys:Array TypeId}{vs:Array Value}{s:Sem Value}(ha:args.map (AQ O)=vs)(hb:∀cs,builtin b tys ty cs vs=(do pure (.value (<-s))))
  (x:s.gh P h λv h'=>T (putS O dst v) ds h'):BQ E ⟨dst,.call ⟨.builtin b,args,tys⟩,ty,pos,af,gd⟩ O ds h T:=by
 unfold BQ execOp;simp only [];refine AD _ _ ?_;unfold resolve;simp only [ha];refine Ar ?_;show (builtin b tys ty _ vs).gh P h _;rw [hb];exact F7 x
def JU(P:Program)(t:TypeId):Bool:=match P.underlying t with
 | some (.slice _)=>true
 | _=>false
theorem NG{x:Operand}{t:TypeId}{a:Option Addr}{len cap:Nat}(ht:JU P t=true)(hx:AQ O x=.slice a len cap)(k:T (putS O dst (.int .i64 len)) ds h):BQ E ⟨dst,.call ⟨.builtin .len,#[x],#[t]⟩,ty,pos,af,gd⟩ O ds h T:=by
 refine F9 (vs:=#[.slice a len cap]) (s:=Builtin.len_ #[t] ty #[.slice a len cap]) (by simp [hx]) (λ_=>rfl) ?_;unfold JU at ht;unfold Builtin.len_;simp only [List.getElem?_toArray,List.getElem?_cons_zero];cases hu:P.underlying t with
 | none=>rw [hu] at ht;cases ht
 | some d=>
  rw [hu] at ht;refine AD _ _ (Al hu ?_);cases d <;> first | (cases ht;done) | exact k
def PK(P:Program)(t:TypeId):Bool:=match P.underlying t with
 | some .string=>true
 | _=>false
theorem JV{x:Operand}{t:TypeId}{s:ByteArray}(ht:PK P t=true)(hx:AQ O x=.string s)(k:T (putS O dst (.int .i64 s.size)) ds h):BQ E ⟨dst,.call ⟨.builtin .len,#[x],#[t]⟩,ty,pos,af,gd⟩ O ds h T:=by
 refine F9 (vs:=#[.string s]) (s:=Builtin.len_ #[t] ty #[.string s]) (by simp [hx]) (λ_=>rfl) ?_;unfold PK at ht;unfold Builtin.len_;simp only [List.getElem?_toArray,List.getElem?_cons_zero];cases hu:P.underlying t with
 | none=>rw [hu] at ht;cases ht
 | some d=>
  rw [hu] at ht;refine AD _ _ (Al hu ?_);cases d <;> first | (cases ht;done) | exact k
theorem Wn{x y:Operand}{tys:Array TypeId}{a b:Int}{kd:IntKind}(hx:AQ O x=.int kd a)(hy:AQ O y=.int kd b)(k:T (putS O dst (.int kd (min a b))) ds h):BQ E ⟨dst,.call ⟨.builtin .min,#[x,y],tys⟩,ty,pos,af,gd⟩ O ds h T:=by
 refine F9 (vs:=#[.int kd a,.int kd b]) (s:=Builtin.min_ tys ty #[.int kd a,.int kd b]) (by simp [hx,hy]) (λ_=>rfl) ?_;have e:min a b=if b<a then b else a:=aA
 rw [e] at k;exact k
theorem Wo{x y:Operand}{tys:Array TypeId}{a b:Int}{kd:IntKind}(hx:AQ O x=.int kd a)(hy:AQ O y=.int kd b)(k:T (putS O dst (.int kd (max a b))) ds h):BQ E ⟨dst,.call ⟨.builtin .max,#[x,y],tys⟩,ty,pos,af,gd⟩ O ds h T:=by
 refine F9 (vs:=#[.int kd a,.int kd b]) (s:=Builtin.max_ tys ty #[.int kd a,.int kd b]) (by simp [hx,hy]) (λ_=>rfl) ?_;have e:max a b=if b>a then b else a:=aA
 rw [e] at k;exact k
def PL(P:Program)(t:TypeId):Option IntKind:=match P.underlying t with
 | some (.int k)=>some k
 | _=>none
theorem CC{s t:TypeId}{x:Operand}{kd kt:IntKind}{a r:Int}(hs:(P.underlying s).isSome=true)(ht:PL P t=some kt)(hx:AQ O x=.int kd a)(hr:kt.wrap a=r)(k:T (putS O dst (.int kt r)) ds h):BQ E ⟨dst,.convert s t x,ty,pos,af,gd⟩ O ds h T:=by
 unfold BQ execOp;simp only [hx];refine F7 ?_;unfold PL at ht;unfold convert;cases hu:P.underlying s with
 | none=>rw [hu] at hs;cases hs
 | some d=>
  refine AD _ _ (Al hu ?_);cases hv:P.underlying t with
  | none=>rw [hv] at ht;cases ht
  | some d'=>
   rw [hv] at ht;refine AD _ _ (Al hv ?_);subst hr;cases d' <;> first | (cases ht;done) | (cases ht;cases d <;> exact k)
end
end Go.Ns
namespace Go.Ns
open Go.Conc
section
variable {P:Program} {E:Gq P} {O:Nat->Value} {ds:List Deferred} {h:GH} {T:(Nat->Value)->List Deferred->GH->Prop}
variable {dst:Option Nat} {ty:TypeId} {pos:String} {af:Array Edge} {gd:Option (Nat×Bool)}
def AT(h:GH)(b off n:Nat)(vs:Array Value):Prop:=∃p c t f,h b=some (p,.cells c t f)/\off+n<=c.size/\c.extract off (off+n)=vs
theorem AT.le{h h':GH}(l:h.Le h'){b off n:Nat}{vs:Array Value}(x:AT h b off n vs):AT h' b off n vs:=by
 obtain ⟨p,c,t,f,hb,y⟩:=x;exact ⟨p,c,t,f,l.keep hb rfl,y⟩
theorem AT.same{h h':GH}{b off n:Nat}{vs:Array Value}(x:AT h b off n vs)(e:h' b=h b):AT h' b off n vs:=by
 obtain ⟨p,c,t,f,hb,y⟩:=x;exact ⟨p,c,t,f,e.trans hb,y⟩
theorem AT.box{h:GH}{b:Nat}{p:Bool}{c:Array Value}{t:TypeId}{f:Nat×Nat}(hb:h b=some (p,.cells c t f)){n:Nat}(hn:c.size=n):AT h b 0 n c:=⟨p,c,t,f,hb,aA,by subst hn;simp⟩
theorem AT.get{h:GH}{b off n o:Nat}{vs:Array Value}{v:Value}(x:AT h b off n vs)(hv:vs[o]? =some v):∃p c t f,h b=some (p,.cells c t f)/\c[off+o]? =some v:=by
 obtain ⟨p,c,t,f,hb,hn,rfl⟩:=x;refine ⟨p,c,t,f,hb,?_⟩;rw [Array.getElem?_extract] at hv;split at hv
 ·exact hv
 ·cases hv
theorem CH{t:TypeId}{b off n m o:Nat}{vs:Array Value}{v:Value}(ht:CL P t=some (false,m))(x:AT h b off n vs)(hv:vs[o]? =some v):Rd P h t b (off+o) v:=by
 obtain ⟨p,c,ty,f,hb,hc⟩:=x.get hv;exact Rd.one ht hb hc
theorem Am{t:TypeId}{b off n m:Nat}{vs:Array Value}{v:Value}(ht:CL P t=some (false,m))(x:AT h b off n vs)(hv:vs[0]? =some v):Rd P h t b off v:=by
 have:=CH (o:=0) ht x hv
 exact this
theorem DX{t:TypeId}{b off n m o:Nat}{vs ws:Array Value}(ht:CL P t=some (true,m))(x:AT h b off n vs)(hm:o+m<=n)(hv:vs.extract o (o+m)=ws):Rd P h t b (off+o) (.agg ws):=by
 obtain ⟨p,c,ty,f,hb,hn,rfl⟩:=x;refine Rd.agg ht hb aA ?_;rw [<-hv,Array.extract_extract];congr 1
 ·omega
theorem AE{t:TypeId}{b off n:Nat}{vs:Array Value}(ht:CL P t=some (true,n))(x:AT h b off n vs):Rd P h t b off (.agg vs):=by
 obtain ⟨p,c,ty,f,hb,hn,rfl⟩:=x;exact Rd.agg ht hb hn rfl
theorem GH.Le.nothing{h h':GH}(l:h.Le h'){r:Nat}(hr:h' r=none):h r=none:=by
 cases hx:h r with
 | none=>rfl
 | some x=>obtain ⟨o',h1,_⟩:=l r x.1 x.2 hx;rw [h1] at hr;cases hr
theorem GH.Le.upd{h h' h'':GH}(l:h.Le h'){b:Nat}(hb:h b=none)(ho:∀x,x≠b->h'' x=h' x):h.Le h'':=λx p o hx=>by
 rw [ho x (GH.ne_of hx hb)];exact l x p o hx
theorem Tq{t:TypeId}{x:Operand}{c:Array Value}{v:Value}(hx:AQ O x=v)(hc:v.cells=c)
  (k:∀r h',h r=none->h.Le h'->h' r=some (true,.cells c t (0,0))->(∀b,b≠r->h' b=h b)->T (putS O dst (.pointer (some ⟨r,0,none⟩))) ds h'):BQ E ⟨dst,.box t x,ty,pos,af,gd⟩ O ds h T:=
 ok_box (by rw [hx];exact hc) λr hr=>k r _ hr (GH.Le.new hr _ _) (GH.set_same _ _ _ _) λb hb=>GH.set_ne _ _ _ hb
theorem AU{t:TypeId}{z:Array Value}(hz:Bm P t=some z)
  (k:∀r h',h r=none->h.Le h'->h' r=some (true,.cells z t (0,0))->(∀b,b≠r->h' b=h b)->T (putS O dst (.pointer (some ⟨r,0,none⟩))) ds h'):BQ E ⟨dst,.alloc t,ty,pos,af,gd⟩ O ds h T:=
 ok_alloc hz λr hr=>k r _ hr (GH.Le.new hr _ _) (GH.set_same _ _ _ _) λb hb=>GH.set_ne _ _ _ hb
theorem AZ{t:TypeId}{a x:Operand}{b off n:Nat}{g:Bool}{v:Value}{c c':Array Value}{et:TypeId}(ht:CL P t=some (g,n))(ha:AQ O a=.pointer (some ⟨b,off,none⟩))(hv:AQ O x=v)(hb:h b=some (true,.cells c et (0,0)))
  (hsz:v.cells.size=n) (hf:Value.fine v=true) (hn:off+n<=c.size) (hc:BZ c off v.cells.toList=c') (k:∀h',h' b=some (true,.cells c' et (0,0))->(∀x,x≠b->h' x=h x)->T (putS O dst undef) ds h') :
  BQ E ⟨dst,.store t a x,ty,pos,af,gd⟩ O ds h T:=
 ok_store ht ha hv hb hsz hf hn (k _ (by rw [hc];exact GH.set_same _ _ _ _) λx hx=>GH.set_ne _ _ _ hx)
def AH{V:Type}(h:GH)(v:Value)(n:Nat)(enc:V->Array Value)(xs:List V):Prop:=
 ∃a cap,v=.slice a xs.length cap/\xs.length<=cap/\xs.length<=140737488355328/\(∀i (hi:i<xs.length),∃b off,a=some ⟨b,off,none⟩/\AT h b (off+i*n) n (enc xs[i]))
theorem AH.le{V:Type}{h h':GH}(l:h.Le h'){v:Value}{n:Nat}{enc:V->Array Value}{xs:List V}(x:AH h v n enc xs):AH h' v n enc xs:=by
 obtain ⟨a,cap,hv,hc,hm,he⟩:=x;refine ⟨a,cap,hv,hc,hm,λi hi=>?_⟩;obtain ⟨b,off,h1,h2⟩:=he i hi;exact ⟨b,off,h1,h2.le l⟩
theorem AH.len{V:Type}{h:GH}{v:Value}{n:Nat}{enc:V->Array Value}{xs:List V}(x:AH h v n enc xs):xs.length<=140737488355328:=by
 obtain ⟨_,_,_,_,hm,_⟩:=x;exact hm
theorem AH.nil{V:Type}(h:GH)(n:Nat)(enc:V->Array Value):AH h (.slice none 0 0) n enc []:=⟨none,0,rfl,Nat.le_refl _,Nat.zero_le _,λi hi=>by simp at hi⟩
theorem AI{V:Type}{x:Operand}{t:TypeId}{n:Nat}{enc:V->Array Value}{xs:List V}{v:Value}(ht:JU P t=true)(hs:AH h v n enc xs)(hx:AQ O x=v)(k:T (putS O dst (.int .i64 xs.length)) ds h):BQ E ⟨dst,.call ⟨.builtin .len,#[x],#[t]⟩,ty,pos,af,gd⟩ O ds h T:=by
 obtain ⟨a,cap,rfl,_,_,_⟩:=hs;exact NG ht hx k
theorem KH{fn:Func}{R:Value->GH->Prop}(hr:fn.results=#[])(x:R (.tuple #[]) h):GU P fn O R [] h:=by
 unfold GU;rw [hr];exact x
theorem Ij{fn:Func}{R:Value->GH->Prop}{t:Tmp}{v:Value}(hr:fn.results=#[.tmp t])(hv:O t=v)(x:R v h):GU P fn O R [] h:=by
 unfold GU;rw [hr];subst hv;exact x
theorem outs2{fn:Func}{R:Value->GH->Prop}{t u:Tmp}{v v':Value}(hr:fn.results=#[.tmp t,.tmp u])(hv:O t=v)(hv':O u=v')(x:R (.tuple #[v,v']) h):GU P fn O R [] h:=by
 unfold GU;rw [hr];subst hv;subst hv';exact x
theorem outs3{fn:Func}{R:Value->GH->Prop}{t u s:Tmp}{v v' v2:Value}(hr:fn.results=#[.tmp t,.tmp u,.tmp s])(hv:O t=v)(hv':O u=v')(hv2:O s=v2)(x:R (.tuple #[v,v',v2]) h):GU P fn O R [] h:=by
 unfold GU;rw [hr];subst hv;subst hv';subst hv2;exact x
theorem I2{fn:Func}{R:Value->GH->Prop}{a:Tmp}{t:TypeId}{b off:Nat}{v:Value}(hr:fn.results=#[.cell a t])(ha:O a=.pointer (some ⟨b,off,none⟩))(hv:Rd P h t b off v)(x:R v h):GU P fn O R [] h:=by
 unfold GU;rw [hr];exact ⟨b,off,v,ha,hv,x⟩
theorem Gv{fn:Func}{R:Value->GH->Prop}{a u:Tmp}{t:TypeId}{b off:Nat}{v v':Value}(hr:fn.results=#[.cell a t,.tmp u])(ha:O a=.pointer (some ⟨b,off,none⟩))(hv:Rd P h t b off v)(hv':O u=v')(x:R (.tuple #[v,v']) h):GU P fn O R [] h:=by
 unfold GU;rw [hr];subst hv';exact ⟨b,off,v,ha,hv,x⟩
theorem AB{v:Value}{p:Prop}[Decidable p](hv:v=.bool (decide p))(hp:p):v=.bool true:=by rw [hv,decide_eq_true hp]
theorem AA{v:Value}{p:Prop}[Decidable p](hv:v=.bool (decide p))(hp:¬p):v=.bool false:=by rw [hv,decide_eq_false hp]
theorem AY{v:Value}{b c:Bool}(hv:v=.bool b)(hp:b=c):v=.bool c:=by rw [hv,hp]
theorem JF{tys:Array TypeId}{g:FuncId}{fn:Func}(hf:P.funcs[g]? =some fn)(hc:AK fn=true)
  (x:AV E.wk g #[] h λv h'=>T (putS O dst v) ds h'):BQ E ⟨dst,.call ⟨.value (.func g),#[],tys⟩,ty,pos,af,gd⟩ O ds h T:=ML hf hc aD x
theorem Ab{tys:Array TypeId}{g:FuncId}{fn:Func}{x1:Operand}{v1:Value}(hf:P.funcs[g]? =some fn)(hc:AK fn=true)(h1:AQ O x1=v1)
  (x:AV E.wk g #[v1] h λv h'=>T (putS O dst v) ds h'):BQ E ⟨dst,.call ⟨.value (.func g),#[x1],tys⟩,ty,pos,af,gd⟩ O ds h T:=ML hf hc (by simp [h1]) x
theorem AR{tys:Array TypeId}{g:FuncId}{fn:Func}{x1 x2:Operand}{v1 v2:Value}(hf:P.funcs[g]? =some fn)(hc:AK fn=true)(h1:AQ O x1=v1)(h2:AQ O x2=v2)
  (x:AV E.wk g #[v1,v2] h λv h'=>T (putS O dst v) ds h'):BQ E ⟨dst,.call ⟨.value (.func g),#[x1,x2],tys⟩,ty,pos,af,gd⟩ O ds h T:=ML hf hc (by simp [h1,h2]) x
theorem Aw{tys:Array TypeId}{g:FuncId}{fn:Func}{x1 x2 x3:Operand}{v1 v2 v3:Value}(hf:P.funcs[g]? =some fn)(hc:AK fn=true)(h1:AQ O x1=v1)(h2:AQ O x2=v2)(h3:AQ O x3=v3)
  (x:AV E.wk g #[v1,v2,v3] h λv h'=>T (putS O dst v) ds h'):BQ E ⟨dst,.call ⟨.value (.func g),#[x1,x2,x3],tys⟩,ty,pos,af,gd⟩ O ds h T:=ML hf hc (by simp [h1,h2,h3]) x
theorem MM{tys:Array TypeId}{g:FuncId}{fn:Func}{x1 x2 x3 x4:Operand}{v1 v2 v3 v4:Value}(hf:P.funcs[g]? =some fn)(hc:AK fn=true)(h1:AQ O x1=v1)(h2:AQ O x2=v2)(h3:AQ O x3=v3)(h4:AQ O x4=v4)
  (x:AV E.wk g #[v1,v2,v3,v4] h λv h'=>T (putS O dst v) ds h'):BQ E ⟨dst,.call ⟨.value (.func g),#[x1,x2,x3,x4],tys⟩,ty,pos,af,gd⟩ O ds h T:=ML hf hc (by simp [h1,h2,h3,h4]) x
end
end Go.Ns
namespace Go.Ns
open Go.Conc
section
variable {P:Program} {E:Gq P}
abbrev SP:=Value->GH->Prop
def MN(Φ:List SP)(k:Nat):SP:=Φ.getD k λ_ _=>True
def SQ(o:Oper)(O:Nat->Value):Value:=match o.dst with
 | some d=>O d
 | none=>undef
def DR(ops:List Oper)(o:Oper)(O:Nat->Value):Prop:=match o.guard with
 | none=>True
 | some (j,want)=>match ops[j]? with
  | some oj=>match oj.dst with
   | some d=>O d=.bool want
   | none=>False
  | none=>False
def U1(ops:List Oper)(Φ:List SP)(O:Nat->Value)(h:GH)(j:Nat):Prop:=match ops[j]? with
 | some o=>DR ops o O->MN Φ j (SQ o O) h
 | none=>True
def JW(ops:List Oper)(Φ:List SP)(O:Nat->Value)(h:GH):List Nat->Prop
 | []=>True
 | j ::l=>U1 ops Φ O h j/\JW ops Φ O h l
def Df(ops:List Oper)(n:Nat):List Nat:=(ops.take n).filterMap (·.dst)
def StepAt(R:GH->GH->Prop)(E:Gq P)(ops:List Oper)(n:Nat)(Φ:List SP)(O:Nat->Value)(ds:List Deferred)(h:GH)(k:Nat)(o:Oper)(cl:List Nat):Prop:=
 ∀σ' h',R h h'->(∀t,(Df ops n).contains t=false->σ' t=O t)->JW ops Φ σ' h' cl->DR ops o σ'->
  BQ E o σ' ds h' λσ'' ds'' h''=>ds''=ds/\R h' h''/\∃v,σ''=putS σ' o.dst v/\MN Φ k v h''
def N1(R:GH->GH->Prop)(E:Gq P)(ops:List Oper)(n:Nat)(Φ:List SP)(O:Nat->Value)(ds:List Deferred)(h:GH)(Q:Post):Nat->Nat->List Oper->List (List Nat)->Prop
 | 0,k,rest,_=>∀σ' h',R h h'->(∀t,(Df ops n).contains t=false->σ' t=O t)->JW ops Φ σ' h' (List.range k)->DL E ops.toArray rest σ' ds h' Q
 | m+1,k,o ::rest,cl ::cls=>StepAt R E ops n Φ O ds h k o cl/\N1 R E ops n Φ O ds h Q m (k+1) rest cls
 | _,_,_,_=>False
def Ik(o:Oper)(j:Nat):Bool:=o.after.any λe=>Region.binds .any e && e.on==j
def GV(N:Nat)(ops:List Oper)(n:Nat)(cls:List (List Nat)):Bool:=
 Nat.ble n ops.length && cls.length==n && decide (Df ops n).Nodup &&
 (List.range ops.length).all λi=>match ops[i]? with
  | none=>false
  | some o=>(o.after.all λe=> !Region.binds .any e || Nat.blt e.on i) &&
   if Nat.blt i n then
    C3 o.dst N && !C6 o.op && (match o.guard with | none=>true | some (j,_)=>Ik o j) &&
    ((cls.getD i []).all λj=>Nat.blt j i && (Ik o j || (List.range i).any λe=>Ik o e && (cls.getD e []).contains j))
   else (List.range i).all λj=>Ik o j || (Nat.blt j n && (List.range n).any λe=>Ik o e && (cls.getD e []).contains j) || (List.range i).any λe=>Nat.ble n e && Nat.blt j e && Ik o e
def Ts(N:Nat)(ops:List Oper)(n:Nat)(cls:List (List Nat)):Bool:=
 GV N ops n cls && (List.range n).all λi=>match ops[i]? with
  | none=>false
  | some o=>o.dst.isSome
theorem JW.get{ops:List Oper}{Φ:List SP}{O:Nat->Value}{h:GH}:∀{l:List Nat},(∀j ∈ l,U1 ops Φ O h j)->JW ops Φ O h l
 | [],_=>trivial
 | j ::l,x=>⟨x j aD,JW.get λi hi=>x i (by simp [hi])⟩
theorem N1.at{R:GH->GH->Prop}{ops:List Oper}{n:Nat}{Φ:List SP}{O:Nat->Value}{ds:List Deferred}{h:GH}{Q:Post}:∀(m k:Nat)(rest:List Oper)(cls:List (List Nat)),
  N1 R E ops n Φ O ds h Q m k rest cls->(∀i o,i<m->rest[i]? =some o->StepAt R E ops n Φ O ds h (k+i) o (cls.getD i []))/\
   (∀σ' h',R h h'->(∀t,(Df ops n).contains t=false->σ' t=O t)->JW ops Φ σ' h' (List.range (k+m))->DL E ops.toArray (rest.drop m) σ' ds h' Q)
 | 0,k,rest,cls,x=>⟨λi o hi=>aA,x⟩
 | m+1,k,[],cls,x=>by cases cls <;> exact x.elim
 | m+1,k,o ::rest,[],x=>x.elim
 | m+1,k,o ::rest,cl ::cls,x=>by
  obtain ⟨h1,h2⟩:=x;obtain ⟨a,b⟩:=N1.at m (k+1) rest cls h2;refine ⟨λi o' hi ho=>?_,λσ' h' hl hb hk=>?_⟩
  ·cases i with
   | zero=>simp at ho;subst ho;exact h1
   | succ i=>have:=a i o' aA (by simpa using ho);rw [show k+(i+1)=k+1+i by omega];simpa using this
  ·rw [List.drop_succ_cons];exact b σ' h' hl hb (by rw [show k+1+m=k+(m+1) by omega];exact hk)
theorem Gx{n:Nat}{p:Nat->Bool}(h:(List.range n).all p=true){i:Nat}(hi:i<n):p i=true:=by
 rw [List.all_eq_true] at h;exact h i (List.mem_range.2 hi)
theorem Wp{ops:Array Oper}{N n:Nat}{l:List Oper}{cls:List (List Nat)}(hl:ops=l.toArray)(ok:GV N l n cls=true) :
  ∀(fuel t i:Nat)(listed:Array Bool),n<=i->i<=l.length->l.length-i<=fuel->listed.size=l.length->(∀j,j<l.length->listed.getD j false=decide (j<i))->
   Region.linearise.go .any ops fuel t listed []=List.range' i (l.length-i):=by
 subst hl;unfold GV at ok;simp only [Bool.and_eq_true] at ok;obtain ⟨⟨⟨ok1,ok2⟩,ok3⟩,ok4⟩:=ok;intro fuel
 induction fuel with
 | zero=>intro t i listed _ _ h0 _ _;rw [show l.length-i=0 by omega];rfl
 | succ fuel ih=>
  intro t i listed hn hi hf hsz hL;by_cases hil0:i=l.length
  ·have hnone:Region.ready .any l.toArray listed=[]:=by
    unfold Region.ready;rw [List.filter_eq_nil_iff];intro j hj;have hj':j<l.length:=by simpa using hj
    have hg:listed.getD j true=decide (j<i):=by
     rw [<-hL j hj'];simp [Array.getD_eq_getD_getElem?,hsz,hj']
    rw [hg];simp [show j<i by omega]
   simp only [Region.linearise.go];change (match (Region.ready .any l.toArray listed)[t%(Region.ready .any l.toArray listed).length]? with
    | some i=>Region.linearise.go .any l.toArray fuel (t / (Region.ready .any l.toArray listed).length) (listed.setIfInBounds i true) [i]
    | none=>[].reverse)=_
   rw [hnone,show l.length-i=0 by omega];rfl
  have hready:Region.ready .any l.toArray listed=[i]:=by
   unfold Region.ready;have key:∀j,j<l.length->((!listed.getD j true && ((l.toArray[j]?).map (·.after.all λe=> !Region.binds .any e || listed.getD e.on false)).getD false)=decide (j=i)):=by
    intro j hj;have hg:listed.getD j true=decide (j<i):=by
     rw [<-hL j hj];simp [Array.getD_eq_getD_getElem?,hsz,hj]
    have hoj:l[j]? =some l[j]:=List.getElem?_eq_getElem hj;have o4:=Gx ok4 hj;simp only [hoj,Bool.and_eq_true] at o4;rcases Nat.lt_trichotomy j i with hlt | heq | hgt
    ·rw [hg];simp [hlt];omega
    ·subst heq;rw [hg];simp only [Nat.lt_irrefl,decide_false,Bool.not_false,Bool.true_and,decide_true]
     have:l.toArray[j]? =some l[j]:=by simpa using hoj
     rw [this];simp only [Option.map_some,Option.getD_some];have o5:=o4.1;rw [Array.all_eq_true] at o5 ⊢;intro k hk
     have:=o5 k hk
     simp only [Bool.or_eq_true,Bool.not_eq_true'] at this ⊢;rcases this with e | e
     ·exact .inl e
     ·right;have e':(l[j].after[k]).on<j:=Nat.blt_eq▸e;rw [hL _ aA];simpa using e'
    ·rw [hg];have h1:¬j<i:=aA
     have h2:Nat.blt j n=false:=by
      cases h:Nat.blt j n with
      | false=>rfl
      | true=>have:j<n:=Nat.blt_eq▸h;omega
     have o5:=o4.2;rw [h2] at o5;simp only [Bool.false_eq_true,if_false] at o5;have o6':=Gx o5 hgt;have hin':Nat.blt i n=false:=by
      cases h:Nat.blt i n with
      | false=>rfl
      | true=>have:i<n:=Nat.blt_eq▸h;omega
     rw [hin'] at o6';simp only [Bool.false_and,Bool.or_false,Bool.or_eq_true] at o6';obtain ⟨i',hi',hij',o6⟩:∃i',i<=i'/\i'<j/\Ik l[j] i'=true:=by
      rcases o6' with q | q
      ·exact ⟨i,Nat.le_refl _,hgt,q⟩
      ·rw [List.any_eq_true] at q;obtain ⟨e,he,q2⟩:=q;simp only [Bool.and_eq_true] at q2;have q3:i<e:=Nat.blt_eq▸q2.1.2;exact ⟨e,aA,List.mem_range.1 he,q2.2⟩
     have:l.toArray[j]? =some l[j]:=by simpa using hoj
     rw [this];simp only [Option.map_some,Option.getD_some];have hne:¬j=i:=aA
     simp only [hne,decide_false,Bool.and_eq_false_iff];right;unfold Ik at o6;rw [Array.any_eq_true] at o6;obtain ⟨k,hk,e⟩:=o6;simp only [Bool.and_eq_true,beq_iff_eq] at e;rw [Array.all_eq_false];refine ⟨k,hk,?_⟩
     have:=hL i' aA
     rw [decide_eq_false aA] at this;simp [e.1,e.2,this]
   have:(List.range l.toArray.size).filter (λj=> !listed.getD j true && ((l.toArray[j]?).map (·.after.all λe=> !Region.binds .any e || listed.getD e.on false)).getD false)=(List.range l.length).filter (λj=>decide (j=i)):=by
    rw [List.size_toArray];exact List.filter_congr λj hj=>key j (List.mem_range.1 hj)
   rw [this];have hil:i<l.length:=aA
   clear this key ih hL ok4
   have:∀m,(List.range m).filter (λj=>decide (j=i))=if i<m then [i] else []:=by
    intro m
    induction m with
    | zero=>simp
    | succ m ih=>
     rw [List.range_succ,List.filter_append,ih];by_cases h1:i<m
     ·have h2:i<m+1:=aA
      have h3:¬m=i:=aA
      simp [h1,h2,h3]
     ·by_cases h2:m=i
      ·subst h2;simp
      ·have h3:¬i<m+1:=aA
       simp [h1,h2,h3]
   rw [this,if_pos hil]
  simp only [Region.linearise.go];change (match (Region.ready .any l.toArray listed)[t%(Region.ready .any l.toArray listed).length]? with
   | some i=>Region.linearise.go .any l.toArray fuel (t / (Region.ready .any l.toArray listed).length) (listed.setIfInBounds i true) [i]
   | none=>[].reverse)=_
  rw [hready];simp only [List.length_singleton,Nat.mod_one,List.getElem?_cons_zero,Nat.div_one];rw [linearise_go_acc,List.reverse_singleton,List.singleton_append,show l.length-i=(l.length-(i+1))+1 by omega,List.range'_succ];rw [ih t (i+1) _ aA aA aA (by simpa using hsz)];intro j hj;rw [Array.getD_eq_getD_getElem?,Array.getElem?_setIfInBounds];by_cases hij:i=j
  ·subst hij;simp [hsz,hj]
  ·rw [if_neg hij,<-Array.getD_eq_getD_getElem?,hL j hj];by_cases h1:j<i
   ·have:j<i+1:=aA
    simp [h1,this]
   ·have:¬j<i+1:=aA
    simp [h1,this]
theorem DR.congr{l:List Oper}{o:Oper}{O σ':Nat->Value}(h:∀g w oj d,o.guard=some (g,w)->l[g]? =some oj->oj.dst=some d->σ' d=O d):DR l o σ'->DR l o O:=by
 unfold DR;cases hg:o.guard with
 | none=>exact id
 | some x=>
  obtain ⟨g,w⟩:=x;simp only;cases hj:l[g]? with
  | none=>exact id
  | some oj=>
   simp only;cases hd:oj.dst with
   | none=>exact id
   | some d=>simp only;rw [h g w oj d hg hj hd];exact id
theorem EK{l:List Oper}{n i j:Nat}{oi oj:Oper}{d e:Nat}(nd:(Df l n).Nodup)(hi:i<n)(hj:j<n)(hij:i≠j)(hoi:l[i]? =some oi)(hoj:l[j]? =some oj)(hd:oi.dst=some d)(he:oj.dst=some e):e≠d:=by
 have key:∀(oi oj:Oper)(d e:Nat)(n:Nat)(l:List Oper)(i j:Nat),(Df l n).Nodup->j<n->i<j->l[i]? =some oi->l[j]? =some oj->oi.dst=some d->oj.dst=some e->e≠d:=by
  intro oi oj d e n
  induction n with
  | zero=>intro l i j _ hj;omega
  | succ n ih=>
   intro l i j nd hj hij hoi hoj hd he;cases l with
   | nil=>simp at hoi
   | cons o l=>
    cases j with
    | zero=>omega
    | succ j=>
     have hm:e ∈ Df l n:=by
      simp only [Df,List.mem_filterMap];refine ⟨oj,?_,he⟩;have h1:(l.take n)[j]? =some oj:=by rw [List.getElem?_take];simp at hoj;simp [show j<n by omega,hoj]
      exact List.mem_of_getElem? h1
     cases i with
     | zero=>
      simp at hoi;subst hoi
      have:Df (o ::l) (n+1)=d ::Df l n:=by simp [Df,hd]
      rw [this] at nd;intro hh;subst hh;exact (List.nodup_cons.1 nd).1 hm
     | succ i=>
      have nd':(Df l n).Nodup:=by
       have:Df (o ::l) (n+1)=(match o.dst with | some x=>x ::Df l n | none=>Df l n):=by
        cases ho:o.dst <;> simp [Df,ho]
       rw [this] at nd;cases ho:o.dst with
       | none=>rw [ho] at nd;exact nd
       | some x=>rw [ho] at nd;exact (List.nodup_cons.1 nd).2
      exact ih l i j nd' aA aA (by simpa using hoi) (by simpa using hoj) hd he
 rcases Nat.lt_or_gt_of_ne hij with h | h
 ·exact key oi oj d e n l i j nd hj h hoi hoj hd he
 ·exact λx=>key oj oi e d n l j i nd hi h hoj hoi he hd x.symm
theorem Tt{e d:Nat}(h:e≠d):Nat.beq e d=false:=by
 cases hb:Nat.beq e d with
 | false=>rfl
 | true=>exact absurd (Nat.eq_of_beq_eq_true hb) h
theorem U2{l:List Oper}{n k d:Nat}{o:Oper}(hk:k<n)(ho:l[k]? =some o)(hd:o.dst=some d):(Df l n).contains d=true:=by
 rw [List.contains_iff_mem];simp only [Df,List.mem_filterMap];exact ⟨o,List.mem_of_getElem? (show (l.take n)[k]? =some o by rw [List.getElem?_take];simp [hk,ho]),hd⟩
def Hm(D:Nat->Bool)(i:Nat):Nat->Bool:=λj=>if i=j then true else D j
structure SInv(l:List Oper)(n:Nat)(cls:List (List Nat))(J:(Nat->Bool)->(Nat->Value)->GH->Prop)(listed:Array Bool)(σ':Nat->Value)(h':GH):Prop where
 inv:J (λj=>listed.getD j false) σ' h'
 size:listed.size=l.length
 clos:∀j,j<n->listed.getD j false=true->∀i ∈ cls.getD j [],i<n/\listed.getD i false=true
 suf:∀j,n<=j->j<l.length->listed.getD j false=false
theorem PM{id:Nat}{l:List Oper}{O:Nat->Value}{ds:List Deferred}{h:GH}(n:Nat)(cls:List (List Nat))(J:(Nat->Bool)->(Nat->Value)->GH->Prop)
  (hm:P.follows .mixedOrders=true) (ok:GV E.N l n cls=true) (i0:J (λ_=>false) O h)
  (step:∀D σ' h' i o,J D σ' h'->i<n->D i=false->l[i]? =some o->(∀q ∈ cls.getD i [],D q=true)->(∀g w,o.guard=some (g,w)->D g=true)->
   (DR l o σ'->BQ E o σ' ds h' λσ'' ds'' h''=>ds''=ds/\J (Hm D i) σ'' h'')/\(¬DR l o σ'->J (Hm D i) (putS σ' o.dst undef) h'))
  {b:Frame} {k:List Item} {cs:List Frame} {t:Array Value} (hb:b.fn=E.fn) (hr:b.roundOf=E.rd) (hs:BX t E.N O)
  (fin:∀D σ' h',J D σ' h'->(∀i,i<n->D i=true)->∀t',BX t' E.N σ'->E.wk.K (G (Ci b t' ds (.inRegion l.toArray (List.range' n (l.drop n).length) ::k)) cs) h') :
  E.wk.K (G (Ci b t ds (.code (.region id l.toArray true) ::k)) cs) h:=by
 have ok':=ok;unfold GV at ok;simp only [Bool.and_eq_true] at ok;obtain ⟨⟨⟨ok1,ok2⟩,ok3⟩,ok4⟩:=ok;have nd:(Df l n).Nodup:=of_decide_eq_true ok3;have hnl:n<=l.length:=Nat.ble_eq▸ok1;have suffix:∀(fuel tp:Nat)(listed:Array Bool) (σ':Nat->Value) (h':GH) (t:Array Value),SInv l n cls J listed σ' h'->(∀j,j<n->listed.getD j false=true)->listed.toList.count false<=fuel->BX t E.N σ'->
   E.wk.K (G (Ci b t ds (.inRegion l.toArray (Region.linearise.go .any l.toArray fuel tp listed []) ::k)) cs) h':=by
  intro fuel tp listed σ' h' t I hall hcnt hst;have hsz:=I.size;have hL:∀j,j<l.length->listed.getD j false=decide (j<n):=λj hj=>by
   by_cases h1:j<n
   ·rw [hall j h1];simp [h1]
   ·rw [I.suf j aA hj];simp [h1]
  have e:Region.linearise.go .any l.toArray fuel tp listed []=List.range' n (l.drop n).length:=by
   have hcl:listed.toList=List.replicate n true++List.replicate (l.length-n) false:=by
    refine List.ext_getElem (by simp [hsz];omega) λj h1 h2=>?_;have h1':j<l.length:=by simpa [hsz] using h1
    have hb:=hL j h1';have h1'':j<listed.size:=aA
    rw [Array.getD_eq_getD_getElem?,Array.getElem?_eq_getElem h1'',Option.getD_some] at hb;rw [Array.getElem_toList,hb,List.getElem_append];split
    ·rename_i h3;have h4:j<n:=by simpa using h3
     simp [h4]
    ·rename_i h3;have h4:¬j<n:=by simpa using h3
     simp [h4]
   have hc:l.length-n<=fuel:=by rw [hcl] at hcnt;simpa [List.count_append,List.count_replicate] using hcnt
   rw [List.length_drop];exact Wp (ops:=l.toArray) rfl ok' fuel tp n listed (Nat.le_refl _) hnl hc hsz hL
  rw [e];exact fin _ σ' h' I.inv hall t hst
 have key:∀(fuel tp:Nat)(listed:Array Bool) (σ':Nat->Value) (h':GH) (t:Array Value),SInv l n cls J listed σ' h'->listed.toList.count false<=fuel->BX t E.N σ'->
   E.wk.K (G (Ci b t ds (.inRegion l.toArray (Region.linearise.go .any l.toArray fuel tp listed []) ::k)) cs) h':=by
  intro fuel
  induction fuel with
  | zero=>
   intro tp listed σ' h' t I hcnt hst;exact suffix 0 tp listed σ' h' t I (by
    intro j hj;cases hb:listed.getD j false with
    | true=>rfl
    | false=>
     have hsz:=I.size;have hlt:j<listed.size:=aA
     have:false ∈ listed.toList:=by
      rw [Array.getD_eq_getD_getElem?,Array.getElem?_eq_getElem hlt,Option.getD_some] at hb;rw [<-hb];simp
     have:=List.count_pos_iff.2 this
     omega) hcnt hst
  | succ fuel ih=>
   intro tp listed σ' h' t I hcnt hst;by_cases hall:∀j,j<n->listed.getD j false=true
   ·exact suffix (fuel+1) tp listed σ' h' t I hall hcnt hst
   have hsz:=I.size;have hready:∃i0,i0<n/\listed.getD i0 false=false/\∀j,j<i0->listed.getD j false=true:=by
    have hex:∃j,j<n/\listed.getD j false=false:=by
     refine Classical.byContradiction λhc=>hall λj hj=>?_;cases hb:listed.getD j false with
     | true=>rfl
     | false=>exact absurd ⟨j,hj,hb⟩ hc
    obtain ⟨j,hj⟩:=hex
    induction j using Nat.strongRecOn with
    | ind j ihj=>
     by_cases hz:∃i,i<j/\listed.getD i false=false
     ·obtain ⟨i,hi,hi'⟩:=hz;exact ihj i hi ⟨aA,hi'⟩
     ·refine ⟨j,hj.1,hj.2,λi hi=>?_⟩;cases hb:listed.getD i false with
      | true=>rfl
      | false=>exact absurd ⟨i,hi,hb⟩ hz
   obtain ⟨i0,hi0,hl0,hb0⟩:=hready;have hget:∀j,j<l.length->listed.getD j true=listed.getD j false:=λj hj=>by
    have hlt:j<listed.size:=aA
    simp [Array.getD_eq_getD_getElem?,Array.getElem?_eq_getElem hlt]
   have hmem:∀i,i ∈ Region.ready .any l.toArray listed↔i<l.length/\listed.getD i false=false/\∀o,l[i]? =some o->∀e ∈ o.after,Region.binds .any e=true->listed.getD e.on false=true:=by
    intro i;unfold Region.ready;rw [List.mem_filter,List.mem_range,List.size_toArray];constructor
    ·rintro ⟨hi,x⟩;rw [hget i hi] at x;have hoi:l.toArray[i]? =some l[i]:=by simp [hi]
     rw [hoi] at x;simp only [Option.map_some,Option.getD_some,Bool.and_eq_true,Bool.not_eq_true'] at x;refine ⟨hi,x.1,λo ho e he hbd=>?_⟩;rw [List.getElem?_eq_getElem hi] at ho;cases ho
     have:=(Array.all_eq_true_iff_forall_mem.1 x.2) e he
     simpa [hbd] using this
    ·rintro ⟨hi,x1,x2⟩;refine ⟨hi,?_⟩;rw [hget i hi];have hoi:l.toArray[i]? =some l[i]:=by simp [hi]
     rw [hoi];simp only [Option.map_some,Option.getD_some,Bool.and_eq_true,Bool.not_eq_true'];refine ⟨x1,Array.all_eq_true_iff_forall_mem.2 λe he=>?_⟩;cases hbd:Region.binds .any e with
     | false=>rfl
     | true=>simpa using x2 _ (List.getElem?_eq_getElem hi) e he hbd
   have hi0r:i0 ∈ Region.ready .any l.toArray listed:=by
    rw [hmem];refine ⟨aA,hl0,λo ho e he hbd=>?_⟩;have o4:=Gx ok4 (show i0<l.length by omega);simp only [ho,Bool.and_eq_true] at o4
    have:=(Array.all_eq_true_iff_forall_mem.1 o4.1) e he
    simp only [hbd,Bool.not_true,Bool.false_or] at this;exact hb0 _ (Nat.blt_eq▸this)
   simp only [Region.linearise.go];change E.wk.K (G (Ci b t ds (.inRegion l.toArray (match (Region.ready .any l.toArray listed)[tp%(Region.ready .any l.toArray listed).length]? with
    | some i=>Region.linearise.go .any l.toArray fuel (tp / (Region.ready .any l.toArray listed).length) (listed.setIfInBounds i true) [i]
    | none=>[].reverse) ::k)) cs) h'
   cases hi:(Region.ready .any l.toArray listed)[tp%(Region.ready .any l.toArray listed).length]? with
   | none=>
    exfalso;have hpos:0<(Region.ready .any l.toArray listed).length:=List.length_pos_of_mem hi0r
    have:=Nat.mod_lt tp hpos
    rw [List.getElem?_eq_none_iff] at hi;omega
   | some i=>
    simp only [];have him:=(hmem i).1 (List.mem_of_getElem? hi);obtain ⟨hil,hiu,hie⟩:=him;obtain ⟨o,ho⟩:∃o,l[i]? =some o:=⟨_,List.getElem?_eq_getElem hil⟩;have o4:=Gx ok4 hil;simp only [ho,Bool.and_eq_true] at o4;have hin:i<n:=by
     refine Classical.byContradiction λhc=>?_;have h2:Nat.blt i n=false:=by
      cases h:Nat.blt i n with
      | false=>rfl
      | true=>exact absurd (Nat.blt_eq▸h) hc
     have o5:=o4.2;rw [h2] at o5;simp only [Bool.false_eq_true,if_false] at o5;have o6:=Gx o5 (show i0<i by omega);have onL:∀j,Ik o j=true->listed.getD j false=true:=λj hj=>by
      unfold Ik at hj;rw [Array.any_eq_true] at hj;obtain ⟨q,hq',e⟩:=hj;simp only [Bool.and_eq_true,beq_iff_eq] at e
      have:=hie o ho _ (Array.getElem_mem hq') e.1
      rw [e.2] at this;exact this
     simp only [Bool.or_eq_true,Bool.and_eq_true] at o6;rcases o6 with (o6 | ⟨_,o6⟩) | o6
     rotate_left 2
     ·rw [List.any_eq_true] at o6;obtain ⟨e,he,h2⟩:=o6;simp only [Bool.and_eq_true] at h2;have h3:=onL e h2.2;have h4:n<=e:=Nat.ble_eq▸h2.1.1;have h5:e<i:=List.mem_range.1 he;rw [I.suf e h4 aA] at h3;cases h3
     ·have:=onL _ o6
      rw [hl0] at this;cases this
     ·rw [List.any_eq_true] at o6;obtain ⟨e,he,h2⟩:=o6;simp only [Bool.and_eq_true] at h2
      have:=(I.clos e (List.mem_range.1 he) (onL e h2.1) i0 (by simpa using h2.2)).2
      rw [hl0] at this;cases this
    have hbl:Nat.blt i n=true:=by rw [Nat.blt_eq];exact hin
    have o5:=o4.2;rw [hbl] at o5;simp only [if_true,Bool.and_eq_true,Bool.not_eq_true'] at o5;obtain ⟨⟨⟨d2,d3⟩,d4⟩,d5⟩:=o5;have anyL:∀j,Ik o j=true->listed.getD j false=true:=λj hj=>by
     unfold Ik at hj;rw [Array.any_eq_true] at hj;obtain ⟨q,hq',e⟩:=hj;simp only [Bool.and_eq_true,beq_iff_eq] at e
     have:=hie o ho _ (Array.getElem_mem hq') e.1
     rw [e.2] at this;exact this
    have hgl:∀g w,o.guard=some (g,w)->listed.getD g false=true:=λg w hg=>by
     rw [hg] at d4;exact anyL g d4
    have hlt:∀j,listed.getD j false=true->j<n:=λj hj=>by
     by_cases h1:j<l.length
     ·by_cases h2:j<n
      ·exact h2
      ·rw [I.suf j aA h1] at hj;cases hj
     ·have:listed.getD j false=false:=by
       rw [Array.getD_eq_getD_getElem?,Array.getElem?_eq_none aA];rfl
      rw [this] at hj;cases hj
    have hcl:∀j ∈ cls.getD i [],j<n/\listed.getD j false=true:=λj hj=>by
     have:=(List.all_eq_true.1 d5) j hj
     simp only [Bool.and_eq_true,Bool.or_eq_true] at this;rcases this.2 with h1 | h1
     ·exact ⟨hlt j (anyL j h1),anyL j h1⟩
     ·rw [List.any_eq_true] at h1;obtain ⟨e,_,h2⟩:=h1;simp only [Bool.and_eq_true] at h2;have hle:=anyL e h2.1;exact I.clos e (hlt e hle) hle j (by simpa using h2.2)
    rw [linearise_go_acc,List.reverse_singleton,List.singleton_append];have hset:∀j,(listed.setIfInBounds i true).getD j false=Hm (λj=>listed.getD j false) i j:=λj=>by
     show _=if i=j then true else listed.getD j false
     rw [Array.getD_eq_getD_getElem?,Array.getElem?_setIfInBounds];by_cases hij:i=j
     ·subst hij;simp [hsz,hil]
     ·rw [if_neg hij,if_neg hij,Array.getD_eq_getD_getElem?]
    have next:∀(σ2:Nat->Value) (h2:GH),J (Hm (λj=>listed.getD j false) i) σ2 h2->SInv l n cls J (listed.setIfInBounds i true) σ2 h2:=by
     intro σ2 h2 hj2;refine ⟨by rw [show (λj=>(listed.setIfInBounds i true).getD j false)=Hm (λj=>listed.getD j false) i from funext hset];exact hj2,by simpa using hsz,λj hj hjl q hq'=>?_,λj hj hjl=>?_⟩
     ·rw [hset] at hjl
      have:q<n/\listed.getD q false=true:=by
       by_cases hij:i=j
       ·subst hij;exact hcl q hq'
       ·exact I.clos j hj (by simpa [Hm,hij] using hjl) q hq'
      refine ⟨this.1,?_⟩;rw [hset];unfold Hm;split
      ·rfl
      ·exact this.2
     ·rw [hset];unfold Hm;rw [if_neg aA];exact I.suf j hj hjl
    obtain ⟨stepT,stepF⟩:=step _ σ' h' i o I.inv hin hiu ho (λq hq'=>(hcl q hq').2) hgl;have hcnt':(listed.setIfInBounds i true).toList.count false<=fuel:=by
     rw [Array.toList_setIfInBounds];have hlt':i<listed.toList.length:=by simpa [hsz] using hil
     rw [List.count_set hlt'];have hlt2:i<listed.size:=by simpa using hlt'
     have h3:listed.toList[i]=false:=by
      rw [Array.getD_eq_getD_getElem?,Array.getElem?_eq_getElem hlt2,Option.getD_some] at hiu;simpa using hiu
     rw [h3];simp;have h4:=List.count_pos_iff.2 (List.getElem_mem hlt');rw [h3] at h4;have h5:Array.count false listed=listed.toList.count false:=aD
     omega
    have hgN:∀g w og dg,o.guard=some (g,w)->l[g]? =some og->og.dst=some dg->dg<E.N:=λg w og dg hgw hog hdg=>by
     have hgn:=hlt g (hgl g w hgw);have o6:=Gx ok4 (show g<l.length by omega);simp only [hog,Bool.and_eq_true] at o6;have hbg:Nat.blt g n=true:=by rw [Nat.blt_eq];exact hgn
     have o7:=o6.2;rw [hbg] at o7;simp only [if_true,Bool.and_eq_true] at o7
     have:=o7.1.1.1
     rw [hdg] at this;exact Nat.blt_eq▸this
    have hwant:Region.wanted o (yielded l.toArray t)=true↔DR l o σ':=by
     unfold Region.wanted DR;cases hg:o.guard with
     | none=>simp
     | some x=>
      obtain ⟨g,w⟩:=x;simp only [yielded];have e0:l.toArray[g]? =l[g]? :=aD
      rw [e0];cases hog:l[g]? with
      | none=>simp
      | some og=>
       simp only [Option.bind_some];cases hdg:og.dst with
       | none=>simp
       | some dg=>
        simp only [Option.bind_some];have hN:=hgN g w og dg hg hog hdg;have hts:dg<t.size:=by rw [hst.1];exact hN
        have hv:=hst.2 dg;rw [Array.getD_eq_getD_getElem?,Array.getElem?_eq_getElem hts,Option.getD_some] at hv;rw [Array.getElem?_eq_getElem hts,hv];cases σ' dg <;> simp
    cases hw:Region.wanted o (yielded l.toArray t) with
    | true=>
     have hG:=hwant.1 hw;refine Ky (E:=E) (by simpa using ho) hw (.inr d3) d2 hst (stepT hG) λσ2 ds2 h2 y t2 ht2=>?_;obtain ⟨rfl,hj2⟩:=y;exact ih _ _ σ2 h2 t2 (next σ2 h2 hj2) hcnt' ht2
    | false=>
     have hnG:¬DR l o σ':=λx=>by rw [hwant.2 x] at hw;cases hw
     refine Wk.go (Ci b (Wf t o.dst undef) ds (.inRegion l.toArray (Region.linearise.go .any l.toArray fuel (tp / (Region.ready .any l.toArray listed).length) (listed.setIfInBounds i true) []) ::k)) (λw=>?_) ?_
     ·rw [<-C7 (show l.toArray[i]? =some o by simpa using ho),A5];unfold stepG.exec;have hw':((l.toArray[i]?).map (Region.wanted · (yielded l.toArray t))).getD false=false:=by
       rw [show l.toArray[i]? =some o by simpa using ho];simp [hw]
      simp only [Ci,hw',Bool.false_eq_true,↓reduceIte];rfl
     ·exact ih _ _ (putS σ' o.dst undef) h' _ (next _ _ (stepF hnG)) hcnt' (hst.putS d2 undef)
 refine E.wk.closed _ _ rfl λw f=>?_;obtain ⟨tp,w',h',es,r1,r2,r3⟩:=JR (P:=P) f (e:=choose (.order b.fn id)) (Q:=λ_ h'=>h'=h) (by exact ⟨λ_=>rfl,λ_ _=>rfl⟩);subst r3;refine ⟨G (Ci b t ds (.inRegion l.toArray (Region.linearise.go .any l.toArray l.length tp (Array.replicate l.length false) []) ::k)) cs,w',#[],h',?_,r2.sub λe he=>by simp at he,?_⟩
 ·rw [A5];unfold stepG.exec;have r1':(choose (.order b.fn id)).run P w=.ok tp w':=by
   have:=congrArg Prod.fst r1
   simpa [Sem.runT_eq] using this
  simp only [Ci,Bool.not_true,Bool.false_eq_true,↓reduceIte,r1',Region.schedule,hm,Bool.true_or,Region.linearise,List.size_toArray];rfl
 ·refine key l.length tp _ O h' t ⟨?_,aD,λj _ hj=>?_,λj _ _=>?_⟩ ?_ hs
  ·have e:(λj=>(Array.replicate l.length false).getD j false)=λ_:Nat=>false:=funext λj=>by
    rw [Array.getD_eq_getD_getElem?,Array.getElem?_replicate];split <;> rfl
   rw [e];exact i0
  ·rw [Array.getD_eq_getD_getElem?,Array.getElem?_replicate] at hj;split at hj <;> cases hj
  ·rw [Array.getD_eq_getD_getElem?,Array.getElem?_replicate];split <;> rfl
  ·simp
theorem U3{id:Nat}{l:List Oper}{O:Nat->Value}{ds:List Deferred}{h:GH}{Q:Post}(n:Nat)(cls:List (List Nat))(J:(Nat->Bool)->(Nat->Value)->GH->Prop)
  (hm:P.follows .mixedOrders=true) (ok:GV E.N l n cls=true) (i0:J (λ_=>false) O h)
  (step:∀D σ' h' i o,J D σ' h'->i<n->D i=false->l[i]? =some o->(∀q ∈ cls.getD i [],D q=true)->(∀g w,o.guard=some (g,w)->D g=true)->
   (DR l o σ'->BQ E o σ' ds h' λσ'' ds'' h''=>ds''=ds/\J (Hm D i) σ'' h'')/\(¬DR l o σ'->J (Hm D i) (putS σ' o.dst undef) h'))
  (fin:∀D σ' h',J D σ' h'->(∀i,i<n->D i=true)->DL E l.toArray (l.drop n) σ' ds h' Q):Tr E (.region id l.toArray true) O ds h Q:=λb k cs L t hb hr hl hs hq=>
 PM n cls J hm ok i0 step hb hr hs λD σ' h' hj hall t' hst=>fin D σ' h' hj hall n b k cs L t' (λj=>aD) hb hr hl hst hq
theorem BP.mono{W:Wk P}{l f:Nat}{tmps:Array Value}{a c:Code}{h:GH}{R R':Value->GH->Prop}(x:BP W l f tmps a c h R)(hr:∀v h',R v h'->R' v h'):BP W l f tmps a c h R':=
 λfr cs hc=>x fr cs λv h' r=>hc v h' (hr v h' r)
theorem BQ.mono{o:Oper}{O:Nat->Value}{ds:List Deferred}{h:GH}{T T2:(Nat->Value)->List Deferred->GH->Prop}(y:BQ E o O ds h T)(ht:∀σ' ds' h',T σ' ds' h'->T2 σ' ds' h'):BQ E o O ds h T2:=by
 unfold BQ at y ⊢;refine FS _ (λnx h' q=>?_) _ y;cases nx <;> first | exact ht _ _ _ q | exact AV.mono q λv h'' r=>ht _ _ _ r | exact BP.mono q λv h'' r=>ht _ _ _ r | exact q
structure ZH(R:GH->GH->Prop)(l:List Oper)(n:Nat)(cls:List (List Nat))(Φ:List SP)(O:Nat->Value)(h:GH)(D:Nat->Bool)(σ':Nat->Value)(h':GH):Prop where
 le:R h h'
 base:∀t,(Df l n).contains t=false->σ' t=O t
 lt:∀j,D j=true->j<n
 done:∀j,D j=true->U1 l Φ σ' h' j
 clos:∀j,D j=true->∀i ∈ cls.getD j [],D i=true
 grd:∀j o,D j=true->l[j]? =some o->∀g w,o.guard=some (g,w)->D g=true
theorem tr_draw(R:GH->GH->Prop){id:Nat}{l:List Oper}{O:Nat->Value}{ds:List Deferred}{h:GH}{Q:Post}(n:Nat)(cls:List (List Nat))(Φ:List SP)
  (hm:P.follows .mixedOrders=true) (ok:Ts E.N l n cls=true) (rr:∀h,R h h) (rt:∀a b c,R a b->R b c->R a c) (mono:∀k v h h',R h h'->MN Φ k v h->MN Φ k v h')
  (x:N1 R E l n Φ O ds h Q n 0 l cls):Tr E (.region id l.toArray true) O ds h Q:=by
 obtain ⟨steps,fin⟩:=N1.at n 0 l cls x;simp only [Nat.zero_add] at steps fin;unfold Ts at ok;rw [Bool.and_eq_true] at ok;obtain ⟨ok,okd⟩:=ok;have ok':=ok;unfold GV at ok';simp only [Bool.and_eq_true] at ok';have nd:(Df l n).Nodup:=of_decide_eq_true ok'.1.2;refine U3 n cls (ZH R l n cls Φ O h) hm ok ⟨rr h,λ_ _=>rfl,λ_ q=>(by cases q),λ_ q=>(by cases q),λ_ q=>(by cases q),λ_ _ q=>(by cases q)⟩ (λD σ' h' i o I hin hiu ho hcl hgl=>?_) λD σ' h' I hall=>fin σ' h' I.le I.base (JW.get λj hj=>I.done j (hall j (List.mem_range.1 hj)));have hset:∀j,Hm D i j=if i=j then true else D j:=λ_=>rfl
 obtain ⟨d,hd⟩:∃d,o.dst=some d:=by
  have:=Gx okd hin
  rw [ho] at this;exact Option.isSome_iff_exists.1 this
 have next:∀(σ2:Nat->Value) (h2:GH) (v:Value),σ2=putS σ' o.dst v->R h' h2->(DR l o σ2->MN Φ i v h2)->ZH R l n cls Φ O h (Hm D i) σ2 h2:=by
  rintro σ2 h2 v rfl hle hlaw;have hkeep:∀j oj e,j<n->j≠i->l[j]? =some oj->oj.dst=some e->putS σ' o.dst v e=σ' e:=λj oj e hj hji hoj he=>by
   rw [hd];exact upd_ne σ' v (Tt (EK nd hin hj (λx=>hji x.symm) ho hoj hd he))
  refine ⟨rt _ _ _ I.le hle,λu hu=>?_,λj hjl=>?_,λj hjl=>?_,λj hjl q hq'=>?_,λj oj hjl hoj g w hg=>?_⟩
  ·rw [<-I.base u hu,hd];exact upd_ne σ' v (Tt λe=>by rw [e,U2 hin ho hd] at hu;cases hu)
  ·rw [hset] at hjl;by_cases hij:i=j
   ·exact hij▸hin
   ·rw [if_neg hij] at hjl;exact I.lt j hjl
  ·rw [hset] at hjl;by_cases hij:i=j
   ·subst hij;unfold U1;rw [ho];intro hg
    have:SQ o (putS σ' o.dst v)=v:=by simp [SQ,hd,putS,upd]
    rw [this];exact hlaw hg
   ·rw [if_neg hij] at hjl;have K:=I.done j hjl;unfold U1 at K ⊢;cases hoj:l[j]? with
    | none=>trivial
    | some oj=>
     rw [hoj] at K;simp only at K ⊢;intro hg;have hg':DR l oj σ':=hg.congr λg w og dg hgw hog hdg=>by
      have hgl':=I.grd j oj hjl hoj g w hgw;exact hkeep g og dg (I.lt g hgl') (λe=>by rw [e,hiu] at hgl';cases hgl') hog hdg
     have hsv:SQ oj (putS σ' o.dst v)=SQ oj σ':=by
      unfold SQ;cases hdj:oj.dst with
      | none=>rfl
      | some e=>exact hkeep j oj e (I.lt j hjl) (λx=>hij x.symm) hoj hdj
     rw [hsv];exact mono _ _ _ _ hle (K hg')
  ·rw [hset] at hjl ⊢;split
   ·rfl
   ·by_cases hij:i=j
    ·subst hij;exact hcl q hq'
    ·rw [if_neg hij] at hjl;exact I.clos j hjl q hq'
  ·rw [hset] at hjl ⊢;split
   ·rfl
   ·by_cases hij:i=j
    ·subst hij;rw [ho] at hoj;cases hoj;exact hgl g w hg
    ·rw [if_neg hij] at hjl;exact I.grd j oj hjl hoj g w hg
 refine ⟨λhG=>?_,λhnG=>?_⟩
 ·exact BQ.mono (steps i o hin ho σ' h' I.le I.base (JW.get λj hj=>I.done j (hcl j hj)) hG) λσ2 ds2 h2 y=>⟨y.1,by
   obtain ⟨_,hle,v,hσ,hlaw⟩:=y;exact next σ2 h2 v hσ hle λ_=>hlaw⟩
 ·refine next _ _ undef rfl (rr _) λhg=>absurd (hg.congr λg w og dg hgw hog hdg=>?_) hnG;have hgi:g≠i:=λe=>by have:=hgl g w hgw;rw [e,hiu] at this;cases this
  rw [hd];exact upd_ne σ' undef (Tt (EK nd hin (I.lt g (hgl g w hgw)) (λx=>hgi x.symm) ho hog hd hdg))
end
end Go.Ns
namespace Go.Ns
open Go.Conc
section
variable {P:Program} {E:Gq P} {O:Nat->Value} {ds:List Deferred} {h:GH} {T:(Nat->Value)->List Deferred->GH->Prop}
variable {dst:Option Nat} {ty:TypeId} {pos:String} {af:Array Edge} {gd:Option (Nat×Bool)}
variable {V:Type}
def DS(enc:V->Array Value)(xs:List V):List Value:=xs.flatMap λx=>(enc x).toList
theorem KI(enc:V->Array Value)(xs ys:List V):DS enc (xs++ys)=DS enc xs++DS enc ys:=by simp [DS]
theorem Eg{enc:V->Array Value}{n:Nat}{xs:List V}(hn:∀x ∈ xs,(enc x).size=n):(DS enc xs).length=xs.length*n:=by
 induction xs with
 | nil=>simp [DS]
 | cons x xs ih=>
  have:DS enc (x ::xs)=(enc x).toList++DS enc xs:=rfl
  rw [this,List.length_append,ih (λy hy=>hn y (by simp [hy])),List.length_cons,Nat.succ_mul,Array.length_toList,hn x aD];omega
def CW:Value->Option Nat
 | .slice (some a) _ _=>some a.block
 | _=>none
def AO(h0 h:GH)(v:Value)(t:TypeId)(n:Nat)(enc:V->Array Value)(xs:List V):Prop:=
 (v=.slice none 0 0/\xs=[])\/∃b cap c,v=.slice (some ⟨b,0,none⟩) xs.length cap/\h0 b=none/\h b=some (true,.cells c t (0,0))/\c.size=cap*n/\xs.length<=cap/\xs.length<=140737488355328/\
  c.toList.take (xs.length*n)=DS enc xs/\∀x ∈ xs,(enc x).size=n
theorem AO.nil(h0 h:GH)(t:TypeId)(n:Nat)(enc:V->Array Value):AO h0 h (.slice none 0 0) t n enc []:=.inl ⟨rfl,rfl⟩
theorem AO.le{h0 h h':GH}{v:Value}{t:TypeId}{n:Nat}{enc:V->Array Value}{xs:List V}(x:AO h0 h v t n enc xs)(l:h.Le h'):AO h0 h' v t n enc xs:=by
 rcases x with x | ⟨b,cap,c,h1,h2,h3,h4⟩
 ·exact .inl x
 ·exact .inr ⟨b,cap,c,h1,h2,l.keep h3 rfl,h4⟩
theorem AO.base{h0 h00 h:GH}{v:Value}{t:TypeId}{n:Nat}{enc:V->Array Value}{xs:List V}(x:AO h0 h v t n enc xs)(l:h00.Le h0):AO h00 h v t n enc xs:=by
 rcases x with x | ⟨b,cap,c,h1,h2,h3,h4⟩
 ·exact .inl x
 ·exact .inr ⟨b,cap,c,h1,l.nothing h2,h3,h4⟩
theorem AO.keep{h0 h h':GH}{v:Value}{t:TypeId}{n:Nat}{enc:V->Array Value}{xs:List V}(x:AO h0 h v t n enc xs)(l:∀b o,CW v=some b->h b=some o->h' b=some o):AO h0 h' v t n enc xs:=by
 rcases x with x | ⟨b,cap,c,h1,h2,h3,h4⟩
 ·exact .inl x
 ·exact .inr ⟨b,cap,c,h1,h2,l b _ (by rw [h1];rfl) h3,h4⟩
theorem PN{enc:V->Array Value}{n:Nat}{xs:List V}{l:List Value}(hn:∀x ∈ xs,(enc x).size=n)(h:l.take (xs.length*n)=DS enc xs){i:Nat}(hi:i<xs.length) :
  (l.drop (i*n)).take n=(enc xs[i]).toList:=by
 induction xs generalizing l i with
 | nil=>simp at hi
 | cons x xs ih=>
  have hx:=hn x aD;have e:DS enc (x ::xs)=(enc x).toList++DS enc xs:=rfl;have hlen:((enc x).toList).length=n:=by simp [hx]
  have hl:l.take n=(enc x).toList:=by
   have:=congrArg (List.take n) h
   rw [e,List.take_take,List.length_cons,Nat.succ_mul,Nat.min_eq_left (Nat.le_add_left _ _),List.take_left' hlen] at this;exact this
  have hr:(l.drop n).take (xs.length*n)=DS enc xs:=by
   have:=congrArg (List.drop n) h
   rw [e,List.drop_left' hlen,List.drop_take,List.length_cons,Nat.succ_mul,Nat.add_sub_cancel] at this;exact this
  cases i with
  | zero=>simpa using hl
  | succ i=>
   have:=ih (λy hy=>hn y (by simp [hy])) hr (i:=i) (by simpa using hi)
   rw [List.drop_drop] at this;rw [Nat.succ_mul,Nat.add_comm (i*n) n];simpa using this
theorem AO.sl{h0 h:GH}{v:Value}{t:TypeId}{n:Nat}{enc:V->Array Value}{xs:List V}(x:AO h0 h v t n enc xs):AH h v n enc xs:=by
 rcases x with ⟨rfl,rfl⟩ | ⟨b,cap,c,h1,h2,h3,h4,h5,hm,h6,h7⟩
 ·exact AH.nil _ _ _
 ·refine ⟨_,cap,h1,h5,hm,λi hi=>⟨b,0,rfl,true,c,t,(0,0),h3,?_,?_⟩⟩
  ·have:i*n+n<=xs.length*n:=by rw [<-Nat.succ_mul];exact Nat.mul_le_mul_right n hi
   have:xs.length*n<=cap*n:=Nat.mul_le_mul_right n h5
   omega
  ·apply Array.ext';rw [Array.toList_extract,List.extract_eq_take_drop,Nat.zero_add,show i*n+n-i*n=n by omega];exact PN h7 h6 hi
theorem AH.cells{h:GH}{v:Value}{n:Nat}{enc:V->Array Value}{ys:List V}(x:AH h v n enc ys)(hne:ys≠[]) :
  ∃b off cap p c t f,v=.slice (some ⟨b,off,none⟩) ys.length cap/\h b=some (p,.cells c t f)/\off+ys.length*n<=c.size/\(c.extract off (off+ys.length*n)).toList=DS enc ys/\∀y ∈ ys,(enc y).size=n:=by
 obtain ⟨a,cap,hv,_,_,he⟩:=x;have h0:0<ys.length:=List.length_pos_iff.2 hne;obtain ⟨b,off,rfl,p,c,t,f,hb,hs,hx⟩:=he 0 h0;have hall:∀i (hi:i<ys.length),off+i*n+n<=c.size/\c.extract (off+i*n) (off+i*n+n)=enc ys[i]:=λi hi=>by
  obtain ⟨b',off',e1,p',c',t',f',hb',hs',hx'⟩:=he i hi;cases e1;rw [hb] at hb';cases hb';exact ⟨hs',hx'⟩
 have hsz:∀y ∈ ys,(enc y).size=n:=λy hy=>by
  obtain ⟨i,hi,rfl⟩:=List.mem_iff_getElem.1 hy;rw [<-(hall i hi).2,Array.size_extract]
  have:=(hall i hi).1
  omega
 refine ⟨b,off,cap,p,c,t,f,hv,hb,?_,?_,hsz⟩
 ·have:=(hall (ys.length-1) aA).1
  have e:(ys.length-1)*n+n=ys.length*n:=by rw [<-Nat.succ_mul];congr 1;omega
  omega
 ·have key:∀i,i<=ys.length->(c.toList.drop off).take (i*n)=DS enc (ys.take i):=by
   intro i
   induction i with
   | zero=>intro _;simp [DS]
   | succ i ih=>
    intro hi;have hi':i<ys.length:=hi;rw [List.take_succ_eq_append_getElem hi',KI,<-ih aA,Nat.succ_mul,List.take_add];congr 1
    have:=(hall i hi').2
    have h2:=congrArg Array.toList this;rw [Array.toList_extract,List.extract_eq_take_drop,show off+i*n+n-(off+i*n)=n by omega] at h2;rw [List.drop_drop,show DS enc [ys[i]]=(enc ys[i]).toList by simp [DS],<-h2]
  have:=key ys.length (Nat.le_refl _)
  rw [List.take_length] at this;rw [Array.toList_extract,List.extract_eq_take_drop,show off+ys.length*n-off=ys.length*n by omega];exact this
theorem Ep(vs:List Value):∀(c:Array Value)(off:Nat),off+vs.length<=c.size->(BZ c off vs).toList=c.toList.take off++vs++c.toList.drop (off+vs.length):=by
 induction vs with
 | nil=>intro c off _;simp [BZ]
 | cons v vs ih=>
  intro c off hle;simp only [List.length_cons] at hle;rw [BZ,ih _ _ (by simp;omega),Array.toList_setIfInBounds];have hlt:off<c.toList.length:=by simp;omega
  rw [List.take_succ_eq_append_getElem (by simpa using hlt),List.take_set_of_le (Nat.le_refl _),List.getElem_set_self,List.drop_set_of_lt aA];simp only [List.append_assoc,List.length_cons,List.cons_append];rw [show off+1+vs.length=off+(vs.length+1) by omega];rfl
def JG(P:Program)(s x:TypeId):Option (TypeId×Nat×Nat):=match P.underlying s with
 | some (.slice e)=>match P.underlying x with
  | some (.slice _) | some .string=>match CL P e,Bm P e,P.info? e with
   | some (_,n),some z,some i=>if n=0\/z.size≠n\/i.bytes=0 then none else some (e,n,i.bytes)
   | _,_,_=>none
  | _=>none
 | _=>none
theorem Zx(need:Nat):∀(r c:Nat),c<need->Builtin.growBy need r c<=2*need+512:=by
 intro r
 induction r with
 | zero=>intro c hc;unfold Builtin.growBy;omega
 | succ r ih=>
  intro c hc;unfold Builtin.growBy;rw [if_neg aA];by_cases h2:c+(c+768) / 4<need
  ·exact ih _ h2
  ·cases r with
   | zero=>unfold Builtin.growBy;omega
   | succ r=>unfold Builtin.growBy;rw [if_pos aA];omega
theorem Oj{need old:Nat}(h:old<need):Builtin.nextslicecap need old<=2*need+512:=by
 unfold Builtin.nextslicecap;split
 ·omega
 ·split
  ·omega
  ·exact Zx _ _ _ h
theorem U4{h:GH}{a:Option Addr}{n c:Nat}{Q:Nat->GH->Prop}(q:Q n h):(Builtin.lenOf (.slice a n c)).gh P h Q:=q
theorem HH{h:GH}{v:Value}{n:Nat}{enc:V->Array Value}{ys:List V}{Q:Array Value->GH->Prop}(x:AH h v n enc ys)(q:Q (DS enc ys).toArray h):(Builtin.firstCells n ys.length v).gh P h Q:=by
 by_cases hne:ys=[]
 ·subst hne;obtain ⟨a,cap,rfl,_,_,_⟩:=x;cases a with
  | none=>exact q
  | some a=>
   show (loadCells a (0*n)).gh P h Q;rw [Nat.zero_mul];exact q
 ·obtain ⟨b,off,cap,p,c,t,f,rfl,hb,hs,hx,_⟩:=x.cells hne;show (loadCells ⟨b,off,none⟩ (ys.length*n)).gh P h Q;refine MK (a:=⟨b,off,none⟩) rfl hb _ 0 #[] (by simpa using hs) ?_
  have:(#[]++c.extract (off+0) (off+0+ys.length*n):Array Value)=(DS enc ys).toArray:=by
   apply Array.ext';simp only [Array.empty_append,Nat.add_zero];exact hx
  show Q (#[]++c.extract (off+0) (off+0+ys.length*n)) h;rw [this];exact q
theorem PO{s x:TypeId}{o1 o2:Operand}{h0:GH}{v w:Value}{e n bytes:Nat}{enc:V->Array Value}{xs ys:List V}(ht:JG P s x=some (e,n,bytes))(h1:AQ O o1=v)(h2:AQ O o2=w)
  (hv:AO h0 h v e n enc xs) (hw:AH h w n enc ys) (l0:∀r,h r=none->h0 r=none) (hb:(2*(xs.length+ys.length)+512)*bytes<=2 ^ 48) (hfine:∀y ∈ ys,(enc y).toList.all (·.oneCell')=true)
  (k:∀v' h',AO h0 h' v' e n enc (xs++ys)->(∀b o,h b=some o->CW v≠some b->h' b=some o)->(CW v'=CW v\/((∃r,CW v'=some r/\h r=none)/\∀b o,h b=some o->h' b=some o))->(∀b c,CW v=some b->h b=some (true,.cells c e (0,0))->∃c',h' b=some (true,.cells c' e (0,0))/\c'.size=c.size)->T (putS O dst v') ds h') :
  BQ E ⟨dst,.call ⟨.builtin .append,#[o1,o2],#[s,x]⟩,ty,pos,af,gd⟩ O ds h T:=by
 refine F9 (vs:=#[v,w]) (s:=Builtin.append_ #[s,x] ty #[v,w]) (by simp [h1,h2]) (λ_=>rfl) ?_;unfold JG at ht;cases hu:P.underlying s with
 | none=>rw [hu] at ht;cases ht
 | some d=>
 rw [hu] at ht;cases d <;> first | (cases ht;done) | skip
 rename_i el
 cases hux:P.underlying x with
 | none=>rw [hux] at ht;cases ht
 | some dx=>
 have hdx:dx=.string\/∃e',dx=.slice e':=by
  rw [hux] at ht;cases dx <;> first | exact .inl rfl | exact .inr ⟨_,rfl⟩ | (cases ht;done)
 have ht':(match CL P el,Bm P el,P.info? el with
   | some (_,n),some z,some i=>if n=0\/z.size≠n\/i.bytes=0 then none else some (el,n,i.bytes)
   | _,_,_=>none)=some (e,n,bytes):=by
  rw [hux] at ht;cases dx <;> first | exact ht | (cases ht;done)
 clear ht;cases hty:CL P el with
 | none=>rw [hty] at ht';cases ht'
 | some g=>
 obtain ⟨g1,n'⟩:=g;cases hz:Bm P el with
 | none=>rw [hty,hz] at ht';cases ht'
 | some z=>
 cases hi:P.info? el with
 | none=>rw [hty,hz,hi] at ht';cases ht'
 | some i=>
 rw [hty,hz,hi] at ht';simp only at ht';by_cases hcond:n'=0\/z.size≠n'\/i.bytes=0
 ·rw [if_pos hcond] at ht';cases ht'
 rw [if_neg hcond] at ht';simp only [Option.some.injEq,Prod.mk.injEq] at ht';obtain ⟨rfl,rfl,rfl⟩:=ht';have hn0:0<n':=aA
 have hzs:z.size=n':=aA
 have hysz:∀y ∈ ys,(enc y).size=n':=by
  by_cases hne:ys=[]
  ·subst hne;simp
  ·obtain ⟨_,_,_,_,_,_,_,_,_,_,_,q⟩:=hw.cells hne;exact q
 obtain ⟨wa,wcap,rfl,wlc,wml,wall⟩:=hw;have hw:AH h (.slice wa ys.length wcap) n' enc ys:=⟨wa,wcap,rfl,wlc,wml,wall⟩;have hzero:∀{Q:Value->GH->Prop}{h:GH},(∀v,v.cells=z->Q v h)->(zeroValue el).gh P h Q:=λ{Q h} q=>by
  unfold Bm at hz;unfold zeroValue;rw [hi] at hz;simp only [Option.map_eq_some_iff] at hz;obtain ⟨v,hv,e⟩:=hz;refine AD _ _ (Cl hi ?_);rw [hv];exact q v e
 have hcells:∀y ∈ (DS enc ys),y.oneCell'=true:=λy hy=>by
  unfold DS at hy;rw [List.mem_flatMap] at hy;obtain ⟨a,ha,hb⟩:=hy;exact List.all_eq_true.1 (hfine a ha) y hb
 have hfl:=Eg hysz;have hbytes:1<=i.bytes:=aA
 have htot:xs.length+ys.length<=140737488355328:=by
  have h2:(2*(xs.length+ys.length)+512)*1<=(2*(xs.length+ys.length)+512)*i.bytes:=Nat.mul_le_mul_left _ hbytes;omega
 obtain ⟨base,sCap,rfl,hcase⟩:∃base sCap,v=.slice base xs.length sCap/\((base=none/\xs=[]/\sCap=0)\/∃b c,base=some ⟨b,0,none⟩/\h0 b=none/\h b=some (true,.cells c el (0,0))/\c.size=sCap*n'/\xs.length<=sCap/\xs.length<=140737488355328/\c.toList.take (xs.length*n')=DS enc xs/\∀x ∈ xs,(enc x).size=n'):=by
  rcases hv with ⟨rfl,rfl⟩ | ⟨b,cap,c,rfl,q⟩
  ·exact ⟨none,0,rfl,.inl ⟨rfl,rfl,rfl⟩⟩
  ·exact ⟨_,cap,rfl,.inr ⟨b,c,rfl,q⟩⟩
 have hsl:=hv.sl;unfold Builtin.append_;simp only [List.getElem?_toArray,List.getElem?_cons_zero,List.getElem?_cons_succ];refine AD _ _ (Al hu ?_);dsimp only;refine AD _ _ (D9 hty ?_);refine AD _ _ (Al hux ?_);refine AD _ _ (FS _ (Q:=λz h'=>z=false/\h'=h) (λz h' q=>?_) h (by rcases hdx with rfl | ⟨e',rfl⟩ <;> exact ⟨rfl,rfl⟩));obtain ⟨rfl,hq⟩:=q;rw [hq];clear hq h';rw [if_neg aC];refine AD _ _ (U4 ?_);by_cases hroom:xs.length+ys.length<=sCap
 ·rw [if_pos hroom];show Sem.gh P _ h _;simp only [Bool.not_false,if_true];refine AD _ _ (HH hw ?_);rcases hcase with ⟨rfl,rfl,rfl⟩ | ⟨b,c,rfl,c1,c2,c3,c4,cm,c5,c6⟩
  ·have:ys=[]:=by simpa using hroom
   subst this;refine AD _ _ (Ar ?_);refine Ar ?_;exact k _ h (.inl ⟨rfl,rfl⟩) (λb o hb _=>hb) (.inl rfl) (λb c hb _=>by cases hb)
  ·dsimp only;rw [Iz];have hbnd:0+xs.length*n'+(DS enc ys).length<=c.size:=by
    rw [hfl,c3,Nat.zero_add,<-Nat.add_mul];exact Nat.mul_le_mul_right _ hroom
   refine AD _ _ (HG (a:=⟨b,0+xs.length*n',none⟩) rfl _ 0 c h ?_ c2 (by simpa using hbnd) ?_)
   ·intro y hy;exact hcells y (by simpa using hy)
   ·refine Ar ?_;refine k _ _ (.inr ⟨b,sCap,_,by rw [List.length_append],c1,GH.set_same _ _ _ _,by rw [HF];exact c3,by rw [List.length_append];exact hroom,by rw [List.length_append];exact htot,?_,?_⟩) ?_ (.inl rfl) (λb' c' hb' hc'=>?_)
    ·simp only [Nat.zero_add,Nat.add_zero] at hbnd ⊢;rw [Ep _ _ _ hbnd,KI,List.length_append,Nat.add_mul,<-hfl,c5];have hxl:=Eg c6;rw [<-hxl,<-List.length_append,List.take_append_of_le_length (Nat.le_refl _),List.take_length]
    ·intro y hy;rcases List.mem_append.1 hy with q | q
     ·exact c6 y q
     ·exact hysz y q
    ·intro b' o hb' hne
     have:b'≠b:=λe=>hne (by subst e;rfl)
     rw [GH.set_ne _ _ _ this];exact hb'
    ·cases hb';rw [c2] at hc';cases hc';exact ⟨_,GH.set_same _ _ _ _,by rw [HF]⟩
 ·rw [if_neg hroom];refine AD _ _ (Cl hi ?_);have hneed:xs.length+ys.length<=2 ^ 48:=by
   have h1:1<=i.bytes:=aA
   have h2:(2*(xs.length+ys.length)+512)*1<=(2*(xs.length+ys.length)+512)*i.bytes:=Nat.mul_le_mul_left _ h1;omega
  have hmax:IntKind.i64.max=9223372036854775807:=by rfl
  rw [if_neg (by rw [hmax];omega)];refine AD _ _ (Cl hi ?_);have hcap:Builtin.nextslicecap (xs.length+ys.length) sCap*i.bytes<=2 ^ 48:=Nat.le_trans (Nat.mul_le_mul_right _ (Oj aA)) hb;rw [if_neg aA];refine AD _ _ ⟨λhfo=>(by cases hfo),λ_ t=>?_⟩;show Sem.gh P _ h _;have hnc:xs.length+ys.length<=Question.cut (.appendCap (xs.length+ys.length) sCap el) t:=by
   show xs.length+ys.length<=xs.length+ys.length+_;omega
  generalize Question.cut (.appendCap (xs.length+ys.length) sCap el) t=newCap at hnc ⊢;refine AD _ _ (Cl hi ?_);refine AD _ _ ?_;have hask:∀(m:Nat)(Q:Unit->GH->Prop),Q () h->(askRoom m).gh P h Q:=λm Q q=>by
   unfold askRoom;split
   ·exact ⟨rfl,q⟩
   ·exact q
  refine hask _ _ ?_;refine AD _ _ (HH hsl ?_);simp only [Bool.not_false,if_true];refine AD _ _ (HH hw ?_);refine AD _ _ (hzero λvz hvz=>?_);rw [hvz];refine AD _ _ ?_;unfold newRow;refine AD _ _ (λr hr=>?_);refine Ar (Ar ?_);have hxsz:∀x ∈ xs,(enc x).size=n':=by
   rcases hcase with ⟨_,rfl,_⟩ | ⟨_,_,_,_,_,_,_,_,_,q⟩
   ·simp
   ·exact q
  have hxl:=Eg hxsz;refine k _ _ (.inr ⟨r,newCap,_,by rw [List.length_append],l0 _ hr,GH.set_same _ _ _ _,?_,by rw [List.length_append];exact hnc,by rw [List.length_append];exact htot,?_,?_⟩) (λb o hb' _=>?_) (.inr ⟨⟨r,rfl,hr⟩,λb o hb'=>by rw [GH.set_ne _ _ _ (GH.ne_of (p:=o.1) (o:=o.2) hb' hr)];exact hb'⟩) (λb c' _ hc'=>⟨c',by rw [GH.set_ne _ _ _ (GH.ne_of hc' hr)];exact hc',rfl⟩)
  ·simp only [Array.size_append,List.size_toArray,Builtin.zeroCells,Array.size_map,Array.size_range,hxl,hfl,hzs];rw [<-Nat.add_mul,<-Nat.add_mul];congr 1;omega
  ·simp only [Array.toList_append];rw [KI,List.length_append,Nat.add_mul,<-hxl,<-hfl,<-List.length_append,List.take_append_of_le_length (Nat.le_refl _),List.take_length]
  ·intro y hy;rcases List.mem_append.1 hy with q | q
   ·exact hxsz y q
   ·exact hysz y q
  ·rw [GH.set_ne _ _ _ (GH.ne_of (p:=o.1) (o:=o.2) hb' hr)];exact hb'
theorem Zy{s x:TypeId}{o1 o2:Operand}{h0:GH}{v w:Value}{e n bytes:Nat}{enc:V->Array Value}{xs ys:List V}(ht:JG P s x=some (e,n,bytes))(h1:AQ O o1=v)(h2:AQ O o2=w)
  (hv:AO h0 h v e n enc xs) (hw:AH h w n enc ys) (l0:∀r,h r=none->h0 r=none) (hb:(2*(xs.length+ys.length)+512)*bytes<=2 ^ 48) (hfine:∀y ∈ ys,(enc y).toList.all (·.oneCell')=true)
  (k:∀v' h',AO h0 h' v' e n enc (xs++ys)->(∀b o,h b=some o->CW v≠some b->h' b=some o)->(CW v'=CW v\/((∃r,CW v'=some r/\h r=none)/\∀b o,h b=some o->h' b=some o))->T (putS O dst v') ds h') :
  BQ E ⟨dst,.call ⟨.builtin .append,#[o1,o2],#[s,x]⟩,ty,pos,af,gd⟩ O ds h T:=
 PO ht h1 h2 hv hw l0 hb hfine λv' h' a b c _=>k v' h' a b c
end
end Go.Ns
namespace Go.Ns
open Go.Conc
section
variable {P:Program} {E:Gq P} {O:Nat->Value} {ds:List Deferred} {h:GH} {T:(Nat->Value)->List Deferred->GH->Prop}
variable {dst:Option Nat} {ty:TypeId} {pos:String} {af:Array Edge} {gd:Option (Nat×Bool)}
variable {V:Type}
theorem J9{op:BinOp}{t:TypeId}{x y:Operand}{a b:Value}{Q:Unit->GH->Prop}{h:GH}(ho:(match op with | .eql=>false | .neq=>false | _=>true)=true)(q:Q () h):(eqGuard op t x y a b).gh P h Q:=by
 unfold eqGuard;cases op <;> first | (cases ho;done) | exact q
theorem DT{k:IntKind}{i:Int}{y:Nat}{code:BoundsCode}{h:GH}{Q:Nat->GH->Prop}(h0:0<=i)(h1:i<=y)(q:Q i.toNat h):(Instr.sliceBound (.int k i) y code).gh P h Q:=by
 unfold Instr.sliceBound;refine AD _ _ (Ar ?_);show Sem.gh P (if 0<=i/\i<=(y:Int) then _ else _) h Q;rw [if_pos ⟨h0,h1⟩];exact q
theorem AH.part{h:GH}{n:Nat}{enc:V->Array Value}{xs:List V}{a:Option Addr}{cap lo hi:Nat}(x:AH h (.slice a xs.length cap) n enc xs)(hlo:lo<=hi)(hhi:hi<=xs.length) :
  AH h (.slice (if cap=lo then a else a.map (·.add (lo*n))) (hi-lo) (cap-lo)) n enc ((xs.take hi).drop lo):=by
 obtain ⟨a',cap',hv',hc,hm,he⟩:=x;cases hv';have hlen:((xs.take hi).drop lo).length=hi-lo:=by simp;omega
 refine ⟨_,cap-lo,by rw [hlen],aA,aA,λi hi'=>?_⟩;rw [hlen] at hi';obtain ⟨b,off,h1,h2⟩:=he (lo+i) aA;subst h1;have hg:((xs.take hi).drop lo)[i]'(by rw [hlen];exact hi')=xs[lo+i]' aA:=aD
 rw [hg,if_neg aA];refine ⟨b,off+lo*n,by simp [Iz],?_⟩;rw [Nat.add_assoc off,<-Nat.add_mul];exact h2
theorem PP{t:TypeId}{x:Operand}{olo ohi:Option Operand}{n:Nat}{enc:V->Array Value}{xs:List V}{v:Value}(lo hi:Nat)(ht:EB P t=some n)(hs:AH h v n enc xs)(hx:AQ O x=v)
  (hlo:match olo with | none=>lo=0 | some o=>∃kd,AQ O o=.int kd lo) (hhi:match ohi with | none=>hi=xs.length | some o=>∃kd,AQ O o=.int kd hi) (h1:lo<=hi) (h2:hi<=xs.length)
  (k:∀v',AH h v' n enc ((xs.take hi).drop lo)->T (putS O dst v') ds h):BQ E ⟨dst,.slice t x olo ohi none,ty,pos,af,gd⟩ O ds h T:=by
 have hs':=hs;obtain ⟨a,cap,rfl,hc,_,_⟩:=hs';unfold BQ execOp;simp only [hx];refine F7 ?_;unfold EB at ht;unfold Instr.sliceAt;cases hu:P.underlying t with
 | none=>rw [hu] at ht;cases ht
 | some d=>
  rw [hu] at ht;cases d <;> first | (cases ht;done) | skip
  rename_i e
  simp only at ht;refine AD _ _ (Al hu ?_);dsimp only;unfold Instr.slice;refine AD _ _ (Al hu ?_);dsimp only;have hb:∀(Q:Nat×Nat×Nat->GH->Prop),Q (lo,hi,cap) h->(Instr.sliceBounds true xs.length cap (olo.map (AQ O)) (ohi.map (AQ O)) none).gh P h Q:=λQ q=>by
   unfold Instr.sliceBounds;cases ohi with
   | none=>
    simp only at hhi;subst hhi;cases olo with
    | none=>simp only at hlo;subst hlo;exact q
    | some o=>
     obtain ⟨kd,e⟩:=hlo;simp only [Option.map_some,e];refine AD _ _ (Ar (AD _ _ (Ar ?_)));exact AD _ _ (DT aA aA (by simp only [Int.toNat_natCast];exact q))
   | some o'=>
    obtain ⟨kd',e'⟩:=hhi;cases olo with
    | none=>
     simp only at hlo;subst hlo;simp only [Option.map_some,e'];refine AD _ _ (Ar (AD _ _ (DT aA aA ?_)));exact q
    | some o=>
     obtain ⟨kd,e⟩:=hlo;simp only [Option.map_some,e,e'];refine AD _ _ (Ar (AD _ _ (DT aA aA ?_)));exact AD _ _ (DT aA (by simpa using h1) (by simp only [Int.toNat_natCast];exact q))
  refine AD _ _ (hb _ ?_);dsimp only;refine AD _ _ (F8 ht (Ar ?_));exact k _ (hs.part h1 h2)
theorem K3{t:TypeId}{x:Operand}{olo ohi:Option Operand}{n len cap:Nat}{a:Option Addr}(lo hi:Nat)(ht:EB P t=some n)(hc:len<=cap)(hx:AQ O x=.slice a len cap)
  (hlo:match olo with | none=>lo=0 | some o=>∃kd,AQ O o=.int kd lo) (hhi:match ohi with | none=>hi=len | some o=>∃kd,AQ O o=.int kd hi) (h1:lo<=hi) (h2:hi<=len)
  (k:T (putS O dst (.slice (if cap=lo then a else a.map (·.add (lo*n))) (hi-lo) (cap-lo))) ds h):BQ E ⟨dst,.slice t x olo ohi none,ty,pos,af,gd⟩ O ds h T:=by
 unfold BQ execOp;simp only [hx];refine F7 ?_;unfold EB at ht;unfold Instr.sliceAt;cases hu:P.underlying t with
 | none=>rw [hu] at ht;cases ht
 | some d=>
  rw [hu] at ht;cases d <;> first | (cases ht;done) | skip
  rename_i e
  simp only at ht;refine AD _ _ (Al hu ?_);dsimp only;unfold Instr.slice;refine AD _ _ (Al hu ?_);dsimp only;have hb:∀(Q:Nat×Nat×Nat->GH->Prop),Q (lo,hi,cap) h->(Instr.sliceBounds true len cap (olo.map (AQ O)) (ohi.map (AQ O)) none).gh P h Q:=λQ q=>by
   unfold Instr.sliceBounds;cases ohi with
   | none=>
    simp only at hhi;subst hhi;cases olo with
    | none=>simp only at hlo;subst hlo;exact q
    | some o=>
     obtain ⟨kd,e⟩:=hlo;simp only [Option.map_some,e];refine AD _ _ (Ar (AD _ _ (Ar ?_)));exact AD _ _ (DT aA aA (by simp only [Int.toNat_natCast];exact q))
   | some o'=>
    obtain ⟨kd',e'⟩:=hhi;cases olo with
    | none=>
     simp only at hlo;subst hlo;simp only [Option.map_some,e'];refine AD _ _ (Ar (AD _ _ (DT aA aA ?_)));exact q
    | some o=>
     obtain ⟨kd,e⟩:=hlo;simp only [Option.map_some,e,e'];refine AD _ _ (Ar (AD _ _ (DT aA aA ?_)));exact AD _ _ (DT aA (by simpa using h1) (by simp only [Int.toNat_natCast];exact q))
  refine AD _ _ (hb _ ?_);dsimp only;refine AD _ _ (F8 ht (Ar ?_));exact k
theorem U5{t:TypeId}{x:Operand}{m n b off:Nat}(ht:KG P t=some (m,n))(hx:AQ O x=.pointer (some ⟨b,off,none⟩))(k:T (putS O dst (.slice (some ⟨b,off,none⟩) m m)) ds h) :
  BQ E ⟨dst,.slice t x none none none,ty,pos,af,gd⟩ O ds h T:=by
 unfold BQ execOp;simp only [hx];refine F7 ?_;unfold KG at ht;unfold Instr.sliceAt;cases hu:P.underlying t with
 | none=>rw [hu] at ht;cases ht
 | some d=>
  rw [hu] at ht;cases d <;> first | (cases ht;done) | skip
  rename_i e
  simp only [Option.map_eq_some_iff,Prod.mk.injEq] at ht;obtain ⟨x0,hx0,rfl,rfl⟩:=ht;refine AD _ _ (Al hu ?_);dsimp only;refine AD _ _ (Ar ?_);unfold Instr.sliceBounds;simp only [Bool.false_eq_true,↓reduceIte];refine AD _ _ (AD _ _ (Ar (AD _ _ (Ar (AD _ _ (Ar (Ar ?_)))))));refine AD _ _ (D9 hx0 (Ar ?_));simp only [Nat.sub_zero,Nat.zero_mul,Iz,Nat.add_zero,ite_self];exact k
theorem JX{xt yt:TypeId}{x y:Operand}{kd ke:IntKind}{a b r:Int}(hx:AQ O x=.int kd a)(hy:AQ O y=.int ke b)(h0:0<=b)(hr:a.fdiv (2 ^ (min b.toNat kd.bits))=r)(k:T (putS O dst (.int kd r)) ds h) :
  BQ E ⟨dst,.binOp .shr xt x y yt,ty,pos,af,gd⟩ O ds h T:=by
 subst hr;unfold BQ execOp;simp only [hx,hy];refine F7 (AD _ _ ?_);refine J9 rfl ?_;show Sem.gh P (if b<0 then _ else _) h _;rw [if_neg aA];exact k
theorem ok_shl{xt yt:TypeId}{x y:Operand}{kd ke:IntKind}{a b r:Int}(hx:AQ O x=.int kd a)(hy:AQ O y=.int ke b)(h0:0<=b)(hr:kd.wrap (a*2 ^ (min b.toNat kd.bits))=r)(k:T (putS O dst (.int kd r)) ds h) :
  BQ E ⟨dst,.binOp .shl xt x y yt,ty,pos,af,gd⟩ O ds h T:=by
 subst hr;unfold BQ execOp;simp only [hx,hy];refine F7 (AD _ _ ?_);refine J9 rfl ?_;show Sem.gh P (if b<0 then _ else _) h _;rw [if_neg aA];exact k
theorem ZI{xt yt:TypeId}{x y:Operand}{a:Int}(hx:AQ O x=.int .i64 a)(hy:AQ O y=.int .i64 1)(h0:0<=a)(h1:a<=9223372036854775807)(k:T (putS O dst (.int .i64 (a%2))) ds h) :
  BQ E ⟨dst,.binOp .and xt x y yt,ty,pos,af,gd⟩ O ds h T:=I0 hx hy (by
 show (pure (Value.int .i64 (IntKind.i64.wrap ((BitVec.ofInt 64 a &&& BitVec.ofInt 64 1).toNat))):Sem Value)=_;obtain ⟨n,rfl⟩:=Int.eq_ofNat_of_zero_le h0
 have:(BitVec.ofInt 64 (n:Int) &&& BitVec.ofInt 64 1).toNat=n%2:=by
  rw [BitVec.toNat_and];have e1:(BitVec.ofInt 64 (n:Int)).toNat=n:=by
   rw [BitVec.toNat_ofInt];omega
  have e2:(BitVec.ofInt 64 1).toNat=1:=aC
  rw [e1,e2,Nat.and_one_is_mod]
 rw [this,IntWalk.i64_in _ aA];congr 2) k
def bytesOf(s:ByteArray):List Int:=s.data.toList.map λb=>(b.toNat:Int)
theorem Cr(s:ByteArray):(bytesOf s).length=s.size:=by
 unfold bytesOf;rw [List.length_map,Array.length_toList];rfl
def s2bOf(P:Program)(s t:TypeId):Option TypeId:=match P.underlying s,P.underlying t with
 | some .string,some (.slice e)=>match P.underlying e with
  | some (.int .u8)=>some e
  | _=>none
 | _,_=>none
theorem U6{s t e:TypeId}{x:Operand}{a:ByteArray}(hc:s2bOf P s t=some e)(hx:AQ O x=.string a)(hs:a.size<=140737488355328)
  (k:∀v h',h.Le h'->AH h' v 1 (λi:Int=>#[.int .u8 i]) (bytesOf a)->T (putS O dst v) ds h'):BQ E ⟨dst,.convert s t x,ty,pos,af,gd⟩ O ds h T:=by
 unfold BQ execOp;simp only [hx];refine F7 ?_;unfold s2bOf at hc;unfold convert;cases hu:P.underlying s with
 | none=>rw [hu] at hc;cases hc
 | some d=>
 cases hv:P.underlying t with
 | none=>rw [hu,hv] at hc;cases d <;> cases hc
 | some d'=>
 rw [hu,hv] at hc;cases d <;> first | (cases hc;done) | skip
 cases d' <;> first | (cases hc;done) | skip
 rename_i el
 simp only at hc;cases he:P.underlying el with
 | none=>rw [he] at hc;cases hc
 | some de=>
 rw [he] at hc;cases de <;> first | (cases hc;done) | skip
 rename_i ik
 cases ik <;> first | (cases hc;done) | skip
 cases hc;refine AD _ _ (Al hu (AD _ _ (Al hv ?_)));dsimp only;refine AD _ _ (Al he ?_);dsimp only;unfold Conv.stringToBytes;refine AD _ _ ⟨λhfo=>(by cases hfo),λ_ tp=>?_⟩;show Sem.gh P _ h _;have hcap:a.size<=Question.cut (.appendCap a.size 0 e) tp:=by
  show a.size<=a.size+_;omega
 generalize Question.cut (.appendCap a.size 0 e) tp=cap at hcap ⊢;refine AD _ _ ?_;unfold newRow;refine AD _ _ (λr hr=>?_);refine Ar ?_;refine AD _ _ ?_;unfold markStringish;refine AD _ _ ⟨true,_,_,_,GH.set_same _ _ _ _,?_⟩;refine .inr ⟨aC,_,_,_,GH.set_same _ _ _ _,?_⟩;refine Ar (Ar ?_);have hlen:(a.data.map λb=>(Value.int .u8 b.toNat)).size=a.size:=by rw [Array.size_map];rfl
 refine k _ _ (λb p o hb=>⟨o,?_,.inl rfl⟩) ⟨some ⟨r,0,none⟩,cap,by rw [Cr],by rw [Cr];exact hcap,by rw [Cr];exact hs,λi hi=>⟨r,0,rfl,true,_,_,_,GH.set_same _ _ _ _,?_,?_⟩⟩
 ·rw [GH.set_ne _ _ _ (GH.ne_of hb hr),GH.set_ne _ _ _ (GH.ne_of hb hr)];exact hb
 ·rw [Cr] at hi;rw [Array.size_append,hlen];omega
 ·rw [Cr] at hi;have hi2:i<a.data.size:=hi;apply Array.ext';rw [Array.toList_extract,List.extract_eq_take_drop,Array.toList_append,Nat.zero_add,Nat.mul_one,show i+1-i=1 by omega];have hl:i<(a.data.map λb=>(Value.int .u8 b.toNat)).toList.length:=by simpa using hi2
  rw [List.drop_append_of_le_length aA,List.drop_eq_getElem_cons hl,List.cons_append,List.take_succ_cons,List.take_zero];simp [bytesOf]
theorem SR{t:TypeId}{x ix:Operand}{s:ByteArray}{kd:IntKind}{i:Int}(ht:PK P t=true)(hx:AQ O x=.string s)(hi:AQ O ix=.int kd i)(h0:0<=i)(h1:i<s.size)(k:T (putS O dst (.int .u8 ((s[i.toNat]' aA).toNat:Int))) ds h) :
  BQ E ⟨dst,.index t x ix,ty,pos,af,gd⟩ O ds h T:=by
 unfold BQ execOp;simp only [hx,hi];refine F7 ?_;unfold PK at ht;unfold Instr.index;cases hu:P.underlying t with
 | none=>rw [hu] at ht;cases ht
 | some d=>
  rw [hu] at ht;refine AD _ _ (Ar ?_);refine AD _ _ (Al hu ?_);cases d <;> first | (cases ht;done) | skip
  dsimp only;rw [if_pos h0]
  have:s[i.toNat]? =some (s[i.toNat]' aA):=by
   rw [getElem?_pos]
  rw [this];exact k
theorem ZJ{t:TypeId}{a:Bool}{n off:Nat}{cs:Array Value}{v:Value}{h:GH}{Q:Value->GH->Prop}(ht:CL P t=some (a,n))(hv:(if a then some (.agg (cs.extract off (off+n))) else cs[off]?)=some v)(q:Q v h):(part t cs off).gh P h Q:=by
 unfold part;refine AD _ _ (PG ht ?_);cases a with
 | true=>
  simp only [if_true,Option.some.injEq] at hv ⊢;subst hv;exact AD _ _ (D9 ht (Ar q))
 | false=>
  simp only [Bool.false_eq_true,if_false] at hv ⊢;rw [hv];exact q
def ZK(P:Program)(t:TypeId):Option (Nat×Bool×Nat):=match P.underlying t with
 | some (.array m e)=>(CL P e).map λx=>(m,x.1,x.2)
 | _=>none
theorem SS{t:TypeId}{x ix:Operand}{cs:Array Value}{kd:IntKind}{i:Int}{m n:Nat}{a:Bool}{v:Value}(ht:ZK P t=some (m,a,n))(hx:AQ O x=.agg cs)(hi:AQ O ix=.int kd i)(h0:0<=i)(h1:i<m)
  (hv:(if a then some (.agg (cs.extract (i.toNat * n) (i.toNat * n+n))) else cs[i.toNat * n]?)=some v) (k:T (putS O dst v) ds h):BQ E ⟨dst,.index t x ix,ty,pos,af,gd⟩ O ds h T:=by
 unfold BQ execOp;simp only [hx,hi];refine F7 ?_;unfold ZK at ht;unfold Instr.index;cases hu:P.underlying t with
 | none=>rw [hu] at ht;cases ht
 | some d=>
  rw [hu] at ht;refine AD _ _ (Ar ?_);refine AD _ _ (Al hu ?_);cases d <;> first | (cases ht;done) | skip
  rename_i m' e
  simp only [Option.map_eq_some_iff,Prod.mk.injEq] at ht;obtain ⟨x0,hx0,rfl,rfl,rfl⟩:=ht;dsimp only;rw [if_pos ⟨h0,h1⟩];refine AD _ _ (D9 hx0 ?_);exact ZJ hx0 hv k
theorem ok_copy{s x:TypeId}{o1 o2:Operand}{b off dl cap n:Nat}{e:TypeId}{enc:V->Array Value}{ys:List V}{w:Value}{c:Array Value}(ht:EB P s=some n)(h1:AQ O o1=.slice (some ⟨b,off,none⟩) dl cap)(h2:AQ O o2=w)
  (hb:h b=some (true,.cells c e (0,0))) (hn:off+dl*n<=c.size) (hw:AH h w n enc ys) (hl:ys.length<=dl) (hfine:∀y ∈ ys,(enc y).toList.all (·.oneCell')=true) (hsz:∀y ∈ ys,(enc y).size=n)
  (k:T (putS O dst (.int .i64 ys.length)) ds (h.set b true (.cells (BZ c off (DS enc ys)) e (0,0)))) :
  BQ E ⟨dst,.call ⟨.builtin .copy,#[o1,o2],#[s,x]⟩,ty,pos,af,gd⟩ O ds h T:=by
 refine F9 (vs:=#[.slice (some ⟨b,off,none⟩) dl cap,w]) (s:=Builtin.copy_ #[s,x] ty #[.slice (some ⟨b,off,none⟩) dl cap,w]) (by simp [h1,h2]) (λ_=>rfl) ?_;unfold EB at ht;cases hu:P.underlying s with
 | none=>rw [hu] at ht;cases ht
 | some d=>
 rw [hu] at ht;cases d <;> first | (cases ht;done) | skip
 rename_i el
 simp only at ht;have hw':=hw;obtain ⟨wa,wcap,rfl,wlc,wml,wall⟩:=hw';unfold Builtin.copy_;simp only [List.getElem?_toArray,List.getElem?_cons_zero,List.getElem?_cons_succ];refine AD _ _ (Al hu ?_);dsimp only;refine AD _ _ (U4 ?_);refine AD _ _ (F8 ht ?_);have hmin:Nat.min ys.length dl=ys.length:=Nat.min_eq_left hl;rw [hmin];refine AD _ _ (HH hw ?_);have hfl:=Eg hsz;have hle:ys.length*n<=dl*n:=Nat.mul_le_mul_right n hl;refine AD _ _ (HG (a:=⟨b,off,none⟩) rfl _ 0 c h ?_ hb (by simp only [List.toList_toArray];omega) ?_)
 ·intro y hy;simp only [List.toList_toArray] at hy;unfold DS at hy;rw [List.mem_flatMap] at hy;obtain ⟨a,ha,hb'⟩:=hy;exact List.all_eq_true.1 (hfine a ha) y hb'
 ·refine Ar ?_;simpa [goInt] using k
end
end Go.Ns
namespace Go.Ns
open Go.Conc
section
variable {P:Program} {E:Gq P} {O:Nat->Value} {ds:List Deferred} {h:GH} {T:(Nat->Value)->List Deferred->GH->Prop}
variable {dst:Option Nat} {ty:TypeId} {pos:String} {af:Array Edge} {gd:Option (Nat×Bool)}
def IK(P:Program)(t:TypeId)(cs:Array Value)(off:Nat):Option Value:=match CL P t with
 | some (true,n)=>some (.agg (cs.extract off (off+n)))
 | some (false,_)=>cs[off]?
 | none=>none
def JY:List (Option Bool)->Option Bool
 | []=>some true
 | some b ::l=>match JY l with
  | some c=>some (b && c)
  | none=>none
 | none ::_=>none
def PQ(P:Program):Nat->TypeId->Value->Value->Option Bool
 | 0,_,_,_=>none
 | d+1,t,x,y=>match P.underlying t,x,y with
  | some .bool,.bool a,.bool b=>some (a==b)
  | some (.int _),.int k a,.int k' b=>if k=k' then some (a==b) else none
  | some .string,.string a,.string b=>some (a==b)
  | some (.struct fields),.agg xs,.agg ys=>if P.stoodInHeld t then none else
   JY (fields.toList.map λf=>if f.name≠ "_" then match IK P f.type xs f.offset,IK P f.type ys f.offset with
    | some u,some v=>PQ P d f.type u v
    | _,_=>none else some true)
  | some (.array len e),.agg xs,.agg ys=>match CL P e with
   | some (_,n)=>JY ((List.range' 0 len).map λi=>match IK P e xs (i*n),IK P e ys (i*n) with
    | some u,some v=>PQ P d e u v
    | _,_=>none)
   | none=>none
  | _,_,_=>none
theorem IL{t:TypeId}{cs:Array Value}{off:Nat}{v:Value}{h:GH}{Q:Value->GH->Prop}(e:IK P t cs off=some v)(q:Q v h):(part t cs off).gh P h Q:=by
 unfold IK at e;cases ht:CL P t with
 | none=>rw [ht] at e;cases e
 | some x=>
  obtain ⟨a,n⟩:=x;rw [ht] at e;refine ZJ ht ?_ q;cases a <;> simpa using e
theorem U7{V:Type}{h:GH}(body:V->Option Bool×Unit->Sem (ForInStep (Option Bool×Unit)))(f:V->Option Bool)
  (hb:∀a r (Q:ForInStep (Option Bool×Unit)->GH->Prop),f a=some r->Q (if r then .yield (none,()) else .done (some false,())) h->(body a (none,())).gh P h Q) :
  ∀(l:List V)(r:Bool)(Q:Option Bool×Unit->GH->Prop),JY (l.map f)=some r->Q (if r then (none,()) else (some false,())) h->(forIn l ((none,()):Option Bool×Unit) body).gh P h Q:=by
 intro l
 induction l with
 | nil=>intro r Q e q;simp [JY] at e;subst e;exact q
 | cons a l ih=>
  intro r Q e q;rw [List.forIn_cons];rw [List.map_cons] at e;cases ha:f a with
  | none=>rw [ha] at e;cases e
  | some b=>
   rw [ha] at e;simp only [JY] at e;cases hl:JY (l.map f) with
   | none=>rw [hl] at e;cases e
   | some c=>
    rw [hl] at e;simp only [Option.some.injEq] at e;refine AD _ _ (hb a b _ ha ?_);cases b with
    | true=>
     simp only [Bool.true_and] at e;subst e;exact ih c Q hl q
    | false=>
     simp only [Bool.false_and] at e;subst e;exact q
theorem JZ:∀(d D:Nat)(t:TypeId)(x y:Value)(r:Bool)(h:GH)(Q:Bool->GH->Prop),d<=D->PQ P d t x y=some r->Q r h->(Op.equalIn D t x y).gh P h Q:=by
 intro d
 induction d with
 | zero=>intro D t x y r h Q _ e;cases e
 | succ d ih=>
  intro D t x y r h Q hD e q;obtain ⟨D,rfl⟩:∃D',D=D'+1:=⟨D-1,aA⟩;unfold PQ at e;unfold Op.equalIn;cases hu:P.underlying t with
  | none=>rw [hu] at e;cases e
  | some ty=>
   rw [hu] at e;refine AD _ _ (Al hu ?_);cases ty with
   | bool=>cases x <;> first | (cases e;done) | (cases y <;> first | (cases e;done) | (cases e;exact q))
   | string=>cases x <;> first | (cases e;done) | (cases y <;> first | (cases e;done) | (cases e;exact q))
   | int k=>
    cases x <;> first | (cases e;done) | skip
    cases y <;> first | (cases e;done) | skip
    simp only at e;split at e
    ·rename_i hk
     cases e;show Sem.gh P (if _ then _ else _) h Q;rw [if_pos hk];exact q
    ·cases e
   | struct fields=>
    cases x <;> first | (cases e;done) | skip
    cases y <;> first | (cases e;done) | skip
    rename_i xs ys
    simp only at e;split at e
    ·cases e
    rename_i hst
    show Sem.gh P (bind program _) h Q;refine AD _ _ ?_;show Sem.gh P (if P.stoodInHeld t then _ else _) h Q;rw [if_neg hst];rw [<-Array.forIn_toList];refine AD _ _ (U7 _ _ (λf b Q' hf q'=>?_) fields.toList r _ e ?_)
    ·by_cases hn:f.name≠ "_"
     ·rw [if_pos hn] at hf ⊢;cases h1:IK P f.type xs f.offset with
      | none=>rw [h1] at hf;cases hf
      | some u=>
       cases h2:IK P f.type ys f.offset with
       | none=>rw [h1,h2] at hf;cases hf
       | some v=>
        rw [h1,h2] at hf;refine AD _ _ (IL h1 ?_);refine AD _ _ (IL h2 ?_);refine AD _ _ (ih D f.type u v b h _ aA hf ?_);cases b <;> exact q'
     ·rw [if_neg hn] at hf ⊢;cases hf;exact q'
    ·cases r <;> exact q
   | array len el=>
    cases x <;> first | (cases e;done) | skip
    cases y <;> first | (cases e;done) | skip
    rename_i xs ys
    simp only at e;cases ht:CL P el with
    | none=>rw [ht] at e;cases e
    | some z=>
     obtain ⟨a,n⟩:=z;rw [ht] at e;simp only at e;show Sem.gh P (bind (sizeOf el) _) h Q;refine AD _ _ (D9 ht ?_);rw [Std.Legacy.Range.forIn_eq_forIn_range'];rw [show List.range' (Std.Legacy.Range.mk 0 len 1 aC).start (Std.Legacy.Range.mk 0 len 1 aC).size (Std.Legacy.Range.mk 0 len 1 aC).step=List.range' 0 len from by simp [Std.Legacy.Range.size]];refine AD _ _ (U7 _ _ (λi b Q' hf q'=>?_) (List.range' 0 len) r _ e ?_)
     ·cases h1:IK P el xs (i*n) with
      | none=>rw [h1] at hf;cases hf
      | some u=>
       cases h2:IK P el ys (i*n) with
       | none=>rw [h1,h2] at hf;cases hf
       | some v=>
        rw [h1,h2] at hf;refine AD _ _ (IL h1 ?_);refine AD _ _ (IL h2 ?_);refine AD _ _ (ih D el u v b h _ aA hf ?_);cases b <;> exact q'
     ·cases r <;> exact q
   | _=>cases x <;> cases y <;> cases e
theorem N2{op:BinOp}{t:TypeId}{x y:Operand}{xs ys:Array Value}{h:GH}{Q:Unit->GH->Prop}(hg:P.eqGuardType P.depth t=false)(q:Q () h):(eqGuard op t x y (.agg xs) (.agg ys)).gh P h Q:=by
 have key:∀s,(do
   if !(<-program).eqGuardType (<-program).depth t then return
   if<-Op.eqGuardIn Op.maxDepth t (.agg xs) (.agg ys) then unsupported (.noEntry s):Sem Unit).gh P h Q:=by
  intro s;refine AD _ _ ?_;show Sem.gh P _ h _;refine AD _ _ ?_;show Sem.gh P (if !(P.eqGuardType P.depth t) then _ else _) h _;rw [hg];exact q
 unfold eqGuard;cases op <;> first | exact q | exact key _
theorem K5{xt yt:TypeId}{x y:Operand}{xs ys:Array Value}{r:Bool}(d:Nat)(hd:Nat.ble d 10000=true)(hg:P.eqGuardType P.depth xt=false)(hx:AQ O x=.agg xs)(hy:AQ O y=.agg ys)(he:PQ P d xt (.agg xs) (.agg ys)=some r)
  (k:T (putS O dst (.bool r)) ds h):BQ E ⟨dst,.binOp .eql xt x y yt,ty,pos,af,gd⟩ O ds h T:=by
 unfold BQ execOp;simp only [hx,hy];refine F7 (AD _ _ (N2 hg ?_));show Sem.gh P (do pure (Value.bool (<-Op.equal xt (.agg xs) (.agg ys))):Sem Value) h _;refine AD _ _ ?_;exact JZ d _ _ _ _ r h _ (Nat.le_of_ble_eq_true hd) he k
theorem Ja{xt yt:TypeId}{x y:Operand}{xs ys:Array Value}{r:Bool}(d:Nat)(hd:Nat.ble d 10000=true)(hg:P.eqGuardType P.depth xt=false)(hx:AQ O x=.agg xs)(hy:AQ O y=.agg ys)(he:PQ P d xt (.agg xs) (.agg ys)=some r)
  (k:T (putS O dst (.bool (!r))) ds h):BQ E ⟨dst,.binOp .neq xt x y yt,ty,pos,af,gd⟩ O ds h T:=by
 unfold BQ execOp;simp only [hx,hy];refine F7 (AD _ _ (N2 hg ?_));show Sem.gh P (do pure (Value.bool (!(<-Op.equal xt (.agg xs) (.agg ys)))):Sem Value) h _;refine AD _ _ ?_;exact JZ d _ _ _ _ r h _ (Nat.le_of_ble_eq_true hd) he k
end
end Go.Ns
namespace Go.Ns
open Go.Conc
section
variable {P:Program} {E:Gq P} {O:Nat->Value} {ds:List Deferred} {h:GH} {T:(Nat->Value)->List Deferred->GH->Prop}
variable {dst:Option Nat} {ty:TypeId} {pos:String} {af:Array Edge} {gd:Option (Nat×Bool)}
def KA(f:Value->Bool):List MapEntry->Nat->Option (Nat×Value)
 | [],_=>none
 | e ::es,i=>if f e.key then some (i,e.val) else KA f es (i+1)
theorem U8{d:Nat}{t:TypeId}{ty:TypeDesc}{k v:Value}{b:Bool}(hu:P.underlying t=some ty)(e:Instr.sameNow ty k v=some b):PQ P (d+1) t k v=some b:=by
 unfold PQ;rw [hu];unfold Instr.sameNow at e;cases ty <;> first | (cases e;done) | skip
 all_goals (cases k <;> first | (cases e;done) | skip)
 all_goals (cases v <;> first | (cases e;done) | skip)
 all_goals exact e
theorem PR{d:Nat}{kt:TypeId}{ty:TypeDesc}{k:Value}{f:Value->Bool}{h:GH}{Q:Option (Nat×Value)->GH->Prop}{es:List MapEntry}(hu:P.underlying kt=some ty)(hd:Nat.ble (d+1) 10000=true)
  (hf:∀e ∈ es,PQ P (d+1) kt k e.key=some (f e.key)) (q:Q (KA f es 0) h):(Instr.findKey kt k es).gh P h Q:=by
 unfold Instr.findKey;refine AD _ _ (Al hu ?_);have now:∀(es:List MapEntry)(i:Nat) r,(∀e ∈ es,PQ P (d+1) kt k e.key=some (f e.key))->Instr.findNow ty k es i=some r->r=KA f es i:=by
  intro es
  induction es with
  | nil=>intro i r _ e;cases e;rfl
  | cons a es ih=>
   intro i r hf e;unfold Instr.findNow at e;have ha:=hf a aD;cases hs:Instr.sameNow ty k a.key with
   | none=>rw [hs] at e;cases e
   | some b=>
    rw [hs] at e
    have:=U8 (d:=d) hu hs
    rw [ha] at this;cases this;unfold KA;cases hfa:f a.key with
    | true=>rw [hfa] at e;cases e;rfl
    | false=>rw [hfa] at e;exact ih (i+1) r (λe' he=>hf e' (by simp [he])) e
 have asking:∀(es:List MapEntry)(i:Nat),(∀e ∈ es,PQ P (d+1) kt k e.key=some (f e.key))->Q (KA f es i) h->(Instr.findAsking kt k es i).gh P h Q:=by
  intro es
  induction es with
  | nil=>intro i _ q;exact q
  | cons a es ih=>
   intro i hf q;unfold Instr.findAsking;refine AD _ _ (JZ (d+1) _ _ _ _ _ h _ (Nat.le_of_ble_eq_true hd) (hf a aD) ?_);unfold KA at q;cases hfa:f a.key with
   | true=>rw [hfa] at q;exact q
   | false=>rw [hfa] at q;exact ih (i+1) (λe' he=>hf e' (by simp [he])) q
 cases hn:Instr.findNow ty k es 0 with
 | none=>exact asking es 0 hf q
 | some r=>rw [now es 0 r hf hn];exact q
def ckP(P:Program):Nat->TypeId->Value->Bool
 | 0,_,_=>false
 | d+1,t,v=>match P.underlying t,v with
  | some (.interface _),_=>false
  | some (.array len e),.agg cs=>match CL P e with
   | some (_,n)=>(List.range' 0 len).all λi=>match IK P e cs (i*n) with
    | some u=>ckP P d e u
    | none=>false
   | none=>false
  | some (.array _ _),_=>false
  | some (.struct fields),.agg cs=>fields.toList.all λf=>if f.name≠ "_" then match IK P f.type cs f.offset with
   | some u=>ckP P d f.type u
   | none=>false else true
  | some (.struct _),_=>false
  | some _,_=>true
  | none,_=>false
theorem ZL{V:Type}{h:GH}(body:V->Unit->Sem (ForInStep Unit)):∀(l:List V)(Q:Unit->GH->Prop),(∀a ∈ l,∀(Q:ForInStep Unit->GH->Prop),Q (.yield ()) h->(body a ()).gh P h Q)->Q () h->(forIn l () body).gh P h Q:=by
 intro l
 induction l with
 | nil=>intro Q _ q;exact q
 | cons a l ih=>
  intro Q hb q;rw [List.forIn_cons];refine AD _ _ (hb a aD _ ?_);exact ih Q (λb hb'=>hb b (by simp [hb'])) q
theorem N3:∀(d D:Nat)(emp:Bool)(t:TypeId)(v:Value)(h:GH)(Q:Unit->GH->Prop),d<=D->ckP P d t v=true->Q () h->(Instr.checkKey emp D t v).gh P h Q:=by
 intro d
 induction d with
 | zero=>intro D emp t v h Q _ e;cases e
 | succ d ih=>
  intro D emp t v h Q hD e q;obtain ⟨D,rfl⟩:∃D',D=D'+1:=⟨D-1,aA⟩;unfold ckP at e;unfold Instr.checkKey;cases hu:P.underlying t with
  | none=>rw [hu] at e;cases e
  | some ty=>
   rw [hu] at e;refine AD _ _ (Al hu ?_);cases ty with
   | struct fields=>
    cases v <;> first | (cases e;done) | skip
    rename_i cs
    simp only [List.all_eq_true] at e;dsimp only;rw [<-Array.forIn_toList];refine AD _ _ (ZL _ _ _ (λf hf Q' q'=>?_) (Ar q))
    have:=e f hf
    by_cases hn:f.name≠ "_"
    ·rw [if_pos hn] at this;rw [if_pos hn];cases h1:IK P f.type cs f.offset with
     | none=>rw [h1] at this;cases this
     | some u=>
      rw [h1] at this;refine AD _ _ (IL h1 ?_);exact AD _ _ (ih D emp f.type u h _ aA this q')
    ·rw [if_neg hn];exact q'
   | interface _=>cases e
   | array len el=>
    cases v <;> first | (cases e;done) | skip
    rename_i cs
    simp only at e;cases ht:CL P el with
    | none=>rw [ht] at e;cases e
    | some g=>
     rw [ht] at e;obtain ⟨g,n⟩:=g;simp only [List.all_eq_true] at e;dsimp only;rw [Std.Legacy.Range.forIn_eq_forIn_range'];rw [show List.range' (Std.Legacy.Range.mk 0 len 1 aC).start (Std.Legacy.Range.mk 0 len 1 aC).size (Std.Legacy.Range.mk 0 len 1 aC).step=List.range' 0 len from by simp [Std.Legacy.Range.size]];refine AD _ _ (ZL _ _ _ (λi hi Q' q'=>?_) (Ar q))
     have:=e i hi
     cases h1:IK P el cs (i*n) with
     | none=>rw [h1] at this;cases this
     | some u=>
      rw [h1] at this;refine AD _ _ (D9 ht ?_);refine AD _ _ (IL h1 ?_);exact AD _ _ (ih D emp el u h _ aA this q')
   | _=>cases v <;> exact q
section
variable {κ ν:Type} [DecidableEq κ]
def MapAt(h:GH)(r:Nat)(p:Bool)(ek:κ->Value)(ev:ν->Value)(M:κ->Option ν):Prop:=
 ∃es clk,h r=some (p,.map es clk)/\∃l:List (κ×ν),es.toList.map (λe=>(e.key,e.val))=l.map (λx=>(ek x.1,ev x.2))/\∀a,M a=l.lookup a
abbrev Cs(h:GH)(r:Nat)(ek:κ->Value)(ev:ν->Value)(M:κ->Option ν):Prop:=MapAt h r true ek ev M
theorem Lk{ek:κ->Value}{ev:ν->Value}{f:Value->Bool}{a:κ}(hf:∀b,f (ek b)=decide (a=b)):∀(es:List MapEntry)(l:List (κ×ν))(i:Nat),es.map (λe=>(e.key,e.val))=l.map (λx=>(ek x.1,ev x.2))->
  (KA f es i).map (·.2)=(l.lookup a).map ev/\(∀j v,KA f es i=some (j,v)->i<=j/\j<i+es.length/\(∀e,es[j-i]? =some e->e.key=ek a)/\
   ∀(x:ν),(es.modify (j-i) λe=>{ e with key:=ek a,val:=ev x }).map (λe=>(e.key,e.val))=(l.set (j-i) (a,x)).map (λy=>(ek y.1,ev y.2))/\∀b,(l.set (j-i) (a,x)).lookup b=if b=a then some x else l.lookup b):=by
 intro es
 induction es with
 | nil=>
  intro l i e;cases l with
  | nil=>exact ⟨rfl,λj v hl=>by cases hl⟩
  | cons x l=>simp at e
 | cons e0 es ih=>
  intro l i e;cases l with
  | nil=>simp at e
  | cons x l=>
   obtain ⟨x1,x2⟩:=x;simp only [List.map_cons,List.cons.injEq,Prod.mk.injEq] at e;obtain ⟨⟨e1,e2⟩,e3⟩:=e;obtain ⟨ih1,ih2⟩:=ih l (i+1) e3;unfold KA;by_cases hax:a=x1
   ·subst hax;rw [e1,hf a];simp only [decide_true,if_true];refine ⟨by simp [e2],λj v hl=>?_⟩;cases hl;refine ⟨Nat.le_refl _,aD,?_,λy=>?_⟩
    ·intro e he;simp at he;subst he;exact e1
    ·rw [Nat.sub_self];refine ⟨by simp [e3],λb=>?_⟩;simp only [List.set_cons_zero,List.lookup_cons];by_cases hb:b=a
     ·subst hb;simp
     ·have:(b==a)=false:=by simpa using hb
      simp [hb,this]
   ·rw [e1,hf x1];simp only [hax,decide_false,Bool.false_eq_true,if_false];have hbx:(a==x1)=false:=by simpa using hax
    refine ⟨by rw [ih1,List.lookup_cons,hbx],λj v hl=>?_⟩;obtain ⟨h1,h2,h3,h4⟩:=ih2 j v hl;have hj:j-i=(j-(i+1))+1:=aA
    refine ⟨aA,by simp;omega,?_,λy=>?_⟩
    ·intro e he;rw [hj] at he;exact h3 e (by simpa using he)
    ·rw [hj];obtain ⟨g1,g2⟩:=h4 y;refine ⟨by simp [List.modify_succ_cons,e1,e2,g1],λb=>?_⟩;simp only [List.set_cons_succ,List.lookup_cons];rw [g2 b];by_cases hb:b=x1
     ·subst hb
      have:¬b=a:=λq=>hax q.symm
      simp [this]
     ·have:(b==x1)=false:=by simpa using hb
      simp [this]
theorem PS{ek:κ->Value}{f:Value->Bool}{ev:ν->Value}{a:κ}(hf:∀b,f (ek b)=decide (a=b)){es:List MapEntry}{l:List (κ×ν)}(e:es.map (λe=>(e.key,e.val))=l.map (λx=>(ek x.1,ev x.2)))(hn:KA f es 0=none):l.lookup a=none:=by
 have:=(Lk hf es l 0 e).1
 rw [hn] at this;cases hl:l.lookup a with
 | none=>rfl
 | some v=>rw [hl] at this;cases this
def MO(P:Program)(t:TypeId):Option (TypeId×TypeId):=match P.underlying t with
 | some (.map k v)=>if (P.underlying k).isSome then some (k,v) else none
 | _=>none
theorem Ll{t:TypeId}(k:∀r h',h r=none->h.Le h'->h' r=some (true,.map #[] 0)->(∀b,b≠r->h' b=h b)->T (putS O dst (.map (some r))) ds h'):BQ E ⟨dst,.makeMap t none,ty,pos,af,gd⟩ O ds h T:=by
 unfold BQ execOp;simp only [];refine F7 ?_;unfold Instr.makeMap;refine AD _ _ (λr hr=>?_);exact k r _ hr (GH.Le.new hr _ _) (GH.set_same _ _ _ _) λb hb=>GH.set_ne _ _ _ hb
theorem Cs.empty{h:GH}{r:Nat}{ek:κ->Value}{ev:ν->Value}(x:h r=some (true,.map #[] 0)):Cs h r ek ev (λ_=>none):=⟨_,_,x,[],rfl,λ_=>rfl⟩
theorem ST{t kt vt:TypeId}{x ix:Operand}{ok pm:Bool}{r d:Nat}{ek:κ->Value}{ev:ν->Value}{M:κ->Option ν}{a:κ}{z:Value}(ht:MO P t=some (kt,vt))(hx:AQ O x=.map (some r))(hk:AQ O ix=ek a)(hm:MapAt h r pm ek ev M)(hd:Nat.ble (d+1) 10000=true)
  (hc:ckP P (d+1) kt (ek a)=true) (he:∀b,PQ P (d+1) kt (ek a) (ek b)=some (decide (a=b))) (hz:(P.info? vt).bind (·.zero)=some z)
  (k:T (putS O dst (if ok then .tuple #[((M a).map ev).getD z,.bool (M a).isSome] else ((M a).map ev).getD z)) ds h):BQ E ⟨dst,.lookup t x ix ok,ty,pos,af,gd⟩ O ds h T:=by
 obtain ⟨es,clk,hb,l,hl,hM⟩:=hm;unfold MO at ht;cases hu:P.underlying t with
 | none=>rw [hu] at ht;cases ht
 | some d'=>
 rw [hu] at ht;cases d' <;> first | (cases ht;done) | skip
 rename_i kt' vt'
 simp only at ht;split at ht
 rotate_left
 ·cases ht
 rename_i hsome
 simp only [Option.some.injEq,Prod.mk.injEq] at ht;obtain ⟨rfl,rfl⟩:=ht;obtain ⟨kty,hkty⟩:=Option.isSome_iff_exists.1 hsome;let f:Value->Bool:=λv=>(PQ P (d+1) kt' (ek a) v).getD false;have hf:∀b,f (ek b)=decide (a=b):=λb=>by simp [f,he b]
 have hmem:∀e ∈ es.toList,∃b v,e.key=ek b/\e.val=ev v:=λe hmem=>by
  have:(e.key,e.val) ∈ l.map (λx=>(ek x.1,ev x.2)):=by rw [<-hl];exact List.mem_map.2 ⟨e,hmem,rfl⟩
  obtain ⟨x,_,hx'⟩:=List.mem_map.1 this;simp only [Prod.mk.injEq] at hx';exact ⟨x.1,x.2,hx'.1.symm,hx'.2.symm⟩
 have hff:∀e ∈ es.toList,PQ P (d+1) kt' (ek a) e.key=some (f e.key):=λe hm=>by
  obtain ⟨b,v,h1,_⟩:=hmem e hm;rw [h1,hf,he]
 unfold BQ execOp;simp only [hx,hk];refine F7 ?_;unfold Instr.lookup;refine AD _ _ (Al hu ?_);dsimp only;refine AD _ _ ⟨pm,_,hb,rfl,rfl,?_⟩;refine AD _ _ (Ar ?_);refine AD _ _ (N3 (d+1) 10000 _ _ _ h _ (Nat.le_of_ble_eq_true hd) hc ?_);refine AD _ _ (PR (d:=d) (f:=f) hkty hd hff ?_);have hsp:=(Lk hf es.toList l 0 hl).1;cases hlk:KA f es.toList 0 with
 | none=>
  have:=PS hf hl hlk
  rw [hM,this] at k;dsimp only;refine AD _ _ (AD _ _ ?_);cases hi:P.info? vt' with
  | none=>rw [hi] at hz;cases hz
  | some i=>
   rw [hi] at hz;simp only [Option.bind_some] at hz;refine Cl hi ?_;rw [hz];refine Ar ?_;cases ok <;> exact k
 | some y=>
  obtain ⟨j,v⟩:=y;rw [hlk] at hsp;rw [hM,<-hsp] at k;dsimp only;refine AD _ _ (Ar ?_);have hs:(l.lookup a).isSome=true:=by
   cases hq:l.lookup a with
   | none=>rw [hq] at hsp;cases hsp
   | some _=>rfl
  rw [hs] at k;cases ok <;> exact k
theorem Cs.le_other{h h':GH}{r:Nat}{ek:κ->Value}{ev:ν->Value}{M:κ->Option ν}(x:Cs h r ek ev M)(e:h' r=h r):Cs h' r ek ev M:=by
 obtain ⟨es,clk,hb,y⟩:=x;exact ⟨es,clk,e.trans hb,y⟩
theorem MP{t kt vt:TypeId}{om ok ox:Operand}{r d:Nat}{ek:κ->Value}{ev:ν->Value}{M:κ->Option ν}{a:κ}{v:ν}(ht:MO P t=some (kt,vt))(hm':AQ O om=.map (some r))(hk:AQ O ok=ek a)(hv:AQ O ox=ev v)(hm:Cs h r ek ev M)(hd:Nat.ble (d+1) 10000=true)
  (hc:ckP P (d+1) kt (ek a)=true) (he:∀b,PQ P (d+1) kt (ek a) (ek b)=some (decide (a=b))) (hs:Instr.sameBits 10000 (ek a) (ek a)=true)
  (k:∀h',Cs h' r ek ev (λb=>if b=a then some v else M b)->(∀b,b≠r->h' b=h b)->T (putS O dst undef) ds h'):BQ E ⟨dst,.mapUpdate t om ok ox,ty,pos,af,gd⟩ O ds h T:=by
 obtain ⟨es,clk,hb,l,hl,hM⟩:=hm;unfold MO at ht;cases hu:P.underlying t with
 | none=>rw [hu] at ht;cases ht
 | some d'=>
 rw [hu] at ht;cases d' <;> first | (cases ht;done) | skip
 rename_i kt' vt'
 simp only at ht;split at ht
 rotate_left
 ·cases ht
 rename_i hsome
 simp only [Option.some.injEq,Prod.mk.injEq] at ht;obtain ⟨rfl,rfl⟩:=ht;obtain ⟨kty,hkty⟩:=Option.isSome_iff_exists.1 hsome;let f:Value->Bool:=λv=>(PQ P (d+1) kt' (ek a) v).getD false;have hf:∀b,f (ek b)=decide (a=b):=λb=>by simp [f,he b]
 have hff:∀e ∈ es.toList,PQ P (d+1) kt' (ek a) e.key=some (f e.key):=λe hmem=>by
  have:(e.key,e.val) ∈ l.map (λx=>(ek x.1,ev x.2)):=by rw [<-hl];exact List.mem_map.2 ⟨e,hmem,rfl⟩
  obtain ⟨x,_,hx'⟩:=List.mem_map.1 this;simp only [Prod.mk.injEq] at hx';rw [<-hx'.1,hf,he]
 unfold BQ execOp;simp only [hm',hk,hv];refine gh_u ?_;unfold Instr.mapUpdate;refine AD _ _ (Al hu ?_);dsimp only;refine AD _ _ ⟨true,_,hb,rfl,rfl,?_⟩;refine AD _ _ (N3 (d+1) 10000 _ _ _ h _ (Nat.le_of_ble_eq_true hd) hc ?_);refine AD _ _ (PR (d:=d) (f:=f) hkty hd hff ?_);obtain ⟨s1,s2⟩:=Lk hf es.toList l 0 hl;cases hlk:KA f es.toList 0 with
 | none=>
  have hno:=PS hf hl hlk;dsimp only;refine ⟨_,hb,rfl,rfl,rfl,?_⟩;refine Ar (k _ ⟨_,_,GH.set_same _ _ _ _,l++[(a,v)],by simp [hl],λb=>?_⟩ (λb hb'=>GH.set_ne _ _ _ hb'));show (if b=a then some v else M b)=_;by_cases hba:b=a
  ·subst hba;simp only [if_true];rw [List.lookup_append,hno];simp
  ·rw [if_neg hba,hM,List.lookup_append]
   have:(b==a)=false:=by simpa using hba
   simp [List.lookup,this]
 | some y=>
  obtain ⟨j,u⟩:=y;obtain ⟨g1,g2,g3,g4⟩:=s2 j u hlk;obtain ⟨g5,g6⟩:=g4 v;rw [Nat.sub_zero] at g3 g5 g6;have hj:j<es.size:=by simpa using g2
  have hkey:((es[j]?).map (·.key)).getD (ek a)=ek a:=by
   have:es[j]? =es.toList[j]? :=aD
   rw [this];cases hq:es.toList[j]? with
   | none=>rfl
   | some e=>simp [g3 e hq]
  dsimp only;rw [hkey];refine AD _ _ ?_;unfold Instr.keyThatStays;rw [if_pos hs];refine Ar ?_;refine ⟨_,hb,rfl,rfl,rfl,?_⟩;refine Ar (k _ ⟨_,_,GH.set_same _ _ _ _,l.set j (a,v),?_,λb=>?_⟩ (λb hb'=>GH.set_ne _ _ _ hb'))
  ·rw [Array.toList_modify];exact g5
  ·show (if b=a then some v else M b)=_;rw [g6 b,hM b]
end
end
end Go.Ns
