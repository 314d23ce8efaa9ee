/- Rules and walks, part 3 of 6. No conditions. -/
import Derived.Carry
import Derived.Conc.LeavingOf
import Derived.LaidMore
import Derived.OpenShut
import Derived.ProofKit
import Derived.Test.YthccgklboafliaaGreatDoorAqA
import Derived.Test.YthccgklboafliaaGreatDoorAqB
import Derived.Test.YthccgklboafliaaGreatDoorProg
set_option linter.unusedVariables false
set_option linter.unusedSimpArgs false
set_option linter.unnecessarySimpa false
set_option linter.unusedSectionVars false
namespace Go.Ns
open Go.Conc
section
variable (d m:Int) (gs:List Good) (ms:List AB) (cs:List AC)
def K7 (mask:Nat):Option (List Int):=if CG d gs ms (Ck cs (mask:Int) cs.length) m=true then none else some (A4 (mask:Int) cs.length)
def Cz (k f:Nat):List (List Int):=(List.range' k f).filterMap (K7 d m gs ms cs)
def D2:List (List Int):=Cz d m gs ms cs 0 (2 ^ cs.length)
def EO:Int:=if AX d m gs ms cs=0 then (if CG d gs ms cs m=true then 0 else if CG d gs ms (Ck cs 0 cs.length) m=true then 0 else 8) else AX d m gs ms cs
def FW:List Int:=if AX d m gs ms cs=0∧CG d gs ms cs m=false∧CG d gs ms (Ck cs 0 cs.length) m=true then F9 ((D2 d m gs ms cs).getD 0 []) ((D2 d m gs ms cs).drop 1) else []
end
section
variable {d m:Int} {gs:List Good} {ms:List AB} {cs:List AC}
theorem Nq {k f:Nat} (h:CG d gs ms (Ck cs (k:Int) cs.length) m=true):Cz d m gs ms cs k (f+1)=Cz d m gs ms cs (k+1) f:=by
 unfold Cz K7;rw [List.range'_succ,List.filterMap_cons];simp [h]
theorem Nr {k f:Nat} (h:CG d gs ms (Ck cs (k:Int) cs.length) m=false):Cz d m gs ms cs k (f+1)=A4 (k:Int) cs.length ::Cz d m gs ms cs (k+1) f:=by
 unfold Cz K7;rw [List.range'_succ,List.filterMap_cons];simp [h]
theorem Tu {n i:Nat} (hn:n≤4) (hi:i<n):Ew ((2 ^ n-1:Nat):Int) i=true:=by
 have h:∀n,n≤4→∀i,i<n→Ew ((2 ^ n-1:Nat):Int) i=true:=by decide
 exact h n hn i hi
theorem Tv {α:Type} (l:List α) (z:α):(List.range l.length).map (fun i=>l.getD i z)=l:=by
 apply List.ext_getElem
 ·simp
 ·intro i h1 h2;simp [List.getD_eq_getElem?_getD,List.getElem?_eq_getElem h2]
theorem Tw (h:cs.length≤4):Ck cs ((2 ^ cs.length-1:Nat):Int) cs.length=cs:=by
 unfold Ck;rw [List.filter_eq_self.2 fun i hi=>Tu h (List.mem_range.1 hi)];exact Tv cs AC.z
theorem SA (hcl:cs.length≤4) (h:CG d gs ms cs m=false):D2 d m gs ms cs≠[]:=by
 intro e;unfold D2 Cz at e;rw [List.filterMap_eq_nil_iff] at e;have hp:0<2 ^ cs.length:=Nat.pow_pos (by decide)
 have:=e (2 ^ cs.length-1) (List.mem_range'.2 ⟨2 ^ cs.length-1,by omega,by omega⟩)
 unfold K7 at this;rw [Tw hcl,if_neg (by rw [h];simp)] at this;cases this
theorem Qp (hcl:cs.length≤4):(D2 d m gs ms cs).length≤16:=by
 unfold D2 Cz;refine Nat.le_trans (List.length_filterMap_le _ _) ?_;rw [List.length_range'];exact Nat.pow_le_pow_right (n:=2) (by decide) hcl
theorem O4 (h:¬AX d m gs ms cs=0):EO d m gs ms cs=AX d m gs ms cs:=by unfold EO;rw [if_neg h]
theorem Tx (h:¬AX d m gs ms cs=0):FW d m gs ms cs=[]:=by unfold FW;rw [if_neg (fun e=>h e.1)]
theorem Nt (h:AX d m gs ms cs=0) (h1:CG d gs ms cs m=true):EO d m gs ms cs=0:=by unfold EO;rw [if_pos h,if_pos h1]
theorem SB (h1:CG d gs ms cs m=true):FW d m gs ms cs=[]:=by unfold FW;rw [if_neg (fun e=>by rw [h1] at e;cases e.2.1)]
theorem Mc (h:AX d m gs ms cs=0) (h1:CG d gs ms cs m=false) (h2:CG d gs ms (Ck cs 0 cs.length) m=false):EO d m gs ms cs=8:=by
 unfold EO;rw [if_pos h,if_neg (by rw [h1];simp),if_neg (by rw [h2];simp)]
theorem Qq (h2:CG d gs ms (Ck cs 0 cs.length) m=false):FW d m gs ms cs=[]:=by unfold FW;rw [if_neg (fun e=>by rw [h2] at e;cases e.2.2)]
theorem Qr (h:AX d m gs ms cs=0) (h1:CG d gs ms cs m=false) (h2:CG d gs ms (Ck cs 0 cs.length) m=true):EO d m gs ms cs=0:=by
 unfold EO;rw [if_pos h,if_neg (by rw [h1];simp),if_pos h2]
theorem Wb {fl:List Sl} (h:AX d m gs ms cs=0) (h1:CG d gs ms cs m=false) (h2:CG d gs ms (Ck cs 0 cs.length) m=true) (hcl:cs.length≤4) (hfl:B7 fl=D2 d m gs ms cs) :
  0<fl.length∧FW d m gs ms cs=F9 (fl.getD 0 Sl.z).2 (B7 (fl.drop 1)):=by
 have hne:=SA (d:=d) (gs:=gs) (ms:=ms) hcl h1;have hpos:0<fl.length:=by
  rw [←C3,hfl];exact List.length_pos_iff.2 hne
 refine ⟨hpos,?_⟩;unfold FW;rw [if_pos ⟨h,h1,h2⟩,←hfl,FD hpos];congr 1;unfold B7;rw [List.map_drop]
end
theorem A2.pick {d m:Int} {gs:List Good} {ms:List AB} {cs:List AC} (b:A2 d m gs ms cs) (mask:Int):A2 d m gs ms (Ck cs mask cs.length):=
 { b with
  clen:=Nat.le_trans (PV cs mask _) b.clen
  count:=fun k hk=>by
   have hm:=Cx (d:=AC.z) hk;generalize hx:(Ck cs mask cs.length).getD k AC.z=x at hm;unfold Ck at hm;obtain ⟨i,hi,e⟩:=List.mem_map.1 hm;have hi2:=List.mem_range.1 (List.mem_filter.1 hi).1
   have:=b.count i hi2
   unfold Du at this ⊢;rw [hx,←e];exact this }
theorem B2.flags {h h':GH} {l:List Sl} (s:h.Same h') (a:B2 h l):B2 h' l:=fun k=>(a k).flags s
def RepL:Nat→List Int→Value→GH→Prop:=fun _ l v hm=>AK hm v 1 eI l
def GH.part (h:GH) (v:Value):GH:=fun b=>if By v=some b then h b else none
def GH.rest (h:GH) (v:Value):GH:=fun b=>if By v=some b then none else h b
theorem GH.split_part (h:GH) (v:Value):GH.Split h (h.rest v) (h.part v) where
 left:=fun b p o hb=>by
  unfold GH.rest at hb;split at hb
  ·cases hb
  ·exact ⟨p,hb,id⟩
 right:=fun b p o hb=>by
  unfold GH.part at hb;split at hb
  ·exact ⟨p,hb,id⟩
  ·cases hb
 one:=fun r o x h1 h2=>by
  unfold GH.rest at h1;unfold GH.part at h2;split at h1
  ·cases h1
  ·rename_i e;rw [if_neg e] at h2;cases h2
 two:=fun r o x h1 h2=>by
  unfold GH.rest at h2;unfold GH.part at h1;split at h2
  ·cases h2
  ·rename_i e;rw [if_neg e] at h1;cases h1
theorem AS.part {α:Type} {h0 h:GH} {v:Value} {t:TypeId} {n:Nat} {enc:α→Array Value} {xs:List α} (x:AS h0 h v t n enc xs):AK (h.part v) v n enc xs:=
 AS.sl (h0:=h0) (x.keep fun b o hb ho=>by unfold GH.part;rw [if_pos hb];exact ho)
theorem AS.le_rest {α:Type} {h0 h hb:GH} {v:Value} {t:TypeId} {n:Nat} {enc:α→Array Value} {xs:List α} (x:AS h0 h v t n enc xs) (l:hb.Le h) (l0:hb.Le h0):hb.Le (h.rest v):=fun b p o hbb=>by
 unfold GH.rest;rw [if_neg]
 ·exact l b p o hbb
 ·intro e;rcases x with ⟨rfl,_⟩ | ⟨b1,cap,c,rfl,f0,_⟩
  ·cases e
  ·have:b1=b:=by simpa [By] using e
   subst this
   have:=l0.keep hbb rfl
   rw [f0] at this;cases this
theorem AK.join {α:Type} {h hm:GH} {v:Value} {n:Nat} {enc:α→Array Value} {xs:List α} (x:AK hm v n enc xs) (c:h.Compat hm):AK (h.join hm) v n enc xs:=x.flags fun b p o hb=>by
 unfold GH.join;cases e:h b with
 | none=>exact ⟨p,hb⟩
 | some y=>obtain ⟨q,o'⟩:=y;obtain ⟨rfl,rfl,rfl⟩:=c b q o' p o e hb;exact ⟨false,rfl⟩
theorem GH.Compat.le {a h hm:GH} (l:a.Le h) (c:h.Compat hm):a.Compat hm:=fun b p o q o' x y=>c b p o q o' (l.keep x rfl) y
theorem GH.Le.joins {a h hm:GH} (l:a.Le h) (c:h.Compat hm):(a.join hm).Le (h.join hm):=fun b p o hb=>by
 unfold GH.join at hb ⊢;cases e:a b with
 | some x=>rw [e] at hb;cases hb;rw [l.keep e rfl];exact ⟨o,rfl,.inl rfl⟩
 | none=>
  rw [e] at hb;cases e2:h b with
  | none=>exact ⟨o,hb,.inl rfl⟩
  | some y=>obtain ⟨q,o'⟩:=y;obtain ⟨rfl,rfl,rfl⟩:=c b q o' p o e2 hb;exact ⟨_,rfl,.inl rfl⟩
theorem AS.joins {α:Type} {h0 h hm:GH} {v:Value} {t:TypeId} {n:Nat} {enc:α→Array Value} {xs:List α} (x:AS h0 h v t n enc xs) (c:h.Compat hm):AS (h0.join hm) (h.join hm) v t n enc xs:=by
 rcases x with x | ⟨b,cap,cc,rfl,f0,f1,f2⟩
 ·exact .inl x
 ·refine .inr ⟨b,cap,cc,rfl,?_,?_,f2⟩
  ·unfold GH.join;rw [f0];cases e:hm b with
   | none=>rfl
   | some y=>obtain ⟨q,o'⟩:=y;have:=(c b _ _ q o' f1 e).1;cases this
  ·unfold GH.join;rw [f1]
section
variable {P:Program} {M:Type} {F:O2 P M} {i i':Option (FP M)} {σ:Nat→Value} {ds:List Deferred} {h:GH} {Q:R6 M}
theorem trI_ix {c:Code} (e:i=i') (x:Kb F c i' σ ds h Q):Kb F c i σ ds h Q:=e▸x
theorem Vw {ops:Array Oper} {l:List Oper} (e:i=i') (x:K0 F ops l i' σ ds h Q):K0 F ops l i σ ds h Q:=e▸x
theorem Wc {c:Code} {Q:Post} (x:Kb F c none σ ds h fun i e σ ds h=>i=none∧Q e σ ds h):Tr ⟨F.W,F.fn,F.rd,F.N⟩ c σ ds h Q:=by
 intro b k cs L t hb hr hl hs hc;refine x b k cs (fun i=>match i with | none=>L | some _=>fun _ _ _ _=>False) t hb hr (fun i=>?_) hs fun i e σ' ds' h' q t' ht'=>?_
 ·cases i with
  | none=>exact hl
  | some s=>exact ⟨fun _ _ _ x=>x.elim,fun _ _ _ _ x=>x.elim,fun _ _ _ _ _ _ x=>x.elim⟩
 ·obtain ⟨rfl,q⟩:=q;exact hc e σ' ds' h' q t' ht'
theorem trI_end {c:Code} {Q:Post} (x:Tr (F.env none) c σ ds h Q):Kb F c none σ ds h fun i e σ ds h=>i=none∧Q e σ ds h:=
 Hx (Mh (fun _ _ _ _ q=>⟨rfl,q⟩) x)
variable {dst:Option Nat} {ty:TypeId} {pos:String} {af:Array Edge} {gd:Option (Nat×Bool)}
theorem Yt {a x:Operand} {c:Nat} {v:Value} (ha:AT σ a=.chan (some c)) (hx:AT σ x=v) (w:World):(execOp (AT σ) ⟨dst,.send a x,ty,pos,af,gd⟩).runT P w #[]=(.ok (.comm #[scase c v (.tuple #[])] true .send) w,#[]):=by
 subst hx;show (Result.ok (Next.comm #[{ chan:=AT σ a,send:=some (AT σ x),zero:=.tuple #[] }] true .send) w,#[])=_;rw [ha];rfl
theorem Yu {a:Operand} {c:Nat} {t e:TypeId} {d:ChanDir} {ok:Bool} {z:Value} {inf:TypeInfo} (ht:P.underlying t=some (.chan d e)) (hi:P.info? e=some inf) (hz:inf.zero=some z) (ha:AT σ a=.chan (some c)) (w:World) :
  (execOp (AT σ) ⟨dst,.recv t a ok,ty,pos,af,gd⟩).runT P w #[]=(.ok (.comm #[rcase c z] true (.recv ok)) w,#[]):=by
 have h1:(zeroValue e).run P w=.ok z w:=by
  unfold zeroValue typeInfo;simp only [Sem.run_bind,program,hi];simp [Sem.run,hi,hz]
 have h2:(underlying t).run P w=.ok (.chan d e) w:=run_underlying ht w;rw [Sem.runT_eq];unfold execOp;simp [h1,h2,ha,rcase]
theorem Pf {a:Operand} {c:Nat} {t e:TypeId} {d:ChanDir} {ok:Bool} {z:Value} (ht:P.underlying t=some (.chan d e)) (hz:(P.info? e).map (·.zero)=some (some z)) (ha:AT σ a=.chan (some c)) (w:World) :
  (execOp (AT σ) ⟨dst,.recv t a ok,ty,pos,af,gd⟩).runT P w #[]=(.ok (.comm #[rcase c z] true (.recv ok)) w,#[]):=by
 obtain ⟨inf,hi,h2⟩:=Option.map_eq_some_iff.1 hz;exact Yu ht hi h2 ha w
theorem run_go {x:Operand} {f:Fn} {cap:Array Value} {tys:Array TypeId} (hx:AT σ x=.func f #[] cap) (w:World):(execOp (AT σ) ⟨dst,.go ⟨.value x,#[],tys⟩,ty,pos,af,gd⟩).runT P w #[]=(.ok (.spawn { target:=.fn f cap,args:=#[] }) w,#[]):=by
 have e:resolve (AT σ) ⟨.value x,#[],tys⟩ ty=(pure { target:=.fn f cap,args:=#[] }:Sem Deferred):=by
  unfold resolve;simp only [hx,Deferred.ofValue];simp
 unfold execOp;simp only [e];rfl
variable {E:Gf P} {T:(Nat→Value)→List Deferred→GH→Prop}
theorem SC {t e:TypeId} {d:ChanDir} {n:Operand} (ht:P.underlying t=some (.chan d e)) (hi0:(P.info? e).isSome=true) (hn:AT σ n=.int .i64 0)
  (k:∀r h',h r=none→h.Le h'→h' r=some (true,.chan 0 #[] false 0 0 false)→(∀b,b≠r→h' b=h b)→T (putS σ dst (.chan (some r))) ds h'):Be E ⟨dst,.makeChan t n,ty,pos,af,gd⟩ σ ds h T:=by
 unfold Be execOp;refine Fe ?_;unfold Instr.makeChan;rw [hn];refine AG _ _ (A1 ?_);refine AG _ _ (Ao ht ?_);simp only [];obtain ⟨inf,hi⟩:=Option.isSome_iff_exists.1 hi0;refine AG _ _ (Cr hi ?_);rw [if_neg (by simp [IntKind.max];decide)];refine AG _ _ ?_;exact fun r hr=>k r _ hr (GH.Le.new hr _ _) (GH.set_same _ _ _ _) fun b hb=>GH.set_ne _ _ _ hb
theorem trL_def {ops:Array Oper} {l:List Oper} {o:Oper} {Q:Post} (hg:o.guard=none) (hrd:E.rd=none) (hd:EW o.dst E.N=true) (x:Be E o σ ds h fun σ' ds' h'=>EF E ops l σ' ds' h' Q):EF E ops (o ::l) σ ds h Q:=
 YC hg (.inl hrd) hd x
theorem O5 {x:Operand} {c:Nat} {tys:Array TypeId} {bs:Array Bool} (hx:AT σ x=.chan (some c)) (hb:(#[x].map fun | .const _=>true | _=>false)=bs) (k:T (putS σ dst undef) (KH tys ty bs c ::ds) h) :
  Be E ⟨dst,.defer ⟨.builtin .close,#[x],tys⟩,ty,pos,af,gd⟩ σ ds h T:=by
 unfold Be execOp;simp only [];refine AG _ _ ?_;unfold resolve;simp only [];refine A1 (A1 ?_);have e:(#[x].map (AT σ):Array Value)=#[.chan (some c)]:=by simp [hx]
 rw [e];subst hb;exact k
end
section
variable {d m:Int} {gs:List Good} {ms:List AB} {cs:List AC} {k c:Nat}
theorem Ty (hk:k<2 ^ cs.length) (h:CG d gs ms (Ck cs (k:Int) cs.length) m=true) :
  some (Hy c (Cz d m gs ms cs k (2 ^ cs.length-k)))=some (Hy c (Cz d m gs ms cs (k+1) (2 ^ cs.length-(k+1)))):=by
 rw [show 2 ^ cs.length-k=(2 ^ cs.length-(k+1))+1 by omega,Nq h]
theorem Tz (hk:k<2 ^ cs.length) (h:CG d gs ms (Ck cs (k:Int) cs.length) m=false) :
  some (Hy c (Cz d m gs ms cs k (2 ^ cs.length-k)))=some (.send c (A4 (k:Int) cs.length) (Hy c (Cz d m gs ms cs (k+1) (2 ^ cs.length-(k+1))))):=by
 rw [show 2 ^ cs.length-k=(2 ^ cs.length-(k+1))+1 by omega,Nr h];rfl
theorem Wd (hk:2 ^ cs.length≤k):some (Hy c (Cz d m gs ms cs k (2 ^ cs.length-k)))=some (.close c .done):=by
 rw [show 2 ^ cs.length-k=0 by omega];rfl
theorem SD (h:(k:Int)<(2:Int) ^ ((cs.length:Int)).toNat):k<2 ^ cs.length:=by
 have:=Qn cs.length
 rw [Int.toNat_natCast] at h;omega
theorem Yv (h:¬(k:Int)<(2:Int) ^ ((cs.length:Int)).toNat):2 ^ cs.length≤k:=by
 have:=Qn cs.length
 rw [Int.toNat_natCast] at h;omega
end
end Go.Ns
namespace Go.Ns
def Qs (ms:List AB) (p:AU) (g:Int) (k:Nat):Int:=if (ms.getD k AB.z).good=g then signed (ms.getD k AB.z).kind.toNat (Br p k) else 0
def Ex (ms:List AB) (p:AU) (g:Int) (k:Nat):Int×Int:=((ms.getD k AB.z).day,Qs ms p g k)
def K9 (ms:List AB) (p:AU) (g:Int):List (Int×Int):=(List.range ms.length).map (Ex ms p g)
def runA (n low:Int):List (Int×Int)→Int×Int
 | []=>(n,low)
 | [x]=>(n+x.2,min (n+x.2) low)
 | x ::y ::t=>runA (n+x.2) (if x.1<y.1 then min (n+x.2) low else low) (y ::t)
def runB (c n low:Int):List (Int×Int)→Int×Int
 | []=>(n,min n low)
 | x ::t=>if c<x.1 then runB x.1 (n+x.2) (min n low) t else runB c (n+x.2) low t
def GP:Int→List (Int×Int)→Prop
 | _,[]=>True
 | c,x ::t=>c≤x.1∧GP x.1 t
theorem Yw:∀(t:List (Int×Int)) (x:Int×Int) (n low:Int),GP x.1 t→runA n low (x ::t)=runB x.1 (n+x.2) low t
 | [],x,n,low,_=>rfl
 | y ::t,x,n,low,h=>by
  show runA (n+x.2) _ (y ::t)=if x.1<y.1 then _ else _
  rw [Yw t y _ _ h.2];by_cases e:x.1<y.1
  ·rw [if_pos e,if_pos e]
  ·rw [if_neg e,if_neg e,show x.1=y.1 from by have:=h.1;omega]
theorem runA_B0 {n:Int}:∀{t:List (Int×Int)},(∀x ∈ t,1≤x.1)→GP 0 t→runA n n t=runB 0 n n t
 | [],_,_=>by simp [runA,runB,Int.min_self]
 | x ::t,h1,h=>by
  rw [Yw t x n n h.2];show _=if 0<x.1 then _ else _
  rw [if_pos (by have:=h1 x (by simp);omega),Int.min_self]
theorem GP.weak {c c':Int} (hc:c'≤c):∀{t:List (Int×Int)},GP c t→GP c' t
 | [],_=>trivial
 | _ ::_,h=>⟨by have:=h.1;omega,h.2⟩
theorem We {c d n low:Int} (hcd:c<d):∀{t:List (Int×Int)},GP d t→runB d n (min n low) t=runB c n low t
 | [],_=>by simp only [runB];congr 1;omega
 | y ::t,h=>by
  have h1:=h.1;show (if d<y.1 then _ else _)=if c<y.1 then _ else _
  rw [if_pos (show c<y.1 by omega)];by_cases e:d<y.1
  ·rw [if_pos e,show min n (min n low)=min n low by omega]
  ·rw [if_neg e,show d=y.1 by omega]
theorem HW {ι:Type} {f:ι→Int×Int} {q:ι→Bool}:∀{l:List ι} {c n low:Int},(∀i ∈ l,q i=false→(f i).2=0)→GP c (l.map f)→runB c n low (l.map f)=runB c n low ((l.filter q).map f)
 | [],_,_,_,_,_=>rfl
 | i ::l,c,n,low,hz,hr=>by
  have hz':∀j ∈ l,q j=false→(f j).2=0:=fun j hj=>hz j (by simp [hj]);cases hq:q i with
  | true=>
   rw [List.filter_cons_of_pos hq];show (if c<(f i).1 then _ else _)=if c<(f i).1 then _ else _
   split
   ·exact HW hz' hr.2
   ·exact HW hz' (GP.weak hr.1 hr.2)
  | false=>
   rw [List.filter_cons_of_neg (by simp [hq])];have h0:=hz i (by simp) hq;show (if c<(f i).1 then runB (f i).1 (n+(f i).2) _ _ else _)=_;rw [h0,Int.add_zero];have hr2:GP (f i).1 (l.map f):=hr.2;rw [←HW hz' (GP.weak hr.1 hr2)];split
   ·rename_i e;exact We e hr2
   ·rfl
theorem Nu {ms:List AB} {p:AU} {g dy:Int} (hd:∀k,k<ms.length→(ms.getD k AB.z).day≤dy):∀(f k:Nat) (n low:Int),k+f=ms.length→CI ms p g dy f k n low=runA n low ((List.range' k f).map (Ex ms p g))
 | 0,_,_,_,_=>rfl
 | f+1,k,n,low,e=>by
  have h1:¬dy<(ms.getD k AB.z).day:=by have:=hd k (by omega);omega
  unfold CI;rw [if_neg h1,Nu hd f (k+1) _ _ (by omega),List.range'_succ,List.map_cons];have hn:FI ms p g k n=n+(Ex ms p g k).2:=by unfold FI Ex Qs;simp only [];split <;> omega
  cases f with
  | zero=>
   show (_,_)=(_,_);rw [hn];congr 1;unfold EU;rw [if_pos (.inl (by omega)),Int.min_comm]
  | succ f=>
   rw [List.range'_succ,List.map_cons,hn];have hne:¬((k:Int)+1=ms.length):=by omega
   have hlow:EU ms k low (n+(Ex ms p g k).2)=if (Ex ms p g k).1<(Ex ms p g (k+1)).1 then min (n+(Ex ms p g k).2) low else low:=by
    show (if (k:Int)+1=ms.length∨(ms.getD k AB.z).day<(ms.getD (k+1) AB.z).day then _ else _)=if (ms.getD k AB.z).day<(ms.getD (k+1) AB.z).day then _ else _
    by_cases e2:(ms.getD k AB.z).day<(ms.getD (k+1) AB.z).day
    ·rw [if_pos (.inr e2),if_pos e2,Int.min_comm]
    ·rw [if_neg (by simp only [e2,or_false];exact hne),if_neg e2]
   rw [hlow];rfl
theorem Wf {ms:List AB} {p:AU} {g dy:Int} (hd:∀k,k<ms.length→(ms.getD k AB.z).day≤dy):AJ ms p g dy=runA (p.first g.toNat) (p.first g.toNat) (K9 ms p g):=by
 unfold AJ K9;rw [Nu hd ms.length 0 _ _ (by omega),List.range_eq_range']
theorem Nv:∀(t:List (Int×Int)) (c n low:Int),(runB c n low t).2≤low∧(runB c n low t).2≤(runB c n low t).1
 | [],_,n,low=>by simp only [runB];omega
 | x ::t,c,n,low=>by
  show (if c<x.1 then _ else _:Int×Int).2≤low∧(if c<x.1 then _ else _:Int×Int).2≤(if c<x.1 then _ else _:Int×Int).1;split
  ·have:=Nv t x.1 (n+x.2) (min n low);omega
  ·exact Nv t c (n+x.2) low
theorem D9 {d m:Int} {gs:List Good} {ms:List AB} {cs:List AC} (b:A2 d m gs ms cs):AX d m gs ms cs=0:=by
 unfold AX;refine Eb fun j _ hj=>?_
 have:j=0∨j=1∨j=2∨j=3:=by omega
 rcases this with rfl | rfl | rfl | rfl
 ·show EH d m=0;unfold EH;have:=b.days;have:=b.most;rw [if_neg (by omega)]
 ·show BT gs=0;unfold BT;have:=b.glen;rw [if_neg (by omega)];exact Eb fun j _ hj=>b.good j (by omega)
 ·show BM d gs ms=0;unfold BM;have:=b.mlen;rw [if_neg (by omega)];exact Eb fun j _ hj=>b.move j (by omega)
 ·show CC d gs cs=0;unfold CC;have:=b.clen;rw [if_neg (by omega)];exact Eb fun j _ hj=>b.count j (by omega)
def I6 (ms:List AB):Prop:=ms.Pairwise fun a b=>a.day≤b.day
section
variable {d m:Int} {gs:List Good} {ms:List AB} {cs:List AC}
theorem A2.up (b:A2 d m gs ms cs):I6 ms:=by
 have adj:∀k,k+1<ms.length→(ms.getD k AB.z).day≤(ms.getD (k+1) AB.z).day:=fun k hk=>by
  have:=(b.move' hk).2.2.2.1
  unfold Dl at this;rw [if_neg (by omega)] at this;simpa using this
 have all:∀f k,k+f<ms.length→(ms.getD k AB.z).day≤(ms.getD (k+f) AB.z).day:=by
  intro f
  induction f with
  | zero=>intro k _;exact Int.le_refl _
  | succ f ih=>intro k hk;exact Int.le_trans (ih k (by omega)) (adj (k+f) (by omega))
 unfold I6;rw [List.pairwise_iff_getElem];intro i j hi hj hij
 have:=all (j-i) i (by omega)
 rw [show i+(j-i)=j by omega,C1 AB.z hi,C1 AB.z hj] at this;exact this
theorem Pg {ι:Type} {f:ι→Int×Int}:∀{l:List ι} {c:Int},l.Pairwise (fun i j=>(f i).1≤(f j).1)→(∀i ∈ l,c≤(f i).1)→GP c (l.map f)
 | [],_,_,_=>trivial
 | i ::l,c,h,h1=>⟨h1 i (by simp),Pg (List.pairwise_cons.1 h).2 fun j hj=>(List.pairwise_cons.1 h).1 j hj⟩
theorem A2.pairsUp (b:A2 d m gs ms cs) (p:AU) (g:Int) {l:List Nat} (s:l.Sublist (List.range ms.length)):GP 0 (l.map (Ex ms p g)):=by
 refine Pg ?_ fun i hi=>?_
 ·have h1:(List.range ms.length).Pairwise (fun i j=>(Ex ms p g i).1≤(Ex ms p g j).1):=by
   rw [List.pairwise_iff_getElem];intro i j hi hj hij;simp only [List.getElem_range]
   have:=b.up
   unfold I6 at this;rw [List.pairwise_iff_getElem] at this;simp only [List.length_range] at hi hj
   have:=this i j hi hj hij
   rwa [←C1 AB.z,←C1 AB.z] at this
  exact h1.sublist s
 ·have:=List.mem_range.1 (s.subset hi)
  have:=(b.move' this).2.2.1
  show 0≤(ms.getD i AB.z).day;omega
theorem A2.stock (b:A2 d m gs ms cs) (p:AU) (g:Int):AJ ms p g d=runB 0 (p.first g.toNat) (p.first g.toNat) (K9 ms p g):=by
 rw [Wf fun k hk=>(b.move' hk).2.2.1.2];refine runA_B0 (fun x hx=>?_) (b.pairsUp p g (List.Sublist.refl _));obtain ⟨i,hi,rfl⟩:=List.mem_map.1 hx;exact (b.move' (List.mem_range.1 hi)).2.2.1.1
end
def LA (picks:List Int) (k:Nat):Int:=if (k:Int)<picks.length then picks.getD k 0 else 0
def SE (lo hi n:Int):Int:=lo+n%(hi-lo+1)
theorem HX {lo hi n:Int} (h:lo≤hi):lo≤SE lo hi n∧SE lo hi n≤hi:=by
 unfold SE;have h0:=Int.emod_nonneg n (show hi-lo+1≠0 by omega);have h1:=Int.emod_lt_of_pos n (show 0<hi-lo+1 by omega);omega
def Ga (gs:List Good) (picks:List Int) (i:Nat):Int:=SE (gs.getD i Good.z).low (gs.getD i Good.z).high (LA picks i)
def GL (gs:List Good) (ms:List AB) (picks:List Int) (i:Nat):Int:=SE (ms.getD i AB.z).low (ms.getD i AB.z).high (LA picks (gs.length+i))
def Bn (gs:List Good) (picks:List Int):List Int:=(List.range gs.length).map (Ga gs picks)
def B8 (gs:List Good) (ms:List AB) (picks:List Int):List Int:=(List.range ms.length).map (GL gs ms picks)
def lieC' (ms:List AB) (m bits:Int) (k:Nat) (l:List Int):Prop:=(ms.getD k AB.z).kind=0∧bits.fdiv (2 ^ k)%2=1∧(l.length:Int)<m
instance (ms:List AB) (m bits:Int) (k:Nat) (l:List Int):Decidable (lieC' ms m bits k l):=inferInstanceAs (Decidable (_∧_))
def Ar (ms:List AB) (m bits:Int):Nat→List Int
 | 0=>[]
 | k+1=>if lieC' ms m bits k (Ar ms m bits k) then Ar ms m bits k++[(k:Int)] else Ar ms m bits k
theorem MJ {l:List Int} {n:Int} (h:(l.length:Int)=n) (h2:∀x ∈ l,0≤x∧x≤99):A3 l n=0:=by
 unfold A3;rw [if_neg (by simpa using h),if_neg];rw [List.any_eq_true];rintro ⟨x,hx,e⟩;exact (of_decide_eq_true e) (h2 x hx)
theorem EP {ms:List AB} {m bits:Int}:∀k,k≤ms.length→(∀x ∈ Ar ms m bits k,0≤x∧x<(k:Int)∧Ch ms x=true)∧(Ar ms m bits k).Pairwise (· < ·)
 | 0,_=>⟨fun x hx=>by simp [Ar] at hx,List.Pairwise.nil⟩
 | k+1,hk=>by
  obtain ⟨h1,h2⟩:=EP (ms:=ms) (m:=m) (bits:=bits) k (by omega);unfold Ar;split
  ·rename_i hc
   refine ⟨fun x hx=>?_,?_⟩
   ·rcases List.mem_append.1 hx with hx | hx
    ·have:=h1 x hx;exact ⟨this.1,by omega,this.2.2⟩
    ·simp at hx;subst hx;refine ⟨by omega,by omega,?_⟩;unfold Ch;refine decide_eq_true ⟨⟨by omega,by omega⟩,?_⟩;rw [Int.toNat_natCast];exact hc.1
   ·rw [List.pairwise_append];refine ⟨h2,List.pairwise_singleton ..,fun a ha b hb=>?_⟩;simp at hb;subst hb;exact (h1 a ha).2.1
  ·exact ⟨fun x hx=>by have:=h1 x hx;exact ⟨this.1,by omega,this.2.2⟩,h2⟩
theorem Yx {ms:List AB} {l:List Int} (h1:∀x ∈ l,Ch ms x=true∧0≤x) (h2:l.Pairwise (· < ·)):De (Ik ms l) 0 l.length=0:=by
 refine Eb fun j _ hj=>?_;have hj:j<l.length:=by omega
 unfold Ik;rw [if_neg (by rw [(h1 _ (Cx hj)).1];simp),if_neg];unfold GW;split
 ·have:=(h1 _ (Cx (d:=(0:Int)) hj)).2;omega
 ·rw [List.pairwise_iff_getElem] at h2
  have:=h2 (j-1) j (by omega) hj (by omega)
  rw [C1 0 hj,C1 0 (show j-1<l.length by omega)];omega
section
variable {d m:Int} {gs:List Good} {ms:List AB} {cs:List AC} {picks:List Int} {bits:Int}
theorem Wg (b:A2 d m gs ms cs) {f y l:List Int} (hf:A3 f gs.length=0) (hy:A3 y ms.length=0) (hl:De (Ik ms l) 0 l.length=0):Aw d m gs ms cs f y l=0:=
 GX (by simpa using D9 b) (by simpa using hf) (by simpa using hy) hl
theorem Nw (b:A2 d m gs ms cs) (picks:List Int):A3 (Bn gs picks) gs.length=0:=MJ (by simp [Bn]) fun x hx=>by
 obtain ⟨i,hi,rfl⟩:=List.mem_map.1 hx
 have:=b.gfew i
 have:=HX (n:=LA picks i) this.2.1
 unfold Ga;omega
theorem Qt (b:A2 d m gs ms cs) (picks:List Int) (i:Nat):0≤GL gs ms picks i∧GL gs ms picks i≤99:=by
 have:=b.few i
 have:=HX (n:=LA picks (gs.length+i)) this.2.1
 unfold GL;omega
theorem Vx (b:A2 d m gs ms cs) (picks:List Int):A3 (B8 gs ms picks) ms.length=0:=MJ (by simp [B8]) fun x hx=>by
 obtain ⟨i,hi,rfl⟩:=List.mem_map.1 hx;exact Qt b picks i
theorem Qu (b:A2 d m gs ms cs) (picks:List Int) (bits:Int):Aw d m gs ms cs (Bn gs picks) (B8 gs ms picks) (Ar ms m bits ms.length)=0:=by
 obtain ⟨h1,h2⟩:=EP (ms:=ms) (m:=m) (bits:=bits) ms.length (Nat.le_refl _);exact Wg b (Nw b picks) (Vx b picks) (Yx (fun x hx=>⟨(h1 x hx).2.2,(h1 x hx).1⟩) h2)
theorem MK (p:AU) (l:List Int) (i:Nat) (h0:∀x ∈ l,0≤x):(Df p l l.length).lies i=(decide ((i:Int) ∈ l) || p.lies i):=by
 unfold Df;rw [List.take_length]
 induction l generalizing p with
 | nil=>simp
 | cons x l ih=>
  rw [List.foldl_cons,ih _ fun y hy=>h0 y (by simp [hy])];have hx:=h0 x (by simp);show (decide ((i:Int) ∈ l) || if i=x.toNat then true else p.lies i)=_;by_cases e:i=x.toNat
  ·rw [if_pos e]
   have:(i:Int)=x:=by omega
   simp [this]
  ·rw [if_neg e]
   have:¬(i:Int)=x:=by omega
   simp [this]
theorem IV (p:AU) (l:List Int) (k:Nat):(Df p l k).first=p.first∧(Df p l k).many=p.many:=by
 unfold Df;generalize l.take k=t
 induction t generalizing p with
 | nil=>exact ⟨rfl,rfl⟩
 | cons x t ih=>exact ih (p.setLie x.toNat true)
theorem Qv {f y l:List Int} (h:Aw d m gs ms cs f y l=0) {i:Nat} (hi:i<f.length):(A8 d m gs ms cs f y l).first i=f.getD i 0:=by
 unfold A8 FB;rw [if_pos h,(IV _ _ _).1];show (if i<f.length then f.getD i 0 else 0)=_;rw [if_pos hi]
theorem SF {f y l:List Int} (h:Aw d m gs ms cs f y l=0) {i:Nat} (hi:i<y.length):(A8 d m gs ms cs f y l).many i=y.getD i 0:=by
 unfold A8 FB;rw [if_pos h,(IV _ _ _).2];show (if i<y.length then y.getD i 0 else 0)=_;rw [if_pos hi]
theorem SG {f y l:List Int} (h:Aw d m gs ms cs f y l=0) (h0:∀x ∈ l,0≤x) (i:Nat):(A8 d m gs ms cs f y l).lies i=decide ((i:Int) ∈ l):=by
 unfold A8 FB;rw [if_pos h,MK _ _ _ h0];show (decide ((i:Int) ∈ l) || false)=_;simp
end
end Go.Ns
namespace Go.Ns
open Go.Conc
section
variable {P:Program} {E:Gf P} {σ:Nat→Value} {ds:List Deferred} {h:GH} {T:(Nat→Value)→List Deferred→GH→Prop} {dst:Option Nat} {ty:TypeId} {pos:String} {af:Array Edge} {gd:Option (Nat×Bool)}
theorem T0 {s:ByteArray} {i:Nat} (h:i<s.size):((s[i]'h).toNat:Int)=(bytesOf s).getD i 0:=by
 have h2:i<(bytesOf s).length:=by rw [Cf];exact h
 rw [C1 0 h2];exact (List.getElem_map (l:=s.data.toList) (f:=fun b=>(b.toNat:Int)) (h:=h2)).symm
theorem Nx {t:TypeId} {x ix:Operand} {s:ByteArray} {kd:IntKind} {i:Int} (ht:M5 P t=true) (hx:AT σ x=.string s) (hi:AT σ ix=.int kd i) (h0:0≤i) (h1:i<s.size) (k:T (putS σ dst (.int .u8 ((bytesOf s).getD i.toNat 0))) ds h) :
  Be E ⟨dst,.index t x ix,ty,pos,af,gd⟩ σ ds h T:=PM ht hx hi h0 h1 (by rw [T0];exact k)
end
theorem SH {s:ByteArray} (h:¬(1≤(s.size:Int)∧(s.size:Int)≤10)):Dr s=false:=by unfold Dr;rw [decide_eq_false h,Bool.and_false]
def Dm (d:Int) (gs:List Good) (c:AC):Int:=if¬(0≤c.good∧c.good≤(gs.length:Int)-1) then 6 else if¬(0≤c.day∧c.day≤d)∨¬((0≤c.low∧c.low≤c.high)∧c.high≤999) then 1 else 0
section
variable {d m:Int} {gs:List Good} {ms:List AB} {cs:List AC}
theorem HY:AX d m gs ms cs=if EH d m=0 then (if BT gs=0 then (if BM d gs ms=0 then (if CC d gs cs=0 then 0 else CC d gs cs) else BM d gs ms) else BT gs) else EH d m:=rfl
theorem bb1 (h:¬(1≤d∧d≤99)∨¬(0≤m∧m≤2)):AX d m gs ms cs=1:=by
 have e:EH d m=1:=if_pos h;rw [HY,e,if_neg (by decide)]
theorem Yy (h:(1≤d∧d≤99)∧(0≤m∧m≤2)):EH d m=0:=if_neg (by omega)
theorem bb2 (h0:(1≤d∧d≤99)∧(0≤m∧m≤2)) (h:¬BT gs=0):AX d m gs ms cs=BT gs:=by rw [HY,if_pos (Yy h0),if_neg h]
theorem bb3 (h0:(1≤d∧d≤99)∧(0≤m∧m≤2)) (h:¬¬BT gs=0) (h2:¬BM d gs ms=0):AX d m gs ms cs=BM d gs ms:=by rw [HY,if_pos (Yy h0),if_pos (Decidable.not_not.1 h),if_neg h2]
theorem bb4 (h0:(1≤d∧d≤99)∧(0≤m∧m≤2)) (h:¬¬BT gs=0) (h2:¬¬BM d gs ms=0) {c:Int} (h3:CC d gs cs=c):AX d m gs ms cs=c:=by
 rw [HY,if_pos (Yy h0),if_pos (Decidable.not_not.1 h),if_pos (Decidable.not_not.1 h2),h3];by_cases e:c=0
 ·rw [if_pos e,e]
 ·rw [if_neg e]
theorem T1 (h:(4:Int)<cs.length):CC d gs cs=2:=if_pos h
theorem T3 {k:Nat} (h:¬(4:Int)<cs.length) (hs:∀j,j<k→Du d gs cs j=0) (hk:k<cs.length) (e:¬Dm d gs (cs.getD k AC.z)=0):CC d gs cs=Dm d gs (cs.getD k AC.z):=by
 unfold CC;rw [if_neg h];exact BS hs hk rfl e
theorem T4 {k:Nat} (h:¬(4:Int)<cs.length) (hs:∀j,j<k→Du d gs cs j=0) (hk:cs.length≤k):CC d gs cs=0:=by
 unfold CC;rw [if_neg h];exact CP hs hk
theorem Ny {k:Nat} (h:0<k):Dl ms k=(ms.getD ((k:Int)-1).toNat AB.z).day:=by
 unfold Dl;rw [if_neg (by omega),show ((k:Int)-1).toNat=k-1 by omega]
theorem mv1 {k:Nat} (h:(ms.getD k AB.z).kind<0∨4<(ms.getD k AB.z).kind):DR d gs ms k=1:=by unfold DR;rw [if_pos (by omega)]
theorem mv2 {k:Nat} (h0:¬((ms.getD k AB.z).kind<0∨4<(ms.getD k AB.z).kind)) (h:¬(0≤(ms.getD k AB.z).good∧(ms.getD k AB.z).good≤(gs.length:Int)-1)):DR d gs ms k=6:=by unfold DR;rw [if_neg (by omega),if_pos h]
theorem mv3 {k:Nat} (h0:¬((ms.getD k AB.z).kind<0∨4<(ms.getD k AB.z).kind)) (h1:¬¬(0≤(ms.getD k AB.z).good∧(ms.getD k AB.z).good≤(gs.length:Int)-1)) (h:¬(1≤(ms.getD k AB.z).day∧(ms.getD k AB.z).day≤d)):DR d gs ms k=1:=by
 unfold DR;rw [if_neg (by omega),if_neg h1,if_pos h]
theorem mv4 {k:Nat} (h0:¬((ms.getD k AB.z).kind<0∨4<(ms.getD k AB.z).kind)) (h1:¬¬(0≤(ms.getD k AB.z).good∧(ms.getD k AB.z).good≤(gs.length:Int)-1)) (h2:¬¬(1≤(ms.getD k AB.z).day∧(ms.getD k AB.z).day≤d)) (hk:(0:Int)<(k:Int))
  (h:(ms.getD k AB.z).day<(ms.getD ((k:Int)-1).toNat AB.z).day):DR d gs ms k=7:=by
 unfold DR;rw [if_neg (by omega),if_neg h1,if_neg h2,Ny (by omega),if_pos h]
theorem mv5 {k:Nat} (h0:¬((ms.getD k AB.z).kind<0∨4<(ms.getD k AB.z).kind)) (h1:¬¬(0≤(ms.getD k AB.z).good∧(ms.getD k AB.z).good≤(gs.length:Int)-1)) (h2:¬¬(1≤(ms.getD k AB.z).day∧(ms.getD k AB.z).day≤d)) {c:Int}
  (h3:(0:Int)<(k:Int)→¬(ms.getD k AB.z).day<(ms.getD ((k:Int)-1).toNat AB.z).day) (h4:(if¬Ev (ms.getD k AB.z).low (ms.getD k AB.z).high then (1:Int) else 0)=c):DR d gs ms k=c:=by
 have e:¬(ms.getD k AB.z).day<Dl ms k:=by
  by_cases hk:0<k
  ·rw [Ny hk];exact h3 (by omega)
  ·have:=Decidable.not_not.1 h2
   unfold Dl;rw [if_pos (by omega)];omega
 unfold DR;rw [if_neg (by omega),if_neg h1,if_neg h2,if_neg e,h4]
theorem gd4 {k:Nat} (h:Dr (gs.getD k Good.z).name=false):FA gs k=4:=by unfold FA;rw [if_pos h]
theorem gd5 {k j:Nat} (h0:Dr (gs.getD k Good.z).name=true) (hj:(j:Int)<(k:Int)) (hk:(k:Int)<gs.length) (h:((gs.getD j Good.z).name.toList==(gs.getD k Good.z).name.toList)=true):FA gs k=5:=by
 unfold FA;rw [if_neg (by rw [h0];decide),if_pos];rw [List.any_eq_true];refine ⟨gs.getD j Good.z,?_,h⟩;rw [C1 Good.z (show j<gs.length by omega)];exact List.mem_take_iff_getElem.2 ⟨j,by omega,rfl⟩
theorem gd1 {k j:Nat} (h0:Dr (gs.getD k Good.z).name=true) (hj:j≤k) (hj':¬(j:Int)<(k:Int)) (h:(gs.take j).any (fun x=>x.name.toList==(gs.getD k Good.z).name.toList)=false) {c:Int}
  (hc:(if (¬(0≤(gs.getD k Good.z).cost∧(gs.getD k Good.z).cost≤999)∨¬(1≤(gs.getD k Good.z).pack∧(gs.getD k Good.z).pack≤20))∨¬Ev (gs.getD k Good.z).low (gs.getD k Good.z).high then (1:Int) else 0)=c):FA gs k=c:=by
 obtain rfl:j=k:=by omega
 unfold FA;rw [if_neg (by rw [h0];decide),if_neg (by rw [h];decide),hc]
def ER (gs:List Good) (ms:List AB) (cs:List AC):Bool:=decide ((20:Int)<gs.length) || decide ((20:Int)<ms.length) || decide ((20:Int)<cs.length) || gs.any fun x=>decide ((100:Int)<x.name.size)
theorem Wh (h:((20:Int)<gs.length∨(20:Int)<ms.length)∨(20:Int)<cs.length):ER gs ms cs=true:=by
 unfold ER;rcases h with (h | h) | h <;> simp [h]
theorem Wi {k:Nat} (hk:k<gs.length) (h:(100:Int)<(gs.getD k Good.z).name.size):ER gs ms cs=true:=by
 unfold ER;rw [Bool.or_eq_true];right;rw [List.any_eq_true];exact ⟨_,Cx hk,decide_eq_true h⟩
theorem Wj {k:Nat} (h:¬(20:Int)<gs.length) (h2:¬(20:Int)<ms.length) (h3:¬(20:Int)<cs.length) (hk:gs.length≤k) (hs:∀j,j<k→¬(100:Int)<(gs.getD j Good.z).name.size):ER gs ms cs=false:=by
 unfold ER;rw [decide_eq_false h,decide_eq_false h2,decide_eq_false h3];simp only [Bool.false_or];rw [List.any_eq_false];intro x hx;obtain ⟨i,hi,rfl⟩:=List.getElem_of_mem hx
 have:=hs i (by omega)
 rw [C1 Good.z hi] at this;simpa using this
theorem SI (h:ER gs ms cs=false):∀k,(gs.getD k Good.z).name.size≤1000:=by
 unfold ER at h;rw [Bool.or_eq_false_iff] at h;intro k;by_cases hk:k<gs.length
 ·have:=List.any_eq_false.1 h.2 _ (Cx (d:=Good.z) hk)
  have:=of_decide_eq_false (Bool.eq_false_iff.2 this)
  omega
 ·rw [Dz (by omega)];decide
theorem LB (h:(!ER gs ms cs)=true):∀k,(gs.getD k Good.z).name.size≤1000:=SI (by simpa using h)
def Nz (d m:Int) (gs:List Good) (ms:List AB) (cs:List AC):Bool:= !ER gs ms cs && decide (AX d m gs ms cs=0)
end
theorem B2.cons {h:GH} {l:List Sl} {v:Value} {xs:List Int} (a:AK h v 1 eI xs) (b:B2 h l):B2 h ((v,xs) ::l):=fun k=>by
 cases k with
 | zero=>exact a
 | succ k=>exact b k
theorem T5 {a b:List Sl} {k:Nat} (h:(B7 a).take k=(B7 b).take k) (ha:k<a.length) (hb:k<b.length) (e:(a.getD k Sl.z).2=(b.getD k Sl.z).2):(B7 a).take (k+1)=(B7 b).take (k+1):=
 NK [] h (by rw [C3];exact ha) (by rw [C3];exact hb) (by rw [FD ha,FD hb,e])
theorem Wl {a b:List Sl} {k:Nat} (h:(B7 a).take k=(B7 b).take k) (hk:¬(k:Int)<a.length) (hl:(a.length:Int)=b.length):B7 a=B7 b:=by
 rw [List.take_of_length_le (by rw [C3];omega),List.take_of_length_le (by rw [C3];omega)] at h;exact h
theorem Yz {a b:List Sl} (h:¬(a.length:Int)=b.length):¬B7 a=B7 b:=fun e=>h (by rw [←C3,←C3,e])
theorem T6 {a b:List Sl} {k:Nat} (ha:k<a.length) (hb:k<b.length) (e:¬(a.getD k Sl.z).2=(b.getD k Sl.z).2):¬B7 a=B7 b:=fun q=>e (by rw [←FD ha,←FD hb,q])
end Go.Ns
namespace Go.Ns
open Go.Conc
def DH:List Good:=[⟨⟨#[116,101,97]⟩,5,4,3,3⟩,⟨⟨#[114,105,99,101]⟩,2,10,5,6⟩]
def DU:List AB:=[⟨0,0,2,4,4⟩,⟨1,0,3,2,3⟩,⟨2,1,4,0,1⟩,⟨0,1,5,10,10⟩]
def DV:List AC:=[⟨0,10,4,5⟩,⟨1,10,5,5⟩]
theorem D3:∀k,(DH.getD k Good.z).name.size≤1000
 | 0=>by decide
 | 1=>by decide
 | k+2=>by rw [Dz (by simp [DH])];decide
theorem Y1 {v0 v1 v2 v3 v4 v5 v6:Value} (h0:v0.cells=#[v0]) (h1:v1.cells=#[v1]) (h2:v2.cells=#[v2]) (h3:v3.cells=#[v3]) (h4:v4.cells=#[v4]) (h5:v5.cells=#[v5]) (h6:v6.cells=#[v6]):Instr.fill (fun i=>some (i*1,1)) ((Array.range (7*1)).map (#[Value.slice none 0 0][·% #[Value.slice none 0 0].size]!)) [(0,v0),(1,v1),(2,v2),(3,v3),(4,v4),(5,v5),(6,v6)]=some #[v0,v1,v2,v3,v4,v5,v6]:=by
 have e:((Array.range (7*1)).map (#[Value.slice none 0 0][·% #[Value.slice none 0 0].size]!))=#[Value.slice none 0 0,Value.slice none 0 0,Value.slice none 0 0,Value.slice none 0 0,Value.slice none 0 0,Value.slice none 0 0,Value.slice none 0 0]:=by kernel_rfl
 rw [e];simp [Instr.fill,h0,h1,h2,h3,h4,h5,h6]
theorem AK.isSl {α:Type} {h:GH} {v:Value} {n:Nat} {enc:α→Array Value} {xs:List α} (x:AK h v n enc xs):∀k i,v≠.int k i:=by
 obtain ⟨a,cap,rfl,_⟩:=x;intro k i e;cases e
theorem AK.across {h h':GH} {v:Value} {xs:List Int} {r:Nat} {a b c:Value} {T:TypeId} (x:AK h v 1 eI xs) (hb:h r=some (true,.cells #[.int .i64 10,.int .i64 1,a,b,c] T (0,0))) (ho:∀y,y≠r→h' y=h y)
  (ha:∀k i,a≠.int k i) (hb':∀k i,b≠.int k i) (hc:∀k i,c≠.int k i) (hx:∀o,o<5→∃i:Fin xs.length,(o+i.val=0→xs[i.val]≠10)∧(o+i.val=1→xs[i.val]≠1)):AK h' v 1 eI xs:=by
 obtain ⟨ad,cap,hv,hcap,hm,he⟩:=x;refine ⟨ad,cap,hv,hcap,hm,fun i hi=>?_⟩;obtain ⟨y,off,h1,h2⟩:=he i hi;refine ⟨y,off,h1,h2.same (ho y ?_)⟩;rintro rfl;have key:∀j (hj:j<xs.length),off+j<5∧(#[Value.int .i64 10,.int .i64 1,a,b,c]:Array Value).extract (off+j) (off+j+1)=eI xs[j]:=fun j hj=>by
  obtain ⟨y2,off2,h3,h4⟩:=he j hj;rw [h1] at h3;simp only [Option.some.injEq,Addr.mk.injEq,and_true] at h3;obtain ⟨rfl,rfl⟩:=h3;obtain ⟨p,cc,t,f,q1,q2,q3⟩:=h4;rw [hb] at q1;simp only [Option.some.injEq,Prod.mk.injEq,Obj.cells.injEq] at q1;obtain ⟨_,rfl,_⟩:=q1;rw [Nat.mul_one] at q2 q3;exact ⟨by simp at q2;omega,q3⟩
 obtain ⟨⟨j,hj⟩,e0,e1⟩:=hx off (by have:=(key i hi).1;omega);obtain ⟨k1,k2⟩:=key j hj;simp only at e0 e1;generalize off+j=o at k1 k2 e0 e1;generalize xs[j]=z at k2 e0 e1
 have:o=0∨o=1∨o=2∨o=3∨o=4:=by omega
 rcases this with rfl | rfl | rfl | rfl | rfl
 ·have k3:(#[.int .i64 10]:Array Value)=#[.int .i64 z]:=k2;simp at k3;exact e0 rfl k3.symm
 ·have k3:(#[.int .i64 1]:Array Value)=#[.int .i64 z]:=k2;simp at k3;exact e1 rfl k3.symm
 ·have k3:(#[a]:Array Value)=#[.int .i64 z]:=k2;simp at k3;exact ha _ _ k3
 ·have k3:(#[b]:Array Value)=#[.int .i64 z]:=k2;simp at k3;exact hb' _ _ k3
 ·have k3:(#[c]:Array Value)=#[.int .i64 z]:=k2;simp at k3;exact hc _ _ k3
def Dc (d m:Int) (gs:List Good) (ms:List AB) (cs:List AC):Int:=if AX d m gs ms cs=0 then ((AR d gs ms cs m).length:Int) else 0
end Go.Ns
namespace Go.Ns
open Go.Conc
section
variable {P:Program} {E:Gf P} {σ:Nat→Value} {ds:List Deferred} {h:GH} {T:(Nat→Value)→List Deferred→GH→Prop} {dst:Option Nat} {ty:TypeId} {pos:String} {af:Array Edge} {gd:Option (Nat×Bool)}
theorem shr_u8 {a:Int} {k:Nat} (h:k≤8):a.fdiv (2 ^ (min ((k:Int)).toNat IntKind.u8.bits))=a.fdiv (2 ^ k):=by
 have:min ((k:Int)).toNat IntKind.u8.bits=k:=by
  show min ((k:Int)).toNat 8=k;omega
 rw [this]
theorem Y3 {xt yt:TypeId} {x y:Operand} {a:Int} (hx:AT σ x=.int .u8 a) (hy:AT σ y=.int .u8 1) (h0:0≤a) (h1:a≤255) (k:T (putS σ dst (.int .u8 (a%2))) ds h) :
  Be E ⟨dst,.binOp .and xt x y yt,ty,pos,af,gd⟩ σ ds h T:=EZ hx hy (by
 show (pure (Value.int .u8 (IntKind.u8.wrap ((BitVec.ofInt 8 a &&& BitVec.ofInt 8 1).toNat))):Sem Value)=_;obtain ⟨n,rfl⟩:=Int.eq_ofNat_of_zero_le h0
 have:(BitVec.ofInt 8 (n:Int) &&& BitVec.ofInt 8 1).toNat=n%2:=by
  rw [BitVec.toNat_and];have e1:(BitVec.ofInt 8 (n:Int)).toNat=n:=by
   rw [BitVec.toNat_ofInt];omega
  have e2:(BitVec.ofInt 8 1).toNat=1:=by decide
  rw [e1,e2,Nat.and_one_is_mod]
 rw [this,IntWalk.u8_in _ (by omega)];congr 2) k
theorem Wm {a:Int} (h:0≤a∧a≤255) (k:Nat):0≤a.fdiv (2 ^ k)∧a.fdiv (2 ^ k)≤255:=by
 have hp:(0:Int)<2 ^ k:=by
  have:=Nat.pow_pos (n:=k) (show 0<2 by decide)
  exact_mod_cast this
 rw [Int.fdiv_eq_ediv_of_nonneg _ (Int.le_of_lt hp)];refine ⟨Int.ediv_nonneg h.1 (Int.le_of_lt hp),Int.le_trans (Int.ediv_le_self _ h.1) h.2⟩
end
theorem N0 {p:List Int} (hp:∀i,0≤p.getD i 0∧p.getD i 0≤65535) (k:Int) (i:Nat):0≤(if k<(p.length:Int) then p.getD i 0 else 0)∧(if k<(p.length:Int) then p.getD i 0 else 0)≤65535:=by
 split
 ·exact hp i
 ·decide
theorem T7 {ms:List AB} {m bits:Int} {k:Nat} (h:(ms.getD k AB.z).kind=0) (h2:bits.fdiv (2 ^ k)%2=1) (h3:((Ar ms m bits k).length:Int)<m):Ar ms m bits (k+1)=Ar ms m bits k++[(k:Int)]:=by
 conv=>lhs;unfold Ar
 rw [if_pos ⟨h,h2,h3⟩]
theorem T8 {ms:List AB} {m bits:Int} {k:Nat} (h:¬(((ms.getD k AB.z).kind=0∧bits.fdiv (2 ^ k)%2=1)∧((Ar ms m bits k).length:Int)<m)):Ar ms m bits (k+1)=Ar ms m bits k:=by
 conv=>lhs;unfold Ar
 rw [if_neg (fun q=>h ⟨⟨q.1,q.2.1⟩,q.2.2⟩)]
theorem LC (ms:List AB) (m bits:Int):∀k,(Ar ms m bits k).length≤k
 | 0=>Nat.le_refl _
 | k+1=>by
  have:=LC ms m bits k
  unfold Ar;split <;> simp <;> omega
section
variable {d m:Int} {gs:List Good} {ms:List AB} {cs:List AC} {f y l:List Int}
theorem fit_ok (h:Nz d m gs ms cs=true):A2 d m gs ms cs∧∀k,(gs.getD k Good.z).name.size≤1000:=by
 unfold Nz at h;rw [Bool.and_eq_true] at h;exact ⟨G2 (of_decide_eq_true h.2),LB h.1⟩
end
end Go.Ns
namespace Go.Ns
open Go.Conc
section
variable {P:Program} {E:Gf P} {σ:Nat→Value} {ds:List Deferred} {h:GH} {T:(Nat→Value)→List Deferred→GH→Prop} {dst:Option Nat} {ty:TypeId} {pos:String} {af:Array Edge} {gd:Option (Nat×Bool)}
end
end Go.Ns
namespace Go.Ns
open Go.Conc Go Go.RowKit
def LD (l:List Int):Nat:=l.length*100000+(l.foldl (fun n x=>10*n+x.toNat) 0)
theorem N1:∀(l:List (List Int)) (c:List Int),(∀x ∈ c ::l,∀y ∈ c ::l,Fo x y=decide (LD x<LD y))→F9 c l ∈ c ::l∧∀x ∈ c ::l,LD (F9 c l)≤LD x
 | [],c,_=>⟨List.mem_cons_self ..,fun x hx=>by
  rcases List.mem_cons.1 hx with rfl | q
  ·exact Nat.le_refl _
  ·cases q⟩
 | a ::l,c,H=>by
  have e:F9 c (a ::l)=F9 (D1 a c) l:=rfl;have hs:D1 a c=a∨D1 a c=c:=by unfold D1;split <;> simp
  have hm:∀x ∈ D1 a c ::l,x ∈ c ::a ::l:=fun x hx=>by
   rcases List.mem_cons.1 hx with rfl | q
   ·rcases hs with q | q <;> rw [q] <;> simp
   ·simp [q]
  obtain ⟨h1,h2⟩:=N1 l (D1 a c) fun x hx y hy=>H x (hm x hx) y (hm y hy);have hk:LD (D1 a c)≤LD a∧LD (D1 a c)≤LD c:=by
   have:=H a (by simp) c (by simp)
   unfold D1;by_cases q:Fo a c=true
   ·rw [if_pos q];rw [this] at q;have:=of_decide_eq_true q;omega
   ·rw [if_neg q];rw [this] at q;simp only [decide_eq_true_eq] at q;omega
  rw [e];refine ⟨hm _ h1,fun x hx=>?_⟩;have h0:=h2 _ (List.mem_cons_self ..);rcases List.mem_cons.1 hx with rfl | q
  ·omega
  ·rcases List.mem_cons.1 q with rfl | q
   ·omega
   ·exact h2 x (List.mem_cons_of_mem _ q)
section
variable {d m:Int} {gs:List Good} {ms:List AB} {cs:List AC}
end
section
variable {P:Program} {E:Gf P} {σ:Nat→Value} {ds:List Deferred} {h:GH} {T:(Nat→Value)→List Deferred→GH→Prop} {dst:Option Nat} {ty:TypeId} {pos:String} {af:Array Edge} {gd:Option (Nat×Bool)}
theorem ok_neqB {xt yt:TypeId} {x y:Operand} {a b:Bool} (hx:AT σ x=.bool a) (hy:AT σ y=.bool b) (he:NB P 1 xt (.bool a) (.bool b)=some (a==b)) (k:T (putS σ dst (.bool (a !=b))) ds h):Be E ⟨dst,.binOp .neq xt x y yt,ty,pos,af,gd⟩ σ ds h T:=by
 unfold Be execOp;simp only [hx,hy];refine Fe (AG _ _ ?_);have hg:∀(Q:Unit→GH→Prop),Q () h→(eqGuard .neq xt x y (.bool a) (.bool b)).gh P h Q:=fun Q q=>q;refine hg _ ?_;show Sem.gh P (do pure (Value.bool (!(←Op.equal xt (.bool a) (.bool b)))):Sem Value) h _;refine AG _ _ ?_;exact J5 1 _ _ _ _ (a==b) h _ (by decide) he k
end
end Go.Ns
namespace Go.Ns
open Go.Conc Go Go.RowKit
theorem Hi {p q:AU}:∀{n:Nat},(∀k,k<n→p.lies k=q.lies k)→Au p n=Au q n
 | 0,_=>rfl
 | n+1,h=>by unfold Au;rw [Hi fun k hk=>h k (by omega),h n (by omega)]
theorem IW (p:AU):∀{i n:Nat},i≤n→Au p i≤Au p n
 | i,0,h=>by rw [show i=0 by omega];exact Nat.le_refl _
 | i,n+1,h=>by
  by_cases e:i=n+1
  ·rw [e];exact Nat.le_refl _
  ·have:=IW p (i:=i) (n:=n) (by omega)
   have h2:Au p (n+1)=Au p n+if p.lies n then 1 else 0:=rfl
   omega
theorem HZ {p:AU}:∀{i n:Nat},(∀k,i≤k→k<n→p.lies k=false)→i≤n→Au p n=Au p i
 | i,0,_,h=>by rw [show i=0 by omega]
 | i,n+1,h0,h=>by
  by_cases e:i=n+1
  ·rw [e]
  ·have h2:Au p (n+1)=Au p n+if p.lies n then 1 else 0:=rfl
   rw [h2,h0 n (by omega) (by omega),HZ (fun k hk hk'=>h0 k hk (by omega)) (by omega)];rfl
theorem ML {p:AU} {i:Nat} {n:Int} (h:p.lies i=false):∀k,Au (p.setMove i n true) k=Au p k+if i<k then 1 else 0
 | 0=>rfl
 | k+1=>by
  have h1:Au (p.setMove i n true) (k+1)=Au (p.setMove i n true) k+if (p.setMove i n true).lies k then 1 else 0:=rfl
  have h2:Au p (k+1)=Au p k+if p.lies k then 1 else 0:=rfl
  have h3:(p.setMove i n true).lies k=if k=i then true else p.lies k:=rfl
  rw [h1,h2,h3,ML h k];by_cases e:k=i
  ·subst e;have e3:¬k<k:=by omega
   have e4:k<k+1:=by omega
   simp [h,e3,e4]
  ·rw [if_neg e];by_cases e2:i<k
   ·have e4:i<k+1:=by omega
    simp only [e2,e4,if_true];omega
   ·have e4:¬i<k+1:=by omega
    simp only [e2,e4,if_false];omega
theorem I7 (p:AU):∀n,((List.range n).filter p.lies).length=Au p n
 | 0=>rfl
 | n+1=>by
  rw [List.range_succ,List.filter_append,List.length_append,I7 p n];have h2:Au p (n+1)=Au p n+if p.lies n then 1 else 0:=rfl
  rw [h2];by_cases e:p.lies n=true
  ·simp [e]
  ·simp [e]
structure SJ (gs:List Good) (ms:List AB) (mo:Int) (p:AU):Prop where
 first:∀i,i<gs.length→(gs.getD i Good.z).low≤p.first i∧p.first i≤(gs.getD i Good.z).high
 many:∀i,i<ms.length→(ms.getD i AB.z).low≤p.many i∧p.many i≤(ms.getD i AB.z).high
 note:∀i,i<ms.length→p.lies i=true→Ch ms i=true
 few:(Au p ms.length:Int)≤mo
theorem Hj {ag:AU→Bool} {ms:List AB} {mo:Int} (h6:ms.length≤6):∀(f i:Nat) (p q:AU),i+f=ms.length→(∀k,i≤k→p.lies k=false)→(Au p 6:Int)≤mo→q ∈ At ag ms mo f i p→
  ag q=true∧q.first=p.first∧(∀k,k<i→q.many k=p.many k∧q.lies k=p.lies k)∧(∀k,i≤k→k<ms.length→(ms.getD k AB.z).low≤q.many k∧q.many k≤(ms.getD k AB.z).high∧(q.lies k=true→Ch ms k=true))∧(Au q 6:Int)≤mo
 | 0,i,p,q,e,_,hl,h=>by
  unfold At at h;split at h
  ·rename_i ha
   rw [List.mem_singleton] at h;subst h;exact ⟨ha,rfl,fun _ _=>⟨rfl,rfl⟩,fun k h1 h2=>by omega,hl⟩
  ·cases h
 | f+1,i,p,q,e,hz,hl,h=>by
  rw [CM,List.mem_flatMap] at h;obtain ⟨n,hn,h⟩:=h;rw [Gl] at hn;have hlf:∀k,i+1≤k→(p.setMove i n false).lies k=false:=fun k hk=>by
   show (if k=i then false else p.lies k)=false;split
   ·rfl
   ·exact hz k (by omega)
  have hcf:Au (p.setMove i n false) 6=Au p 6:=Hi fun k _=>by
   show (if k=i then false else p.lies k)=p.lies k;split
   ·rename_i e2;rw [e2,hz i (Nat.le_refl _)]
   ·rfl
  unfold BU at h;rw [List.mem_append] at h;rcases h with h | h
  ·obtain ⟨a1,a2,a3,a4,a5⟩:=Hj h6 f (i+1) _ q (by omega) hlf (by rw [hcf];exact hl) h;refine ⟨a1,a2,fun k hk=>?_,fun k h1 h2=>?_,a5⟩
   ·have:=a3 k (by omega)
    rw [this.1,this.2];exact ⟨show (if k=i then n else p.many k)=_ from if_neg (by omega),show (if k=i then false else p.lies k)=_ from if_neg (by omega)⟩
   ·by_cases e2:k=i
    ·subst e2
     have:=a3 k (by omega)
     have g1:(p.setMove k n false).many k=n:=if_pos rfl;have g2:(p.setMove k n false).lies k=false:=if_pos rfl;rw [this.1,this.2,g1,g2];exact ⟨hn.1,hn.2,fun q=>by cases q⟩
    ·exact a4 k (by omega) h2
  ·split at h
   ·rename_i hc
    rw [Bool.and_eq_true] at hc;have hlt:=of_decide_eq_true hc.2;have hct:Au (p.setMove i n true) 6=Au p 6+1:=by rw [ML (hz i (Nat.le_refl _)),if_pos (by omega)]
    have hlt2:∀k,i+1≤k→(p.setMove i n true).lies k=false:=fun k hk=>by
     show (if k=i then true else p.lies k)=false;rw [if_neg (by omega)];exact hz k (by omega)
    obtain ⟨a1,a2,a3,a4,a5⟩:=Hj h6 f (i+1) _ q (by omega) hlt2 (by rw [hct];omega) h;refine ⟨a1,a2,fun k hk=>?_,fun k h1 h2=>?_,a5⟩
    ·have:=a3 k (by omega)
     rw [this.1,this.2];exact ⟨show (if k=i then n else p.many k)=_ from if_neg (by omega),show (if k=i then true else p.lies k)=_ from if_neg (by omega)⟩
    ·by_cases e2:k=i
     ·subst e2
      have:=a3 k (by omega)
      have g1:(p.setMove k n true).many k=n:=if_pos rfl;rw [this.1,g1];exact ⟨hn.1,hn.2,fun _=>hc.1⟩
     ·exact a4 k (by omega) h2
   ·cases h
theorem Js {ag:AU→Bool} {gs:List Good} {ms:List AB} {mo:Int} (h6:ms.length≤6) (h0:0≤mo):∀(f i:Nat) (p q:AU),i+f=gs.length→(∀k,p.lies k=false)→q ∈ BD ag gs ms mo f i p→
  ag q=true∧(∀k,k<i→q.first k=p.first k)∧(∀k,i≤k→k<gs.length→(gs.getD k Good.z).low≤q.first k∧q.first k≤(gs.getD k Good.z).high)∧(∀k,k<ms.length→(ms.getD k AB.z).low≤q.many k∧q.many k≤(ms.getD k AB.z).high∧(q.lies k=true→Ch ms k=true))∧(Au q 6:Int)≤mo
 | 0,i,p,q,e,hz,h=>by
  have hl:(Au p 6:Int)≤mo:=by
   rw [HZ (i:=0) (fun k _ _=>hz k) (Nat.zero_le _)];exact h0
  obtain ⟨a1,a2,_,a4,a5⟩:=Hj h6 ms.length 0 p q (by omega) (fun k _=>hz k) hl h;exact ⟨a1,fun k _=>by rw [a2],fun k h1 h2=>by omega,fun k hk=>a4 k (Nat.zero_le _) hk,a5⟩
 | f+1,i,p,q,e,hz,h=>by
  rw [Ci,List.mem_flatMap] at h;obtain ⟨n,hn,h⟩:=h;rw [Gl] at hn;obtain ⟨a1,a2,a3,a4,a5⟩:=Js h6 h0 f (i+1) (p.setFirst i n) q (by omega) hz h;refine ⟨a1,fun k hk=>?_,fun k h1 h2=>?_,a4,a5⟩
  ·rw [a2 k (by omega)];exact if_neg (by omega)
  ·by_cases e2:k=i
   ·subst e2;rw [a2 k (by omega)];have g1:(p.setFirst k n).first k=n:=if_pos rfl;rw [g1];exact hn
   ·exact a3 k (by omega) h2
theorem Lg {d:Int} {gs:List Good} {ms:List AB} {cs:List AC} {mo:Int} (h6:ms.length≤6) (h0:0≤mo) {q:AU} (h:q ∈ AR d gs ms cs mo):SJ gs ms mo q∧A7 d gs.length ms cs q=true:=by
 obtain ⟨a1,_,a3,a4,a5⟩:=Js h6 h0 gs.length 0 AU.zero q (by omega) (fun _=>rfl) h;refine ⟨⟨fun i hi=>a3 i (Nat.zero_le _) hi,fun i hi=>⟨(a4 i hi).1,(a4 i hi).2.1⟩,fun i hi=>(a4 i hi).2.2,?_⟩,a1⟩
 have:=IW q h6
 omega
def Gb (p:AU) (i j:Nat):AU:=⟨fun k=>if k<i then p.first k else 0,fun k=>if k<j then p.many k else 0,fun k=>if k<j then p.lies k else false⟩
theorem Ph (p:AU) (i j:Nat):(Gb p i j).setMove j (p.many j) (p.lies j)=Gb p i (j+1):=by
 unfold Gb AU.setMove AU.setMany AU.setLie;congr 1
 ·funext k;show (if k=j then p.many j else if k<j then p.many k else 0)=if k<j+1 then p.many k else 0
  by_cases e:k=j
  ·rw [if_pos e,e,if_pos (by omega)]
  ·rw [if_neg e];by_cases e2:k<j
   ·rw [if_pos e2,if_pos (by omega)]
   ·rw [if_neg e2,if_neg (by omega)]
 ·funext k;show (if k=j then p.lies j else if k<j then p.lies k else false)=if k<j+1 then p.lies k else false
  by_cases e:k=j
  ·rw [if_pos e,e,if_pos (by omega)]
  ·rw [if_neg e];by_cases e2:k<j
   ·rw [if_pos e2,if_pos (by omega)]
   ·rw [if_neg e2,if_neg (by omega)]
theorem T9 (p:AU) (i:Nat):(Gb p i 0).setFirst i (p.first i)=Gb p (i+1) 0:=by
 unfold Gb AU.setFirst;congr 1;funext k;show (if k=i then p.first i else if k<i then p.first k else 0)=if k<i+1 then p.first k else 0
 by_cases e:k=i
 ·rw [if_pos e,e,if_pos (by omega)]
 ·rw [if_neg e];by_cases e2:k<i
  ·rw [if_pos e2,if_pos (by omega)]
  ·rw [if_neg e2,if_neg (by omega)]
theorem LE {ag:AU→Bool} {gs:List Good} {ms:List AB} {mo:Int} (h6:ms.length≤6) {p:AU} (L:SJ gs ms mo p) (ha:ag (Gb p gs.length ms.length)=true):∀(f i:Nat),i+f=ms.length→Gb p gs.length ms.length ∈ At ag ms mo f i (Gb p gs.length i)
 | 0,i,e=>by
  rw [show i=ms.length by omega];unfold At;rw [if_pos ha];exact List.mem_singleton.2 rfl
 | f+1,i,e=>by
  rw [CM,List.mem_flatMap];refine ⟨p.many i,Gl.2 (L.many i (by omega)),?_⟩;have ih:=LE h6 L ha f (i+1) (by omega);unfold BU;rw [List.mem_append];cases hli:p.lies i with
  | false=>
   left
   have:=Ph p gs.length i
   rw [hli] at this;rw [this];exact ih
  | true=>
   right;have hlie:Au ((Gb p gs.length i).setMove i (p.many i) false) 6=Au p i:=by
    rw [HZ (i:=i) (fun k h1 h2=>?_) (by omega)]
    ·refine Hi fun k hk=>?_;show (if k=i then false else if k<i then p.lies k else false)=_;rw [if_neg (by omega),if_pos hk]
    ·show (if k=i then false else if k<i then p.lies k else false)=_;split
     ·rfl
     ·rw [if_neg (by omega)]
   have h1:Au p (i+1)=Au p i+1:=by
    show Au p i+(if p.lies i then 1 else 0)=_;rw [hli];rfl
   have h2:=IW p (i:=i+1) (n:=ms.length) (by omega);have h3:=L.few;rw [if_pos (by rw [Bool.and_eq_true];exact ⟨L.note i (by omega) hli,decide_eq_true (by rw [hlie];omega)⟩)]
   have:=Ph p gs.length i
   rw [hli] at this;rw [this];exact ih
theorem IX {ag:AU→Bool} {gs:List Good} {ms:List AB} {mo:Int} (h6:ms.length≤6) {p:AU} (L:SJ gs ms mo p) (ha:ag (Gb p gs.length ms.length)=true):∀(f i:Nat),i+f=gs.length→Gb p gs.length ms.length ∈ BD ag gs ms mo f i (Gb p i 0)
 | 0,i,e=>by
  rw [show i=gs.length by omega];exact LE h6 L ha ms.length 0 (by omega)
 | f+1,i,e=>by
  rw [Ci,List.mem_flatMap];refine ⟨p.first i,Gl.2 (L.first i (by omega)),?_⟩;rw [T9];exact IX h6 L ha f (i+1) (by omega)
theorem Jt {ms ms':List AB} {p p':AU} {g dy:Int} (hlen:ms.length=ms'.length) (hm:∀k,(ms.getD k AB.z).day=(ms'.getD k AB.z).day∧(ms.getD k AB.z).good=(ms'.getD k AB.z).good∧(ms.getD k AB.z).kind=(ms'.getD k AB.z).kind)
  (hr:∀k,k<ms.length→Br p k=Br p' k):∀(f k:Nat) (n low:Int),k+f=ms.length→CI ms p g dy f k n low=CI ms' p' g dy f k n low
 | 0,_,_,_,_=>rfl
 | f+1,k,n,low,e=>by
  unfold CI;rw [(hm k).1];have h1:FI ms p g k n=FI ms' p' g k n:=by unfold FI;rw [(hm k).2.1,(hm k).2.2,hr k (by omega)]
  have h2:∀n,EU ms k low n=EU ms' k low n:=fun n=>by unfold EU;rw [(hm k).1,(hm (k+1)).1,hlen]
  rw [h1,h2,Jt hlen hm hr f (k+1) _ _ (by omega)]
theorem IY {ms ms':List AB} {p p':AU} {g dy:Int} (hlen:ms.length=ms'.length) (hm:∀k,(ms.getD k AB.z).day=(ms'.getD k AB.z).day∧(ms.getD k AB.z).good=(ms'.getD k AB.z).good∧(ms.getD k AB.z).kind=(ms'.getD k AB.z).kind)
  (hr:∀k,k<ms.length→Br p k=Br p' k) (hf:p.first g.toNat=p'.first g.toNat):AJ ms p g dy=AJ ms' p' g dy:=by
 unfold AJ;rw [hf,←hlen];exact Jt hlen hm hr _ _ _ _ (by omega)
theorem N2 {d:Int} {ng:Nat} {ms ms':List AB} {cs:List AC} {p p':AU} (h:A7 d ng ms cs p=true) (h1:∀j,j<ng→(AJ ms' p' (j:Int) d).2=(AJ ms p (j:Int) d).2) (h2:∀x ∈ cs,(AJ ms' p' x.good x.day).1=(AJ ms p x.good x.day).1):A7 d ng ms' cs p'=true:=by
 unfold A7 at h ⊢;rw [Bool.and_eq_true] at h ⊢;refine ⟨decide_eq_true fun j hj=>by rw [h1 j hj];exact of_decide_eq_true h.1 j hj,?_⟩;have h3:=h.2;rw [Bool.not_eq_true',List.any_eq_false] at h3 ⊢;intro x hx
 have:=h3 x hx
 rw [h2 x hx];exact this
theorem Pi (p:AU) {i j k:Nat} (h:k<j):Br (Gb p i j) k=Br p k:=by
 unfold Br Gb;simp only [];rw [if_pos h,if_pos h]
theorem Y4 {d m:Int} {gs:List Good} {ms:List AB} {cs:List AC} {mo:Int} (b:A2 d m gs ms cs) {p:AU} (L:SJ gs ms mo p) (ha:A7 d gs.length ms cs p=true):AR d gs ms cs mo≠[]:=fun e=>by
 have h2:A7 d gs.length ms cs (Gb p gs.length ms.length)=true:=N2 ha
  (fun j hj=>by rw [IY rfl (fun _=>⟨rfl,rfl,rfl⟩) (fun k hk=>Pi p hk) (show (if (j:Int).toNat<gs.length then _ else _)=_ from if_pos (by omega))])
  (fun x hx=>by
   obtain ⟨i,hi,e2⟩:=List.getElem_of_mem hx;have hc:=b.count i hi;unfold Du at hc;rw [C1 AC.z hi,e2] at hc;have hg:0≤x.good∧x.good≤(gs.length:Int)-1:=by
    apply Decidable.byContradiction;intro q;rw [if_pos q] at hc;cases hc
   rw [IY rfl (fun _=>⟨rfl,rfl,rfl⟩) (fun k hk=>Pi p hk) (show (if x.good.toNat<gs.length then _ else _)=_ from if_pos (by omega))])
 have:=IX (ag:=A7 d gs.length ms cs) b.mlen L h2 gs.length 0 (by omega)
 have e3:Gb p 0 0=AU.zero:=by unfold Gb AU.zero;congr 1 <;> (funext k;exact if_neg (by omega))
 rw [e3] at this;have e4:BD (A7 d gs.length ms cs) gs ms mo gs.length 0 AU.zero=[]:=e;rw [e4] at this;cases this
end Go.Ns
namespace Go.Ns
open Go.Conc Go Go.RowKit
def bls:Nat→List (List Bool)
 | 0=>[[]]
 | n+1=>(bls n).flatMap fun l=>[l++[false],l++[true]]
def chk5:Bool:=(List.range 7).all fun n=>(bls n).all fun l=>(List.range (2 ^ n)).any fun (mask:Nat)=>(List.range n).map (Ew (mask:Int))==l
theorem Wn:chk5=true:=by kernel_rfl
theorem Vy (f:Nat→Bool):∀n,(List.range n).map f ∈ bls n
 | 0=>List.mem_singleton.2 rfl
 | n+1=>by
  rw [List.range_succ,List.map_append];refine List.mem_flatMap.2 ⟨_,Vy f n,?_⟩;cases h:f n <;> simp [h]
theorem mask_of {n:Nat} (hn:n≤6) (f:Nat→Bool):∃mask:Nat,mask<2 ^ n∧∀i,i<n→Ew (mask:Int) i=f i:=by
 have h:=Wn;unfold chk5 at h;rw [List.all_eq_true] at h;have h2:=List.all_eq_true.1 (h n (List.mem_range.2 (by omega))) _ (Vy f n);obtain ⟨y,hy,e⟩:=List.any_eq_true.1 h2;refine ⟨y,List.mem_range.1 hy,fun i hi=>?_⟩;have e2:=eq_of_beq e
 have:=congrArg (fun l:List Bool=>l.getD i false) e2
 simpa [List.getD_eq_getElem?_getD,List.getElem?_range hi] using this
theorem Pj {mask:Int} {n k:Nat}:(k:Int) ∈ A4 mask n↔k<n∧Ew mask k=true:=by
 unfold A4;rw [List.mem_map];constructor
 ·rintro ⟨i,hi,e⟩
  have:i=k:=by omega
  subst this
  have:=List.mem_filter.1 hi
  exact ⟨List.mem_range.1 this.1,this.2⟩
 ·rintro ⟨h1,h2⟩;exact ⟨k,List.mem_filter.2 ⟨List.mem_range.2 h1,h2⟩,rfl⟩
theorem Pm {mask:Int} {n:Nat} {x:Int} (h:x ∈ A4 mask n):∃k:Nat,x=(k:Int)∧k<n∧Ew mask k=true:=by
 unfold A4 at h;obtain ⟨i,hi,rfl⟩:=List.mem_map.1 h
 have:=List.mem_filter.1 hi
 exact ⟨i,rfl,List.mem_range.1 this.1,this.2⟩
theorem Y5 {mask:Int} {n:Nat}:(A4 mask n).Pairwise (· < ·):=by
 unfold A4;rw [List.pairwise_map]
 have:(List.range n).Pairwise (fun a b:Nat=>(a:Int)<(b:Int)):=(List.pairwise_lt_range (n:=n)).imp fun {a b} h=>by omega
 exact this.sublist List.filter_sublist
theorem I8:∀(l:List Int) (ms:List AB) (k:Nat),(∀x ∈ l,0≤x)→k<ms.length→(CZ ms l).getD k AB.z=if (k:Int) ∈ l then { ms.getD k AB.z with low:=0,high:=0 } else ms.getD k AB.z
 | [],ms,k,_,_=>by simp [CZ]
 | i ::l,ms,k,h,hk=>by
  have h1:CZ ms (i ::l)=CZ (clearAt ms i.toNat) l:=rfl;have hi:=h i (by simp);rw [h1,I8 l (clearAt ms i.toNat) k (fun x hx=>h x (by simp [hx])) (by rw [FV];exact hk)];have e:(clearAt ms i.toNat).getD k AB.z=if i.toNat=k then { ms.getD k AB.z with low:=0,high:=0 } else ms.getD k AB.z:=by
   unfold clearAt;rw [List.getD_eq_getElem?_getD,List.getElem?_set];by_cases q:i.toNat=k
   ·rw [if_pos q,if_pos q,q,if_pos hk];rfl
   ·rw [if_neg q,if_neg q,List.getD_eq_getElem?_getD]
  rw [e];by_cases q:i.toNat=k
  ·have hm:(k:Int) ∈ i ::l:=by rw [←q,Int.toNat_of_nonneg hi];simp
   rw [if_pos q,if_pos hm];split <;> rfl
  ·have hm:((k:Int) ∈ i ::l)↔(k:Int) ∈ l:=by
    rw [List.mem_cons];constructor
    ·rintro (r | r)
     ·omega
     ·exact r
    ·exact .inr
   rw [if_neg q];by_cases r:(k:Int) ∈ l
   ·rw [if_pos r,if_pos (hm.2 r)]
   ·rw [if_neg r,if_neg (fun s=>r (hm.1 s))]
theorem SK {l:List Int} {ms:List AB} (h:∀x ∈ l,0≤x) (k:Nat):((CZ ms l).getD k AB.z).day=(ms.getD k AB.z).day∧((CZ ms l).getD k AB.z).good=(ms.getD k AB.z).good∧((CZ ms l).getD k AB.z).kind=(ms.getD k AB.z).kind:=by
 by_cases hk:k<ms.length
 ·rw [I8 l ms k h hk];split <;> exact ⟨rfl,rfl,rfl⟩
 ·rw [Dz (by rw [F4];omega),Dz (by omega)];exact ⟨rfl,rfl,rfl⟩
section
variable {d m:Int} {gs:List Good} {ms:List AB} {cs:List AC}
theorem UA {i:Nat} (hi:i<ms.length):Ch ms (i:Int)=true↔(ms.getD i AB.z).kind=0:=by
 unfold Ch;rw [decide_eq_true_eq,Int.toNat_natCast];exact ⟨fun h=>h.2,fun h=>⟨⟨by omega,by omega⟩,h⟩⟩
theorem MM {x:List Int}:x ∈ C2 d gs ms cs (2 ^ ms.length)↔∃mask:Nat,mask<2 ^ ms.length∧x=A4 (mask:Int) ms.length∧(∀i,i<ms.length→Ew (mask:Int) i=true→Ch ms (i:Int)=true)∧AR d gs (CZ ms x) cs 0≠[]:=by
 unfold C2;rw [List.mem_filterMap];have hall:∀k:Nat,Ed ms (k:Int) ms.length=true↔∀i,i<ms.length→Ew (k:Int) i=true→Ch ms (i:Int)=true:=fun k=>by
  unfold Ed;rw [List.all_eq_true];constructor
  ·intro h i hi hb
   have:=h i (List.mem_range.2 hi)
   rw [hb] at this;simpa using this
  ·intro h i hi;cases hb:Ew (k:Int) i with
   | false=>rfl
   | true=>simpa using h i (List.mem_range.1 hi) hb
 constructor
 ·rintro ⟨k,hk,e⟩;unfold EK at e;split at e
  ·rename_i ha
   split at e
   ·cases e
   ·rename_i hh
    cases e;exact ⟨k,List.mem_range.1 hk,rfl,(hall k).1 ha,hh⟩
  ·cases e
 ·rintro ⟨k,hk,rfl,ha,hh⟩;refine ⟨k,List.mem_range.2 hk,?_⟩;unfold EK;rw [if_pos ((hall k).2 ha),if_neg hh]
theorem Wo (b:A2 d m gs ms cs) {mo:Int} (h0:0≤mo) {q:AU} (hq:q ∈ AR d gs ms cs mo):∃mask:Nat,mask<2 ^ ms.length∧(∀k:Nat,(k:Int) ∈ A4 (mask:Int) ms.length↔k<ms.length∧q.lies k=true)∧A4 (mask:Int) ms.length ∈ C2 d gs ms cs (2 ^ ms.length):=by
 obtain ⟨L,ha⟩:=Lg b.mlen h0 hq;obtain ⟨mask,hmask,hbit⟩:=mask_of b.mlen q.lies;have hx0:∀x ∈ A4 (mask:Int) ms.length,0≤x:=fun x hx=>by obtain ⟨k,rfl,_⟩:=Pm hx;omega
 have hmem:∀k,k<ms.length→((k:Int) ∈ A4 (mask:Int) ms.length↔q.lies k=true):=fun k hk=>by
  rw [Pj,hbit k hk];exact ⟨fun h=>h.2,fun h=>⟨hk,h⟩⟩
 refine ⟨mask,hmask,fun k=>⟨fun hk=>?_,fun hk=>(hmem k hk.1).2 hk.2⟩,MM.2 ⟨mask,hmask,rfl,fun i hi hb=>L.note i hi (by rw [←hbit i hi];exact hb),?_⟩⟩
 ·have:=(Pj.1 hk).1;exact ⟨this,(hmem k this).1 hk⟩
 ·refine Y4 (p:=⟨q.first,fun k=>if q.lies k then 0 else q.many k,fun _=>false⟩) (A2.clear (l:=A4 (mask:Int) ms.length) b) ⟨L.first,fun i hi=>?_,fun i hi e=>(by cases e),?_⟩ ?_
  ·rw [F4] at hi;rw [I8 _ _ _ hx0 hi];show _≤(if q.lies i then 0 else q.many i)∧(if q.lies i then 0 else q.many i)≤_;by_cases e:q.lies i=true
   ·rw [if_pos ((hmem i hi).2 e),if_pos e];exact ⟨Int.le_refl _,Int.le_refl _⟩
   ·rw [if_neg (fun r=>e ((hmem i hi).1 r)),if_neg e];exact L.many i hi
  ·rw [HZ (i:=0) (fun _ _ _=>rfl) (Nat.zero_le _)];exact Int.le_refl 0
  ·have hs:∀g dy,AJ (CZ ms (A4 (mask:Int) ms.length)) ⟨q.first,fun k=>if q.lies k then 0 else q.many k,fun _=>false⟩ g dy=AJ ms q g dy:=fun g dy=>
    IY (F4 ms _) (SK hx0) (fun k hk=>by unfold Br;rfl) rfl
   exact N2 ha (fun j _=>by rw [hs]) (fun x _=>by rw [hs])
end
def LF (ms:List AB) (p:AU) (g dy:Int) (k:Nat):Int:=if (ms.getD k AB.z).day≤dy then Qs ms p g k else 0
theorem SL {F:Nat→Int}:∀{l:List Nat},(∀i ∈ l,F i=0)→(l.map F).sum=0
 | [],_=>rfl
 | i ::l,h=>by rw [List.map_cons,List.sum_cons,h i (by simp),SL fun j hj=>h j (by simp [hj])];rfl
theorem N3 {F:Nat→Int} {q:Nat→Bool}:∀{l:List Nat},(∀i ∈ l,q i=false→F i=0)→(l.map F).sum=((l.filter q).map F).sum
 | [],_=>rfl
 | i ::l,h=>by
  have ih:=N3 (F:=F) (q:=q) (l:=l) fun j hj=>h j (by simp [hj]);rw [List.map_cons,List.sum_cons,ih];cases e:q i with
  | true=>rw [List.filter_cons,if_pos e,List.map_cons,List.sum_cons]
  | false=>rw [List.filter_cons,if_neg (by rw [e];simp),h i (by simp) e];omega
theorem LG {ms:List AB} {p:AU} {g dy:Int} (up:∀i j,i≤j→j<ms.length→(ms.getD i AB.z).day≤(ms.getD j AB.z).day):∀(f k:Nat) (n low:Int),k+f=ms.length→(CI ms p g dy f k n low).1=n+((List.range' k f).map (LF ms p g dy)).sum
 | 0,_,n,_,_=>by simp [CI]
 | f+1,k,n,low,e=>by
  unfold CI;by_cases h:dy<(ms.getD k AB.z).day
  ·rw [if_pos h,SL fun i hi=>?_]
   ·omega
   ·have:=List.mem_range'_1.1 hi
    have h2:=up k i this.1 (by omega);unfold LF;rw [if_neg (by omega)]
  ·rw [if_neg h,LG up f (k+1) _ _ (by omega),List.range'_succ,List.map_cons,List.sum_cons];have h1:LF ms p g dy k=Qs ms p g k:=by unfold LF;rw [if_pos (by omega)]
   have hn:FI ms p g k n=n+Qs ms p g k:=by unfold FI Qs;split <;> omega
   rw [h1,hn];omega
theorem I6.le {ms:List AB} (h:I6 ms):∀i j,i≤j→j<ms.length→(ms.getD i AB.z).day≤(ms.getD j AB.z).day:=fun i j hij hj=>by
 by_cases e:i=j
 ·rw [e];exact Int.le_refl _
 ·unfold I6 at h;rw [List.pairwise_iff_getElem] at h;rw [C1 AB.z (by omega),C1 AB.z hj];exact h i j (by omega) hj (by omega)
theorem MN {ms:List AB} (up:I6 ms) (p:AU) (g dy:Int):(AJ ms p g dy).1=p.first g.toNat+((List.range ms.length).map (LF ms p g dy)).sum:=by
 unfold AJ;rw [LG up.le _ _ _ _ (by omega),List.range_eq_range']
section
variable {d m:Int} {gs:List Good} {ms:List AB} {cs:List AC}
end
end Go.Ns
namespace Go.Ns
open Go.Conc
theorem asc_ext {l l':List Int} (h:l.Pairwise (· < ·)) (h':l'.Pairwise (· < ·)) (e:∀x,x ∈ l↔x ∈ l'):l=l':=by
 induction l generalizing l' with
 | nil=>
  cases l' with
  | nil=>rfl
  | cons y l'=>exact absurd ((e y).2 List.mem_cons_self) (by simp)
 | cons x l ih=>
  cases l' with
  | nil=>exact absurd ((e x).1 List.mem_cons_self) (by simp)
  | cons y l'=>
   rw [List.pairwise_cons] at h h';have hxy:x=y:=by
    rcases List.mem_cons.1 ((e x).1 List.mem_cons_self) with q | q
    ·exact q
    ·rcases List.mem_cons.1 ((e y).2 List.mem_cons_self) with q' | q'
     ·exact q'.symm
     ·have h1:=h.1 y q';have h2:=h'.1 x q;omega
   subst hxy;congr 1;refine ih h.2 h'.2 fun z=>⟨fun hz=>?_,fun hz=>?_⟩
   ·rcases List.mem_cons.1 ((e z).1 (List.mem_cons_of_mem _ hz)) with rfl | q
    ·exact absurd (h.1 z hz) (by omega)
    ·exact q
   ·rcases List.mem_cons.1 ((e z).2 (List.mem_cons_of_mem _ hz)) with rfl | q
    ·exact absurd (h'.1 z hz) (by omega)
    ·exact q
section
variable {d m:Int} {gs:List Good} {ms:List AB} {cs:List AC}
theorem Y6 {o:List Int} (h:∀x ∈ o,x=0):De (fun k=>o.getD k 0) 0 o.length=0:=CP (k:=o.length) (fun j hj=>h _ (Cx hj)) (Nat.le_refl _)
theorem Wp (b:A2 d m gs ms cs) {o:List Int} (h:∀x ∈ o,x=0):Ag d m gs ms cs o=if (AR d gs ms cs m).length=0 then 9 else 0:=by
 unfold Ag;rw [if_neg (by rw [D9 b];simp),if_neg (by rw [Y6 h];simp)]
end
end Go.Ns
namespace Go.Ns
open Go.Conc
section
variable {P:Program} {E:Gf P} {σ:Nat→Value} {ds:List Deferred} {h:GH} {T:(Nat→Value)→List Deferred→GH→Prop}
variable {dst:Option Nat} {ty:TypeId} {pos:String} {af:Array Edge} {gd:Option (Nat×Bool)}
end
section
variable {d m:Int} {gs:List Good} {ms:List AB} {cs:List AC}
end
end Go.Ns
namespace Go.Ns
open Go.Conc
section
variable {d m:Int} {gs:List Good} {ms:List AB} {cs:List AC}
end
end Go.Ns
namespace Go.Ns
open Go.Conc
theorem FX {ag:AU→Bool} {ms:List AB} {mo:Int}:∀(f i:Nat) (p q:AU),q ∈ At ag ms mo f i p→q.first=p.first∧∀k,k<i→q.many k=p.many k∧q.lies k=p.lies k
 | 0,i,p,q,h=>by
  unfold At at h;split at h
  ·rw [List.mem_singleton] at h;subst h;exact ⟨rfl,fun _ _=>⟨rfl,rfl⟩⟩
  ·cases h
 | f+1,i,p,q,h=>by
  rw [CM,List.mem_flatMap] at h;obtain ⟨n,_,h⟩:=h;have key:∀b,q ∈ At ag ms mo f (i+1) (p.setMove i n b)→q.first=p.first∧∀k,k<i→q.many k=p.many k∧q.lies k=p.lies k:=fun b hb=>by
   obtain ⟨a1,a2⟩:=FX f (i+1) _ q hb;refine ⟨a1,fun k hk=>?_⟩;obtain ⟨b1,b2⟩:=a2 k (by omega);exact ⟨b1.trans (if_neg (by omega)),b2.trans (if_neg (by omega))⟩
  unfold BU at h;rcases List.mem_append.1 h with h | h
  ·exact key _ h
  ·split at h
   ·exact key _ h
   ·cases h
theorem SM (lo hi:Int):(Fg lo hi).Pairwise (·≠·):=by
 unfold Fg Bs;rw [List.pairwise_map];exact List.pairwise_lt_range.imp fun h=>by omega
theorem GM {ag:AU→Bool} {ms:List AB} {mo:Int}:∀(f i:Nat) (p:AU),(At ag ms mo f i p).Pairwise (·≠·)
 | 0,i,p=>by
  unfold At;split
  ·exact List.pairwise_singleton ..
  ·exact List.Pairwise.nil
 | f+1,i,p=>by
  rw [CM,List.pairwise_flatMap];have at1:∀n b q,q ∈ At ag ms mo f (i+1) (p.setMove i n b)→q.many i=n∧q.lies i=b:=fun n b q hq=>by
   obtain ⟨b1,b2⟩:=(FX f (i+1) _ q hq).2 i (by omega);exact ⟨b1.trans (if_pos rfl),b2.trans (if_pos rfl)⟩
  have atR:∀n q,q ∈ BU ag ms mo f i p n→q.many i=n:=fun n q hq=>by
   unfold BU at hq;rcases List.mem_append.1 hq with h | h
   ·exact (at1 _ _ _ h).1
   ·split at h
    ·exact (at1 _ _ _ h).1
    ·cases h
  refine ⟨fun n _=>?_,(SM _ _).imp fun hne x hx y hy e=>hne (by rw [←atR _ x hx,←atR _ y hy,e])⟩;unfold BU;rw [List.pairwise_append];refine ⟨GM f (i+1) _,?_,fun x hx y hy e=>?_⟩
  ·split
   ·exact GM f (i+1) _
   ·exact List.Pairwise.nil
  ·split at hy
   ·have h1:=(at1 _ _ _ hx).2;have h2:=(at1 _ _ _ hy).2;rw [e,h2] at h1;cases h1
   ·cases hy
theorem I9 {ag:AU→Bool} {gs:List Good} {ms:List AB} {mo:Int}:∀(f i:Nat) (p q:AU),q ∈ BD ag gs ms mo f i p→∀k,k<i→q.first k=p.first k
 | 0,i,p,q,h,k,hk=>by rw [(FX _ _ _ _ h).1]
 | f+1,i,p,q,h,k,hk=>by
  rw [Ci,List.mem_flatMap] at h;obtain ⟨n,_,h⟩:=h;exact (I9 f (i+1) _ q h k (by omega)).trans (if_neg (by omega))
theorem Im {ag:AU→Bool} {gs:List Good} {ms:List AB} {mo:Int}:∀(f i:Nat) (p:AU),(BD ag gs ms mo f i p).Pairwise (·≠·)
 | 0,i,p=>GM _ _ _
 | f+1,i,p=>by
  rw [Ci,List.pairwise_flatMap];have at1:∀n q,q ∈ BD ag gs ms mo f (i+1) (p.setFirst i n)→q.first i=n:=fun n q hq=>(I9 f (i+1) _ q hq i (by omega)).trans (if_pos rfl);exact ⟨fun n _=>Im f (i+1) _,(SM _ _).imp fun hne x hx y hy e=>hne (by rw [←at1 _ x hx,←at1 _ y hy,e])⟩
theorem MO (d:Int) (gs:List Good) (ms:List AB) (cs:List AC) (mo:Int):(AR d gs ms cs mo).Nodup:=Im _ _ _
theorem Ju {ag:AU→Bool} {ms:List AB} {mo:Int}:∀(f i:Nat) (p q:AU),q ∈ At ag ms mo f i p→∀k,i+f≤k→q.many k=p.many k∧q.lies k=p.lies k
 | 0,i,p,q,h,k,_=>by
  unfold At at h;split at h
  ·rw [List.mem_singleton] at h;subst h;exact ⟨rfl,rfl⟩
  ·cases h
 | f+1,i,p,q,h,k,hk=>by
  rw [CM,List.mem_flatMap] at h;obtain ⟨n,_,h⟩:=h;have key:∀b,q ∈ At ag ms mo f (i+1) (p.setMove i n b)→q.many k=p.many k∧q.lies k=p.lies k:=fun b hb=>by
   obtain ⟨b1,b2⟩:=Ju f (i+1) _ q hb k (by omega);exact ⟨b1.trans (if_neg (by omega)),b2.trans (if_neg (by omega))⟩
  unfold BU at h;rcases List.mem_append.1 h with h | h
  ·exact key _ h
  ·split at h
   ·exact key _ h
   ·cases h
theorem Jv {ag:AU→Bool} {gs:List Good} {ms:List AB} {mo:Int}:∀(f i:Nat) (p q:AU),q ∈ BD ag gs ms mo f i p→(∀k,i+f≤k→q.first k=p.first k)∧∀k,ms.length≤k→q.many k=p.many k∧q.lies k=p.lies k
 | 0,i,p,q,h=>⟨fun k _=>by rw [(FX _ _ _ _ h).1],fun k hk=>Ju _ _ _ _ h k (by omega)⟩
 | f+1,i,p,q,h=>by
  rw [Ci,List.mem_flatMap] at h;obtain ⟨n,_,h⟩:=h;obtain ⟨a1,a2⟩:=Jv f (i+1) _ q h;exact ⟨fun k hk=>(a1 k (by omega)).trans (if_neg (by omega)),a2⟩
theorem Wq {d:Int} {gs:List Good} {ms:List AB} {cs:List AC} {mo:Int} {q:AU} (h:q ∈ AR d gs ms cs mo):Gb q gs.length ms.length=q:=by
 obtain ⟨a1,a2⟩:=Jv _ _ _ _ h;cases q with
 | mk fi ma li=>
  simp only [Nat.zero_add] at a1 a2;unfold Gb;congr 1
  ·funext k;by_cases hk:k<gs.length
   ·exact if_pos hk
   ·exact (if_neg hk).trans (a1 k (by omega)).symm
  ·funext k;by_cases hk:k<ms.length
   ·exact if_pos hk
   ·exact (if_neg hk).trans (a2 k (by omega)).1.symm
  ·funext k;by_cases hk:k<ms.length
   ·exact if_pos hk
   ·exact (if_neg hk).trans (a2 k (by omega)).2.symm
theorem Wr (p:AU):Gb p 0 0=AU.zero:=by
 unfold Gb AU.zero;congr 1
theorem JS {d:Int} {gs:List Good} {ms:List AB} {cs:List AC} {mo:Int} {q:AU} (h6:ms.length≤6) (h0:0≤mo) :
  q ∈ AR d gs ms cs mo↔SJ gs ms mo q∧A7 d gs.length ms cs q=true∧Gb q gs.length ms.length=q:=
 ⟨fun h=>⟨(Lg h6 h0 h).1,(Lg h6 h0 h).2,Wq h⟩,fun ⟨L,ha,e⟩=>by
  have h1:=IX (ag:=A7 d gs.length ms cs) h6 L (by rw [e];exact ha) gs.length 0 (by omega);rw [e,Wr] at h1;exact h1⟩
end Go.Ns
namespace Go.Ns
open Go.Conc
theorem A2.cgood' {d m:Int} {gs:List Good} {ms:List AB} {cs:List AC} (b:A2 d m gs ms cs):∀x ∈ cs,0≤x.good∧x.good<(gs.length:Int):=fun x hx=>by
 obtain ⟨i,hi,e2⟩:=List.getElem_of_mem hx;have hc:=b.count i hi;unfold Du at hc;rw [C1 AC.z hi,e2] at hc;have hg:0≤x.good∧x.good≤(gs.length:Int)-1:=by
  apply Decidable.byContradiction;intro q;rw [if_pos q] at hc;cases hc
 omega
section
variable {d m:Int} {gs:List Good} {ms:List AB} {cs:List AC} {t:Nat}
end
section
variable {d m:Int} {gs:List Good} {ms:List AB} {cs:List AC} {t:Nat}
end
section
variable {d m:Int} {gs:List Good} {ms:List AB} {cs:List AC} {t:Nat}
end
section
variable {d m:Int} {gs:List Good} {ms:List AB} {cs:List AC} {t:Nat}
end
end Go.Ns
namespace Go.Ns
open Go.Conc
theorem N4 {α:Type} {l:List α} {x:α} (z:α) (h:x ∈ l):∃k,k<l.length∧l.getD k z=x:=by
 obtain ⟨k,hk,e⟩:=List.getElem_of_mem h;exact ⟨k,hk,by rw [List.getD_eq_getElem?_getD,List.getElem?_eq_getElem hk];exact e⟩
def G9 (dy:Int) (t:List (Int×Int)):Int:=(t.map fun x=>if x.1≤dy then x.2 else 0).sum
theorem KI (dy:Int) (x:Int×Int) (t:List (Int×Int)):G9 dy (x ::t)=(if x.1≤dy then x.2 else 0)+G9 dy t:=by
 unfold G9;rw [List.map_cons,List.sum_cons]
theorem KJ {dy:Int}:∀{t:List (Int×Int)},(∀x ∈ t,dy<x.1)→G9 dy t=0
 | [],_=>rfl
 | x ::t,h=>by rw [KI,if_neg (by have:=h x (by simp);omega),KJ fun y hy=>h y (by simp [hy])];rfl
theorem GP.all {c:Int}:∀{t:List (Int×Int)},GP c t→∀x ∈ t,c≤x.1
 | [],_,_,hx=>by cases hx
 | y ::t,h,x,hx=>by
  rcases List.mem_cons.1 hx with rfl | hx
  ·exact h.1
  ·have:=h.2.all x hx;have:=h.1;omega
theorem N5:∀(t:List (Int×Int)) (c n low:Int),GP c t→(0≤(runB c n low t).2↔0≤low∧0≤n+G9 c t∧∀x ∈ t,0≤n+G9 x.1 t)
 | [],c,n,low,_=>by simp only [runB,G9,List.map_nil,List.sum_nil];constructor <;> intro h <;> simp at * <;> omega
 | x ::t,c,n,low,h=>by
  have ha:=h.2.all;have hy:∀y ∈ t,G9 y.1 (x ::t)=x.2+G9 y.1 t:=fun y hy=>by rw [KI,if_pos (ha y hy)]
  have hx:G9 x.1 (x ::t)=x.2+G9 x.1 t:=by rw [KI,if_pos (Int.le_refl _)]
  unfold runB;by_cases e:c<x.1
  ·rw [if_pos e,N5 t x.1 (n+x.2) (min n low) h.2];have h0:G9 c (x ::t)=0:=KJ fun y hy=>by
    rcases List.mem_cons.1 hy with rfl | hy
    ·exact e
    ·have:=ha y hy;omega
   rw [h0];constructor
   ·rintro ⟨a1,a2,a3⟩;refine ⟨by omega,by omega,fun y hyt=>?_⟩;rcases List.mem_cons.1 hyt with rfl | hyt
    ·rw [hx];omega
    ·rw [hy y hyt];have:=a3 y hyt;omega
   ·rintro ⟨a1,a2,a3⟩;refine ⟨by omega,?_,fun y hyt=>?_⟩
    ·have:=a3 x (by simp);rw [hx] at this;omega
    ·have:=a3 y (by simp [hyt]);rw [hy y hyt] at this;omega
  ·have ec:c=x.1:=by have:=h.1;omega
   subst ec;rw [if_neg e,N5 t x.1 (n+x.2) low h.2,hx];constructor
   ·rintro ⟨a1,a2,a3⟩;refine ⟨a1,by omega,fun y hyt=>?_⟩;rcases List.mem_cons.1 hyt with rfl | hyt
    ·rw [hx];omega
    ·rw [hy y hyt];have:=a3 y hyt;omega
   ·rintro ⟨a1,a2,a3⟩;refine ⟨a1,by omega,fun y hyt=>?_⟩
    have:=a3 y (by simp [hyt]);rw [hy y hyt] at this;omega
section
variable {d m:Int} {gs:List Good} {ms:List AB} {cs:List AC}
theorem A2.day0 (b:A2 d m gs ms cs) {k:Nat} (hk:k<ms.length):1≤(ms.getD k AB.z).day:=(b.move' hk).2.2.1.1
theorem A2.low_iff2 (b:A2 d m gs ms cs) (p:AU) (g:Int):0≤(AJ ms p g d).2↔0≤p.first g.toNat∧∀k,k<ms.length→(ms.getD k AB.z).good=g→0≤(AJ ms p g (ms.getD k AB.z).day).1:=by
 have hz:∀i ∈ List.range ms.length,decide ((ms.getD i AB.z).good=g)=false→(Ex ms p g i).2=0:=fun i _ e=>by
  unfold Ex Qs;dsimp only;rw [if_neg (of_decide_eq_false e)]
 have hsub:((List.range ms.length).filter fun i=>decide ((ms.getD i AB.z).good=g)).Sublist (List.range ms.length):=List.filter_sublist;have hr:=b.pairsUp p g hsub;rw [b.stock p g];unfold K9;rw [HW hz (b.pairsUp p g (List.Sublist.refl _)),N5 _ _ _ _ hr];have hs:∀k,(AJ ms p g (ms.getD k AB.z).day).1=p.first g.toNat+G9 (ms.getD k AB.z).day (((List.range ms.length).filter fun i=>decide ((ms.getD i AB.z).good=g)).map (Ex ms p g)):=fun k=>by
  rw [MN b.up];congr 1;unfold G9;rw [List.map_map,N3 (q:=fun i=>decide ((ms.getD i AB.z).good=g)) (fun i _ e=>by
   unfold LF Qs;rw [if_neg (of_decide_eq_false e)];simp)]
  rfl
 have h0:G9 0 (((List.range ms.length).filter fun i=>decide ((ms.getD i AB.z).good=g)).map (Ex ms p g))=0:=KJ fun x hx=>by
  obtain ⟨k,hk,rfl⟩:=List.mem_map.1 hx
  have:=b.day0 (List.mem_range.1 (List.mem_filter.1 hk).1);unfold Ex;dsimp only;omega
 rw [h0];constructor
 ·rintro ⟨a1,_,a3⟩;exact ⟨a1,fun k hk e=>by rw [hs];exact a3 _ (List.mem_map.2 ⟨k,List.mem_filter.2 ⟨List.mem_range.2 hk,decide_eq_true e⟩,rfl⟩)⟩
 ·rintro ⟨a1,a3⟩;refine ⟨a1,by omega,fun x hx=>?_⟩;obtain ⟨k,hk,rfl⟩:=List.mem_map.1 hx;obtain ⟨hk1,hk2⟩:=List.mem_filter.1 hk
  have:=a3 k (List.mem_range.1 hk1) (of_decide_eq_true hk2)
  rw [hs] at this;exact this
theorem Gc {ng:Nat} {p:AU}:A7 d ng ms cs p=true↔(∀g,g<ng→0≤(AJ ms p (g:Int) d).2)∧∀x ∈ cs,x.low≤(AJ ms p x.good x.day).1∧(AJ ms p x.good x.day).1≤x.high:=by
 unfold A7;rw [Bool.and_eq_true,decide_eq_true_iff,Bool.not_eq_true',List.any_eq_false];constructor
 ·rintro ⟨h1,h2⟩;exact ⟨fun g hg=>by have:=h1 g hg;omega,fun x hx=>by have:=h2 x hx;simpa using this⟩
 ·rintro ⟨h1,h2⟩;exact ⟨fun g hg=>by have:=h1 g hg;omega,fun x hx=>by have:=h2 x hx;simpa using this⟩
theorem A2.agrees_iff2 (b:A2 d m gs ms cs) {p:AU}:A7 d gs.length ms cs p=true↔
  (∀g:Nat,g<gs.length→0≤p.first g)∧(∀k,k<ms.length→0≤(AJ ms p (ms.getD k AB.z).good (ms.getD k AB.z).day).1)∧∀x ∈ cs,x.low≤(AJ ms p x.good x.day).1∧(AJ ms p x.good x.day).1≤x.high:=by
 rw [Gc]
 have:∀g:Nat,0≤(AJ ms p (g:Int) d).2↔0≤p.first g∧∀k,k<ms.length→(ms.getD k AB.z).good=(g:Int)→0≤(AJ ms p (g:Int) (ms.getD k AB.z).day).1:=fun g=>by rw [b.low_iff2,Int.toNat_natCast]
 simp only [this];constructor
 ·rintro ⟨h1,h2⟩;refine ⟨fun g hg=>(h1 g hg).1,fun k hk=>?_,h2⟩;have hg:=(b.move' hk).2.1;obtain ⟨g,eg⟩:=Int.eq_ofNat_of_zero_le hg.1
  have:=(h1 g (by omega)).2 k hk eg
  rw [←eg] at this;exact this
 ·rintro ⟨h1,h2,h3⟩;exact ⟨fun g hg=>⟨h1 g hg,fun k hk e=>by have:=h2 k hk;rw [e] at this;exact this⟩,h3⟩
end
end Go.Ns
namespace Go.Ns
open Go.Conc
def GC (k:Int):Int:=if k=0∨k=4 then 1 else-1
def DI (y l:List Int) (k:Int):Int:=if k ∈ l then 0 else y.getD k.toNat 0
def AW (ms:List AB) (f y l:List Int) (g dy:Int):Nat→Int
 | 0=>f.getD g.toNat 0
 | k+1=>AW ms f y l g dy k+if (ms.getD k AB.z).good=g∧(ms.getD k AB.z).day≤dy then GC (ms.getD k AB.z).kind*DI y l (k:Int) else 0
theorem UB {ms:List AB} {f y l:List Int} {g dy:Int} {k:Nat} (h:(ms.getD k AB.z).good=g∧(ms.getD k AB.z).day≤dy):AW ms f y l g dy (k+1)=AW ms f y l g dy k+GC (ms.getD k AB.z).kind*DI y l (k:Int):=by
 show _+(if _ then _ else _)=_;rw [if_pos h]
theorem UC {ms:List AB} {f y l:List Int} {g dy:Int} {k:Nat} (h:¬((ms.getD k AB.z).good=g∧(ms.getD k AB.z).day≤dy)):AW ms f y l g dy (k+1)=AW ms f y l g dy k:=by
 show _+(if _ then _ else _)=_;rw [if_neg h];omega
theorem Jw {y l:List Int} (hy:∀i,0≤y.getD i 0∧y.getD i 0≤99) (k:Int):0≤DI y l k∧DI y l k≤99:=by
 unfold DI;split
 ·omega
 ·exact hy _
theorem MP (k:Int):GC k=1∨GC k= -1:=by unfold GC;split <;> simp
theorem N6 {y l:List Int} (hy:∀i,0≤y.getD i 0∧y.getD i 0≤99) (s k:Int): -99≤GC s*DI y l k∧GC s*DI y l k≤99:=by
 have:=Jw (l:=l) hy k
 rcases MP s with e | e <;> rw [e] <;> omega
theorem FY {ms:List AB} {f y l:List Int} (hf:∀i,0≤f.getD i 0∧f.getD i 0≤99) (hy:∀i,0≤y.getD i 0∧y.getD i 0≤99) (g dy:Int):∀k:Nat,-(99*(k:Int))≤AW ms f y l g dy k∧AW ms f y l g dy k≤99*(k:Int)+99
 | 0=>by have:=hf g.toNat;unfold AW;omega
 | k+1=>by
  have h1:=FY (ms:=ms) (l:=l) hf hy g dy k;have h2:=N6 (l:=l) hy (ms.getD k AB.z).kind (k:Int);unfold AW;split <;> omega
structure IsP (P:AU) (f y l:List Int) (ng nm:Nat):Prop where
 first:∀i,i<ng→P.first i=f.getD i 0
 many:∀i,i<nm→P.many i=y.getD i 0
 lies:∀i,i<nm→P.lies i=decide ((i:Int) ∈ l)
theorem IsP.real {P:AU} {f y l:List Int} {ng nm:Nat} (h:IsP P f y l ng nm) {k:Nat} (hk:k<nm):Br P k=DI y l (k:Int):=by
 unfold Br DI;rw [h.lies k hk,h.many k hk,Int.toNat_natCast];by_cases e:(k:Int) ∈ l <;> simp [e]
theorem IsP.sum {P:AU} {f y l:List Int} {ng:Nat} {ms:List AB} (h:IsP P f y l ng ms.length) (hk:∀k,0≤(ms.getD k AB.z).kind) {g dy:Int} (hg:0≤g∧g<ng):∀k,k≤ms.length→AW ms f y l g dy k=P.first g.toNat+((List.range k).map (LF ms P g dy)).sum
 | 0,_=>by rw [h.first _ (by omega)];simp [AW]
 | k+1,hl=>by
  rw [List.range_succ,List.map_append,List.sum_append,List.map_singleton,List.sum_singleton];have ih:=h.sum hk (dy:=dy) hg k (by omega);have e:LF ms P g dy k=if (ms.getD k AB.z).good=g∧(ms.getD k AB.z).day≤dy then GC (ms.getD k AB.z).kind*DI y l (k:Int) else 0:=by
   unfold LF Qs;rw [h.real (show k<ms.length by omega)];have hs:signed (ms.getD k AB.z).kind.toNat (DI y l (k:Int))=GC (ms.getD k AB.z).kind*DI y l (k:Int):=by
    unfold signed GC
    have:=hk k
    by_cases q:(ms.getD k AB.z).kind=0∨(ms.getD k AB.z).kind=4
    ·rw [if_pos (by omega),if_pos q];omega
    ·rw [if_neg (by omega),if_neg q];omega
   by_cases q1:(ms.getD k AB.z).day≤dy
   ·by_cases q2:(ms.getD k AB.z).good=g
    ·rw [if_pos q1,if_pos q2,if_pos ⟨q2,q1⟩,hs]
    ·rw [if_pos q1,if_neg q2,if_neg fun q=>q2 q.1]
   ·rw [if_neg q1,if_neg fun q=>q1 q.2]
  rw [e,AW,ih];omega
theorem IsP.stock {P:AU} {f y l:List Int} {ng:Nat} {ms:List AB} (h:IsP P f y l ng ms.length) (up:I6 ms) (hk:∀k,0≤(ms.getD k AB.z).kind) {g:Int} (hg:0≤g∧g<ng) (dy:Int):AW ms f y l g dy ms.length=(AJ ms P g dy).1:=by
 rw [h.sum hk hg ms.length (Nat.le_refl _),MN up]
end Go.Ns
namespace Go.Ns
open Go.Conc
def Pn (c x:Int):Int:=if c=0 then x else 0
def Jf {α:Type} (c:Int) (l:List α):List α:=if c=0 then l else []
theorem Vz {c x:Int} (h:c=0):Pn c x=x:=if_pos h
theorem Po {c x:Int} (h:¬c=0):Pn c x=0:=if_neg h
theorem Pp {α:Type} {c:Int} {l:List α} (h:c=0):Jf c l=l:=if_pos h
theorem LH {α:Type} {c:Int} {l:List α} (h:¬c=0):Jf c l=[]:=if_neg h
def B0 (d m:Int) (gs:List Good) (ms:List AB) (cs:List AC):Int:=if AX d m gs ms cs=0 then (if CG d gs ms cs m=true then 0 else 9) else AX d m gs ms cs
theorem Mp (a:ByteArray):(a==a)=true:=by
 cases a with
 | mk d=>show (d==d)=true;simp
def CN (a b:Int):Int:=if a=0 then b else a
theorem N7 {a b:Int} (h:a=0):CN a b=b:=if_pos h
theorem Y7 {a b:Int} (h:¬a=0):CN a b=a:=if_neg h
theorem N8 {a b:Int} (h:¬a=0):¬CN a b=0:=by rw [Y7 h];exact h
theorem FQ.leL {h ha h1:GH} {v w:Value} (l:h.Le ha) (g:FQ ha h1 v w):FQ h h1 v w:=
 ⟨fun b o hb hv=>g.1 b o (l.get hb) hv,g.2.imp id fun ⟨⟨r,e,hr⟩,k⟩=>⟨⟨r,e,l.nothing hr⟩,fun b o hb=>k b o (l.get hb)⟩⟩
section
variable {d m:Int} {gs:List Good} {ms ms2:List AB} {cs cs2:List AC}
theorem Y8 (h:¬AX d m gs ms cs=0):B0 d m gs ms cs=AX d m gs ms cs:=if_neg h
theorem Y9 (h:AX d m gs ms cs=0) (h2:CG d gs ms cs m=false):B0 d m gs ms cs=9:=by unfold B0;rw [if_pos h,if_neg (by rw [h2];decide)]
theorem KK (h:AX d m gs ms cs=0) (h2:CG d gs ms cs m=true):B0 d m gs ms cs=0:=by unfold B0;rw [if_pos h,if_pos h2]
theorem LI (h:¬AX d m gs ms cs=0):¬B0 d m gs ms cs=0:=by rw [Y8 h];exact h
theorem LJ (h:AX d m gs ms cs=0) (h2:CG d gs ms cs m=false):¬B0 d m gs ms cs=0:=by rw [Y9 h h2];decide
theorem Mq {α:Type}:∀{l l1:List α},l.Nodup→(∀x ∈ l,x ∈ l1)→l.length≤l1.length
 | [],_,_,_=>Nat.zero_le _
 | a ::t,l1,hn,hs=>by
  obtain ⟨s,u,rfl⟩:=List.append_of_mem (hs a (List.mem_cons_self ..))
  have:=Mq (l1:=s++u) (List.nodup_cons.1 hn).2 fun x hx=>by
   have h1:=hs x (List.mem_cons_of_mem _ hx);rw [List.mem_append] at h1 ⊢;rcases h1 with h | h
   ·exact .inl h
   ·rcases List.mem_cons.1 h with rfl | h
    ·exact absurd hx (List.nodup_cons.1 hn).1
    ·exact .inr h
  simp only [List.length_append,List.length_cons] at this ⊢;omega
end
end Go.Ns
namespace Go.Ns
open Go.Conc
def SN (ms:List AB) (f y l:List Int) (c:AC):AC:={ c with low:=min c.low (max 0 (AW ms f y l c.good c.day ms.length)),high:=max c.high (max 0 (AW ms f y l c.good c.day ms.length)) }
def DD (ms:List AB) (f y l:List Int) (cs:List AC) (k:Nat):List AC:=(cs.take k).map (SN ms f y l)
theorem SO {ms:List AB} {f y l:List Int} {cs:List AC} {k:Nat} (hk:k<cs.length):DD ms f y l cs (k+1)=DD ms f y l cs k++[SN ms f y l (cs.getD k AC.z)]:=by
 unfold DD;rw [Fl AC.z hk,List.map_append];rfl
theorem UD (ms:List AB) (f y l:List Int) (cs:List AC) (k:Nat):(DD ms f y l cs k).length≤k:=by
 unfold DD;rw [List.length_map,List.length_take];omega
abbrev N9 (ms:List AB) (f y l:List Int) (cs:List AC):List AC:=DD ms f y l cs cs.length
theorem KL (ms:List AB) (f y l:List Int) (cs:List AC):(N9 ms f y l cs).length=cs.length:=by
 unfold N9 DD;rw [List.length_map,List.length_take];omega
def Cl (ms:List AB) (cs:List AC) (f y l:List Int):Bool:=decide (∀k,k<cs.length→(cs.getD k AC.z).low≤AW ms f y l (cs.getD k AC.z).good (cs.getD k AC.z).day ms.length∧AW ms f y l (cs.getD k AC.z).good (cs.getD k AC.z).day ms.length≤(cs.getD k AC.z).high) &&
 decide (∀k,k<ms.length→¬AW ms f y l (ms.getD k AB.z).good (ms.getD k AB.z).day ms.length<0)
section
variable {ms:List AB} {cs:List AC} {f y l:List Int}
theorem Ws {k:Nat} (hk:k<cs.length) (h:¬((cs.getD k AC.z).low≤AW ms f y l (cs.getD k AC.z).good (cs.getD k AC.z).day ms.length∧AW ms f y l (cs.getD k AC.z).good (cs.getD k AC.z).day ms.length≤(cs.getD k AC.z).high)):Cl ms cs f y l=false:=by
 unfold Cl;rw [decide_eq_false (fun q=>h (q k hk))];rfl
theorem Wt {k:Nat} (hk:k<ms.length) (h:AW ms f y l (ms.getD k AB.z).good (ms.getD k AB.z).day ms.length<0):Cl ms cs f y l=false:=by
 unfold Cl;rw [Bool.and_eq_false_iff];exact .inr (decide_eq_false fun q=>q k hk h)
theorem Wu {k k2:Nat} (h:∀j,j<k→(cs.getD j AC.z).low≤AW ms f y l (cs.getD j AC.z).good (cs.getD j AC.z).day ms.length∧AW ms f y l (cs.getD j AC.z).good (cs.getD j AC.z).day ms.length≤(cs.getD j AC.z).high) (hk:cs.length≤k)
  (h2:∀j,j<k2→¬AW ms f y l (ms.getD j AB.z).good (ms.getD j AB.z).day ms.length<0) (hk2:ms.length≤k2):Cl ms cs f y l=true:=by
 unfold Cl;rw [decide_eq_true (fun j hj=>h j (by omega)),decide_eq_true (fun j hj=>h2 j (by omega))];rfl
end
theorem UE {ms:List AB} {cs:List AC} {f y l:List Int} {F:Int} (h:∀k,k<cs.length→0≤(cs.getD k AC.z).good∧(cs.getD k AC.z).good<F) (k:Nat) :
  ∀j,j<(DD ms f y l cs k).length→0≤((DD ms f y l cs k).getD j AC.z).good∧((DD ms f y l cs k).getD j AC.z).good<F:=fun j hj=>by
 have hx:=Cx (d:=AC.z) hj;have hx2:(DD ms f y l cs k).getD j AC.z ∈ (cs.take k).map (SN ms f y l):=hx;obtain ⟨c,hc,e⟩:=List.mem_map.1 hx2;obtain ⟨i,hi,rfl⟩:=N4 AC.z (List.mem_of_mem_take hc);rw [←e];exact h i hi
section
variable {d m:Int} {gs:List Good} {ms:List AB} {cs:List AC}
theorem LK (h0:0≤m) (bits:Int):∀k,((Ar ms m bits k).length:Int)≤m
 | 0=>by simp [Ar];exact h0
 | k+1=>by
  have ih:=LK h0 bits k;unfold Ar;split
  ·rename_i q;have:=q.2.2;rw [List.length_append,List.length_singleton];omega
  ·exact ih
theorem A2.trues (b:A2 d m gs ms cs) {f y l:List Int} (hf:∀i,0≤f.getD i 0∧f.getD i 0≤99) (hy:∀i,0≤y.getD i 0∧y.getD i 0≤99):A2 d m gs ms (N9 ms f y l cs):=by
 refine ⟨b.days,b.most,b.glen,b.good,b.mlen,b.move,by rw [KL];exact b.clen,fun k hk=>?_⟩;rw [KL] at hk;have e:(N9 ms f y l cs).getD k AC.z=SN ms f y l (cs.getD k AC.z):=by
  unfold N9 DD;rw [List.take_length,List.getD_eq_getElem?_getD,List.getElem?_map,List.getD_eq_getElem?_getD,List.getElem?_eq_getElem hk];rfl
 have z:=b.count k hk;unfold Du at z ⊢;rw [e];have hr:=FY (ms:=ms) (l:=l) hf hy (cs.getD k AC.z).good (cs.getD k AC.z).day ms.length;have h6:=b.mlen;split at z
 ·cases z
 split at z
 ·cases z
 rename_i q1 q2
 rw [if_neg (by exact q1),if_neg];unfold SN;dsimp only;omega
theorem LL (b:A2 d m gs ms cs) (picks:List Int) (bits:Int):IsP (A8 d m gs ms cs (Bn gs picks) (B8 gs ms picks) (Ar ms m bits ms.length)) (Bn gs picks) (B8 gs ms picks) (Ar ms m bits ms.length) gs.length ms.length:=by
 have h:=Qu b picks bits;have hl:=(EP (ms:=ms) (m:=m) (bits:=bits) ms.length (Nat.le_refl _)).1;exact ⟨fun i hi=>Qv h (by simpa [Bn] using hi),fun i hi=>SF h (by simpa [B8] using hi),fun i _=>SG h (fun x hx=>(hl x hx).1) i⟩
theorem ZA (b:A2 d m gs ms cs) (picks:List Int) (bits:Int) (h:Cl ms cs (Bn gs picks) (B8 gs ms picks) (Ar ms m bits ms.length)=true) :
  A8 d m gs ms cs (Bn gs picks) (B8 gs ms picks) (Ar ms m bits ms.length) ∈ AR d gs ms cs m:=by
 have I:=LL b picks bits;have hh:=Qu b picks bits;obtain ⟨hl1,hl2⟩:=EP (ms:=ms) (m:=m) (bits:=bits) ms.length (Nat.le_refl _);have hF:∀i,i<gs.length→(Bn gs picks).getD i 0=Ga gs picks i:=fun i hi=>by unfold Bn;simp [List.getD_eq_getElem?_getD,hi]
 have hY:∀i,i<ms.length→(B8 gs ms picks).getD i 0=GL gs ms picks i:=fun i hi=>by unfold B8;simp [List.getD_eq_getElem?_getD,hi]
 have hk:=fun k=>(b.kind k).1;generalize hP:A8 d m gs ms cs (Bn gs picks) (B8 gs ms picks) (Ar ms m bits ms.length)=P at I ⊢;unfold Cl at h;rw [Bool.and_eq_true,decide_eq_true_iff,decide_eq_true_iff] at h;refine (JS b.mlen b.most.1).2 ⟨⟨fun i hi=>?_,fun i hi=>?_,fun i hi hq=>?_,?_⟩,b.agrees_iff2.2 ⟨fun i hi=>?_,fun k hkk=>?_,fun x hx=>?_⟩,?_⟩
 ·rw [I.first i hi,hF i hi];have:=b.gfew i;exact HX (by omega)
 ·rw [I.many i hi,hY i hi];have:=b.few i;exact HX (by omega)
 ·rw [I.lies i hi,decide_eq_true_iff] at hq;exact (hl1 _ hq).2.2
 ·have h1:Au P ms.length=((List.range ms.length).filter fun (i:Nat)=>decide ((i:Int) ∈ Ar ms m bits ms.length)).length:=by
   rw [←I7];congr 1;refine List.filter_congr fun i hi=>?_;exact I.lies i (List.mem_range.1 hi)
  have h2:((List.range ms.length).filter fun (i:Nat)=>decide ((i:Int) ∈ Ar ms m bits ms.length)).length≤(Ar ms m bits ms.length).length:=by
   have:=Mq (l:=((List.range ms.length).filter fun (i:Nat)=>decide ((i:Int) ∈ Ar ms m bits ms.length)).map fun (i:Nat)=>(i:Int)) (l1:=Ar ms m bits ms.length)
    (List.pairwise_map.2 ((List.nodup_range.filter _).imp fun q e=>q (by omega))) fun x hx=>by
     obtain ⟨i,hi,rfl⟩:=List.mem_map.1 hx;exact of_decide_eq_true (List.mem_filter.1 hi).2
   rwa [List.length_map] at this
  have h3:=LK b.most.1 (ms:=ms) bits ms.length;rw [h1];omega
 ·rw [I.first i hi];have:=(DM (Nw b picks)).2 i;omega
 ·rw [←I.stock b.up hk (by have:=(b.move' hkk).2.1;omega)];have:=h.2 k hkk;omega
 ·obtain ⟨k,hkc,rfl⟩:=N4 AC.z hx;have hg:=b.cgood' _ (Cx (d:=AC.z) hkc);rw [←I.stock b.up hk (by omega)];exact h.1 k hkc
 ·rw [←hP];have hlf:(Bn gs picks).length=gs.length:=by simp [Bn]
  have hly:(B8 gs ms picks).length=ms.length:=by simp [B8]
  unfold A8;rw [if_pos hh];have e1:=IV ((AU.zero.setFirsts (Bn gs picks)).setManys (B8 gs ms picks)) (Ar ms m bits ms.length) (Ar ms m bits ms.length).length;have e2:=fun i=>MK ((AU.zero.setFirsts (Bn gs picks)).setManys (B8 gs ms picks)) (Ar ms m bits ms.length) i (fun x hx=>(hl1 x hx).1);unfold FB;generalize hQ:Df ((AU.zero.setFirsts (Bn gs picks)).setManys (B8 gs ms picks)) (Ar ms m bits ms.length) (Ar ms m bits ms.length).length=Q at e1 e2 ⊢;obtain ⟨f,y,l⟩:=Q;obtain ⟨rfl,rfl⟩:=e1;unfold Gb;congr 1
  ·funext k;show (if k<gs.length then (if k<(Bn gs picks).length then _ else (0:Int)) else 0)=if k<(Bn gs picks).length then _ else (0:Int)
   rw [hlf];split
   ·rfl
   ·rfl
  ·funext k;show (if k<ms.length then (if k<(B8 gs ms picks).length then _ else (0:Int)) else 0)=if k<(B8 gs ms picks).length then _ else (0:Int)
   rw [hly];split
   ·rfl
   ·rfl
  ·funext k;dsimp only;by_cases hkk:k<ms.length
   ·rw [if_pos hkk]
   ·have:¬(k:Int) ∈ Ar ms m bits ms.length:=fun e=>by have:=(hl1 _ e).2.1;omega
    have e3:l k=(decide ((k:Int) ∈ Ar ms m bits ms.length) || false):=e2 k;rw [decide_eq_false this] at e3;rw [if_neg hkk];exact e3.symm
end
end Go.Ns
namespace Go.Ns
open Go.Conc
theorem Wv {α:Type} {l:List α} {x z:α} {k:Nat} (h:k<l.length):(l++[x]).getD k z=l.getD k z:=by
 rw [List.getD_eq_getElem?_getD,List.getElem?_append_left h,←List.getD_eq_getElem?_getD]
theorem Ww {α:Type} {l:List α} {x z:α}:(l++[x]).getD l.length z=x:=by
 rw [List.getD_eq_getElem?_getD,List.getElem?_append_right (Nat.le_refl _)];simp
section
variable {d m:Int} {gs:List Good} {ms:List AB} {cs:List AC} {kd g n:Int}
end
end Go.Ns
namespace Go.Ns
open Go.Conc
def chk6:Bool:=(List.range 7).all fun n=>(List.range (2 ^ n)).all fun (x:Nat)=>(List.range (2 ^ n)).all fun (y:Nat)=>Fo (A4 (x:Int) n) (A4 (y:Int) n)==decide (LD (A4 (x:Int) n)<LD (A4 (y:Int) n))
theorem Wx:chk6=true:=by kernel_rfl
theorem Wy {n x y:Nat} (hn:n≤6) (hx:x<2 ^ n) (hy:y<2 ^ n):Fo (A4 (x:Int) n) (A4 (y:Int) n)=decide (LD (A4 (x:Int) n)<LD (A4 (y:Int) n)):=by
 have h:=Wx;unfold chk6 at h;rw [List.all_eq_true] at h;have h2:=List.all_eq_true.1 (List.all_eq_true.1 (h n (List.mem_range.2 (by omega))) x (List.mem_range.2 hx)) y (List.mem_range.2 hy);exact eq_of_beq h2
section
variable {d m:Int} {gs:List Good} {ms:List AB} {cs:List AC}
theorem SP (b:A2 d m gs ms cs) {q:AU} (hq:q ∈ AR d gs ms cs m) {l:List Int} (hl:l.Pairwise (· < ·)) (hm:∀x,x ∈ l↔∃k:Nat,x=(k:Int)∧k<ms.length∧q.lies k=true):DA d m gs ms cs=0∧Fo l (FE d m gs ms cs)=false:=by
 obtain ⟨mask,hmask,hb,hx⟩:=Wo b b.most.1 hq;obtain rfl:l=A4 (mask:Int) ms.length:=asc_ext hl Y5 fun x=>by
  rw [hm x];constructor
  ·rintro ⟨k,rfl,hk⟩;exact (hb k).2 hk
  ·intro hx;obtain ⟨k,rfl,h1,h2⟩:=Pm hx;exact ⟨k,rfl,(hb k).1 hx⟩
 have hbb:DA d m gs ms cs=0:=by
  rw [IU (D9 b),if_neg];intro e;rw [List.eq_nil_of_length_eq_zero e] at hx;cases hx
 refine ⟨hbb,?_⟩;unfold FE;rw [if_pos hbb];generalize hB:C2 d gs ms cs (2 ^ ms.length)=B at hx;obtain ⟨c,l,rfl⟩:∃c l,B=c ::l:=by
  cases B with
  | nil=>cases hx
  | cons c l=>exact ⟨c,l,rfl⟩
 have hk:∀x ∈ c ::l,∃k:Nat,k<2 ^ ms.length∧x=A4 (k:Int) ms.length:=fun x hx=>by
  rw [←hB] at hx;obtain ⟨k,h1,h2,_⟩:=MM.1 hx;exact ⟨k,h1,h2⟩
 have H:∀x ∈ c ::l,∀y ∈ c ::l,Fo x y=decide (LD x<LD y):=fun x hx y hy=>by
  obtain ⟨i,hi,rfl⟩:=hk x hx;obtain ⟨j,hj,rfl⟩:=hk y hy;exact Wy b.mlen hi hj
 obtain ⟨h1,h2⟩:=N1 l c H;show Fo _ (F9 c l)=false;rw [H _ hx _ h1];exact decide_eq_false (by have:=h2 _ hx;omega)
theorem ZB (b:A2 d m gs ms cs) {q:AU} (hq:q ∈ AR d gs ms cs m) {g:Int} (hg:0≤g∧g<gs.length):0≤(AJ ms q g d).2∧(AJ ms q g d).2≤(AJ ms q g d).1:=by
 have hl:=(Gc.1 ((JS b.mlen b.most.1).1 hq).2.1).1 g.toNat (by omega);rw [Int.toNat_of_nonneg hg.1] at hl;have hr:=Nv (K9 ms q g) 0 (q.first g.toNat) (q.first g.toNat);rw [←b.stock q g] at hr;exact ⟨hl,hr.2⟩
theorem UF (b:A2 d m gs ms cs) (picks:List Int) (bits:Int) (hq:A8 d m gs ms cs (Bn gs picks) (B8 gs ms picks) (Ar ms m bits ms.length) ∈ AR d gs ms cs m) :
  DA d m gs ms cs=0∧Fo (Ar ms m bits ms.length) (FE d m gs ms cs)=false:=by
 obtain ⟨h1,h2⟩:=EP (ms:=ms) (m:=m) (bits:=bits) ms.length (Nat.le_refl _);refine SP b hq h2 fun x=>⟨fun hx=>?_,fun ⟨k,e,hk,hl⟩=>?_⟩
 ·have:=h1 x hx
  refine ⟨x.toNat,by omega,by omega,?_⟩;rw [(LL b picks bits).lies _ (by omega),Int.toNat_of_nonneg this.1];exact decide_eq_true hx
 ·rw [(LL b picks bits).lies k hk] at hl;rw [e];exact of_decide_eq_true hl
theorem ZC (b:A2 d m gs ms cs) {picks:List Int} {bits:Int} {f y l:List Int} (ef:f=Bn gs picks) (ey:y=B8 gs ms picks) (el:l=Ar ms m bits ms.length) (h:Cl ms cs f y l=true) :
  A8 d m gs ms cs f y l ∈ AR d gs ms cs m∧IsP (A8 d m gs ms cs f y l) f y l gs.length ms.length∧Aw d m gs ms cs f y l=0∧(DA d m gs ms cs=0∧Fo l (FE d m gs ms cs)=false)∧∀k,k<ms.length→(k:Int) ∈ l→(ms.getD k AB.z).kind=0:=by
 subst ef ey el;have hq:=ZA b picks bits h;exact ⟨hq,LL b picks bits,Qu b picks bits,UF b picks bits hq,fun k hk hx=>(UA hk).1 ((EP (ms:=ms) (m:=m) (bits:=bits) ms.length (Nat.le_refl _)).1 _ hx).2.2⟩
end
end Go.Ns
namespace Go.Ns
open Go.Conc
theorem ZD {A B:Prop} [Decidable A] [Decidable B] (h:A↔B):(decide A !=decide B)=false:=by
 have e:decide A=decide B:=decide_eq_decide.2 h;rw [e];simp
theorem UG (f:Nat→Int):∀(k:Nat) (b:Int),(Db f k b).getD 0=(((List.range k).filter fun i=>decide (f i=b)).length:Int)
 | 0,b=>by simp [Db]
 | k+1,b=>by
  rw [List.range_succ,List.filter_append,List.length_append];unfold Db;by_cases e:b=f k
  ·rw [if_pos e,UG f k (f k),←e];simp [e]
  ·rw [if_neg e,UG f k b,List.filter_cons,if_neg (by simpa using fun q=>e q.symm)];simp
theorem ZE (f:Nat→Int):∀(n:Nat) (b:Int),(Db f n b).getD 0≤FU f n
 | 0,b=>by simp [Db,FU]
 | k+1,b=>by
  have ih:=ZE f k b;by_cases e:b=f k
  ·subst e;unfold FU;omega
  ·have:Db f (k+1) b=Db f k b:=by
    show (if b=f k then _ else _)=_;rw [if_neg e]
   rw [this];unfold FU;omega
theorem top_pos (f:Nat→Int) {n:Nat} (h:0<n):1≤FU f n:=by
 obtain ⟨k,rfl⟩:∃k,n=k+1:=⟨n-1,by omega⟩;have h1:Db f (k+1) (f k)=some ((Db f k (f k)).getD 0+1):=by
  show (if f k=f k then _ else _)=_;rw [if_pos rfl]
 have h2:=HV f k (f k);unfold FU;rw [h1];show 1≤max _ ((Db f k (f k)).getD 0+1);omega
theorem Qw (w:Nat→Int) (n:Int):∀K:Nat,((DE w n K).1= -1∧(DE w n K).2=n∧∀k,k<K→n≤w k)∨∃k,k<K∧(DE w n K).1=(k:Int)∧(DE w n K).2=w k∧w k<n
 | 0=>.inl ⟨rfl,rfl,fun k hk=>by omega⟩
 | K+1=>by
  unfold DE;by_cases h:w K<(DE w n K).2
  ·rw [if_pos h];refine .inr ⟨K,by omega,rfl,rfl,?_⟩;rcases Qw w n K with ⟨_,e,_⟩ | ⟨k,_,_,e,hk⟩
   ·rw [e] at h;exact h
   ·rw [e] at h;omega
  ·rw [if_neg h];rcases Qw w n K with ⟨e1,e2,e3⟩ | ⟨k,hk,e1,e2,e3⟩
   ·refine .inl ⟨e1,e2,fun k hk=>?_⟩;by_cases e:k=K
    ·subst e;omega
    ·exact e3 k (by omega)
   ·exact .inr ⟨k,by omega,e1,e2,e3⟩
theorem SQ {α:Type} (z:α) (p:α→Bool) (l:List α):(l.filter p).length=((List.range l.length).filter fun i=>p (l.getD i z)).length:=by
 have e:l=(List.range l.length).map fun i=>l.getD i z:=by
  refine List.ext_getElem (by simp) fun i h1 h2=>?_;simp [List.getD_eq_getElem?_getD,h1]
 conv=>lhs;rw [e]
 rw [List.filter_map,List.length_map];rfl
section
variable {d m:Int} {gs:List Good} {ms:List AB} {cs:List AC}
structure AskedOK (d m:Int) (gs:List Good) (ms:List AB) (cs:List AC):Prop where
 ab:F3 d m gs ms cs=0
 g1: -1≤Bu d m gs ms cs∧Bu d m gs ms cs≤(gs.length:Int)-1
 w1:1≤Ba d m gs ms cs∧Ba d m gs ms cs≤Dc d m gs ms cs
 eq:Bu d m gs ms cs<0↔Ba d m gs ms cs=Dc d m gs ms cs
theorem Hz (b:A2 d m gs ms cs):Dc d m gs ms cs=((AR d gs ms cs m).length:Int):=by unfold Dc;rw [if_pos (D9 b)]
theorem asked (b:A2 d m gs ms cs) (hne:AR d gs ms cs m≠[]):AskedOK d m gs ms cs:=by
 have h0:¬(AR d gs ms cs m).length=0:=fun e=>hne (List.eq_nil_of_length_eq_zero e);have ab:F3 d m gs ms cs=0:=by unfold F3;rw [Wp b (fun x hx=>by cases hx),if_neg h0]
 have hw:∀k,1≤E0 d m gs ms cs k:=fun k=>top_pos _ (by omega);rcases Qw (E0 d m gs ms cs) ((AR d gs ms cs m).length:Int) gs.length with ⟨e1,e2,e3⟩ | ⟨k,hk,e1,e2,e3⟩
 ·have eg:Bu d m gs ms cs= -1:=by unfold Bu;rw [if_pos ab,e1]
  have ew:Ba d m gs ms cs=((AR d gs ms cs m).length:Int):=by unfold Ba;rw [if_pos ab,e2]
  exact ⟨ab,by omega,by rw [ew,Hz b];omega,by rw [eg,ew,Hz b];simp⟩
 ·have eg:Bu d m gs ms cs=(k:Int):=by unfold Bu;rw [if_pos ab,e1]
  have ew:Ba d m gs ms cs=E0 d m gs ms cs k:=by unfold Ba;rw [if_pos ab,e2]
  exact ⟨ab,by omega,by have:=hw k;rw [ew,Hz b];omega,by rw [eg,ew,Hz b];constructor <;> intro h <;> omega⟩
theorem UH (b:A2 d m gs ms cs) (h4:cs.length<4) {q:AU} (hq:q ∈ AR d gs ms cs m) {g:Int} (hg:0≤g∧g<(gs.length:Int)) (hG:Bu d m gs ms cs=g∨Bu d m gs ms cs<0) {M:Int} (hM:M=(AJ ms q g d).1) :
  A2 d m gs ms (cs++[⟨g,d,M,M⟩])∧CG d gs ms (cs++[⟨g,d,M,M⟩]) m=true∧1≤Dc d m gs ms (cs++[⟨g,d,M,M⟩])∧Dc d m gs ms (cs++[⟨g,d,M,M⟩])≤Ba d m gs ms cs:=by
 have hne:AR d gs ms cs m≠[]:=fun e=>by rw [e] at hq;cases hq
 have h0:¬(AR d gs ms cs m).length=0:=fun e=>hne (List.eq_nil_of_length_eq_zero e);have hdy:=b.days;have hl:=ZB b hq hg;obtain ⟨iq,_,eq⟩:=N4 AU.zero hq;have hr:=F2 (ms:=ms) (g:=g) (dy:=d) (FT b m iq) b.mlen;rw [eq] at hr;have b2:A2 d m gs ms (cs++[⟨g,d,M,M⟩]):=by
  refine ⟨b.days,b.most,b.glen,b.good,b.mlen,b.move,by simp;omega,fun k hk=>?_⟩;rw [List.length_append,List.length_singleton] at hk;by_cases e:k<cs.length
  ·have:=b.count k e
   unfold Du at this ⊢;rw [Wv e];exact this
  ·obtain rfl:k=cs.length:=by omega
   unfold Du;rw [Ww];dsimp only;rw [if_neg (by omega),if_neg (by omega)]
 have hin:∀p,p ∈ AR d gs ms (cs++[⟨g,d,M,M⟩]) m↔p ∈ AR d gs ms cs m∧(AJ ms p g d).1=M:=fun p=>by
  rw [JS b.mlen b.most.1,JS b.mlen b.most.1,Gc,Gc];constructor
  ·rintro ⟨L,⟨h1,h2⟩,h3⟩;have hc:=h2 ⟨g,d,M,M⟩ (by simp);dsimp only at hc;exact ⟨⟨L,⟨h1,fun x hx=>h2 x (by simp [hx])⟩,h3⟩,by omega⟩
  ·rintro ⟨⟨L,⟨h1,h2⟩,h3⟩,e⟩;refine ⟨L,⟨h1,fun x hx=>?_⟩,h3⟩;rcases List.mem_append.1 hx with hx | hx
   ·exact h2 x hx
   ·obtain rfl:=List.mem_singleton.1 hx;dsimp only;omega
 have hq2:=(hin q).2 ⟨hq,hM.symm⟩;have hne2:AR d gs ms (cs++[⟨g,d,M,M⟩]) m≠[]:=fun e=>by rw [e] at hq2;cases hq2
 have hp2:=List.length_pos_iff.2 hne2;have hA:=asked b hne;have hcnt:((AR d gs ms (cs++[⟨g,d,M,M⟩]) m).length:Int)≤E0 d m gs ms cs g.toNat:=by
  have h1:=Mq (l:=AR d gs ms (cs++[⟨g,d,M,M⟩]) m) (l1:=(AR d gs ms cs m).filter fun p=>decide ((AJ ms p g d).1=M)) (MO ..) fun p hp=>by
   have:=(hin p).1 hp
   exact List.mem_filter.2 ⟨this.1,decide_eq_true this.2⟩
  rw [SQ AU.zero] at h1;have h2:=ZE (fun i=>(AJ ms ((AR d gs ms cs m).getD ((i:Int)).toNat AU.zero) (g.toNat:Int) d).1) (AR d gs ms cs m).length M;rw [UG,Int.toNat_of_nonneg hg.1] at h2;unfold E0;rw [Int.toNat_of_nonneg hg.1];have h3:((List.range (AR d gs ms cs m).length).filter fun i=>decide ((AJ ms ((AR d gs ms cs m).getD i AU.zero) g d).1=M)).length=((List.range (AR d gs ms cs m).length).filter fun (i:Nat)=>decide ((AJ ms ((AR d gs ms cs m).getD ((i:Int)).toNat AU.zero) g d).1=M)).length:=rfl;omega
 have hle:((AR d gs ms (cs++[⟨g,d,M,M⟩]) m).length:Int)≤(AR d gs ms cs m).length:=by
  have:=Mq (MO d gs ms (cs++[⟨g,d,M,M⟩]) m) fun p hp=>((hin p).1 hp).1
  omega
 refine ⟨b2,Vp hne2,by rw [Hz b2];omega,?_⟩;rw [Hz b2];rcases Qw (E0 d m gs ms cs) ((AR d gs ms cs m).length:Int) gs.length with ⟨e1,e2,e3⟩ | ⟨k,hk,e1,e2,e3⟩
 ·have ew:Ba d m gs ms cs=((AR d gs ms cs m).length:Int):=by unfold Ba;rw [if_pos hA.ab,e2]
  rw [ew];exact hle
 ·have eg:Bu d m gs ms cs=(k:Int):=by unfold Bu;rw [if_pos hA.ab,e1]
  have ew:Ba d m gs ms cs=E0 d m gs ms cs k:=by unfold Ba;rw [if_pos hA.ab,e2]
  obtain rfl:k=g.toNat:=by rcases hG with h | h <;> omega
  rw [ew];exact hcnt
end
end Go.Ns
namespace Go.Ns
open Go.Conc
section
variable {P:Program} {Post:Value→World→Prop}
def V0 (P:Program) (Post:Value→World→Prop):Wk P:=⟨true,Dw P Post,Jh⟩
theorem Qx:Np (V0 P Post):=⟨Post,rfl⟩
theorem Wz {f:FuncId} {fn:Func} {c:Code} {args:Array Value} {h:GH} {R:Value→GH→Prop} (hf:P.funcs[f]? =some fn) (hb:fn.body=some c) (hsz:args.size≤fn.ntmps) (hin:P.inits.idxOf? f=none) (hpost:∀v h',R v h'→∀w,Dt w h'→Post v w)
  (x:Tr ⟨V0 P Post,f,none,fn.ntmps⟩ c (fun i=>args.getD i undef) [] h (fun e σ ds h'=>(e=.normal∨e=.ret)∧GR P fn σ R ds h')):Dw P Post (G (Frame.enter P f args .normal) []) h:=by
 have e0:Frame.enter P f args .normal=CU (Frame.enter P f args .normal) (args++Array.replicate (fn.ntmps-args.size) undef) [] [.code c]:=by
  simp [Frame.enter,CU,hf,hb]
 rw [e0];let L:Lv:=fun j t ds h'=>(j=none∨j=some .ret)∧∃σ,Bi t fn.ntmps σ∧GR P fn σ R ds h';have fin:∀σ ds h' t k,Bi t fn.ntmps σ→GR P fn σ R ds h'→(V0 P Post).K (G (Dj (Frame.enter P f args .normal) t ds k) []) h':=by
  intro σ ds h' t k hs ho;refine L6 (W:=V0 P Post) (R:=R) hf (b:=Frame.enter P f args .normal) rfl (fun t k v h h' hr hrun=>?_) ds h' t k hs ho;refine TE rfl fun w fw=>?_;obtain ⟨w',es,r1,r2⟩:=hrun w fw;refine ⟨v,w',seen P f es++ #[],h',?_,r2.sub (es':=seen P f es++ #[]) fun e he=>?_,hpost v h' hr w' r2.fits⟩
  ·rw [J0];unfold unwind;have hfn:(Dj (Frame.enter P f args .normal) t [] k).fn=f:=rfl;have hk:(Dj (Frame.enter P f args .normal) t [] k).kind=.normal:=rfl;have hm:(Dj (Frame.enter P f args .normal) t [] k).mode=.returning:=rfl;have hd:(Dj (Frame.enter P f args .normal) t [] k).defers=[]:=rfl;have ht:(Dj (Frame.enter P f args .normal) t [] k).tmps=t:=rfl;simp only [hd,hm,hfn,hf,ht,r1,GStep.after,doReturn,hk,hin];rfl
  ·rw [Array.append_empty] at he;exact mem_seen he
 refine x (Frame.enter P f args .normal) [] [] L _ rfl rfl ⟨?_,?_,?_⟩ ⟨by simp;omega,fun i=>?_⟩ ?_
 ·rintro t ds h' ⟨_,σ,hs,ho⟩;exact Wk.go (Dj (Frame.enter P f args .normal) t ds []) (fun w=>by rw [A5];simp [stepG.exec,CU,Dj,G,Frame.enter]) (fin σ ds h' t [] hs ho)
 ·rintro t ds h' k ⟨_,σ,hs,ho⟩;exact Wk.go (Dj (Frame.enter P f args .normal) t ds (.code .ret ::k)) (fun w=>by rw [A5];simp [stepG.exec,CU,Dj,G,Frame.enter]) (fin σ ds h' t _ hs ho)
 ·rintro id t ds h' k _ ⟨h1 | h1,_⟩ <;> cases h1
 ·by_cases hi:i<args.size
  ·simp [Array.getD_eq_getD_getElem?,Array.getElem?_append_left hi]
  ·simp only [Array.getD_eq_getD_getElem?];rw [Array.getElem?_append_right (by omega),Array.getElem?_eq_none (show args.size≤i by omega),Array.getElem?_replicate];split <;> rfl
 ·rintro e σ ds h' ⟨he,ho⟩ t' ht';rcases he with rfl | rfl
  ·exact Wk.go (Dj (Frame.enter P f args .normal) t' ds []) (fun w=>by rw [A5];simp [stepG.exec,CU,Dj,G,Frame.enter]) (fin σ ds h' t' [] ht' ho)
  ·exact ⟨.inr rfl,σ,ht',ho⟩
def GH.of (W:World):GH:=fun b=>(W.heap[b]?).map fun o=>(false,o)
theorem GH.of_some {W:World} {b:Nat} {o:Obj} (h:W.heap[b]? =some o):GH.of W b=some (false,o):=by unfold GH.of;rw [h];rfl
theorem fits_of (W:World):Dt W (GH.of W):=fun b p o h=>by
 unfold GH.of at h;cases e:W.heap[b]? with
 | none=>rw [e] at h;cases h
 | some x=>rw [e] at h;cases h;rfl
theorem kept_of {W w:World} {h:GH} (l:(GH.of W).Le h) (f:Dt w h) {b:Nat} {o:Obj} (hb:W.heap[b]? =some o):w.heap[b]? =some o:=f b _ _ (l.keep (GH.of_some hb) rfl)
theorem UI {g:Goroutine} {W:World} (hg:Dw P Post g (GH.of W)):Bf P (H9 Post W.os W.output) (solo g W) #[]:=by
 have hno:∀k a,touchAt (#[]:Trace) k=some a→False:=fun k a h=>by
  obtain ⟨op,h1,_⟩:=touch_of h;simp at h1
 refine hg #[g] W none (fun _=>0) #[] ⟨rfl,?_,fits_of W,?_,?_,fun k a b hk=>(hno k a hk).elim,?_,fun k a hk=>(hno k a hk).elim,fun b p o k a _ _ hk=>(hno k a hk).elim⟩
 ·intro j x hj hx;rw [Array.getElem?_eq_none (by simp;omega)] at hx;cases hx
 ·intro op hop;simp at hop
 ·rintro said ⟨i,j,hij,⟨a,b,ha,_⟩,_⟩;exact hno i a ha
 ·intro op hop;simp at hop
end
end Go.Ns
namespace Go.Ns
open Go.Conc Go.ChangeShapes Go.WideShapes Go.ChangeAt Go.RowKit
section
variable {P:Program} {W:World}
theorem UJ {b off n:Nat} {cs:List Value} (h:W.cells? 0 ⟨b,off,none⟩ n=some cs) (hn:0<n):Ae (GH.of W) b off n cs.toArray:=by
 obtain ⟨_,hl,hc⟩:=World.cells?_some h;have hcell:∀i,i<n→W.cell? ⟨b,off+i,none⟩=cs[i]? :=fun i hi=>by
  have:=hc i hi
  unfold Addr.add at this;split at this
  ·rename_i e;subst e;exact this
  ·exact this
 have h0:=hcell 0 hn;unfold World.cell? at h0;cases hb:W.heap[b]? with
 | none=>simp [hb,List.getElem?_eq_getElem (show 0<cs.length by omega)] at h0
 | some o=>
  cases o with
  | cells c t f=>
   have hall:∀i,i<n→c[off+i]? =cs[i]? :=fun i hi=>by
    have:=hcell i hi
    unfold World.cell? at this;simpa [hb] using this
   have hlast:=hall (n-1) (by omega);rw [List.getElem?_eq_getElem (show n-1<cs.length by omega)] at hlast;have hsz:=(Array.getElem?_eq_some_iff.1 hlast).1;refine ⟨false,c,t,f,GH.of_some hb,by omega,?_⟩;apply Array.ext
   ·simp;omega
   ·intro i h1 h2;have hi:i<n:=by simp at h2;omega
    have:=hall i hi
    rw [Array.getElem?_eq_getElem (by omega),List.getElem?_eq_getElem (by omega)] at this;simpa using this
  | _=>simp [hb,List.getElem?_eq_getElem (show 0<cs.length by omega)] at h0
def SR (P:Program) (e:TypeId) {α:Type} (enc:α→Array Value) (good:α→Prop):Prop:=
 ∀{H:Type} (en:TypeId×Value→H) (W:World) (base:Nat) (sp:Nat→Bool) (held:Bool) (fuel:Nat) (cs:List Value) (x:DataW H×List MemPlace),DataW.trod en P W base sp held fuel e cs=some x→∃a:α,cs=(enc a).toList∧good a
theorem Mr {H:Type} {en:TypeId×Value→H} {sp:Nat→Bool} {held:Bool} {fuel:Nat} {t e:TypeId} {n:Nat} {α:Type} {enc:α→Array Value} {good:α→Prop} {v:Value} {d:DataW H} {ps:List MemPlace} (ht:P.underlying t=some (.slice e)) (hc:P.cellsOf e=n) (hn:0<n)
  (ho:SR P e enc good) (h:DataW.trod en P W 0 sp held fuel t [v]=some (d,ps)) (hw:∀es rs,d=.slice es rs→es.length≤140737488355328):∃xs:List α,AK (GH.of W) v n enc xs∧∀x ∈ xs,good x:=by
 rcases DataW.trod_slice ht h with ⟨h1,_⟩ | ⟨a,len,cap,elems,rest,m,rfl,h1,h2,_,hl,_,hlen,hel,_,_⟩
 ·simp at h1;subst h1;exact ⟨[],AK.nil _ _ _,fun x hx=>by cases hx⟩
 ·simp only [List.cons.injEq,and_true] at h1;subst h1;simp only [Prod.mk.injEq] at h2;have hlim:len≤140737488355328:=by
   have:=hw _ _ h2.1
   simpa [hlen] using this
  have each:∀i,i<len→∃x:α,∃b off,a=⟨b,off,none⟩∧Ae (GH.of W) b (off+i*n) n (enc x)∧good x:=fun i hi=>by
   have:=hel i hi
   rw [List.getElem?_eq_getElem (by omega),hc] at this;simp only [Option.bind_eq_some_iff] at this;obtain ⟨cs,hcs,hx⟩:=this;obtain ⟨x,e1,e2⟩:=ho _ _ _ _ _ _ _ _ hx;have hc0:=(World.cells?_some hcs).2.2 0 hn;have hlen2:=(World.cells?_some hcs).2.1;rw [List.getElem?_eq_getElem (show 0<cs.length by omega)] at hc0;have hsp:=World.cell?_spot hc0;obtain ⟨b,off,spot⟩:=a;have hspot:spot=none∨i≠0:=by
    by_cases e0:i=0
    ·subst e0;left;simpa [Addr.add] using hsp
    ·exact .inr e0
   have hfirst:spot=none:=by
    rcases hspot with e | e
    ·exact e
    ·have h00:=hel 0 (by omega);rw [List.getElem?_eq_getElem (by omega),hc] at h00;simp only [Option.bind_eq_some_iff] at h00;obtain ⟨c0,hc00,_⟩:=h00;have z:=(World.cells?_some hc00).2.2 0 hn;have zl:=(World.cells?_some hc00).2.1;rw [List.getElem?_eq_getElem (show 0<c0.length by omega)] at z
     have:=World.cell?_spot z
     simpa [Addr.add] using this
   subst hfirst;refine ⟨x,b,off,rfl,?_,e2⟩;have ea:(Addr.add ⟨b,off,none⟩ (i*n))=⟨b,off+i*n,none⟩:=by
    unfold Addr.add;split
    ·rename_i e;rw [e];rfl
    ·rfl
   rw [ea] at hcs
   have:=UJ hcs hn
   rw [e1] at this;simpa using this
  by_cases hz:len=0
  ·subst hz;exact ⟨[],⟨some a,cap,rfl,Nat.zero_le _,Nat.zero_le _,fun i hi=>by simp at hi⟩,fun x hx=>by cases hx⟩
  ·have hch:∀i:Fin len,∃x:α,∃b off,a=⟨b,off,none⟩∧Ae (GH.of W) b (off+i.val*n) n (enc x)∧good x:=fun i=>each i.val i.isLt;refine ⟨List.ofFn fun i=>Classical.choose (hch i),⟨some a,cap,by rw [List.length_ofFn],by rw [List.length_ofFn];exact hl,by rw [List.length_ofFn];exact hlim,fun i hi=>?_⟩,fun x hx=>?_⟩
   ·rw [List.length_ofFn] at hi;obtain ⟨b,off,e1,e2,_⟩:=Classical.choose_spec (hch ⟨i,hi⟩);refine ⟨b,off,by rw [e1],?_⟩;rw [List.getElem_ofFn];exact e2
   ·obtain ⟨i,rfl⟩:=List.mem_ofFn.1 hx;obtain ⟨_,_,_,_,e3⟩:=Classical.choose_spec (hch i);exact e3
theorem JT {H:Type} {en:TypeId×Value→H} {t:TypeId} (hl:laidOutB P=true) (hr:P.readableRec t=true) (hrow:t<P.types.size) {W':World} {v:Value} {d:DataW H} {ps:List MemPlace} (h:DataW.Trod en P W 0 (fun _=>true) true t v d ps)
  (hk:∀(b:Nat) (o:Obj),W.heap[b]? =some o→W'.heap[b]? =some o) (hlt:∀x ∈ ps,x.block<W.heap.size):DataW.Trod en P W' 0 (fun b=>decide (b<W.heap.size)) true t v d ps:=by
 let W2:World:={ W' with os:=W.os,tape:=W.tape,output:=W.output };have hsz:W.heap.size≤W'.heap.size:=by
  rcases Nat.lt_or_ge W'.heap.size W.heap.size with x | x
  ·have:=hk W'.heap.size _ (Array.getElem?_eq_getElem x)
   rw [Array.getElem?_eq_none (Nat.le_refl _)] at this;cases this
  ·exact x
 have hb:Below W.heap.size W W2:=⟨rfl,rfl,rfl,hsz,fun k hk'=>by
  show W'.heap[k]? =_;rw [Array.getElem?_eq_getElem hk'];exact hk k _ (Array.getElem?_eq_getElem hk')⟩
 exact DataW.Trod.of_heap (w:=W2) (w':=W') rfl (Below.trod hl hr hrow h hb hlt)
theorem ZF {W':World} (hk:∀(b:Nat) (o:Obj),W.heap[b]? =some o→W'.heap[b]? =some o) (ho:W'.os=W.os) (hp:W'.output=W.output) (may:MemPlace→Prop):W.keptBut W' may:=by
 refine ⟨ho,hp,fun i hi=>?_⟩;rw [hk i _ (Array.getElem?_eq_getElem hi),Array.getElem?_eq_getElem hi];split <;> simp_all
end
end Go.Ns
namespace Go.Ns
open Go.Conc
universe u
theorem Z {α:Sort u} {a:α}:a=a:=rfl
theorem Lr {h:GH}:GH.Le h h:=GH.Le.refl h
theorem Ln {h h':GH} (l:h.Le h') {r:Nat} (hr:h' r=none):h r=none:=l.nothing hr
theorem C4 {h:GH} {b r:Nat} {p:Bool} {o:Obj} (hb:h b=some (p,o)) (hr:h r=none):b≠r:=GH.ne_of hb hr
theorem Nb {a b:Nat} (h:Nat.ble a b=true):a≤b:=Nat.le_of_ble_eq_true h
theorem Dn {p:Prop} [Decidable p] (h:¬¬p):p:=Decidable.not_not.1 h
theorem Et {α:Sort u} {a b c:α} (x:a=b) (y:b=c):a=c:=x.trans y
theorem Kl {h0 h:GH} (k:D0 (fun b=>h0 b=none) h0 h):h0.Le h:=k.leOf
theorem Bx {h:GH} {b:Nat} {p:Bool} {c:Array Value} {t:TypeId} {f:Nat×Nat} (hb:h b=some (p,.cells c t f)) {n:Nat} (hn:c.size=n):Ae h b 0 n c:=Ae.box hb hn
abbrev lE (v:Value):Hs:=fun _ u _=>u=v
abbrev lF (v:Value):Om:=fun u _=>u=v
abbrev zP:Array Value:=#[.int .i64 0,.int .i64 0,.slice none 0 0,.slice none 0 0,.slice none 0 0,.slice none 0 0,.map none]
section
variable {P:Program} {E:Gf P} {σ:Nat→Value} {ds:List Deferred} {h:GH} {Q:Post} {T:(Nat→Value)→List Deferred→GH→Prop}
variable {dst:Option Nat} {ty:TypeId} {pos:String} {af:Array Edge} {ops:Array Oper} {o:Oper} {l:List Oper}
theorem Sq {x y:Code} (a:Tr E x σ ds h (fun e σ' ds' h'=>match e with | .normal=>Tr E y σ' ds' h' Q | e=>Q e σ' ds' h')):Tr E (.seq x y) σ ds h Q:=X9 a
theorem Rg {id:Nat} {l:List Oper} (a:EF E l.toArray l σ ds h Q):Tr E (.region id l.toArray false) σ ds h Q:=V6 a
theorem Nl (q:Q .normal σ ds h):EF E ops [] σ ds h Q:=Z1 q
abbrev Rt:=@tr_ret
abbrev Bk:=@YA
abbrev Sk:=@Zz
abbrev Xt:=@Z0
def ZG (N:Nat) (o:Oper):Bool:=o.guard.isNone && !EA o.op && EW o.dst N
theorem Pl (hp:ZG E.N o=true) (x:Be E o σ ds h fun σ' ds' h'=>EF E ops l σ' ds' h' Q):EF E ops (o ::l) σ ds h Q:=by
 simp only [ZG,Bool.and_eq_true,Option.isNone_iff_eq_none,Bool.not_eq_true'] at hp;exact Fi hp.1.1 hp.1.2 hp.2 x
theorem Mv {x:Operand} (v:Value) (hp:EW dst E.N=true) (hx:AT σ x=v) (k:EF E ops l (putS σ dst v) ds h Q):EF E ops (⟨dst,.move x,ty,pos,af,none⟩ ::l) σ ds h Q:=Fi rfl rfl hp (AA hx k)
theorem As {x:Operand} (v:Value) (hp:EW dst E.N=true) (hx:AT σ x=v) (k:EF E ops l (putS σ dst v) ds h Q):EF E ops (⟨dst,.assign x,ty,pos,af,none⟩ ::l) σ ds h Q:=Fi rfl rfl hp (LS hx k)
theorem Ld {t:TypeId} {x:Operand} {b off:Nat} (v:Value) (hp:EW dst E.N=true) (hx:AT σ x=.pointer (some ⟨b,off,none⟩)) (hr:Rd P h t b off v) (k:EF E ops l (putS σ dst v) ds h Q):EF E ops (⟨dst,.load t x,ty,pos,af,none⟩ ::l) σ ds h Q:=
 Fi rfl rfl hp (AF hx hr k)
theorem Fa {s:TypeId} {x:Operand} {f o b off:Nat} (hf:DK P s f=some o) (hp:EW dst E.N=true) (hx:AT σ x=.pointer (some ⟨b,off,none⟩)) (k:EF E ops l (putS σ dst (.pointer (some ⟨b,off+o,none⟩))) ds h Q) :
  EF E ops (⟨dst,.fieldAddr s x f,ty,pos,af,none⟩ ::l) σ ds h Q:=Fi rfl rfl hp (AM hf hx k)
theorem Pk {c a b:Operand} (t:Bool) (v:Value) (hp:EW dst E.N=true) (hc:AT σ c=.bool t) (hv:(if t then AT σ a else AT σ b)=v) (k:EF E ops l (putS σ dst v) ds h Q):EF E ops (⟨dst,.pick c a b,ty,pos,af,none⟩ ::l) σ ds h Q:=
 Fi rfl rfl hp (Bo hc hv k)
theorem Ad {xt yt:TypeId} {x y:Operand} (a b:Int) (hp:EW dst E.N=true) (hx:AT σ x=.int .i64 a) (hy:AT σ y=.int .i64 b) (hr: -9223372036854775808≤a+b∧a+b≤9223372036854775807) (k:EF E ops l (putS σ dst (.int .i64 (a+b))) ds h Q) :
  EF E ops (⟨dst,.binOp .add xt x y yt,ty,pos,af,none⟩ ::l) σ ds h Q:=Fi rfl rfl hp (Ct hx hy hr k)
def skipB (N:Nat) (ops:Array Oper) (o:Oper) (j d:Nat) (is:Bool):Bool:=(match o.guard with
 | some (i,w)=>i==j && w !=is
 | none=>false) && (match ops[j]? with
 | some oj=>(match oj.dst with
  | some e=>e==d
  | none=>false)
 | none=>false) && Nat.blt d N && EW o.dst N
theorem Gs (j d:Nat) {is:Bool} (hv:σ d=.bool is) (hs:skipB E.N ops o j d is=true) (x:EF E ops l (putS σ o.dst undef) ds h Q):EF E ops (o ::l) σ ds h Q:=by
 simp only [skipB,Bool.and_eq_true] at hs;obtain ⟨⟨⟨h1,h2⟩,h3⟩,h4⟩:=hs;cases hg:o.guard with
 | none=>rw [hg] at h1;cases h1
 | some q=>
  obtain ⟨i,w⟩:=q;rw [hg] at h1;simp only [Bool.and_eq_true,beq_iff_eq,bne_iff_ne,ne_eq] at h1;obtain ⟨rfl,hne⟩:=h1;cases hj:ops[i]? with
  | none=>rw [hj] at h2;cases h2
  | some oj=>
   cases hd:oj.dst with
   | none=>simp [hj,hd] at h2
   | some e=>
    obtain rfl:e=d:=by simpa [hj,hd] using h2
    exact Mx hg hj hd hv h3 hne h4 x
def goB (N:Nat) (ops:Array Oper) (o:Oper) (j d:Nat) (is:Bool):Bool:=(match o.guard with
 | some (i,w)=>i==j && w==is
 | none=>false) && (match ops[j]? with
 | some oj=>(match oj.dst with
  | some e=>e==d
  | none=>false)
 | none=>false) && Nat.blt d N && !EA o.op && EW o.dst N
theorem Gg (j d:Nat) {is:Bool} (hv:σ d=.bool is) (hs:goB E.N ops o j d is=true) (x:Be E o σ ds h fun σ' ds' h'=>EF E ops l σ' ds' h' Q):EF E ops (o ::l) σ ds h Q:=by
 simp only [goB,Bool.and_eq_true,Bool.not_eq_true'] at hs;obtain ⟨⟨⟨⟨h1,h2⟩,h3⟩,h5⟩,h4⟩:=hs;cases hg:o.guard with
 | none=>rw [hg] at h1;cases h1
 | some q=>
  obtain ⟨i,w⟩:=q;rw [hg] at h1;simp only [Bool.and_eq_true,beq_iff_eq] at h1;obtain ⟨rfl,rfl⟩:=h1;cases hj:ops[i]? with
  | none=>rw [hj] at h2;cases h2
  | some oj=>
   cases hd:oj.dst with
   | none=>simp [hj,hd] at h2
   | some e=>
    obtain rfl:e=d:=by simpa [hj,hd] using h2
    exact Z8 hg hj hd hv h3 (.inr h5) h4 x
end
section
variable {S:Nat→Prop} {Pre:Nat→GH→Prop} {Φ:List Hs} {cl:List Nat} {k d:Nat} {h h':GH} {σ:Nat→Value} {ds:List Deferred} {v:Value}
theorem fS (p:Fm Φ k (putS σ (some d) v) v h):ds=ds∧St (D0 S) Pre Φ cl k h h∧∃w,putS σ (some d) v=putS σ (some d) w∧Fm Φ k (putS σ (some d) v) w h∧((some d:Option Nat)=none→w=undef):=
 ⟨rfl,St.same,_,rfl,p,fun e=>by cases e⟩
theorem fT (l:h.Le h') (m:Dv GH.Le Φ) (p:Fm Φ k (putS σ (some d) v) v h'):ds=ds∧St (D0 S) (fun _ _=>True) Φ cl k h h'∧∃w,putS σ (some d) v=putS σ (some d) w∧Fm Φ k (putS σ (some d) v) w h'∧((some d:Option Nat)=none→w=undef):=
 ⟨rfl,St.ofLe l m (fun _ _ _ _ _=>trivial),_,rfl,p,fun e=>by cases e⟩
theorem fL {Φ:List Om} (p:Kk Φ k v h):ds=ds∧GH.Le h h∧∃w,putS σ (some d) v=putS σ (some d) w∧Kk Φ k w h:=⟨rfl,GH.Le.refl _,_,rfl,p⟩
theorem L1 {R:GH→GH→Prop} {a:Value} (x:Dv R Φ):Dv R (lE a ::Φ):=⟨fun _ _ _ _ _ y=>y,x⟩
theorem L2 {R:GH→GH→Prop} {a b:Value} (x:Dv R Φ):Dv R (lE a ::lE b ::Φ):=L1 (L1 x)
theorem L4 {R:GH→GH→Prop} {a b c d:Value} (x:Dv R Φ):Dv R (lE a ::lE b ::lE c ::lE d ::Φ):=L2 (L2 x)
theorem L8 {R:GH→GH→Prop} {a b c d a' b' c' d':Value} (x:Dv R Φ):Dv R (lE a ::lE b ::lE c ::lE d ::lE a' ::lE b' ::lE c' ::lE d' ::Φ):=L4 (L4 x)
theorem K1 {R:GH→GH→Prop} {Φ:List Om} {a:Value} (x:E9 R Φ):E9 R (lF a ::Φ):=⟨fun _ _ _ _ y=>y,x⟩
theorem K2 {R:GH→GH→Prop} {Φ:List Om} {a b:Value} (x:E9 R Φ):E9 R (lF a ::lF b ::Φ):=K1 (K1 x)
theorem K4 {R:GH→GH→Prop} {Φ:List Om} {a b c d:Value} (x:E9 R Φ):E9 R (lF a ::lF b ::lF c ::lF d ::Φ):=K2 (K2 x)
theorem K8 {R:GH→GH→Prop} {Φ:List Om} {a b c d a' b' c' d':Value} (x:E9 R Φ):E9 R (lF a ::lF b ::lF c ::lF d ::lF a' ::lF b' ::lF c' ::lF d' ::Φ):=K4 (K4 x)
end
theorem Dk {P:Program} {E:Gf P} {S:Nat→Prop} {id:Nat} {l:List Oper} {σ:Nat→Value} {ds:List Deferred} {h:GH} {Q:Post} {Φ:List Hs} (_:Dv GH.Le Φ) (n:Nat) (cls:List (List Nat)) (Pre:Nat→GH→Prop)
  (hm:P.follows .mixedOrders=true) (ok:E2 E.N l n cls=true) (p0:∀k,k<n→Pre k h) (ind:QX l n cls Φ) (x:Iu (D0 S) Pre E l n Φ σ ds h Q n 0 l cls):Tr E (.region id l.toArray true) σ ds h Q:=
 WF n cls Φ Pre hm ok p0 ind x
end Go.Ns
namespace Go.Ns
open Go.Conc
abbrev J (x:Int):Value:=.int .i64 x
abbrev Pt (b:Nat):Value:=.pointer (some ⟨b,0,none⟩)
abbrev Sc (b:Nat) (n c:Nat):Value:=.slice (some ⟨b,0,none⟩) n c
abbrev Q22 (a:List Good) (b:Nat):=decide (((¬(0≤((a.getD b Good.z).cost)∧((a.getD b Good.z).cost)≤999))∨(¬(1≤((a.getD b Good.z).pack)∧((a.getD b Good.z).pack)≤20)))∨(¬(Ev ((a.getD b Good.z).low) ((a.getD b Good.z).high))))
abbrev Zs (a:Int) (b:Int) (c:List Good) (d:List AB) (e:List AC) (f:Int) (g:Int) (h:Int):=Ag a b c d e [if (decide (0≤f∧f≤(c.length:Int)-1)) then (0:Int) else 6,if (decide (1≤g∧g≤a)) then (0:Int) else 1,if (decide (g≤h∧h≤a)) then (0:Int) else 1]
abbrev H0 (a:Int) (b:List Good) (c:List AB) (d:List AC) (e:Int) (f:Nat):=(AR a b c d e).getD ((f:Int)).toNat AU.zero
abbrev Xz:Array Value:=#[J 0,J 0,J 0,J 0,J 0,J 0,J 0,J 0,J 0,.bool false,.bool false,.bool false,.bool false,.bool false,.bool false]
abbrev S9 (a:Int) (b:List AB):=decide ((0≤a∧a≤(b.length:Int)-1)∧(b.getD a.toNat AB.z).kind=0)
abbrev Zt (a:Int) (b:Int) (c:List Good) (d:List AB) (e:List AC) (f:Int) (g:Int):=Ag a b c d e [if (decide (0≤f∧f≤(c.length:Int)-1)) then (0:Int) else 6,if (decide (0≤g∧g≤a)) then (0:Int) else 1]
abbrev Q28 (a:List Good) (b:Nat):Array Value:=#[.string ((a.getD b Good.z).name),J ((a.getD b Good.z).cost),J ((a.getD b Good.z).pack),J ((a.getD b Good.z).low),J ((a.getD b Good.z).high)]
abbrev Qy (a:Int):=Je (Je a (EJ a 13)) ((Je a (EJ a 13)) / 128)
abbrev X2:Array Value:=#[J 0,J 0,.slice none 0 0,.slice none 0 0,.slice none 0 0]
abbrev Zu (a:Int) (b:Int) (c:List Good) (d:List AB) (e:List AC) (f:Int):=Ag a b c d e [if (decide (0≤f∧f≤(d.length:Int)-1)) then (0:Int) else 6]
abbrev Q2c (a:List AC) (b:Nat):Array Value:=#[J ((a.getD b AC.z).good),J ((a.getD b AC.z).day),J ((a.getD b AC.z).low),J ((a.getD b AC.z).high)]
abbrev Zv (a:Int) (b:Int) (c:List Good) (d:List AB) (e:List AC) (f:Int):=Ag a b c d e [if (decide (0≤f∧f≤a)) then (0:Int) else 1]
abbrev Q2e (a:List Good) (b:Nat):=Ev ((a.getD b Good.z).low) ((a.getD b Good.z).high)
abbrev O6 (a:List AU) (b:Int):=a.getD (b.toNat) AU.zero
abbrev Ms (a:List Good) (b:Nat):=(a.getD b Good.z).pack
abbrev Q2h (a:List Int) (b:List Int):=decide (((a.length:Int)<(b.length:Int))∨(((a.length:Int)=(b.length:Int))∧((Ow a b)<0)))
abbrev X3 (a:Int) (b:List Good):=decide (0≤a∧a≤(b.length:Int)-1)
abbrev Md:Value:=.slice none 0 0
abbrev Q2k (a:Int) (b:Int):=decide (((0≤a∧a≤b)∧b≤99)∧((b-a)<3))
abbrev Q2l (a:Array Int) (b:Nat) (c:Nat):=(a.setIfInBounds b (a[c]!)).setIfInBounds c (a[b]!)
abbrev Pq (a:List Good) (b:Nat):=(a.getD b Good.z).cost
abbrev Q2n (a:ByteArray) (b:Nat):=decide ((¬(Ey ((bytesOf a).getD b 0)))∧(((b:Int)=0)∨(¬(E4 ((bytesOf a).getD b 0)))))
abbrev JA (a:Int) (b:Int) (c:List Good) (d:List AB) (e:List AC) (f:AC):=B0 a b c d (e++[f])
abbrev O7 (a:List AB) (b:Nat):=(a.getD b AB.z).day
abbrev ZH (a:List Int) (b:List Int):=(AU.zero.setFirsts a).setManys b
abbrev Q2r (a:List AB) (b:Nat):Array Value:=#[J ((a.getD b AB.z).kind),J ((a.getD b AB.z).good),J ((a.getD b AB.z).day),J ((a.getD b AB.z).low),J ((a.getD b AB.z).high)]
abbrev Zw (a:Int) (b:Int) (c:Int) (d:Int):=decide (((a≤b)∧(b≤c))∧(c≤d))
abbrev TA (a:Int) (b:Int):Value:=.bool (decide (a≤b))
abbrev RF (a:List AB) (b:Nat):=(a.getD b AB.z).kind
abbrev Q2v (a:Int) (b:Int):=decide ((¬(1≤a∧a≤99))∨(¬(0≤b∧b≤2)))
abbrev TB (a:List Good) (b:Nat):=(a.getD b Good.z).name
abbrev Q2x (a:List AB) (b:Nat):=(a.getD (((b:Int)-1).toNat) AB.z).day
abbrev Q2y (a:AC):Array Value:=#[J a.good,J a.day,J a.low,J a.high]
abbrev W0 (a:List AB) (b:AU) (c:AC):=(AJ a b c.good c.day).1
abbrev Q30 (a:Nat) (b:Nat) (c:Array Int) (d:Nat):=decide (((a:Int)≤(b:Int))∧(¬((c[b]!)<(c[d]!))))
abbrev LM (a:Int) (b:Int) (c:Value) (d:Value) (e:Value):Value:=.agg #[J a,J b,c,d,e]
abbrev Q32 (a:List AB) (b:List Int) (c:List Int) (d:List Int) (e:List AC) (f:Nat):=AW a b c d ((e.getD f AC.z).good) ((e.getD f AC.z).day) a.length
abbrev X4 (a:Int) (b:Int):=decide (0≤a∧a≤b)
abbrev W1 (a:List AB) (b:Nat):=(a.getD b AB.z).good
abbrev Me (a:List Int) (b:Nat):=J (a.getD b 0)
abbrev Q36 (a:List Good) (b:List AB) (c:List AC):=decide (((20<(a.length:Int))∨(20<(b.length:Int)))∨(20<(c.length:Int)))
abbrev Q37 (a:AC) (b:Int):=decide ((¬(0≤a.day∧a.day≤b))∨(¬((0≤a.low∧a.low≤a.high)∧a.high≤999)))
abbrev Hk (a:Int) (b:Int) (c:List Good) (d:List AB) (e:List AC):=AX a b c d e
abbrev Q39 (a:List Int):=a.getD (((a.length:Int)-1).toNat) 0
abbrev Q3a (a:Int) (b:List AB):=decide (0≤a∧a≤(b.length:Int)-1)
abbrev X5 (a:ByteArray) (b:Nat):=(bytesOf a).getD b 0
abbrev Q3c (a:List Good) (b:Nat):Array Value:=#[J ((a.getD b Good.z).low),J ((a.getD b Good.z).high)]
abbrev Zx:=An AU.zero
abbrev Zy (a:Int):=Je a (EJ a 13)
abbrev Q3f (a:Nat) (b:Int) (c:Array Int) (d:Nat):=decide (((((2*(a:Int))+1)+1)<b)∧((c[(d+((2*a)+1))]!)<(c[((d+((2*a)+1))+1)]!)))
abbrev Q3g:Array Value:=#[.func (.func 194) #[] #[],.func (.func 195) #[] #[],.func (.func 196) #[] #[],.func (.func 197) #[] #[]]
abbrev Q3h (a:List AC):=decide (4≤(a.length:Int))
abbrev V1 (a:List AC) (b:Nat):=a.getD b AC.z
abbrev Q3j (a:Int) (b:Int) (c:Int):=decide ((a≤b)∧(b≤c))
abbrev Q3k (a:Array Int) (b:Nat) (c:Nat):=a.setIfInBounds b (a[c]!)
abbrev Q3l (a:List AB) (b:Nat):=(a.getD b AB.z).high
abbrev Q3m (a:Nat) (b:Nat):=J ((a:Int)-(b:Int))
abbrev Q3n (a:Nat) (b:Nat) (c:Array Int):=decide (((a:Int)<(b:Int))∧((c[b]!)<(c[((b:Int)-1).toNat]!)))
abbrev Q3o (a:List AB) (b:Nat):=(a.getD b AB.z).low
abbrev Q3p (a:Nat) (b:Array Int) (c:Nat):=decide ((0<(a:Int))∧(¬((b[((a:Int)-1).toNat]!)<(b[c]!))))
abbrev Q3q (a:List Int) (b:Nat) (c:List Int):=Ov (a.getD b 0) (c.getD b 0)
abbrev Q3r (a:ByteArray):=decide (((a.size:Int)<1)∨(10<(a.size:Int)))
abbrev Q3s (a:Int):=decide ((97≤a)∧(a≤122))
abbrev Q3t (a:Array Int) (b:Nat) (c:Nat):=decide (¬((a[b]!)<(a[c]!)))
abbrev Q3u (a:Int):=decide ((48≤a)∧(a≤57))
abbrev Q3v (a:List Int) (b:List Good):=A3 a (b.length:Int)
abbrev Q3w (a:List Int) (b:List AB):=A3 a (b.length:Int)
abbrev Q3x (a:Int):=decide (¬(0≤a∧a≤99))
abbrev Q3y (a:Int) (b:Int):=decide (1≤a∧a≤b)
abbrev Q3z (a:Nat) (b:Nat):=decide ((a:Int)≤(b:Int))
abbrev Q40 (a:Int):=decide (¬(0≤a∧a≤2))
abbrev Q41 (a:List AB) (b:AU) (c:Nat) (d:Int):Array Value:=#[J ((AJ a b (c:Int) d).1),J ((AJ a b (c:Int) d).2)]
abbrev Q42 (a:List AC):=Ck a 0 a.length
end Go.Ns
namespace Go.Ns
open Go.Conc Go.Proofs Go.Proofs.Tryz
theorem Jx:Jj prog 102 102=some (27,1,24):=by kernel_rfl
theorem O8:Jj prog 105 105=some (119,15,80):=by kernel_rfl
theorem SS:Jj prog 22 22=some (99,5,48):=by kernel_rfl
theorem ST:Jj prog 23 23=some (75,5,40):=by kernel_rfl
theorem Ha:Jj prog 24 24=some (79,4,32):=by kernel_rfl
theorem Do:Jj prog 27 27=some (3,1,8):=by kernel_rfl
theorem W3:Vg prog 117=some (6,false,1):=by kernel_rfl
theorem W4:Vg prog 135=some (4,false,1):=by kernel_rfl
theorem Lh:L9 prog 115=some (3,1):=by kernel_rfl
theorem Li:L9 prog 116=some (6,1):=by kernel_rfl
theorem Gq:L9 prog 117=some (6,1):=by kernel_rfl
theorem W5:L9 prog 174=some (5,2):=by kernel_rfl
theorem UK:AQ Tryz.f100=true:=by kernel_rfl
theorem UL:AQ Tryz.f101=true:=by kernel_rfl
theorem UM:AQ Tryz.f102=true:=by kernel_rfl
theorem UN:AQ Tryz.f104=true:=by kernel_rfl
theorem KM:AQ Tryz.f105=true:=by kernel_rfl
theorem UO:AQ Tryz.f106=true:=by kernel_rfl
theorem OA:AQ Tryz.f108=true:=by kernel_rfl
theorem UP:AQ Tryz.f109=true:=by kernel_rfl
theorem IZ:AQ Tryz.f110=true:=by kernel_rfl
theorem OB:AQ Tryz.f112=true:=by kernel_rfl
theorem OC:AQ Tryz.f113=true:=by kernel_rfl
theorem OD:AQ Tryz.f114=true:=by kernel_rfl
theorem Ia:AQ Tryz.f115=true:=by kernel_rfl
theorem UQ:AQ Tryz.f116=true:=by kernel_rfl
theorem OE:AQ Tryz.f117=true:=by kernel_rfl
theorem UR:AQ Tryz.f118=true:=by kernel_rfl
theorem OF:AQ Tryz.f119=true:=by kernel_rfl
theorem W6:AQ Tryz.f12=true:=by kernel_rfl
theorem KN:AQ Tryz.f120=true:=by kernel_rfl
theorem US:AQ Tryz.f121=true:=by kernel_rfl
theorem fx_call122:AQ Tryz.f122=true:=by kernel_rfl
theorem UT:AQ Tryz.f126=true:=by kernel_rfl
theorem UU:AQ Tryz.f127=true:=by kernel_rfl
theorem OG:AQ Tryz.f129=true:=by kernel_rfl
theorem Lj:AQ Tryz.f13=true:=by kernel_rfl
theorem UV:AQ Tryz.f136=true:=by kernel_rfl
theorem UW:AQ Tryz.f137=true:=by kernel_rfl
theorem UX:AQ Tryz.f138=true:=by kernel_rfl
theorem UY:AQ Tryz.f139=true:=by kernel_rfl
theorem W7:AQ Tryz.f14=true:=by kernel_rfl
theorem OH:AQ Tryz.f140=true:=by kernel_rfl
theorem UZ:AQ Tryz.f142=true:=by kernel_rfl
theorem OI:AQ Tryz.f143=true:=by kernel_rfl
theorem Ua:AQ Tryz.f144=true:=by kernel_rfl
theorem Ub:AQ Tryz.f145=true:=by kernel_rfl
theorem Uc:AQ Tryz.f146=true:=by kernel_rfl
theorem KO:AQ Tryz.f147=true:=by kernel_rfl
theorem OJ:AQ Tryz.f148=true:=by kernel_rfl
theorem KP:AQ Tryz.f149=true:=by kernel_rfl
theorem Ud:AQ Tryz.f151=true:=by kernel_rfl
theorem Ue:AQ Tryz.f152=true:=by kernel_rfl
theorem KQ:AQ Tryz.f153=true:=by kernel_rfl
theorem OK:AQ Tryz.f154=true:=by kernel_rfl
theorem Uf:AQ Tryz.f155=true:=by kernel_rfl
theorem Ug:AQ Tryz.f156=true:=by kernel_rfl
theorem Uh:AQ Tryz.f157=true:=by kernel_rfl
theorem Ui:AQ Tryz.f158=true:=by kernel_rfl
theorem Uj:AQ Tryz.f159=true:=by kernel_rfl
theorem W8:AQ Tryz.f16=true:=by kernel_rfl
theorem Uk:AQ Tryz.f160=true:=by kernel_rfl
theorem Ul:AQ Tryz.f161=true:=by kernel_rfl
theorem Um:AQ Tryz.f162=true:=by kernel_rfl
theorem Un:AQ Tryz.f163=true:=by kernel_rfl
theorem Uo:AQ Tryz.f164=true:=by kernel_rfl
theorem Up:AQ Tryz.f165=true:=by kernel_rfl
theorem CT:AQ Tryz.f166=true:=by kernel_rfl
theorem Uq:AQ Tryz.f167=true:=by kernel_rfl
theorem Ur:AQ Tryz.f168=true:=by kernel_rfl
theorem Us:AQ Tryz.f170=true:=by kernel_rfl
theorem KR:AQ Tryz.f171=true:=by kernel_rfl
theorem OL:AQ Tryz.f172=true:=by kernel_rfl
theorem Ut:AQ Tryz.f173=true:=by kernel_rfl
theorem Uu:AQ Tryz.f174=true:=by kernel_rfl
theorem KT:AQ Tryz.f175=true:=by kernel_rfl
theorem OM:AQ Tryz.f176=true:=by kernel_rfl
theorem KU:AQ Tryz.f177=true:=by kernel_rfl
theorem W9:AQ Tryz.f18=true:=by kernel_rfl
theorem Uv:AQ Tryz.f194=true:=by kernel_rfl
theorem Uw:AQ Tryz.f195=true:=by kernel_rfl
theorem Ux:AQ Tryz.f196=true:=by kernel_rfl
theorem Uy:AQ Tryz.f197=true:=by kernel_rfl
theorem Uz:AQ Tryz.f198=true:=by kernel_rfl
theorem U0:AQ Tryz.f199=true:=by kernel_rfl
theorem XA:AQ Tryz.f20=true:=by kernel_rfl
theorem U1:AQ Tryz.f200=true:=by kernel_rfl
theorem ON:AQ Tryz.f201=true:=by kernel_rfl
theorem U2:AQ Tryz.f202=true:=by kernel_rfl
theorem OO:AQ Tryz.f203=true:=by kernel_rfl
theorem KV:AQ Tryz.f204=true:=by kernel_rfl
theorem XB:AQ Tryz.f22=true:=by kernel_rfl
theorem XC:AQ Tryz.f23=true:=by kernel_rfl
theorem FM:AQ Tryz.f25=true:=by kernel_rfl
theorem XD:AQ Tryz.f26=true:=by kernel_rfl
theorem Lk:AQ Tryz.f29=true:=by kernel_rfl
theorem XE:AQ Tryz.f31=true:=by kernel_rfl
theorem XF:AQ Tryz.f33=true:=by kernel_rfl
theorem Pr:AQ Tryz.f35=true:=by kernel_rfl
theorem XG:AQ Tryz.f37=true:=by kernel_rfl
theorem XH:AQ Tryz.f38=true:=by kernel_rfl
theorem XI:AQ Tryz.f39=true:=by kernel_rfl
theorem XJ:AQ Tryz.f40=true:=by kernel_rfl
theorem XK:AQ Tryz.f41=true:=by kernel_rfl
theorem XL:AQ Tryz.f42=true:=by kernel_rfl
theorem JU:AQ Tryz.f43=true:=by kernel_rfl
theorem XM:AQ Tryz.f50=true:=by kernel_rfl
theorem XN:AQ Tryz.f55=true:=by kernel_rfl
theorem Ps:AQ Tryz.f58=true:=by kernel_rfl
theorem DN:AQ Tryz.f59=true:=by kernel_rfl
theorem DO:AQ Tryz.f60=true:=by kernel_rfl
theorem fx_call63:AQ Tryz.f63=true:=by kernel_rfl
theorem Pu:AQ Tryz.f65=true:=by kernel_rfl
theorem XO:AQ Tryz.f73=true:=by kernel_rfl
theorem XP:AQ Tryz.f74=true:=by kernel_rfl
theorem Cq:AQ Tryz.f75=true:=by kernel_rfl
theorem H1:AQ Tryz.f76=true:=by kernel_rfl
theorem H2:AQ Tryz.f77=true:=by kernel_rfl
theorem Fr:AQ Tryz.f78=true:=by kernel_rfl
theorem B1:AQ Tryz.f79=true:=by kernel_rfl
theorem Ll:AQ Tryz.f80=true:=by kernel_rfl
theorem H3:AQ Tryz.f81=true:=by kernel_rfl
theorem XQ:AQ Tryz.f82=true:=by kernel_rfl
theorem Lm:AQ Tryz.f83=true:=by kernel_rfl
theorem XR:AQ Tryz.f88=true:=by kernel_rfl
theorem JV:AQ Tryz.f89=true:=by kernel_rfl
theorem Pv:AQ Tryz.f90=true:=by kernel_rfl
theorem Pw:AQ Tryz.f92=true:=by kernel_rfl
theorem XS:AQ Tryz.f93=true:=by kernel_rfl
theorem XT:AQ Tryz.f94=true:=by kernel_rfl
theorem JW:AQ Tryz.f95=true:=by kernel_rfl
theorem XU:AQ Tryz.f98=true:=by kernel_rfl
theorem XV:AQ Tryz.f99=true:=by kernel_rfl
theorem fx_eqg115:prog.eqGuardType prog.depth 115=false:=by kernel_rfl
theorem fx_eqg116:prog.eqGuardType prog.depth 116=false:=by kernel_rfl
theorem OP:prog.eqGuardType prog.depth 31=false:=by kernel_rfl
theorem fx_eqg75:prog.eqGuardType prog.depth 75=false:=by kernel_rfl
theorem fx_eqg79:prog.eqGuardType prog.depth 79=false:=by kernel_rfl
theorem fx_eqg99:prog.eqGuardType prog.depth 99=false:=by kernel_rfl
theorem Fs:ES prog 102=some 1:=by kernel_rfl
theorem JX:ES prog 105=some 15:=by kernel_rfl
theorem Px:ES prog 165=some 1:=by kernel_rfl
theorem Ee:ES prog 22=some 5:=by kernel_rfl
theorem C7:ES prog 23=some 5:=by kernel_rfl
theorem XW:ES prog 230=some 1:=by kernel_rfl
theorem H4:ES prog 24=some 4:=by kernel_rfl
theorem AV:ES prog 27=some 1:=by kernel_rfl
theorem ZI:ES prog 55=some 1:=by kernel_rfl
theorem Ax:DK prog 104 0=some 0:=by kernel_rfl
theorem Hb:DK prog 108 0=some 0:=by kernel_rfl
theorem Cs:DK prog 108 1=some 5:=by kernel_rfl
theorem MQ:DK prog 108 2=some 6:=by kernel_rfl
theorem JB:DK prog 119 0=some 0:=by kernel_rfl
theorem JC:DK prog 119 1=some 3:=by kernel_rfl
theorem Ef:DK prog 119 2=some 9:=by kernel_rfl
theorem SU:DK prog 173 1=some 1:=by kernel_rfl
theorem CJ:DK prog 26 0=some 0:=by kernel_rfl
theorem Ft:DK prog 26 1=some 1:=by kernel_rfl
theorem BJ:DK prog 26 2=some 2:=by kernel_rfl
theorem BB:DK prog 26 3=some 3:=by kernel_rfl
theorem Bd:DK prog 26 4=some 4:=by kernel_rfl
theorem Cm:DK prog 31 0=some 0:=by kernel_rfl
theorem C0:DK prog 31 1=some 1:=by kernel_rfl
theorem KW:DK prog 57 0=some 0:=by kernel_rfl
theorem KX:DK prog 57 1=some 1:=by kernel_rfl
theorem Ib:DK prog 57 2=some 2:=by kernel_rfl
theorem Eg:DK prog 75 0=some 0:=by kernel_rfl
theorem Fu:DK prog 75 1=some 1:=by kernel_rfl
theorem Cn:DK prog 75 2=some 2:=by kernel_rfl
theorem Fv:DK prog 75 3=some 3:=by kernel_rfl
theorem HA:DK prog 79 0=some 0:=by kernel_rfl
theorem HB:DK prog 79 1=some 1:=by kernel_rfl
theorem ED:DK prog 79 2=some 2:=by kernel_rfl
theorem FF:DK prog 99 0=some 0:=by kernel_rfl
theorem Ic:DK prog 99 1=some 1:=by kernel_rfl
theorem HC:DK prog 99 2=some 2:=by kernel_rfl
theorem HD:DK prog 99 3=some 3:=by kernel_rfl
theorem XX:(prog.info? 27).isSome=true:=by kernel_rfl
theorem Py:(prog.info? 27).map (·.zero)=some (some (.slice none 0 0)):=by kernel_rfl
theorem OQ:LT prog 188=some .u64:=by kernel_rfl
theorem U3:LT prog 204=some .u64:=by kernel_rfl
theorem D4:LT prog 3=some .i64:=by kernel_rfl
theorem GD:LT prog 5=some .u8:=by kernel_rfl
theorem Pz:Jk prog 106=some (168,3):=by kernel_rfl
theorem Lo:Jk prog 159=some (3,3):=by kernel_rfl
theorem P0:∀a:Key,YR prog 3 168 (Jd a)=true:=by intros;kernel_rfl
theorem Lp:∀a:Int,YR prog 3 3 (EQ a)=true:=by intros;kernel_rfl
theorem Lq:∀a b:Int,NB prog 3 3 (EQ a) (EQ b)=some (a==b):=by intros;kernel_rfl
theorem P1:∀a b:Key,NB prog 3 168 (Jd a) (Jd b)=some (a.1==b.1 && (a.2.1==b.2.1 && (a.2.2==b.2.2 && true))):=by intros;kernel_rfl
theorem Ai:prog.follows .mixedOrders=true:=by kernel_rfl
theorem ZJ:(prog.info? 3).bind (·.zero)=some (.int .i64 0):=by kernel_rfl
theorem SV:(prog.info? 3).bind (·.zero)=some (.int .i64 0):=by kernel_rfl
theorem DW:Ea prog 104=some [(0,5)]:=by kernel_rfl
theorem GE:Ea prog 108=some [(0,5),(5,1),(6,1)]:=by kernel_rfl
theorem H5:Ea prog 119=some [(0,3),(3,6),(9,6)]:=by kernel_rfl
theorem ZK:Ea prog 168=some [(0,1),(1,1),(2,1)]:=by kernel_rfl
theorem Mt:Ea prog 26=some [(0,1),(1,1),(2,1),(3,1),(4,1)]:=by kernel_rfl
theorem Id:Ea prog 31=some [(0,1),(1,1)]:=by kernel_rfl
theorem Mu:Ea prog 75=some [(0,1),(1,1),(2,1),(3,2)]:=by kernel_rfl
theorem Qz:Ea prog 79=some [(0,1),(1,1),(2,2)]:=by kernel_rfl
theorem V2:Ea prog 99=some [(0,1),(1,1),(2,1),(3,2)]:=by kernel_rfl
theorem SW:YP prog 9 230=some 5:=by kernel_rfl
theorem JY:ET prog 102=some (1,#[.slice none 0 0],27):=by kernel_rfl
theorem XY:ET prog 105=some (15,#[.int .i64 0,.int .i64 0,.int .i64 0,.int .i64 0,.int .i64 0,.int .i64 0,.int .i64 0,.int .i64 0,.int .i64 0,.bool false,.bool false,.bool false,.bool false,.bool false,.bool false],119):=by kernel_rfl
theorem Fw:ET prog 165=some (1,#[.int .i64 0],32):=by kernel_rfl
theorem SX:ET prog 22=some (5,#[.string ⟨#[]⟩,.int .i64 0,.int .i64 0,.int .i64 0,.int .i64 0],99):=by kernel_rfl
theorem SY:ET prog 23=some (5,#[.int .i64 0,.int .i64 0,.int .i64 0,.int .i64 0,.int .i64 0],75):=by kernel_rfl
theorem JD:ET prog 24=some (4,#[.int .i64 0,.int .i64 0,.int .i64 0,.int .i64 0],79):=by kernel_rfl
theorem CO:ET prog 27=some (1,#[.int .i64 0],3):=by kernel_rfl
theorem JE:J2 prog 102=true:=by kernel_rfl
theorem GF:J2 prog 105=true:=by kernel_rfl
theorem SZ:J2 prog 165=true:=by kernel_rfl
theorem Co:J2 prog 22=true:=by kernel_rfl
theorem DZ:J2 prog 23=true:=by kernel_rfl
theorem ZL:J2 prog 230=true:=by kernel_rfl
theorem E5:J2 prog 24=true:=by kernel_rfl
theorem Cp:J2 prog 27=true:=by kernel_rfl
theorem fx_sl55:J2 prog 55=true:=by kernel_rfl
theorem EE:M5 prog 9=true:=by kernel_rfl
theorem JF:CH prog 102=some (false,1):=by kernel_rfl
theorem Bp:CH prog 104=some (true,5):=by kernel_rfl
theorem DX:CH prog 105=some (false,1):=by kernel_rfl
theorem Sa:CH prog 106=some (false,1):=by kernel_rfl
theorem BE:CH prog 108=some (true,7):=by kernel_rfl
theorem fx_ty115:CH prog 115=some (true,3):=by kernel_rfl
theorem fx_ty116:CH prog 116=some (true,6):=by kernel_rfl
theorem ZM:CH prog 117=some (true,6):=by kernel_rfl
theorem Bg:CH prog 119=some (true,15):=by kernel_rfl
theorem ZN:CH prog 120=some (false,1):=by kernel_rfl
theorem ZO:CH prog 135=some (true,4):=by kernel_rfl
theorem ZP:CH prog 138=some (false,1):=by kernel_rfl
theorem LN:CH prog 147=some (false,1):=by kernel_rfl
theorem OR:CH prog 168=some (true,3):=by kernel_rfl
theorem ZQ:CH prog 179=some (false,1):=by kernel_rfl
theorem HE:CH prog 181=some (false,1):=by kernel_rfl
theorem Eh:CH prog 204=some (false,1):=by kernel_rfl
theorem B9:CH prog 22=some (false,1):=by kernel_rfl
theorem Bq:CH prog 23=some (false,1):=by kernel_rfl
theorem CY:CH prog 24=some (false,1):=by kernel_rfl
theorem Al:CH prog 26=some (true,5):=by kernel_rfl
theorem DJ:CH prog 27=some (false,1):=by kernel_rfl
theorem AN:CH prog 3=some (false,1):=by kernel_rfl
theorem Bl:CH prog 31=some (true,2):=by kernel_rfl
theorem V3:CH prog 32=some (false,1):=by kernel_rfl
theorem Hl:CH prog 4=some (false,1):=by kernel_rfl
theorem fx_ty5:CH prog 5=some (false,1):=by kernel_rfl
theorem FZ:CH prog 57=some (true,3):=by kernel_rfl
theorem Hc:CH prog 73=some (false,1):=by kernel_rfl
theorem F5:CH prog 75=some (true,5):=by kernel_rfl
theorem En:CH prog 79=some (true,4):=by kernel_rfl
theorem KY:CH prog 9=some (false,1):=by kernel_rfl
theorem Ge:CH prog 99=some (true,5):=by kernel_rfl
theorem XZ:(prog.underlying 179).isSome=true:=by kernel_rfl
theorem Xa:(prog.underlying 188).isSome=true:=by kernel_rfl
theorem FN:(prog.underlying 203).isSome=true:=by kernel_rfl
theorem Q0:(prog.underlying 3).isSome=true:=by kernel_rfl
theorem Fb:(prog.underlying 5).isSome=true:=by kernel_rfl
theorem HF:prog.underlying 147=some (.chan .both 27):=by kernel_rfl
theorem U4:B4 prog 102=some #[.slice none 0 0]:=by kernel_rfl
theorem Bm:B4 prog 104=some #[.int .i64 0,.int .i64 0,.slice none 0 0,.slice none 0 0,.slice none 0 0]:=by kernel_rfl
theorem U5:B4 prog 105=some #[.slice none 0 0]:=by kernel_rfl
theorem BP:B4 prog 108=some #[.int .i64 0,.int .i64 0,.slice none 0 0,.slice none 0 0,.slice none 0 0,.slice none 0 0,.map none]:=by kernel_rfl
theorem DY:B4 prog 119=some #[.int .i64 0,.int .i64 0,.int .i64 0,.int .i64 0,.int .i64 0,.int .i64 0,.int .i64 0,.int .i64 0,.int .i64 0,.bool false,.bool false,.bool false,.bool false,.bool false,.bool false]:=by kernel_rfl
theorem U6:B4 prog 147=some #[.chan none]:=by kernel_rfl
theorem OS:B4 prog 168=some #[.int .i64 0,.int .i64 0,.int .i64 0]:=by kernel_rfl
theorem OT:B4 prog 181=some #[.nilFunc]:=by kernel_rfl
theorem U7:B4 prog 204=some #[.int .u64 0]:=by kernel_rfl
theorem Di:B4 prog 26=some #[.int .i64 0,.int .i64 0,.slice none 0 0,.slice none 0 0,.slice none 0 0]:=by kernel_rfl
theorem Xb:B4 prog 27=some #[.slice none 0 0]:=by kernel_rfl
theorem ZR:B4 prog 3=some #[.int .i64 0]:=by kernel_rfl
theorem CX:B4 prog 31=some #[.int .i64 0,.int .i64 0]:=by kernel_rfl
theorem fx_zero32:B4 prog 32=some #[.int .i64 0]:=by kernel_rfl
theorem ZS:B4 prog 4=some #[.bool false]:=by kernel_rfl
theorem Ls:B4 prog 57=some #[.slice none 0 0,.slice none 0 0,.slice none 0 0]:=by kernel_rfl
theorem Eo:B4 prog 75=some #[.int .i64 0,.int .i64 0,.int .i64 0,.int .i64 0,.int .i64 0]:=by kernel_rfl
theorem Fx:B4 prog 79=some #[.int .i64 0,.int .i64 0,.int .i64 0,.int .i64 0]:=by kernel_rfl
theorem Gr:B4 prog 99=some #[.string ⟨#[]⟩,.int .i64 0,.int .i64 0,.int .i64 0,.int .i64 0]:=by kernel_rfl
end Go.Ns
namespace Go.Ns
open Go.Conc Go.Proofs Go.Proofs.Tryz
attribute [local irreducible] Be EF Tr Aa Ca B5
theorem BW {W:Wk prog} {h:GH} (n:Int) (lo:Int) (hi:Int):Aa W 79 #[J n,J lo,J hi] h (fun v h'=>v=(.bool (decide (lo≤n∧n≤hi)):Value)∧h=h'):=by
 refine AL func79 Z (Nb Z) (Sq (Rg (As (.bool false) Z Z (Nl (BA (fun σ' ds' h'=>ds'=[]∧h=h'∧σ' 6=.bool (Q3j lo n hi)) ?_ ?_)))))
 ·refine Rg (Mv (J lo) Z Z (Mv (J n) Z Z (Pl Z (Dp (a:=lo) (b:=n) Z Z (Mv (TA lo n) Z Z (BN (p:=lo≤n) ?_ ?_))))))
  ·intro aa;exact Gg 3 10 (AE Z aa) Z (AA (v:=J n) Z (Gg 3 10 (AE Z aa) Z (AA (v:=J hi) Z (Gg 3 10 (AE Z aa) Z (Dp (a:=n) (b:=hi) Z Z (Pk true (TA n hi) Z (AE Z aa) Z (As (TA n hi) Z Z (Nl (⟨Z,Z,Et (b:=(.bool (decide (n≤hi)):Value)) Z (congrArg Value.bool (by (simp [aa];done):decide (n≤hi)=(Q3j lo n hi)))⟩)))))))))
  ·intro aa;exact Gs 3 10 (AD Z aa) Z (Gs 3 10 (AD Z aa) Z (Gs 3 10 (AD Z aa) Z (Pk false (.bool false) Z (AD Z aa) Z (As (.bool false) Z Z (Nl (⟨Z,Z,Et (b:=(.bool false:Value)) Z (congrArg Value.bool (by (simp [aa];done):false=(Q3j lo n hi)))⟩))))))
 ·rintro _ _ _ ⟨ac,ab,ad⟩;subst ac;subst ab;exact Rt (⟨.inr Z,Ac Z (v:=.bool (Q3j lo n hi)) ad (⟨(by rfl),Z⟩)⟩)
theorem OU {W:Wk prog} {h:GH} (xl:Int) (xh:Int) (lo:Int) (hi:Int):Aa W 129 #[.agg #[J xl,J xh],J lo,J hi] h (fun v h'=>v=(.bool (decide ((lo≤xl∧xl≤xh)∧xh≤hi)):Value)∧h.Le h'):=by
 refine AL func129 Z (Nb Z) (Sq (Rg (Pl Z (Aq (v:=.agg #[J xl,J xh]) (c:=#[J xl,J xh]) Z Z fun _ h2 _ ae ad _=>As (.bool false) Z Z (Nl (BA (fun σ' ds' h'=>ds'=[]∧h2=h'∧σ' 6=.bool (Zw lo xl xh hi)) ?_ ?_))))))
 ·refine Rg (Mv (J lo) Z Z (Fa Cm Z Z (Ld (J xl) Z Z (Rd.one AN ad Z) (Pl Z (Dp (a:=lo) (b:=xl) Z Z (Mv (TA lo xl) Z Z (BN (p:=lo≤xl) ?_ ?_)))))))
  ·intro aa;refine Gg 4 11 (AE Z aa) Z (AM Cm Z (Gg 4 11 (AE Z aa) Z (AF (v:=J xl) Z (Rd.one AN ad Z) (Gg 4 11 (AE Z aa) Z (AM C0 Z (Gg 4 11 (AE Z aa) Z (AF (v:=J xh) Z (Rd.one AN ad Z) (Gg 4 11 (AE Z aa) Z (Dp (a:=xl) (b:=xh) Z Z (Pk true (TA xl xh) Z (AE Z aa) Z (Mv (TA xl xh) Z Z (BN (p:=xl≤xh) ?_ ?_))))))))))))
   ·intro ab;exact Gg 11 18 (AE Z ab) Z (AM C0 Z (Gg 11 18 (AE Z ab) Z (AF (v:=J xh) Z (Rd.one AN ad Z) (Gg 11 18 (AE Z ab) Z (AA (v:=J hi) Z (Gg 11 18 (AE Z ab) Z (Dp (a:=xh) (b:=hi) Z Z (Pk true (TA xh hi) Z (AE Z ab) Z (As (TA xh hi) Z Z (Nl (⟨Z,Z,Et (b:=(.bool (decide (xh≤hi)):Value)) Z (congrArg Value.bool (by (simp [aa,ab];done):decide (xh≤hi)=(Zw lo xl xh hi)))⟩)))))))))))
   ·intro ab;exact Gs 11 18 (AD Z ab) Z (Gs 11 18 (AD Z ab) Z (Gs 11 18 (AD Z ab) Z (Gs 11 18 (AD Z ab) Z (Pk false (.bool false) Z (AD Z ab) Z (As (.bool false) Z Z (Nl (⟨Z,Z,Et (b:=(.bool false:Value)) Z (congrArg Value.bool (by (simp [aa,ab];done):false=(Zw lo xl xh hi)))⟩)))))))
  ·intro aa;exact Gs 4 11 (AD Z aa) Z (Gs 4 11 (AD Z aa) Z (Gs 4 11 (AD Z aa) Z (Gs 4 11 (AD Z aa) Z (Gs 4 11 (AD Z aa) Z (Pk false (.bool false) Z (AD Z aa) Z (Mv (.bool false) Z Z (Gs 11 18 Z Z (Gs 11 18 Z Z (Gs 11 18 Z Z (Gs 11 18 Z Z (Pk false (.bool false) Z Z Z (As (.bool false) Z Z (Nl (⟨Z,Z,Et (b:=(.bool false:Value)) Z (congrArg Value.bool (by (simp [aa];done):false=(Zw lo xl xh hi)))⟩))))))))))))))
 ·rintro _ _ _ ⟨af,ac,ag⟩;subst af;subst ac;exact Rt (⟨.inr Z,Ac Z (v:=.bool (Zw lo xl xh hi)) ag (⟨(by rfl),ae⟩)⟩)
theorem Sb {W:Wk prog} {h:GH} (xl:Int) (xh:Int):Aa W 201 #[.agg #[J xl,J xh]] h (fun v h'=>v=(.bool (decide (Ev xl xh)):Value)∧h.Le h'):=by
 refine AL func201 Z (Nb Z) (Sq (Rg (Pl Z (Aq (v:=.agg #[J xl,J xh]) (c:=#[J xl,J xh]) Z Z fun _ h2 _ ae ah _=>As (.bool false) Z Z (Nl (BA (fun σ' ds' h'=>ds'=[]∧GH.Le h2 h'∧σ' 2=.bool (Q2k xl xh)) ?_ ?_))))))
 ·refine Rg (Ld (.agg #[J xl,J xh]) Z Z (AO Bl (Bx ah Z)) (Pl Z (Az func129 OG Z Z Z ((OU xl xh 0 99 ).mono fun _ _ ai=>?_))));obtain ⟨rfl,ab⟩:=ai;refine Mv (.bool (decide ((0≤xl∧xl≤xh)∧xh≤99))) Z Z (BN (p:=(0≤xl∧xl≤xh)∧xh≤99) ?_ ?_)
  ·intro aa;exact Gg 2 5 (AE Z aa) Z (AM C0 Z (have ac:=ab.keep ah Z;Gg 2 5 (AE Z aa) Z (AF (v:=J xh) Z (Rd.one AN ac Z) (Gg 2 5 (AE Z aa) Z (AM Cm Z (Gg 2 5 (AE Z aa) Z (AF (v:=J xl) Z (Rd.one AN ac Z) (Gg 2 5 (AE Z aa) Z (BL (a:=xh) (b:=xl) Z Z (by omega) (Gg 2 5 (AE Z aa) Z (A9 (a:=xh-xl) (b:=3) Z Z (Pk true (.bool (decide ((xh-xl)<3))) Z (AE Z aa) Z (As (.bool (decide ((xh-xl)<3))) Z Z (Nl (⟨Z,ab,Et (b:=(.bool (decide ((xh-xl)<3)):Value)) Z (congrArg Value.bool (by (simp [aa];done):decide ((xh-xl)<3)=(Q2k xl xh)))⟩)))))))))))))))
  ·intro aa;exact Gs 2 5 (AD Z aa) Z (Gs 2 5 (AD Z aa) Z (Gs 2 5 (AD Z aa) Z (Gs 2 5 (AD Z aa) Z (Gs 2 5 (AD Z aa) Z (Gs 2 5 (AD Z aa) Z (Pk false (.bool false) Z (AD Z aa) Z (As (.bool false) Z Z (Nl (⟨Z,ab,Et (b:=(.bool false:Value)) Z (congrArg Value.bool (by (simp [aa];done):false=(Q2k xl xh)))⟩)))))))))
 ·rintro _ _ _ ⟨af,ad,ag⟩;subst af;exact Rt (⟨.inr Z,Ac Z (v:=.bool (Q2k xl xh)) ag (⟨(by rfl),(ae.trans ad)⟩)⟩)
theorem Fc {W:Wk prog} {h:GH} (b:Bool):Aa W 76 #[.bool b] h (fun v h'=>v=(J (if b then (0:Int) else 6):Value)∧h=h'):=by
 refine AL func76 Z (Nb Z) (Sq (Rg (As (J 0) Z Z (Nl (Sq (Sq (Rg (Mv (.bool b) Z Z (Pl Z (Dq (b:=b) Z (Nl (Cc (t:= !b) Z (fun aa=>?_) (fun aa=>?_)))))))))))))
 ·have hc1_:b=false:=by simpa using aa
  exact Sq (Rg (As (J 6) Z Z (Nl (Rt (⟨.inr Z,Ac Z (v:=J 6) Z (⟨(by simp_all),Z⟩)⟩)))))
 ·have hc1_:b=true:=by simpa using aa
  exact Sk (Sq (Rg (As (J 0) Z Z (Nl (Rt (⟨.inr Z,Ac Z (v:=J 0) Z (⟨(by simp_all),Z⟩)⟩))))))
theorem FG {W:Wk prog} {h:GH} (b:Bool):Aa W 78 #[.bool b] h (fun v h'=>v=(J (if b then (0:Int) else 1):Value)∧h=h'):=by
 refine AL func78 Z (Nb Z) (Sq (Rg (As (J 0) Z Z (Nl (Sq (Sq (Rg (Mv (.bool b) Z Z (Pl Z (Dq (b:=b) Z (Nl (Cc (t:= !b) Z (fun aa=>?_) (fun aa=>?_)))))))))))))
 ·have hc1_:b=false:=by simpa using aa
  exact Sq (Rg (As (J 1) Z Z (Nl (Rt (⟨.inr Z,Ac Z (v:=J 1) Z (⟨(by simp_all),Z⟩)⟩)))))
 ·have hc1_:b=true:=by simpa using aa
  exact Sk (Sq (Rg (As (J 0) Z Z (Nl (Rt (⟨.inr Z,Ac Z (v:=J 0) Z (⟨(by simp_all),Z⟩)⟩))))))
theorem GG {W:Wk prog} {h:GH} (d:Int) (m:Int) (gs:List Good) (gsv:Value) (ms:List AB) (msv:Value) (cs:List AC) (csv:Value) (n:Int) (hgs:AK h gsv 5 BH gs) (hms:AK h msv 5 BC ms) (hcs:AK h csv 4 Av cs):Aa W 77 #[.agg #[J d,J m,gsv,msv,csv],J n] h (fun v h'=>v=(.bool (decide (0≤n∧n≤(gs.length:Int)-1)):Value)∧h.Le h'):=by
 have ab:=hgs.len;have ac:=hms.len;have ad:=hcs.len;refine AL func77 Z (Nb Z) (Sq (Rg (Pl Z (Aq (v:=.agg #[J d,J m,gsv,msv,csv]) (c:=#[J d,J m,gsv,msv,csv]) Z Z fun _ _ _ aa af _=>As (.bool false) Z Z (Nl (Sq (Rg (Mv (J n) Z Z (Fa Ax Z Z (Fa BJ Z Z (Ld gsv Z Z (Rd.one B9 af Z) (Pl Z (Ab Co (hgs.le aa) Z (Pl Z (BL (a:=(gs.length:Int)) (b:=1) Z Z (by omega) (Pl Z (Az func79 B1 Z Z Z ((BW n 0 ((gs.length:Int)-1) ).mono fun _ _ ae=>?_))))))))))))))))));obtain ⟨rfl,rfl⟩:=ae;exact As (.bool (decide (0≤n∧n≤((gs.length:Int)-1)))) Z Z (Nl (Rt (⟨.inr Z,Ac Z (v:=.bool (decide (0≤n∧n≤((gs.length:Int)-1)))) Z (⟨(by rfl),aa⟩)⟩)))
theorem MR {W:Wk prog} {h:GH} (d:Int) (m:Int) (gs:List Good) (gsv:Value) (ms:List AB) (msv:Value) (cs:List AC) (csv:Value) (n:Int) (hgs:AK h gsv 5 BH gs) (hms:AK h msv 5 BC ms) (hcs:AK h csv 4 Av cs):Aa W 108 #[.agg #[J d,J m,gsv,msv,csv],J n] h (fun v h'=>v=(.bool (decide (0≤n∧n≤(ms.length:Int)-1)):Value)∧h.Le h'):=by
 have ab:=hgs.len;have ac:=hms.len;have ad:=hcs.len;refine AL func108 Z (Nb Z) (Sq (Rg (Pl Z (Aq (v:=.agg #[J d,J m,gsv,msv,csv]) (c:=#[J d,J m,gsv,msv,csv]) Z Z fun _ _ _ aa af _=>As (.bool false) Z Z (Nl (Sq (Rg (Mv (J n) Z Z (Fa Ax Z Z (Fa BB Z Z (Ld msv Z Z (Rd.one Bq af Z) (Pl Z (Ab DZ (hms.le aa) Z (Pl Z (BL (a:=(ms.length:Int)) (b:=1) Z Z (by omega) (Pl Z (Az func79 B1 Z Z Z ((BW n 0 ((ms.length:Int)-1) ).mono fun _ _ ae=>?_))))))))))))))))));obtain ⟨rfl,rfl⟩:=ae;exact As (.bool (decide (0≤n∧n≤((ms.length:Int)-1)))) Z Z (Nl (Rt (⟨.inr Z,Ac Z (v:=.bool (decide (0≤n∧n≤((ms.length:Int)-1)))) Z (⟨(by rfl),aa⟩)⟩)))
theorem Lt {W:Wk prog} {h:GH} (p:AU) (i:Int) (hi0:0≤i) (hi1:i<6):Aa W 83 #[.agg (An p),J i] h (fun v h'=>v=(J (Br p ((i).toNat)):Value)∧h.Le h'):=by
 refine AL func83 Z (Nb Z) (Sq (Rg (Pl Z (Aq (v:=.agg (An p)) (c:=An p) Z Z fun _ _ _ aa ad _=>As (J 0) Z Z (Nl (Sq (Sq (Rg (Mv (J i) Z Z (Fa Ef Z Z ?_))))))))));have ae:(0:Int)≤i:=by omega
 have af:i<((6:Nat):Int):=by omega
 refine Pl Z (C5 Gq Z Z ae af (Ld (.bool (p.lies (i.toNat))) Z Z (Rd.one Hl ad (J9 (i:=i.toNat) (by omega))) (Nl (Cc (t:=p.lies (i.toNat)) Z (fun ag=>?_) (fun ag=>?_)))))
 ·exact Sq (Rg (As (J 0) Z Z (Nl (Rt (⟨.inr Z,Ac Z (v:=J 0) Z (⟨(by simp_all [Br]),aa⟩)⟩)))))
 ·refine Sk (Sq (Rg (Mv (J i) Z Z (Fa JC Z Z ?_))));have ab:(0:Int)≤i:=by omega
  have ac:i<((6:Nat):Int):=by omega
  exact Pl Z (C5 Li Z Z ab ac (Ld (J (p.many (i.toNat))) Z Z (Rd.one AN ad (TR (i:=i.toNat) (by omega))) (As (J (p.many (i.toNat))) Z Z (Nl (Rt (⟨.inr Z,Ac Z (v:=J (p.many (i.toNat))) Z (⟨(by simp_all [Br]),aa⟩)⟩))))))
theorem U8 {W:Wk prog} {h:GH} (p:AU):Aa W 101 #[.agg (An p)] h (fun v h'=>v=(J (Au p 6:Int):Value)∧h.Le h'):=by
 refine AL func101 Z (Nb Z) (Sq (Rg (Pl Z (Aq (v:=.agg (An p)) (c:=An p) Z Z fun _ h2 _ ab al _=>As (J 0) Z Z (Nl (Sq (Rg (As (J 0) Z Z (Nl (Sq (Sq (Rg (Fa Ef Z Z (Ld (.agg #[.bool (p.lies 0),.bool (p.lies 1),.bool (p.lies 2),.bool (p.lies 3),.bool (p.lies 4),.bool (p.lies 5)]) Z Z (GJ (o:=9) (ws:=#[.bool (p.lies 0),.bool (p.lies 1),.bool (p.lies 2),.bool (p.lies 3),.bool (p.lies 4),.bool (p.lies 5)]) ZM (Bx al Z) (Nb Z) Z) (Mv (J 0) Z Z (Nl (Bk (Ay (fun nn σ' ds' h'=>∃(k:Nat),nn=6-k∧(k≤6)∧ds'=[]∧GH.Le h2 h'∧σ' 2=J 0∧σ' 7=.agg #[.bool (p.lies 0),.bool (p.lies 1),.bool (p.lies 2),.bool (p.lies 3),.bool (p.lies 4),.bool (p.lies 5)]∧σ' 3=J (Au p k:Int)∧σ' 8=J k) ⟨0,Z,(by omega),Z,Lr,Z,Z,Z,Z⟩ (fun nn _ _ _ ac=>?_)))))))))))))))))));obtain ⟨k,rfl,hk,am,ad,ak,ae,af,aa⟩:=ac;subst am;have hly:=NJ p k;refine Sq (Rg (Pl Z (A9 (a:=(k:Int)) (b:=6) aa Z (Nl (Sq (AZ (p:=(k:Int)<6) Z (fun ag=>?_) (fun ag=>?_)))))))
 ·refine Sk (Sq (Bk (Sq (Rg ?_))));have ah:(0:Int)≤(k:Int):=by omega
  have ai:(k:Int)<((6:Nat):Int):=by omega
  refine Pl Z (PN W3 ae aa ah ai (RX (by omega)) (As (.bool (p.lies k)) Z Z (Nl (Sq (Rg (Mv (.bool (p.lies k)) Z Z (Nl (Cc (t:=p.lies k) Z (fun aj=>?_) (fun aj=>?_)))))))))
  ·exact Rg (Mv (J (Au p k:Int)) Z af (Ad (Au p k:Int) 1 Z Z Z (by omega) (As (J ((Au p k:Int)+1)) Z Z (Nl (Rg (Ad (k:Int) 1 Z aa Z (by omega) (Mv (J ((k:Int)+1)) Z Z (Nl (⟨_,by omega,k+1,Z,(by omega),Z,ad,ak,ae,(Et (b:=(J ((Au p k:Int)+1):Value)) Z (by congr 1;simp_all [Au])),Z⟩)))))))))
  ·exact Sk (Rg (Ad (k:Int) 1 Z aa Z (by omega) (Mv (J ((k:Int)+1)) Z Z (Nl (⟨_,by omega,k+1,Z,(by omega),Z,ad,ak,ae,(Et (b:=(J (Au p k:Int):Value)) af (by congr 1;simp_all [Au])),Z⟩)))))
 ·exact Xt (Sq (Rg (Mv (J (Au p k:Int)) Z af (As (J (Au p k:Int)) Z Z (Nl (Rt (⟨.inr Z,Ac Z (v:=J (Au p k:Int)) Z (⟨(by obtain rfl:k=6:=(by omega);rfl),(ab.trans ad)⟩)⟩)))))))
theorem O9 {W:Wk prog} {h:GH} (a:List Int) (av:Value) (b:List Int) (bv:Value) (ha:AK h av 1 eI a) (hb:AK h bv 1 eI b):Aa W 22 #[av,bv] h (fun v h'=>v=(.bool (decide (a=b)):Value)∧h.Le h'):=by
 have ad:=ha.len;have ae:=hb.len;refine AL func22 Z (Nb Z) (Sq (Rg (As (.bool false) Z Z (Nl (Sq (Sq (Rg (Mv av Z Z (Pl Z (Ab Cp ha Z (Mv bv Z Z (Pl Z (Ab Cp hb Z (Pl Z (BI (a:=(a.length:Int)) (b:=(b.length:Int)) Z Z (Nl (AZ (p:=¬(a.length:Int)=(b.length:Int)) Z (fun ar=>?_) (fun ar=>?_))))))))))))))))))
 ·exact Sq (Rg (As (.bool false) Z Z (Nl (Rt (⟨.inr Z,Ac Z (v:=.bool false) Z (⟨(by (rw [decide_eq_false (ne_len (by omega))];done)),Lr⟩)⟩)))))
 ·refine Sk (Sq (Sq (Rg (As (J 0) Z Z (Nl (Bk (Ay (fun nn σ' ds' h'=>∃(k:Nat),nn=a.length-k∧(k≤a.length)∧(a.take k=b.take k)∧ds'=[]∧GH.Le h h'∧σ' 0=av∧σ' 1=bv∧σ' 5=J k) ⟨0,Z,(by omega),(by rfl),Z,Lr,Z,Z,Z⟩ (fun nn _ _ _ au=>?_))))))));obtain ⟨k,rfl,hk,hs,x8,x9,af,aq,ac⟩:=au;subst x8;refine Sq (Sq (Rg (Mv (J k) Z ac (Mv av Z af (Pl Z (Ab Cp (ha.le x9) Z (Pl Z (A9 (a:=(k:Int)) (b:=(a.length:Int)) Z Z (Nl (AZ (p:=(k:Int)<(a.length:Int)) Z (fun ag=>?_) (fun ag=>?_)))))))))))
  ·refine Sk (Sq (Bk (Sq (BR 8 false [1,6,10,16,21,26,30,36] Ai (by kernel_rfl) (tR Z Z (AA (v:=av) af vz) (tR Z Z (AA (v:=J k) ac vz) ?_))))));have ah:(0:Int)≤(k:Int):=by omega
   have ai:(k:Int)<((a.length:Nat):Int):=by omega
   refine tI Z Z AV ha Z Z ah ai fun aw aa aj=>have ak:Ae _ aw aa 1 (eI (a.getD k 0)):=Ae.getD 0 aj;tR Z Z (AF (v:=J (a.getD k 0)) Z (CL AN (ak.le x9) Z) vz) (tR Z Z (AA (v:=bv) aq vz) (tR Z Z (AA (v:=J k) ac vz) ?_));have al:(0:Int)≤(k:Int):=by omega
   have am:(k:Int)<((b.length:Nat):Int):=by omega
   refine tI Z Z AV hb Z Z al am fun ax ab an=>have ao:Ae _ ax ab 1 (eI (b.getD k 0)):=Ae.getD 0 an;tR Z Z (AF (v:=J (b.getD k 0)) Z (CL AN (ao.le x9) Z) vz) (tN (Pl Z (BI (a:=a.getD k 0) (b:=b.getD k 0) Z Z (Nl (AZ (p:=¬(a.getD k 0)=(b.getD k 0)) Z (fun ap=>?_) (fun ap=>?_))))))
   ·exact Sq (Rg (As (.bool false) Z Z (Nl (Rt (⟨.inr Z,Ac Z (v:=.bool false) Z (⟨(by (rw [decide_eq_false (AAB (k:=k) (d:=0) ‹_›)])),x9⟩)⟩)))))
   ·exact Sk (Rg (Mv (J k) Z ac (Ad (k:Int) 1 Z Z Z (by omega) (As (J ((k:Int)+1)) Z Z (Nl (⟨_,by omega,k+1,Z,(by omega),(by exact NK 0 hs (by omega) (by omega) (by simp_all)),Z,x9,af,aq,Z⟩))))))
  ·exact Xt (Sq (Rg (As (.bool true) Z Z (Nl (Rt (⟨.inr Z,Ac Z (v:=.bool true) Z (⟨(by (rw [decide_eq_true (QN hs hk ‹_› (by omega))];done)),x9⟩)⟩))))))
theorem ZT {W:Wk prog} {h:GH} (a:List Int) (av:Value) (n:Int) (ha:AK h av 1 eI a):Aa W 42 #[av,J n] h (fun v h'=>v=(.bool (decide (n ∈ a)):Value)∧h.Le h'):=by
 have ab:=ha.len;refine AL func42 Z (Nb Z) (Sq (Rg (As (.bool false) Z Z (Nl (Sq (Sq (Rg (As (J 0) Z Z (Nl (Bk (Ay (fun nn σ' ds' h'=>∃(k:Nat),nn=a.length-k∧(k≤a.length)∧(¬n ∈ a.take k)∧ds'=[]∧GH.Le h h'∧σ' 0=av∧σ' 1=J n∧σ' 5=J k) ⟨0,Z,(by omega),(by simp),Z,Lr,Z,Z,Z⟩ (fun nn _ _ _ aj=>?_))))))))))));obtain ⟨k,rfl,hk,hs,x6,x7,x8,x9,ac⟩:=aj;subst x6;refine Sq (Sq (Rg (Mv (J k) Z ac (Mv av Z x8 (Pl Z (Ab Cp (ha.le x7) Z (Pl Z (A9 (a:=(k:Int)) (b:=(a.length:Int)) Z Z (Nl (AZ (p:=(k:Int)<(a.length:Int)) Z (fun ad=>?_) (fun ad=>?_)))))))))))
 ·refine Sk (Sq (Bk (Sq (Rg (Mv av Z x8 (Mv (J k) Z ac ?_))))));have ae:(0:Int)≤(k:Int):=by omega
  have af:(k:Int)<((a.length:Nat):Int):=by omega
  refine Pl Z (A0 AV ha Z Z ae af fun ak aa ag=>have ah:Ae _ ak aa 1 (eI (a.getD k 0)):=Ae.getD 0 ag;Ld (Me a k) Z Z (CL AN (ah.le x7) Z) (Mv (J n) Z x9 (Pl Z (CD (a:=a.getD k 0) (b:=n) Z Z (Nl (AZ (p:=(a.getD k 0)=n) Z (fun ai=>?_) (fun ai=>?_)))))))
  ·exact Sq (Rg (As (.bool true) Z Z (Nl (Rt (⟨.inr Z,Ac Z (v:=.bool true) Z (⟨(by (rw [decide_eq_true (AAC (k:=k) ‹_› ‹_›)];done)),x7⟩)⟩)))))
  ·exact Sk (Rg (Mv (J k) Z ac (Ad (k:Int) 1 Z Z Z (by omega) (As (J ((k:Int)+1)) Z Z (Nl (⟨_,by omega,k+1,Z,(by omega),(by exact YU ‹_› hs ‹_›),Z,x7,x8,x9,Z⟩))))))
 ·exact Xt (Sq (Rg (As (.bool false) Z Z (Nl (Rt (⟨.inr Z,Ac Z (v:=.bool false) Z (⟨(by (rw [decide_eq_false (AAD (k:=k) ‹_› hs)])),x7⟩)⟩))))))
theorem Ep {W:Wk prog} {h:GH} (n:Int) (lo:Int) (hi:Int):Aa W 59 #[J n,J lo,J hi] h (fun v h'=>v=(.bool (decide (lo≤n∧n≤hi)):Value)∧h=h'):=by
 refine AL func59 Z (Nb Z) (Sq (Rg (As (.bool false) Z Z (Nl (BA (fun σ' ds' h'=>ds'=[]∧h=h'∧σ' 6=.bool (Q3j lo n hi)) ?_ ?_)))))
 ·refine Rg (Mv (J n) Z Z (Mv (J lo) Z Z (Pl Z (Cd (a:=n) (b:=lo) Z Z (Mv (TA lo n) Z Z (BN (p:=lo≤n) ?_ ?_))))))
  ·intro aa;exact Gg 3 10 (AE Z aa) Z (AA (v:=J n) Z (Gg 3 10 (AE Z aa) Z (AA (v:=J hi) Z (Gg 3 10 (AE Z aa) Z (Dp (a:=n) (b:=hi) Z Z (Pk true (TA n hi) Z (AE Z aa) Z (As (TA n hi) Z Z (Nl (⟨Z,Z,Et (b:=(.bool (decide (n≤hi)):Value)) Z (congrArg Value.bool (by (simp [aa];done):decide (n≤hi)=(Q3j lo n hi)))⟩)))))))))
  ·intro aa;exact Gs 3 10 (AD Z aa) Z (Gs 3 10 (AD Z aa) Z (Gs 3 10 (AD Z aa) Z (Pk false (.bool false) Z (AD Z aa) Z (As (.bool false) Z Z (Nl (⟨Z,Z,Et (b:=(.bool false:Value)) Z (congrArg Value.bool (by (simp [aa];done):false=(Q3j lo n hi)))⟩))))))
 ·rintro _ _ _ ⟨ac,ab,ad⟩;subst ac;subst ab;exact Rt (⟨.inr Z,Ac Z (v:=.bool (Q3j lo n hi)) ad (⟨(by rfl),Z⟩)⟩)
theorem MS {W:Wk prog} {h:GH} (xl:Int) (xh:Int) (lo:Int) (hi:Int):Aa W 65 #[.agg #[J xl,J xh],J lo,J hi] h (fun v h'=>v=(.bool (decide ((lo≤xl∧xl≤xh)∧xh≤hi)):Value)∧h.Le h'):=by
 refine AL func65 Z (Nb Z) (Sq (Rg (Pl Z (Aq (v:=.agg #[J xl,J xh]) (c:=#[J xl,J xh]) Z Z fun _ h2 _ ae ad _=>As (.bool false) Z Z (Nl (BA (fun σ' ds' h'=>ds'=[]∧h2=h'∧σ' 6=.bool (Zw lo xl xh hi)) ?_ ?_))))))
 ·refine Rg (Fa Cm Z Z (Ld (J xl) Z Z (Rd.one AN ad Z) (Mv (J lo) Z Z (Pl Z (Cd (a:=xl) (b:=lo) Z Z (Mv (TA lo xl) Z Z (BN (p:=lo≤xl) ?_ ?_)))))))
  ·intro aa;refine Gg 4 11 (AE Z aa) Z (AM C0 Z (Gg 4 11 (AE Z aa) Z (AF (v:=J xh) Z (Rd.one AN ad Z) (Gg 4 11 (AE Z aa) Z (AM Cm Z (Gg 4 11 (AE Z aa) Z (AF (v:=J xl) Z (Rd.one AN ad Z) (Gg 4 11 (AE Z aa) Z (Cd (a:=xh) (b:=xl) Z Z (Pk true (TA xl xh) Z (AE Z aa) Z (Mv (TA xl xh) Z Z (BN (p:=xl≤xh) ?_ ?_))))))))))))
   ·intro ab;exact Gg 11 18 (AE Z ab) Z (AM C0 Z (Gg 11 18 (AE Z ab) Z (AF (v:=J xh) Z (Rd.one AN ad Z) (Gg 11 18 (AE Z ab) Z (AA (v:=J hi) Z (Gg 11 18 (AE Z ab) Z (Dp (a:=xh) (b:=hi) Z Z (Pk true (TA xh hi) Z (AE Z ab) Z (As (TA xh hi) Z Z (Nl (⟨Z,Z,Et (b:=(.bool (decide (xh≤hi)):Value)) Z (congrArg Value.bool (by (simp [aa,ab];done):decide (xh≤hi)=(Zw lo xl xh hi)))⟩)))))))))))
   ·intro ab;exact Gs 11 18 (AD Z ab) Z (Gs 11 18 (AD Z ab) Z (Gs 11 18 (AD Z ab) Z (Gs 11 18 (AD Z ab) Z (Pk false (.bool false) Z (AD Z ab) Z (As (.bool false) Z Z (Nl (⟨Z,Z,Et (b:=(.bool false:Value)) Z (congrArg Value.bool (by (simp [aa,ab];done):false=(Zw lo xl xh hi)))⟩)))))))
  ·intro aa;exact Gs 4 11 (AD Z aa) Z (Gs 4 11 (AD Z aa) Z (Gs 4 11 (AD Z aa) Z (Gs 4 11 (AD Z aa) Z (Gs 4 11 (AD Z aa) Z (Pk false (.bool false) Z (AD Z aa) Z (Mv (.bool false) Z Z (Gs 11 18 Z Z (Gs 11 18 Z Z (Gs 11 18 Z Z (Gs 11 18 Z Z (Pk false (.bool false) Z Z Z (As (.bool false) Z Z (Nl (⟨Z,Z,Et (b:=(.bool false:Value)) Z (congrArg Value.bool (by (simp [aa];done):false=(Zw lo xl xh hi)))⟩))))))))))))))
 ·rintro _ _ _ ⟨af,ac,ag⟩;subst af;subst ac;exact Rt (⟨.inr Z,Ac Z (v:=.bool (Zw lo xl xh hi)) ag (⟨(by rfl),ae⟩)⟩)
theorem OV {W:Wk prog} {h:GH} (xl:Int) (xh:Int):Aa W 143 #[.agg #[J xl,J xh]] h (fun v h'=>v=(.bool (decide (Ev xl xh)):Value)∧h.Le h'):=by
 refine AL func143 Z (Nb Z) (Sq (Rg (Pl Z (Aq (v:=.agg #[J xl,J xh]) (c:=#[J xl,J xh]) Z Z fun _ h2 _ ae ah _=>As (.bool false) Z Z (Nl (BA (fun σ' ds' h'=>ds'=[]∧GH.Le h2 h'∧σ' 2=.bool (Q2k xl xh)) ?_ ?_))))))
 ·refine Rg (Ld (.agg #[J xl,J xh]) Z Z (AO Bl (Bx ah Z)) (Pl Z (Az func65 Pu Z Z Z ((MS xl xh 0 99 ).mono fun _ _ ai=>?_))));obtain ⟨rfl,ab⟩:=ai;refine Mv (.bool (decide ((0≤xl∧xl≤xh)∧xh≤99))) Z Z (BN (p:=(0≤xl∧xl≤xh)∧xh≤99) ?_ ?_)
  ·intro aa;exact Gg 2 5 (AE Z aa) Z (AM C0 Z (have ac:=ab.keep ah Z;Gg 2 5 (AE Z aa) Z (AF (v:=J xh) Z (Rd.one AN ac Z) (Gg 2 5 (AE Z aa) Z (AM Cm Z (Gg 2 5 (AE Z aa) Z (AF (v:=J xl) Z (Rd.one AN ac Z) (Gg 2 5 (AE Z aa) Z (BL (a:=xh) (b:=xl) Z Z (by omega) (Gg 2 5 (AE Z aa) Z (A9 (a:=xh-xl) (b:=3) Z Z (Pk true (.bool (decide ((xh-xl)<3))) Z (AE Z aa) Z (As (.bool (decide ((xh-xl)<3))) Z Z (Nl (⟨Z,ab,Et (b:=(.bool (decide ((xh-xl)<3)):Value)) Z (congrArg Value.bool (by (simp [aa];done):decide ((xh-xl)<3)=(Q2k xl xh)))⟩)))))))))))))))
  ·intro aa;exact Gs 2 5 (AD Z aa) Z (Gs 2 5 (AD Z aa) Z (Gs 2 5 (AD Z aa) Z (Gs 2 5 (AD Z aa) Z (Gs 2 5 (AD Z aa) Z (Gs 2 5 (AD Z aa) Z (Pk false (.bool false) Z (AD Z aa) Z (As (.bool false) Z Z (Nl (⟨Z,ab,Et (b:=(.bool false:Value)) Z (congrArg Value.bool (by (simp [aa];done):false=(Q2k xl xh)))⟩)))))))))
 ·rintro _ _ _ ⟨af,ad,ag⟩;subst af;exact Rt (⟨.inr Z,Ac Z (v:=.bool (Q2k xl xh)) ag (⟨(by rfl),(ae.trans ad)⟩)⟩)
theorem Sd {W:Wk prog} {h:GH} (c:Int):Aa W 156 #[.int .u8 c] h (fun v h'=>v=(.bool (decide (Ey c)):Value)∧h=h'):=by
 refine AL func156 Z (Nb Z) (Sq (Rg (As (.bool false) Z Z (Nl (BA (fun σ' ds' h'=>ds'=[]∧h=h'∧σ' 2=.bool (Q3s c)) ?_ ?_)))))
 ·refine Rg (Mv (.int .u8 c) Z Z (Pl Z (Cd (a:=c) (b:=97) Z Z (Mv (.bool (decide (97≤c))) Z Z (BN (p:=97≤c) ?_ ?_)))))
  ·intro aa;exact Gg 2 5 (AE Z aa) Z (AA (v:=.int .u8 c) Z (Gg 2 5 (AE Z aa) Z (Dp (a:=c) (b:=122) Z Z (Pk true (.bool (decide (c≤122))) Z (AE Z aa) Z (As (.bool (decide (c≤122))) Z Z (Nl (⟨Z,Z,Et (b:=(.bool (decide (c≤122)):Value)) Z (congrArg Value.bool (by (simp [aa];done):decide (c≤122)=(Q3s c)))⟩)))))))
  ·intro aa;exact Gs 2 5 (AD Z aa) Z (Gs 2 5 (AD Z aa) Z (Pk false (.bool false) Z (AD Z aa) Z (As (.bool false) Z Z (Nl (⟨Z,Z,Et (b:=(.bool false:Value)) Z (congrArg Value.bool (by (simp [aa];done):false=(Q3s c)))⟩)))))
 ·rintro _ _ _ ⟨ac,ab,ad⟩;subst ac;subst ab;exact Rt (⟨.inr Z,Ac Z (v:=.bool (Q3s c)) ad (⟨(by rfl),Z⟩)⟩)
theorem U9 {W:Wk prog} {h:GH} (c:Int):Aa W 157 #[.int .u8 c] h (fun v h'=>v=(.bool (decide (E4 c)):Value)∧h=h'):=by
 refine AL func157 Z (Nb Z) (Sq (Rg (As (.bool false) Z Z (Nl (BA (fun σ' ds' h'=>ds'=[]∧h=h'∧σ' 2=.bool (Q3u c)) ?_ ?_)))))
 ·refine Rg (Mv (.int .u8 c) Z Z (Pl Z (Cd (a:=c) (b:=48) Z Z (Mv (.bool (decide (48≤c))) Z Z (BN (p:=48≤c) ?_ ?_)))))
  ·intro aa;exact Gg 2 5 (AE Z aa) Z (AA (v:=.int .u8 c) Z (Gg 2 5 (AE Z aa) Z (Dp (a:=c) (b:=57) Z Z (Pk true (.bool (decide (c≤57))) Z (AE Z aa) Z (As (.bool (decide (c≤57))) Z Z (Nl (⟨Z,Z,Et (b:=(.bool (decide (c≤57)):Value)) Z (congrArg Value.bool (by (simp [aa];done):decide (c≤57)=(Q3u c)))⟩)))))))
  ·intro aa;exact Gs 2 5 (AD Z aa) Z (Gs 2 5 (AD Z aa) Z (Pk false (.bool false) Z (AD Z aa) Z (As (.bool false) Z Z (Nl (⟨Z,Z,Et (b:=(.bool false:Value)) Z (congrArg Value.bool (by (simp [aa];done):false=(Q3u c)))⟩)))))
 ·rintro _ _ _ ⟨ac,ab,ad⟩;subst ac;subst ab;exact Rt (⟨.inr Z,Ac Z (v:=.bool (Q3u c)) ad (⟨(by rfl),Z⟩)⟩)
theorem Eq {W:Wk prog} {h:GH} (a:Int) (b:Int):Aa W 60 #[J a,J b] h (fun v h'=>v=(.agg #[J a,J b]:Value)∧h.Le h'):=by
 exact AL func60 Z (Nb Z) (Sq (Rg (Pl Z (Aj CX fun _ _ ab aa ac _=>Nl (Sq (Rg (Mv (J a) Z Z (Mv (J b) Z Z (Pl Z (A6 (cells:=#[J a,J b]) Id CX (by kernel_rfl) (Pl Z (AH (v:=.agg #[J a,J b]) (c':=#[J a,J b]) Bl Z Z ac Z Z (by simp) Z fun _ ad ae=>Nl (Rt (⟨.inr Z,J3 Z (v:=.agg #[J a,J b]) Z (AO Bl (Bx ad Z)) (⟨Z,(aa.upd (Ln Lr ab) ae)⟩)⟩))))))))))))))
theorem Se {W:Wk prog} {h:GH} (xl:Int) (xh:Int) (n:Int) (hs:0≤xl∧xl≤xh∧xh≤99) (hn:0≤n∧n≤65535):Aa W 112 #[.agg #[J xl,J xh],J n] h (fun v h'=>v=(J (xl+n%(xh-xl+1)):Value)∧h.Le h'):=by
 have ac:=Int.emod_nonneg n (show xh-xl+1≠0 by omega);have ad:=Int.emod_lt_of_pos n (show 0<xh-xl+1 by omega);exact AL func112 Z (Nb Z) (Sq (Rg (Pl Z (Aq (v:=.agg #[J xl,J xh]) (c:=#[J xl,J xh]) Z Z fun _ _ _ aa ab _=>As (J 0) Z Z (Nl (Sq (BR 10 false [1,6,11,16,21,26,31,36,41,46] Ai (by kernel_rfl) (tR Z Z (AM Cm Z vz) (tR Z Z (AF (v:=J xl) Z (Rd.one AN ab Z) vz) (tR Z Z (AA (v:=J n) Z vz) (tR Z Z (AM C0 Z vz) (tR Z Z (AF (v:=J xh) Z (Rd.one AN ab Z) vz) (tR Z Z (AM Cm Z vz) (tR Z Z (AF (v:=J xl) Z (Rd.one AN ab Z) vz) (tR Z Z (BL (a:=xh) (b:=xl) Z Z (by omega) vz) (tR Z Z (Ct (a:=xh-xl) (b:=1) Z Z (by omega) vz) (tR Z Z (YJ (a:=n) (b:=(xh-xl)+1) Z Z (by omega) (by omega) vz) (tN (Ad xl (n%((xh-xl)+1)) Z Z Z (by omega) (As (J (xl+(n%((xh-xl)+1)))) Z Z (Nl (Rt (⟨.inr Z,Ac Z (v:=J (xl+(n%((xh-xl)+1)))) Z (⟨(by rfl),aa⟩)⟩)))))))))))))))))))))))
theorem MT {W:Wk prog} {h:GH} (p:List Int) (pv:Value) (k:Int) (hp:AK h pv 1 eH p) (hk:0≤k) (hp0:∀i,0≤p.getD i 0∧p.getD i 0≤65535):Aa W 113 #[pv,J k] h (fun v h'=>v=(J (if k<(p.length:Int) then p.getD (k).toNat 0 else 0):Value)∧h.Le h'):=by
 have hpk:=hp0 k.toNat;have aa:=hp.len;refine AL func113 Z (Nb Z) (Sq (Rg (As (J 0) Z Z (Nl (Sq (Sq (Rg (Mv (J k) Z Z (Mv pv Z Z (Pl Z (Ab fx_sl55 hp Z (Pl Z (A9 (a:=k) (b:=(p.length:Int)) Z Z (Nl (AZ (p:=k<(p.length:Int)) Z (fun ac=>?_) (fun ac=>?_))))))))))))))))
 ·refine Sq (Rg (Mv pv Z Z (Mv (J k) Z Z ?_)));have ad:(0:Int)≤k:=by omega
  have ae:k<((p.length:Nat):Int):=by omega
  exact Pl Z (A0 ZI hp Z Z ad ae fun b5 ab af=>have ag:Ae _ b5 ab 1 (eH (p.getD (k.toNat) 0)):=Ae.getD 0 af;Ld (.int .u16 (p.getD (k.toNat) 0)) Z Z (CL ZQ ag Z) (Pl Z (Bc (r:=p.getD (k.toNat) 0) XZ D4 Z (by rw [IntWalk.i64_in _ (by omega)]) (As (J (p.getD (k.toNat) 0)) Z Z (Nl (Rt (⟨.inr Z,Ac Z (v:=J (p.getD (k.toNat) 0)) Z (⟨(by simp_all),Lr⟩)⟩)))))))
 ·exact Sk (Sq (Rg (As (J 0) Z Z (Nl (Rt (⟨.inr Z,Ac Z (v:=J 0) Z (⟨(by simp_all),Lr⟩)⟩))))))
theorem Hd {W:Wk prog} {h:GH} (d:Int) (m:Int) (gs:List Good) (gsv:Value) (ms:List AB) (msv:Value) (cs:List AC) (csv:Value) (n:Int) (hgs:AK h gsv 5 BH gs) (hms:AK h msv 5 BC ms) (hcs:AK h csv 4 Av cs):Aa W 110 #[.agg #[J d,J m,gsv,msv,csv],J n] h (fun v h'=>v=(.bool (decide ((0≤n∧n≤(ms.length:Int)-1)∧(ms.getD (n).toNat AB.z).kind=0)):Value)∧h.Le h'):=by
 have af:=hgs.len;have ag:=hms.len;have ah:=hcs.len;refine AL func110 Z (Nb Z) (Sq (Rg (Pl Z (Aq (v:=.agg #[J d,J m,gsv,msv,csv]) (c:=#[J d,J m,gsv,msv,csv]) Z Z fun _ h5 _ ac ap _=>As (.bool false) Z Z (Nl (BA (fun σ' ds' h'=>ds'=[]∧GH.Le h5 h'∧σ' 4=.bool (decide ((0≤n∧n≤(ms.length:Int)-1)∧(((ms.getD (n.toNat) AB.z).kind)=0)))) ?_ ?_))))))
 ·refine Rg (Ld (.agg #[J d,J m,gsv,msv,csv]) Z Z (AO Bp (Bx ap Z)) (Mv (J n) Z Z (Pl Z (AY func108 OA Z Z ((MR d m gs gsv ms msv cs csv n (hgs.le ac) (hms.le ac) (hcs.le ac) ).mono fun _ _ ai=>?_)))));obtain ⟨rfl,ab⟩:=ai;refine Mv (.bool (decide (0≤n∧n≤(ms.length:Int)-1))) Z Z (BN (p:=0≤n∧n≤(ms.length:Int)-1) ?_ ?_)
  ·intro aa;refine Gg 3 8 (AE Z aa) Z (AM Ax Z (Gg 3 8 (AE Z aa) Z (AM BB Z (Gg 3 8 (AE Z aa) Z (AF (v:=msv) Z (Rd.one Bq (ab.keep ap Z) Z) (Gg 3 8 (AE Z aa) Z (AA (v:=J n) Z ?_)))))));have aj:(0:Int)≤n:=by omega
   have ak:n<((ms.length:Nat):Int):=by omega
   exact Gg 3 8 (AE Z aa) Z (A0 C7 hms Z Z aj ak fun aq ad al=>have am:Ae _ aq ad 5 (BC (ms.getD (n.toNat) AB.z)):=Ae.getD AB.z al;Gg 3 8 (AE Z aa) Z (AM Eg Z (Gg 3 8 (AE Z aa) Z (AF (v:=J ((ms.getD (n.toNat) AB.z).kind)) Z (CL Hc (am.le (ac.trans ab)) Z) (Gg 3 8 (AE Z aa) Z (CD (a:=(ms.getD (n.toNat) AB.z).kind) (b:=0) Z Z (Pk true (.bool (decide (((ms.getD (n.toNat) AB.z).kind)=0))) Z (AE Z aa) Z (As (.bool (decide (((ms.getD (n.toNat) AB.z).kind)=0))) Z Z (Nl (⟨Z,ab,Et (b:=(.bool (decide (((ms.getD (n.toNat) AB.z).kind)=0)):Value)) Z (congrArg Value.bool (by (simp [aa];done):decide (((ms.getD (n.toNat) AB.z).kind)=0)=(decide ((0≤n∧n≤(ms.length:Int)-1)∧(((ms.getD (n.toNat) AB.z).kind)=0)))))⟩))))))))))
  ·intro aa;exact Gs 3 8 (AD Z aa) Z (Gs 3 8 (AD Z aa) Z (Gs 3 8 (AD Z aa) Z (Gs 3 8 (AD Z aa) Z (Gs 3 8 (AD Z aa) Z (Gs 3 8 (AD Z aa) Z (Gs 3 8 (AD Z aa) Z (Gs 3 8 (AD Z aa) Z (Pk false (.bool false) Z (AD Z aa) Z (As (.bool false) Z Z (Nl (⟨Z,ab,Et (b:=(.bool false:Value)) Z (congrArg Value.bool (by (simp [aa];done):false=(decide ((0≤n∧n≤(ms.length:Int)-1)∧(((ms.getD (n.toNat) AB.z).kind)=0)))))⟩)))))))))))
 ·rintro _ _ _ ⟨an,ae,ao⟩;subst an;exact Rt (⟨.inr Z,Ac Z (v:=.bool (decide ((0≤n∧n≤(ms.length:Int)-1)∧(((ms.getD (n.toNat) AB.z).kind)=0)))) ao (⟨(by rfl),(ac.trans ae)⟩)⟩)
theorem Xc {W:Wk prog} {h:GH} (d:Int) (m:Int) (gs:List Good) (gsv:Value) (ms:List AB) (msv:Value) (cs:List AC) (csv:Value) (hgs:AK h gsv 5 BH gs) (hms:AK h msv 5 BC ms) (hcs:AK h csv 4 Av cs):Aa W 194 #[.agg #[J d,J m,gsv,msv,csv]] h (fun v h'=>v=(J (EH d m):Value)∧h.Le h'):=by
 have ad:=hgs.len;have ae:=hms.len;have af:=hcs.len;refine AL func194 Z (Nb Z) (Sq (Rg (Pl Z (Aq (v:=.agg #[J d,J m,gsv,msv,csv]) (c:=#[J d,J m,gsv,msv,csv]) Z Z fun _ h5 _ ab al _=>As (J 0) Z Z (Nl (Sq (BA (fun σ' ds' h'=>ds'=[]∧h5=h'∧σ' 2=J 0∧σ' 14=.bool (Q2v d m)) ?_ ?_)))))))
 ·refine Rg (Fa Ax Z Z (Fa CJ Z Z (Ld (J d) Z Z (Rd.one AN al Z) (Pl Z (Az func79 B1 Z Z Z ((BW d 1 99 ).mono fun _ _ ag=>?_))))));obtain ⟨rfl,rfl⟩:=ag;refine Pl Z (BQ (p:=1≤d∧d≤99) Z (Mv (.bool (decide (¬(1≤d∧d≤99)))) Z Z (BN (p:=¬(1≤d∧d≤99)) ?_ ?_)))
  ·intro aa;exact Gs 5 8 (AE Z aa) Z (Gs 5 8 (AE Z aa) Z (Gs 5 8 (AE Z aa) Z (Gs 5 8 (AE Z aa) Z (Gs 5 8 (AE Z aa) Z (Pk true (.bool true) Z (AE Z aa) Z (Nl (⟨Z,Z,Z,Et (b:=(.bool true:Value)) Z (congrArg Value.bool (by (simp [aa];done):true=(Q2v d m)))⟩)))))))
  ·intro aa;refine Gg 5 8 (AD Z aa) Z (AM Ax Z (Gg 5 8 (AD Z aa) Z (AM Ft Z (Gg 5 8 (AD Z aa) Z (AF (v:=J m) Z (Rd.one AN al Z) (Gg 5 8 (AD Z aa) Z (Az func79 B1 Z Z Z ((BW m 0 2 ).mono fun _ _ ah=>?_))))))));obtain ⟨rfl,rfl⟩:=ah;exact Gg 5 8 (AD Z aa) Z (BQ (p:=0≤m∧m≤2) Z (Pk false (.bool (Q40 m)) Z (AD Z aa) Z (Nl (⟨Z,Z,Z,Et (b:=(.bool (Q40 m):Value)) Z (congrArg Value.bool (by (simp [aa];done):decide (¬(0≤m∧m≤2))=(Q2v d m)))⟩))))
 ·rintro _ _ _ ⟨ai,ac,am,aj⟩;subst ai;subst ac;refine AZ (p:=(¬(1≤d∧d≤99))∨(¬(0≤m∧m≤2))) aj (fun ak=>?_) (fun ak=>?_)
  ·exact Sq (Rg (As (J 1) Z Z (Nl (Rt (⟨.inr Z,Ac Z (v:=J 1) Z (⟨(by simp_all [EH]),ab⟩)⟩)))))
  ·exact Sk (Sq (Rg (As (J 0) Z Z (Nl (Rt (⟨.inr Z,Ac Z (v:=J 0) Z (⟨(by simp_all [EH]),ab⟩)⟩))))))
theorem PA {W:Wk prog} {h:GH} (xs:List Int) (xsv:Value) (fv:Value) (p:Int→Bool) (hxs:AK h xsv 1 eI xs) (hf:∀x ∈ xs,∀h1,h.Le h1→Ca W fv #[J x] h1 fun v h2=>v=.bool (p x)∧h1.Le h2):Aa W 139 #[xsv,fv] h (fun v h'=>v=(J (idxOf p xs):Value)∧h.Le h'):=by
 have ac:=hxs.len;refine AL func139 Z (Nb Z) (Sq (Rg (As (J 0) Z Z (Nl (Sq (Sq (Rg (Mv xsv Z Z (Pl Z (Ab Cp hxs Z (Mv (J 0) Z Z (Nl (Bk (Ay (fun nn σ' ds' h'=>∃(k:Nat),nn=xs.length-k∧(k≤xs.length)∧((xs.take k).any p=false)∧ds'=[]∧GH.Le h h'∧σ' 0=xsv∧σ' 1=fv∧σ' 7=J (xs.length:Int)∧σ' 8=J k) ⟨0,Z,(by omega),(by simp),Z,Lr,Z,Z,Z,Z⟩ (fun nn _ _ _ am=>?_)))))))))))))));obtain ⟨k,rfl,hk,hs,x6,x7,x8,x9,al,ad⟩:=am;subst x6;refine Sq (Rg (Pl Z (A9 (a:=(k:Int)) (b:=(xs.length:Int)) ad al (Nl (Sq (AZ (p:=(k:Int)<(xs.length:Int)) Z (fun ae=>?_) (fun ae=>?_)))))))
 ·refine Sk (Sq (Bk (Sq (Rg (Mv (J k) Z ad (As (J k) Z Z (Nl (Sq (Rg (Mv fv Z x9 (Mv xsv Z x8 (Mv (J k) Z Z ?_))))))))))));have af:(0:Int)≤(k:Int):=by omega
  have ag:(k:Int)<((xs.length:Nat):Int):=by omega
  refine Pl Z (A0 AV hxs Z Z af ag fun an ab ah=>have ai:Ae _ an ab 1 (eI (xs.getD k 0)):=Ae.getD 0 ah;Ld (Me xs k) Z Z (CL AN (ai.le x7) Z) (Pl Z (IG Z (vs:=#[J (xs.getD k 0)]) (by simp only [List.map_toArray,List.map_cons,List.map_nil,AT] <;> rfl) ((hf (xs.getD k 0) (Cx (by omega)) _ x7).mono fun _ _ aj=>?_))));obtain ⟨rfl,aa⟩:=aj;refine Nl (Cc (t:=p (xs.getD k 0)) Z (fun ak=>?_) (fun ak=>?_))
  ·exact Sq (Rg (Mv (J k) Z Z (As (J k) Z Z (Nl (Rt (⟨.inr Z,Ac Z (v:=J k) Z (⟨(by (rw [LW (k:=k) (by omega) hs ‹_›];done)),(x7.trans aa)⟩)⟩))))))
  ·exact Sk (Rg (Ad (k:Int) 1 Z ad Z (by omega) (Mv (J ((k:Int)+1)) Z Z (Nl (⟨_,by omega,k+1,Z,(by omega),(by exact Kr (d:=0) (by omega) hs ‹_›),Z,(x7.trans aa),x8,x9,al,Z⟩)))))
 ·exact Xt (Sq (Rg (As (J (-1)) Z Z (Nl (Rt (⟨.inr Z,Ac Z (v:=J (-1)) Z (⟨(by (rw [KA (k:=k) (by omega) hs])),x7⟩)⟩))))))
theorem H6 {W:Wk prog} {h:GH} (xs:List Int) (xsv:Value) (fv:Value) (p:Int→Bool) (hxs:AK h xsv 1 eI xs) (hf:∀x ∈ xs,∀h1,h.Le h1→Ca W fv #[J x] h1 fun v h2=>v=.bool (p x)∧h1.Le h2):Aa W 92 #[xsv,fv] h (fun v h'=>v=(.bool (xs.any p):Value)∧h.Le h'):=by
 have aa:=hxs.len;refine AL func92 Z (Nb Z) (Sq (Rg (As (.bool false) Z Z (Nl (Sq (Rg (Mv xsv Z Z (Mv fv Z Z (Pl Z (AY func139 UY Z Z ((PA xs xsv fv p hxs (fun x hx h1 l1=>hf x hx h1 (GH.Le.trans Lr l1))).mono fun _ _ ac=>?_)))))))))));obtain ⟨rfl,ab⟩:=ac;exact Pl Z (Cd (a:=idxOf p xs) (b:=0) Z Z (As (.bool (decide (0≤(idxOf p xs)))) Z Z (Nl (Rt (⟨.inr Z,Ac Z (v:=.bool (decide (0≤(idxOf p xs)))) Z (⟨(by rw [show decide (0≤idxOf p xs)=xs.any p from by rw [Bool.eq_iff_iff];simp [Hr]]),ab⟩)⟩)))))
theorem Mf {W:Wk prog} {h:GH} (xs:List AC) (xsv:Value) (fv:Value) (p:AC→Bool) (hxs:AK h xsv 4 Av xs) (hf:∀x ∈ xs,∀h1,h.Le h1→Ca W fv #[.agg #[J x.good,J x.day,J x.low,J x.high]] h1 fun v h2=>v=.bool (p x)∧h1.Le h2):Aa W 158 #[xsv,fv] h (fun v h'=>v=(J (idxOf p xs):Value)∧h.Le h'):=by
 have ac:=hxs.len;refine AL func158 Z (Nb Z) (Sq (Rg (As (J 0) Z Z (Nl (Sq (Sq (Rg (Mv xsv Z Z (Pl Z (Ab E5 hxs Z (Mv (J 0) Z Z (Nl (Bk (Ay (fun nn σ' ds' h'=>∃(k:Nat),nn=xs.length-k∧(k≤xs.length)∧((xs.take k).any p=false)∧ds'=[]∧GH.Le h h'∧σ' 0=xsv∧σ' 1=fv∧σ' 7=J (xs.length:Int)∧σ' 8=J k) ⟨0,Z,(by omega),(by simp),Z,Lr,Z,Z,Z,Z⟩ (fun nn _ _ _ am=>?_)))))))))))))));obtain ⟨k,rfl,hk,hs,x6,x7,x8,x9,al,ad⟩:=am;subst x6;refine Sq (Rg (Pl Z (A9 (a:=(k:Int)) (b:=(xs.length:Int)) ad al (Nl (Sq (AZ (p:=(k:Int)<(xs.length:Int)) Z (fun ae=>?_) (fun ae=>?_)))))))
 ·refine Sk (Sq (Bk (Sq (Rg (Mv (J k) Z ad (As (J k) Z Z (Nl (Sq (Rg (Mv fv Z x9 (Mv xsv Z x8 (Mv (J k) Z Z ?_))))))))))));have af:(0:Int)≤(k:Int):=by omega
  have ag:(k:Int)<((xs.length:Nat):Int):=by omega
  refine Pl Z (A0 H4 hxs Z Z af ag fun an ab ah=>have ai:Ae _ an ab 4 (Av (V1 xs k)):=Ae.getD AC.z ah;Ld (.agg (Q2c xs k)) Z Z (AO En (ai.le x7)) (Pl Z (IG Z (vs:=#[.agg (Q2c xs k)]) (by simp only [List.map_toArray,List.map_cons,List.map_nil,AT] <;> rfl) ((hf (V1 xs k) (Cx (by omega)) _ x7).mono fun _ _ aj=>?_))));obtain ⟨rfl,aa⟩:=aj;refine Nl (Cc (t:=p (V1 xs k)) Z (fun ak=>?_) (fun ak=>?_))
  ·exact Sq (Rg (Mv (J k) Z Z (As (J k) Z Z (Nl (Rt (⟨.inr Z,Ac Z (v:=J k) Z (⟨(by (rw [LW (k:=k) (by omega) hs ‹_›];done)),(x7.trans aa)⟩)⟩))))))
  ·exact Sk (Rg (Ad (k:Int) 1 Z ad Z (by omega) (Mv (J ((k:Int)+1)) Z Z (Nl (⟨_,by omega,k+1,Z,(by omega),(by exact Kr (d:=AC.z) (by omega) hs ‹_›),Z,(x7.trans aa),x8,x9,al,Z⟩)))))
 ·exact Xt (Sq (Rg (As (J (-1)) Z Z (Nl (Rt (⟨.inr Z,Ac Z (v:=J (-1)) Z (⟨(by (rw [KA (k:=k) (by omega) hs])),x7⟩)⟩))))))
theorem KZ {W:Wk prog} {h:GH} (xs:List AC) (xsv:Value) (fv:Value) (p:AC→Bool) (hxs:AK h xsv 4 Av xs) (hf:∀x ∈ xs,∀h1,h.Le h1→Ca W fv #[.agg #[J x.good,J x.day,J x.low,J x.high]] h1 fun v h2=>v=.bool (p x)∧h1.Le h2):Aa W 144 #[xsv,fv] h (fun v h'=>v=(.bool (xs.any p):Value)∧h.Le h'):=by
 have aa:=hxs.len;refine AL func144 Z (Nb Z) (Sq (Rg (As (.bool false) Z Z (Nl (Sq (Rg (Mv xsv Z Z (Mv fv Z Z (Pl Z (AY func158 Ui Z Z ((Mf xs xsv fv p hxs (fun x hx h1 l1=>hf x hx h1 (GH.Le.trans Lr l1))).mono fun _ _ ac=>?_)))))))))));obtain ⟨rfl,ab⟩:=ac;exact Pl Z (Cd (a:=idxOf p xs) (b:=0) Z Z (As (.bool (decide (0≤(idxOf p xs)))) Z Z (Nl (Rt (⟨.inr Z,Ac Z (v:=.bool (decide (0≤(idxOf p xs)))) Z (⟨(by rw [show decide (0≤idxOf p xs)=xs.any p from by rw [Bool.eq_iff_iff];simp [Hr]]),ab⟩)⟩)))))
theorem OW {W:Wk prog} {h:GH} (xs:List Good) (xsv:Value) (fv:Value) (p:Good→Bool) (hxs:AK h xsv 5 BH xs) (hf:∀x ∈ xs,∀h1,h.Le h1→Ca W fv #[.agg #[.string x.name,J x.cost,J x.pack,J x.low,J x.high]] h1 fun v h2=>v=.bool (p x)∧h1.Le h2):Aa W 202 #[xsv,fv] h (fun v h'=>v=(J (idxOf p xs):Value)∧h.Le h'):=by
 have ac:=hxs.len;refine AL func202 Z (Nb Z) (Sq (Rg (As (J 0) Z Z (Nl (Sq (Sq (Rg (Mv xsv Z Z (Pl Z (Ab Co hxs Z (Mv (J 0) Z Z (Nl (Bk (Ay (fun nn σ' ds' h'=>∃(k:Nat),nn=xs.length-k∧(k≤xs.length)∧((xs.take k).any p=false)∧ds'=[]∧GH.Le h h'∧σ' 0=xsv∧σ' 1=fv∧σ' 7=J (xs.length:Int)∧σ' 8=J k) ⟨0,Z,(by omega),(by simp),Z,Lr,Z,Z,Z,Z⟩ (fun nn _ _ _ am=>?_)))))))))))))));obtain ⟨k,rfl,hk,hs,x6,x7,x8,x9,al,ad⟩:=am;subst x6;refine Sq (Rg (Pl Z (A9 (a:=(k:Int)) (b:=(xs.length:Int)) ad al (Nl (Sq (AZ (p:=(k:Int)<(xs.length:Int)) Z (fun ae=>?_) (fun ae=>?_)))))))
 ·refine Sk (Sq (Bk (Sq (Rg (Mv (J k) Z ad (As (J k) Z Z (Nl (Sq (Rg (Mv fv Z x9 (Mv xsv Z x8 (Mv (J k) Z Z ?_))))))))))));have af:(0:Int)≤(k:Int):=by omega
  have ag:(k:Int)<((xs.length:Nat):Int):=by omega
  refine Pl Z (A0 Ee hxs Z Z af ag fun an ab ah=>have ai:Ae _ an ab 5 (BH (xs.getD k Good.z)):=Ae.getD Good.z ah;Ld (.agg (Q28 xs k)) Z Z (AO Ge (ai.le x7)) (Pl Z (IG Z (vs:=#[.agg (Q28 xs k)]) (by simp only [List.map_toArray,List.map_cons,List.map_nil,AT] <;> rfl) ((hf (xs.getD k Good.z) (Cx (by omega)) _ x7).mono fun _ _ aj=>?_))));obtain ⟨rfl,aa⟩:=aj;refine Nl (Cc (t:=p (xs.getD k Good.z)) Z (fun ak=>?_) (fun ak=>?_))
  ·exact Sq (Rg (Mv (J k) Z Z (As (J k) Z Z (Nl (Rt (⟨.inr Z,Ac Z (v:=J k) Z (⟨(by (rw [LW (k:=k) (by omega) hs ‹_›];done)),(x7.trans aa)⟩)⟩))))))
  ·exact Sk (Rg (Ad (k:Int) 1 Z ad Z (by omega) (Mv (J ((k:Int)+1)) Z Z (Nl (⟨_,by omega,k+1,Z,(by omega),(by exact Kr (d:=Good.z) (by omega) hs ‹_›),Z,(x7.trans aa),x8,x9,al,Z⟩)))))
 ·exact Xt (Sq (Rg (As (J (-1)) Z Z (Nl (Rt (⟨.inr Z,Ac Z (v:=J (-1)) Z (⟨(by (rw [KA (k:=k) (by omega) hs])),x7⟩)⟩))))))
theorem LO {W:Wk prog} {h:GH} (xs:List Good) (xsv:Value) (fv:Value) (p:Good→Bool) (hxs:AK h xsv 5 BH xs) (hf:∀x ∈ xs,∀h1,h.Le h1→Ca W fv #[.agg #[.string x.name,J x.cost,J x.pack,J x.low,J x.high]] h1 fun v h2=>v=.bool (p x)∧h1.Le h2):Aa W 199 #[xsv,fv] h (fun v h'=>v=(.bool (xs.any p):Value)∧h.Le h'):=by
 have aa:=hxs.len;refine AL func199 Z (Nb Z) (Sq (Rg (As (.bool false) Z Z (Nl (Sq (Rg (Mv xsv Z Z (Mv fv Z Z (Pl Z (AY func202 U2 Z Z ((OW xs xsv fv p hxs (fun x hx h1 l1=>hf x hx h1 (GH.Le.trans Lr l1))).mono fun _ _ ac=>?_)))))))))));obtain ⟨rfl,ab⟩:=ac;exact Pl Z (Cd (a:=idxOf p xs) (b:=0) Z Z (As (.bool (decide (0≤(idxOf p xs)))) Z Z (Nl (Rt (⟨.inr Z,Ac Z (v:=.bool (decide (0≤(idxOf p xs)))) Z (⟨(by rw [show decide (0≤idxOf p xs)=xs.any p from by rw [Bool.eq_iff_iff];simp [Hr]]),ab⟩)⟩)))))
theorem PB {W:Wk prog} {h:GH} (n:Int):Aa W 155 #[J n] h (fun v h'=>v=(.bool (decide (¬(0≤n∧n≤99))):Value)∧h=h'):=by
 refine AL func155 Z (Nb Z) (Sq (Rg (As (.bool false) Z Z (Nl (Sq (Rg (Mv (J n) Z Z (Pl Z (Az func79 B1 Z Z Z ((BW n 0 99 ).mono fun _ _ aa=>?_))))))))));obtain ⟨rfl,rfl⟩:=aa;exact Pl Z (BQ (p:=0≤n∧n≤99) Z (As (.bool (Q3x n)) Z Z (Nl (Rt (⟨.inr Z,Ac Z (v:=.bool (Q3x n)) Z (⟨Z,Z⟩)⟩)))))
theorem LP {W:Wk prog} {h:GH} (l:List Int) (lv:Value) (m:Int) (hl:AK h lv 1 eI l):Aa W 140 #[lv,J m] h (fun v h'=>v=(J (A3 l m):Value)∧h.Le h'):=by
 have ab:=hl.len;refine AL func140 Z (Nb Z) (Sq (Rg (As (J 0) Z Z (Nl (Sq (Bk (Sq (Rg (Mv lv Z Z (Pl Z (Ab Cp hl Z (Mv (J m) Z Z (Pl Z (BI (a:=(l.length:Int)) (b:=m) Z Z (As (.bool (decide (¬(l.length:Int)=m))) Z Z (Nl (AZ (p:=¬(l.length:Int)=m) Z (fun ac=>?_) (fun ac=>?_))))))))))))))))))
 ·exact Sq (Rg (As (J 2) Z Z (Nl (Rt (⟨.inr Z,Ac Z (v:=J 2) Z (⟨(by simp_all [A3]),Lr⟩)⟩)))))
 ·refine Sq (Rg (Mv lv Z Z ?_));have ad:∀x ∈ l,∀h1,GH.Le h h1→Ca W (.func (.func 155) #[] #[]) #[J x] h1 fun v h2=>v=.bool ((fun x=>decide (¬(0≤x∧x≤99))) x)∧h1.Le h2:=by
   intro x hx h1 _;exact CA func155 Uf Z ((PB x ).mono fun v h2 hp=>⟨hp.1,by rw [←hp.2];exact GH.Le.refl _⟩)
  refine Pl Z (AY func92 Pw Z Z ((H6 l lv (.func (.func 155) #[] #[]) (fun x=>decide (¬(0≤x∧x≤99))) hl ad).mono fun _ _ ae=>?_));obtain ⟨rfl,aa⟩:=ae;refine As (.bool (l.any (fun x=>decide (¬(0≤x∧x≤99))))) Z Z (Nl (Cc (t:=l.any (fun x=>decide (¬(0≤x∧x≤99)))) Z (fun af=>?_) (fun af=>?_)))
  ·exact Sq (Rg (As (J 1) Z Z (Nl (Rt (⟨.inr Z,Ac Z (v:=J 1) Z (⟨(by simp_all [A3]),aa⟩)⟩)))))
  ·exact Sk (Sq (Rg (As (J 0) Z Z (Nl (Rt (⟨.inr Z,Ac Z (v:=J 0) Z (⟨(by simp_all [A3]),aa⟩)⟩))))))
end Go.Ns
namespace Go.Ns
open Go.Conc Go.Proofs Go.Proofs.Tryz
attribute [local irreducible] Be EF Tr Aa Ca B5
theorem VA {W:Wk prog} {h:GH} (d:Int) (m:Int) (gs:List Good) (gsv:Value) (ms:List AB) (msv:Value) (cs:List AC) (csv:Value) (hgs:AK h gsv 5 BH gs) (hms:AK h msv 5 BC ms) (hcs:AK h csv 4 Av cs):Aa W 196 #[.agg #[J d,J m,gsv,msv,csv]] h (fun v h'=>v=(J (BM d gs ms):Value)∧h.Le h'):=by
 have av:=hgs.len;have aw:=hms.len;have ax:=hcs.len;refine AL func196 Z (Nb Z) (Sq (Rg (Pl Z (Aq (v:=.agg #[J d,J m,gsv,msv,csv]) (c:=#[J d,J m,gsv,msv,csv]) Z Z fun r4 h5 _ af ay _=>As (J 0) Z Z (Nl (Sq (Sq (Rg (Fa Ax Z Z (Fa BB Z Z (Ld msv Z Z (Rd.one Bq ay Z) (have ak:=hms.le af;Pl Z (Ab DZ ak Z (Pl Z (Dx (a:=(ms.length:Int)) (b:=6) Z Z (Nl (AZ (p:=6<(ms.length:Int)) Z (fun az=>?_) (fun az=>?_))))))))))))))))))
 ·exact Sq (Rg (As (J 2) Z Z (Nl (Rt (⟨.inr Z,Ac Z (v:=J 2) Z (⟨(by (symm;congr 1;rw [BM,if_pos ‹_›];done)),af⟩)⟩)))))
 ·refine Sk (Sq (Rg (As (J 0) Z Z (Nl (Sq (Sq (Rg (Fa Ax Z Z (Fa BB Z Z (Ld msv Z Z (Rd.one Bq ay Z) (Pl Z (Ab DZ ak Z (Mv (J 0) Z Z (Nl (Bk (Ay (fun nn σ' ds' h'=>∃(k:Nat),nn=ms.length-k∧(k≤ms.length)∧(∀j,j<k→DR d gs ms j=0)∧ds'=[]∧GH.Le h5 h'∧σ' 1=Pt r4∧σ' 13=msv∧σ' 14=J (ms.length:Int)∧σ' 3=J (Dl ms k)∧σ' 15=J k) ⟨0,Z,(by omega),(by (intro j hj;omega)),Z,Lr,Z,Z,Z,Z,Z⟩ (fun nn _ _ _ a0=>?_)))))))))))))))));obtain ⟨k,rfl,hk,hs,bi,al,a1,bg,bh,bj,a2⟩:=a0;subst bi;refine Sq (Rg (Pl Z (A9 (a:=(k:Int)) (b:=(ms.length:Int)) a2 bh (Nl (Sq (AZ (p:=(k:Int)<(ms.length:Int)) Z (fun a3=>?_) (fun a3=>?_)))))))
  ·refine Sk (Sq (Bk (Sq (Rg ?_))));have a4:(0:Int)≤(k:Int):=by omega
   have a5:(k:Int)<((ms.length:Nat):Int):=by omega
   refine Pl Z (A0 C7 hms bg a2 a4 a5 fun bk am a6=>have a7:Ae _ bk am 5 (BC (ms.getD k AB.z)):=Ae.getD AB.z a6;have ad:=af.trans al;Ld (.agg #[J ((ms.getD k AB.z).kind),J ((ms.getD k AB.z).good),J ((ms.getD k AB.z).day),J ((ms.getD k AB.z).low),J ((ms.getD k AB.z).high)]) Z Z (AO F5 (a7.le ad)) (have an:=al.keep ay Z;Pl Z (Aj Eo fun bl _ ag ac a8 _=>have a9:r4≠bl:=C4 an ag;Pl Z (AH (v:=.agg #[J ((ms.getD k AB.z).kind),J ((ms.getD k AB.z).good),J ((ms.getD k AB.z).day),J ((ms.getD k AB.z).low),J ((ms.getD k AB.z).high)]) (c':=#[J ((ms.getD k AB.z).kind),J ((ms.getD k AB.z).good),J ((ms.getD k AB.z).day),J ((ms.getD k AB.z).low),J ((ms.getD k AB.z).high)]) F5 Z Z a8 Z Z (by simp) Z fun _ aj ah=>Nl (Sq (Bk (Sq (Rg (Fa Eg Z Z (Ld (J ((ms.getD k AB.z).kind)) Z Z (Rd.one Hc aj Z) (Pl Z (Az func79 B1 Z Z Z ((BW ((ms.getD k AB.z).kind) 0 4 ).mono fun _ _ ba=>?_)))))))))))));obtain ⟨rfl,rfl⟩:=ba;refine Pl Z (BQ (p:=0≤((ms.getD k AB.z).kind)∧((ms.getD k AB.z).kind)≤4) Z (As (.bool (decide (¬(0≤((ms.getD k AB.z).kind)∧((ms.getD k AB.z).kind)≤4)))) Z Z (Nl (AZ (p:=¬(0≤((ms.getD k AB.z).kind)∧((ms.getD k AB.z).kind)≤4)) Z (fun ao=>?_) (fun ao=>?_)))))
   ·exact Sq (Rg (As (J 1) Z Z (Nl (Rt (⟨.inr Z,Ac Z (v:=J 1) Z (⟨(by (symm;congr 1;rw [BM,if_neg ‹_›];exact BS (k:=k) hs (by omega) (by unfold DR;(simp only [*,not_true_eq_false,not_false_eq_true,if_true,if_false,true_or,or_true,reduceCtorEq,Bool.false_eq_true];done)) (by decide))),((ad.trans ac).upd (Ln ad ag) ah)⟩)⟩)))))
   ·have hc48_:=Dn ao;refine Sq (Rg (have ap:=(ah _ a9).trans (ac.keep an Z);Ld (.agg #[J d,J m,gsv,msv,csv]) Z a1 (AO Bp (Bx ap Z)) (Fa Fu Z Z (Ld (J ((ms.getD k AB.z).good)) Z Z (Rd.one AN aj Z) (have ab:=(ad.trans ac).upd (Ln ad ag) ah;Pl Z (AY func77 H2 Z Z ((GG d m gs gsv ms msv cs csv ((ms.getD k AB.z).good) (hgs.le ab) (hms.le ab) (hcs.le ab) ).mono fun _ _ bb=>?_)))))));obtain ⟨rfl,aa⟩:=bb;refine Pl Z (BQ (p:=0≤((ms.getD k AB.z).good)∧((ms.getD k AB.z).good)≤(gs.length:Int)-1) Z (As (.bool (decide (¬(0≤((ms.getD k AB.z).good)∧((ms.getD k AB.z).good)≤(gs.length:Int)-1)))) Z Z (Nl (AZ (p:=¬(0≤((ms.getD k AB.z).good)∧((ms.getD k AB.z).good)≤(gs.length:Int)-1)) Z (fun aq=>?_) (fun aq=>?_)))))
    ·exact Sq (Rg (As (J 6) Z Z (Nl (Rt (⟨.inr Z,Ac Z (v:=J 6) Z (⟨(by (symm;congr 1;rw [BM,if_neg ‹_›];exact BS (k:=k) hs (by omega) (by unfold DR;(clear hs;simp_all;done)) (by decide))),(ab.trans aa)⟩)⟩)))))
    ·have hc59_:=Dn aq;refine Sq (Rg (Fa Cn Z Z (have ai:=aa.keep aj Z;Ld (J ((ms.getD k AB.z).day)) Z Z (Rd.one AN ai Z) (Fa Ax Z a1 (Fa CJ Z Z (Ld (J d) Z Z (Rd.one AN (aa.keep ap Z) Z) (Pl Z (Az func79 B1 Z Z Z ((BW ((ms.getD k AB.z).day) 1 d ).mono fun _ _ bc=>?_)))))))));obtain ⟨rfl,rfl⟩:=bc;refine Pl Z (BQ (p:=1≤((ms.getD k AB.z).day)∧((ms.getD k AB.z).day)≤d) Z (As (.bool (decide (¬(1≤((ms.getD k AB.z).day)∧((ms.getD k AB.z).day)≤d)))) Z Z (Nl (AZ (p:=¬(1≤((ms.getD k AB.z).day)∧((ms.getD k AB.z).day)≤d)) Z (fun ar=>?_) (fun ar=>?_)))))
     ·exact Sq (Rg (As (J 1) Z Z (Nl (Rt (⟨.inr Z,Ac Z (v:=J 1) Z (⟨(by (symm;congr 1;rw [BM,if_neg ‹_›];exact BS (k:=k) hs (by omega) (by unfold DR;(clear hs;simp_all;done)) (by decide))),(ab.trans aa)⟩)⟩)))))
     ·have hc67_:=Dn ar;refine Sq (Rg (Fa Cn Z Z (Ld (J ((ms.getD k AB.z).day)) Z Z (Rd.one AN ai Z) (Mv (J (Dl ms k)) Z bj (Pl Z (A9 (a:=(ms.getD k AB.z).day) (b:=Dl ms k) Z Z (As (.bool (decide (((ms.getD k AB.z).day)<(Dl ms k)))) Z Z (Nl (AZ (p:=((ms.getD k AB.z).day)<(Dl ms k)) Z (fun bd=>?_) (fun bd=>?_))))))))))
      ·exact Sq (Rg (As (J 7) Z Z (Nl (Rt (⟨.inr Z,Ac Z (v:=J 7) Z (⟨(by (symm;congr 1;rw [BM,if_neg ‹_›];exact BS (k:=k) hs (by omega) (by unfold DR;(clear hs;simp_all;done)) (by decide))),(ab.trans aa)⟩)⟩)))))
      ·refine Sq (Rg (Fa Fv Z Z (Ld (.agg #[J ((ms.getD k AB.z).low),J ((ms.getD k AB.z).high)]) Z Z (GJ (o:=3) (ws:=#[J ((ms.getD k AB.z).low),J ((ms.getD k AB.z).high)]) Bl (Bx ai Z) (Nb Z) Z) (Pl Z (Am func201 ON Z ((Sb ((ms.getD k AB.z).low) ((ms.getD k AB.z).high) ).mono fun _ _ be=>?_))))));obtain ⟨rfl,ae⟩:=be;refine Pl Z (BQ (p:=Ev ((ms.getD k AB.z).low) ((ms.getD k AB.z).high)) Z (As (.bool (decide (¬(Ev ((ms.getD k AB.z).low) ((ms.getD k AB.z).high))))) Z Z (Nl (AZ (p:=¬(Ev ((ms.getD k AB.z).low) ((ms.getD k AB.z).high))) Z (fun au=>?_) (fun au=>?_)))))
       ·exact Sq (Rg (As (J 1) Z Z (Nl (Rt (⟨.inr Z,Ac Z (v:=J 1) Z (⟨(by (symm;congr 1;rw [BM,if_neg ‹_›];exact BS (k:=k) hs (by omega) (by unfold DR;(clear hs;simp_all;done)) (by decide))),((ab.trans aa).trans ae)⟩)⟩)))))
       ·have hc75_:=Dn au;exact Sk (Rg (Fa Cn Z Z (Ld (J ((ms.getD k AB.z).day)) Z Z (Rd.one AN (ae.keep ai Z) Z) (As (J ((ms.getD k AB.z).day)) Z Z (Nl (Rg (Ad (k:Int) 1 Z a2 Z (by omega) (Mv (J ((k:Int)+1)) Z Z (Nl (have bf:=(((al.trans ac).upd (Ln al ag) ah).trans aa).trans ae;⟨_,by omega,k+1,Z,(by omega),(by exact Dg hs (by unfold DR;(clear hs;simp_all;done))),Z,bf,a1,bg,bh,(Et (b:=(J ((ms.getD k AB.z).day):Value)) Z (by simp [Dl])),Z⟩))))))))))
  ·exact Xt (Sq (Rg (As (J 0) Z Z (Nl (Rt (⟨.inr Z,Ac Z (v:=J 0) Z (⟨(by (symm;congr 1;rw [BM,if_neg ‹_›];exact CP (k:=k) hs (by omega))),(af.trans al)⟩)⟩))))))
theorem Sf {W:Wk prog} {h:GH} (d:Int) (m:Int) (gs:List Good) (gsv:Value) (ms:List AB) (msv:Value) (cs:List AC) (csv:Value) (hgs:AK h gsv 5 BH gs) (hms:AK h msv 5 BC ms) (hcs:AK h csv 4 Av cs):Aa W 197 #[.agg #[J d,J m,gsv,msv,csv]] h (fun v h'=>v=(J (CC d gs cs):Value)∧h.Le h'):=by
 have aw:=hgs.len;have ax:=hms.len;have ay:=hcs.len;refine AL func197 Z (Nb Z) (Sq (Rg (Pl Z (Aq (v:=.agg #[J d,J m,gsv,msv,csv]) (c:=#[J d,J m,gsv,msv,csv]) Z Z fun r4 h5 _ ae az _=>As (J 0) Z Z (Nl (Sq (Sq (Rg (Fa Ax Z Z (Fa Bd Z Z (Ld csv Z Z (Rd.one CY az Z) (have aj:=hcs.le ae;Pl Z (Ab E5 aj Z (Pl Z (Dx (a:=(cs.length:Int)) (b:=4) Z Z (Nl (AZ (p:=4<(cs.length:Int)) Z (fun a0=>?_) (fun a0=>?_))))))))))))))))))
 ·exact Sq (Rg (As (J 2) Z Z (Nl (Rt (⟨.inr Z,Ac Z (v:=J 2) Z (⟨(by (symm;congr 1;rw [CC,if_pos ‹_›];done)),ae⟩)⟩)))))
 ·refine Sk (Sq (Sq (Rg (Fa Ax Z Z (Fa Bd Z Z (Ld csv Z Z (Rd.one CY az Z) (Pl Z (Ab E5 aj Z (Mv (J 0) Z Z (Nl (Bk (Ay (fun nn σ' ds' h'=>∃(k:Nat),nn=cs.length-k∧(k≤cs.length)∧(∀j,j<k→Du d gs cs j=0)∧ds'=[]∧GH.Le h5 h'∧σ' 1=Pt r4∧σ' 12=csv∧σ' 13=J (cs.length:Int)∧σ' 14=J k) ⟨0,Z,(by omega),(by (intro j hj;omega)),Z,Lr,Z,Z,Z,Z⟩ (fun nn _ _ _ a1=>?_)))))))))))));obtain ⟨k,rfl,hk,hs,bm,ak,au,a2,a3,av⟩:=a1;subst bm;refine Sq (Rg (Pl Z (A9 (a:=(k:Int)) (b:=(cs.length:Int)) av a3 (Nl (Sq (AZ (p:=(k:Int)<(cs.length:Int)) Z (fun a4=>?_) (fun a4=>?_)))))))
  ·refine Sk (Sq (Bk (Sq (Rg ?_))));have a5:(0:Int)≤(k:Int):=by omega
   have a6:(k:Int)<((cs.length:Nat):Int):=by omega
   refine Pl Z (A0 H4 hcs a2 av a5 a6 fun bn al a7=>have a8:Ae _ bn al 4 (Av (cs.getD k AC.z)):=Ae.getD AC.z a7;have ag:=ae.trans ak;Ld (.agg #[J ((cs.getD k AC.z).good),J ((cs.getD k AC.z).day),J ((cs.getD k AC.z).low),J ((cs.getD k AC.z).high)]) Z Z (AO En (a8.le ag)) (have am:=ak.keep az Z;Pl Z (Aj Fx fun bo _ ah ac a9 _=>have ba:r4≠bo:=C4 am ah;Pl Z (AH (v:=.agg #[J ((cs.getD k AC.z).good),J ((cs.getD k AC.z).day),J ((cs.getD k AC.z).low),J ((cs.getD k AC.z).high)]) (c':=#[J ((cs.getD k AC.z).good),J ((cs.getD k AC.z).day),J ((cs.getD k AC.z).low),J ((cs.getD k AC.z).high)]) En Z Z a9 Z Z (by simp) Z fun _ an ai=>Nl (Bk (Sq (Rg (have ao:=(ai _ ba).trans (ac.keep am Z);Ld (.agg #[J d,J m,gsv,msv,csv]) Z au (AO Bp (Bx ao Z)) (Fa HA Z Z (Ld (J ((cs.getD k AC.z).good)) Z Z (Rd.one AN an Z) (have ad:=(ag.trans ac).upd (Ln ag ah) ai;Pl Z (AY func77 H2 Z Z ((GG d m gs gsv ms msv cs csv ((cs.getD k AC.z).good) (hgs.le ad) (hms.le ad) (hcs.le ad) ).mono fun _ bp bb=>?_)))))))))))));obtain ⟨rfl,ab⟩:=bb;refine Pl Z (BQ (p:=0≤((cs.getD k AC.z).good)∧((cs.getD k AC.z).good)≤(gs.length:Int)-1) Z (As (.bool (decide (¬(0≤((cs.getD k AC.z).good)∧((cs.getD k AC.z).good)≤(gs.length:Int)-1)))) Z Z (Nl (AZ (p:=¬(0≤((cs.getD k AC.z).good)∧((cs.getD k AC.z).good)≤(gs.length:Int)-1)) Z (fun ap=>?_) (fun ap=>?_)))))
   ·exact Sq (Rg (As (J 6) Z Z (Nl (Rt (⟨.inr Z,Ac Z (v:=J 6) Z (⟨(by (symm;congr 1;rw [CC,if_neg ‹_›];exact BS (k:=k) hs (by omega) (by unfold Du;(simp only [*,not_true_eq_false,not_false_eq_true,if_true,if_false,true_or,or_true,reduceCtorEq,Bool.false_eq_true];done)) (by decide))),(ad.trans ab)⟩)⟩)))))
   ·have hc52_:=Dn ap;refine BA (fun σ' ds' h'=>ds'=[]∧GH.Le bp h'∧σ' 1=Pt r4∧σ' 12=csv∧σ' 13=J (cs.length:Int)∧σ' 14=J k∧σ' 24=.bool (decide ((¬(0≤((cs.getD k AC.z).day)∧((cs.getD k AC.z).day)≤d))∨(¬((0≤((cs.getD k AC.z).low)∧((cs.getD k AC.z).low)≤((cs.getD k AC.z).high))∧((cs.getD k AC.z).high)≤999))))) ?_ ?_
    ·refine Rg (Fa HB Z Z (have aq:=ab.keep an Z;Ld (J ((cs.getD k AC.z).day)) Z Z (Rd.one AN aq Z) (Fa Ax Z au (Fa CJ Z Z (Ld (J d) Z Z (Rd.one AN (ab.keep ao Z) Z) (Pl Z (Az func79 B1 Z Z Z ((BW ((cs.getD k AC.z).day) 0 d ).mono fun _ _ bc=>?_))))))));obtain ⟨rfl,rfl⟩:=bc;refine Pl Z (BQ (p:=0≤((cs.getD k AC.z).day)∧((cs.getD k AC.z).day)≤d) Z (Mv (.bool (decide (¬(0≤((cs.getD k AC.z).day)∧((cs.getD k AC.z).day)≤d)))) Z Z (BN (p:=¬(0≤((cs.getD k AC.z).day)∧((cs.getD k AC.z).day)≤d)) ?_ ?_)))
     ·intro aa;exact Gs 7 32 (AE Z aa) Z (Gs 7 32 (AE Z aa) Z (Gs 7 32 (AE Z aa) Z (Gs 7 32 (AE Z aa) Z (Pk true (.bool true) Z (AE Z aa) Z (As (.bool true) Z Z (Nl (⟨Z,Lr,au,a2,a3,av,Et (b:=(.bool true:Value)) Z (congrArg Value.bool (by grind:true=(decide ((¬(0≤((cs.getD k AC.z).day)∧((cs.getD k AC.z).day)≤d))∨(¬((0≤((cs.getD k AC.z).low)∧((cs.getD k AC.z).low)≤((cs.getD k AC.z).high))∧((cs.getD k AC.z).high)≤999))))))⟩)))))))
     ·intro aa;refine Gg 7 32 (AD Z aa) Z (AM ED Z (Gg 7 32 (AD Z aa) Z (AF (v:=.agg #[J ((cs.getD k AC.z).low),J ((cs.getD k AC.z).high)]) Z (GJ (o:=2) (ws:=#[J ((cs.getD k AC.z).low),J ((cs.getD k AC.z).high)]) Bl (Bx aq Z) (Nb Z) Z) (Gg 7 32 (AD Z aa) Z (Az func129 OG Z Z Z ((OU ((cs.getD k AC.z).low) ((cs.getD k AC.z).high) 0 999 ).mono fun _ _ bd=>?_))))));obtain ⟨rfl,ar⟩:=bd;exact Gg 7 32 (AD Z aa) Z (BQ (p:=(0≤((cs.getD k AC.z).low)∧((cs.getD k AC.z).low)≤((cs.getD k AC.z).high))∧((cs.getD k AC.z).high)≤999) Z (Pk false (.bool (decide (¬((0≤((cs.getD k AC.z).low)∧((cs.getD k AC.z).low)≤((cs.getD k AC.z).high))∧((cs.getD k AC.z).high)≤999)))) Z (AD Z aa) Z (As (.bool (decide (¬((0≤((cs.getD k AC.z).low)∧((cs.getD k AC.z).low)≤((cs.getD k AC.z).high))∧((cs.getD k AC.z).high)≤999)))) Z Z (Nl (⟨Z,ar,au,a2,a3,av,Et (b:=(.bool (decide (¬((0≤((cs.getD k AC.z).low)∧((cs.getD k AC.z).low)≤((cs.getD k AC.z).high))∧((cs.getD k AC.z).high)≤999))):Value)) Z (congrArg Value.bool (by grind:decide (¬((0≤((cs.getD k AC.z).low)∧((cs.getD k AC.z).low)≤((cs.getD k AC.z).high))∧((cs.getD k AC.z).high)≤999))=(decide ((¬(0≤((cs.getD k AC.z).day)∧((cs.getD k AC.z).day)≤d))∨(¬((0≤((cs.getD k AC.z).low)∧((cs.getD k AC.z).low)≤((cs.getD k AC.z).high))∧((cs.getD k AC.z).high)≤999))))))⟩)))))
    ·rintro _ _ _ ⟨be,af,bf,bg,bh,bi,bj⟩;subst be;refine AZ (p:=(¬(0≤((cs.getD k AC.z).day)∧((cs.getD k AC.z).day)≤d))∨(¬((0≤((cs.getD k AC.z).low)∧((cs.getD k AC.z).low)≤((cs.getD k AC.z).high))∧((cs.getD k AC.z).high)≤999))) bj (fun bk=>?_) (fun bk=>?_)
     ·exact Sq (Rg (As (J 1) Z Z (Nl (Rt (⟨.inr Z,Ac Z (v:=J 1) Z (⟨(by (symm;congr 1;rw [CC,if_neg ‹_›];exact BS (k:=k) hs (by omega) (by unfold Du;(clear hs;simp_all;done)) (by decide))),((ad.trans ab).trans af)⟩)⟩)))))
     ·exact Sk (Rg (Ad (k:Int) 1 Z bi Z (by omega) (Mv (J ((k:Int)+1)) Z Z (Nl (have bl:=(((ak.trans ac).upd (Ln ak ah) ai).trans ab).trans af;⟨_,by omega,k+1,Z,(by omega),(by exact Dg hs (by unfold Du;(clear hs;simp_all;done))),Z,bl,bf,bg,bh,Z⟩)))))
  ·exact Xt (Sq (Rg (As (J 0) Z Z (Nl (Rt (⟨.inr Z,Ac Z (v:=J 0) Z (⟨(by (symm;congr 1;rw [CC,if_neg ‹_›];exact CP (k:=k) hs (by omega))),(ae.trans ak)⟩)⟩))))))
theorem Sg {W:Wk prog} {h:GH} (s:ByteArray) (hsz:s.size≤1000):Aa W 198 #[.string s] h (fun v h'=>v=(.bool (Dr s):Value)∧h.Le h'):=by
 have hbl:=Cf s;refine AL func198 Z (Nb Z) (Sq (Rg (As (.bool false) Z Z (Nl (Sq (Sq (Rg (Mv (.string s) Z Z (Pl Z (YQ SW Z (by omega) fun a1 h2 ad a2=>Pl Z (Ab ZL a2 Z (Mv (J 0) Z Z (Nl (Bk (Ay (fun nn σ' ds' h'=>∃(k:Nat),nn=(bytesOf s).length-k∧(k≤(bytesOf s).length)∧(∀j,j<k→Hg s j=0)∧ds'=[]∧GH.Le h2 h'∧σ' 0=.string s∧σ' 6=a1∧σ' 7=J ((bytesOf s).length:Int)∧σ' 8=J k) ⟨0,Z,(by omega),(by (intro j hj;omega)),Z,Lr,Z,Z,Z,Z⟩ (fun nn _ _ h7 a3=>?_))))))))))))))));obtain ⟨k,rfl,hk,hs,x9,ag,ah,ai,aj,ac⟩:=a3;subst x9;have hby:=Jm s k;refine Sq (Rg (Pl Z (A9 (a:=(k:Int)) (b:=((bytesOf s).length:Int)) ac aj (Nl (Sq (AZ (p:=(k:Int)<((bytesOf s).length:Int)) Z (fun ak=>?_) (fun ak=>?_)))))))
 ·refine Sk (Sq (Bk (Sq (Rg (Mv (J k) Z ac ?_)))));have al:(0:Int)≤(k:Int):=by omega
  have am:(k:Int)<(((bytesOf s).length:Nat):Int):=by omega
  refine Pl Z (A0 XW a2 ai ac al am fun a4 ae an=>have ao:Ae _ a4 ae 1 (eB ((bytesOf s).getD k 0)):=Ae.getD 0 an;Ld (.int .u8 ((bytesOf s).getD k 0)) Z Z (CL fx_ty5 (ao.le ag) Z) (As (J k) Z Z (As (.int .u8 ((bytesOf s).getD k 0)) Z Z (Nl (BA (fun σ' ds' h'=>ds'=[]∧h7=h'∧σ' 0=.string s∧σ' 6=a1∧σ' 7=J ((bytesOf s).length:Int)∧σ' 8=J k∧σ' 26=.bool (decide ((¬(97≤((bytesOf s).getD k 0)∧((bytesOf s).getD k 0)≤122))∧(((k:Int)=0)∨(¬(48≤((bytesOf s).getD k 0)∧((bytesOf s).getD k 0)≤57)))))) ?_ ?_)))))
  ·refine Rg (Mv (.int .u8 ((bytesOf s).getD k 0)) Z Z (Pl Z (Bc (r:=(bytesOf s).getD k 0) Fb D4 Z (by rw [IntWalk.i64_in _ (by omega)]) (Pl Z (Az func79 B1 Z Z Z ((BW ((bytesOf s).getD k 0) 97 122 ).mono fun _ _ ap=>?_))))));obtain ⟨rfl,rfl⟩:=ap;refine Pl Z (BQ (p:=97≤((bytesOf s).getD k 0)∧((bytesOf s).getD k 0)≤122) Z (Mv (.bool (decide (¬(97≤((bytesOf s).getD k 0)∧((bytesOf s).getD k 0)≤122)))) Z Z (BN (p:=¬(97≤((bytesOf s).getD k 0)∧((bytesOf s).getD k 0)≤122)) ?_ ?_)))
   ·intro aa;refine Gg 4 17 (AE Z aa) Z (AA (v:=J k) Z (Gg 4 17 (AE Z aa) Z (CD (a:=(k:Int)) (b:=0) Z Z (Gg 4 17 (AE Z aa) Z (AA (v:=.bool (decide ((k:Int)=0))) Z (BN (p:=(k:Int)=0) ?_ ?_))))))
    ·intro ab;exact Gs 7 20 (AE Z ab) Z (Gs 7 20 (AE Z ab) Z (Gs 7 20 (AE Z ab) Z (Gs 7 20 (AE Z ab) Z (Gg 4 17 (AE Z aa) Z (Bo (t:=true) (v:=.bool true) (AE Z ab) Z (Pk true (.bool true) Z (AE Z aa) Z (Nl (⟨Z,Z,ah,ai,aj,ac,Et (b:=(.bool true:Value)) Z (congrArg Value.bool (by grind:true=(decide ((¬(97≤((bytesOf s).getD k 0)∧((bytesOf s).getD k 0)≤122))∧(((k:Int)=0)∨(¬(48≤((bytesOf s).getD k 0)∧((bytesOf s).getD k 0)≤57)))))))⟩))))))))
    ·intro ab;refine Gg 7 20 (AD Z ab) Z (AA (v:=.int .u8 ((bytesOf s).getD k 0)) Z (Gg 7 20 (AD Z ab) Z (Bc (r:=(bytesOf s).getD k 0) Fb D4 Z (by rw [IntWalk.i64_in _ (by omega)]) (Gg 7 20 (AD Z ab) Z (Az func79 B1 Z Z Z ((BW ((bytesOf s).getD k 0) 48 57 ).mono fun _ _ aq=>?_))))));obtain ⟨rfl,rfl⟩:=aq;exact Gg 7 20 (AD Z ab) Z (BQ (p:=48≤((bytesOf s).getD k 0)∧((bytesOf s).getD k 0)≤57) Z (Gg 4 17 (AE Z aa) Z (Bo (t:=false) (v:=.bool (decide (¬(48≤((bytesOf s).getD k 0)∧((bytesOf s).getD k 0)≤57)))) (AD Z ab) Z (Pk true (.bool (decide (¬(48≤((bytesOf s).getD k 0)∧((bytesOf s).getD k 0)≤57)))) Z (AE Z aa) Z (Nl (⟨Z,Z,ah,ai,aj,ac,Et (b:=(.bool (decide (¬(48≤((bytesOf s).getD k 0)∧((bytesOf s).getD k 0)≤57))):Value)) Z (congrArg Value.bool (by grind:decide (¬(48≤((bytesOf s).getD k 0)∧((bytesOf s).getD k 0)≤57))=(decide ((¬(97≤((bytesOf s).getD k 0)∧((bytesOf s).getD k 0)≤122))∧(((k:Int)=0)∨(¬(48≤((bytesOf s).getD k 0)∧((bytesOf s).getD k 0)≤57)))))))⟩))))))
   ·intro aa;exact Gs 4 17 (AD Z aa) Z (Gs 4 17 (AD Z aa) Z (Gs 4 17 (AD Z aa) Z (Bz (j:=7) (d:=20) Z Z Z Z Z Z (Bz (j:=7) (d:=20) Z Z Z Z Z Z (Bz (j:=7) (d:=20) Z Z Z Z Z Z (Bz (j:=7) (d:=20) Z Z Z Z Z Z (Gs 4 17 (AD Z aa) Z (Pk false (.bool false) Z (AD Z aa) Z (Nl (⟨Z,Z,ah,ai,aj,ac,Et (b:=(.bool false:Value)) Z (congrArg Value.bool (by grind:false=(decide ((¬(97≤((bytesOf s).getD k 0)∧((bytesOf s).getD k 0)≤122))∧(((k:Int)=0)∨(¬(48≤((bytesOf s).getD k 0)∧((bytesOf s).getD k 0)≤57)))))))⟩))))))))))
  ·rintro _ _ _ ⟨ar,af,au,av,aw,ax,ay⟩;subst ar;subst af;refine AZ (p:=(¬(97≤((bytesOf s).getD k 0)∧((bytesOf s).getD k 0)≤122))∧(((k:Int)=0)∨(¬(48≤((bytesOf s).getD k 0)∧((bytesOf s).getD k 0)≤57)))) ay (fun az=>?_) (fun az=>?_)
   ·exact Sq (Rg (As (.bool false) Z Z (Nl (Rt (⟨.inr Z,Ac Z (v:=.bool false) Z (⟨(by (symm;congr 1;exact NN hs (by omega) (by unfold Hg;simp only [Ey,E4, *,not_true_eq_false,not_false_eq_true,if_true,if_false,or_self,or_true,true_or,and_self,and_true,true_and];simp_all;done))),(ad.trans ag)⟩)⟩)))))
   ·exact Sk (Rg (Ad (k:Int) 1 Z ax Z (by omega) (Mv (J ((k:Int)+1)) Z Z (Nl (⟨_,by omega,k+1,Z,(by omega),(by exact Dg hs (by unfold Hg;simp only [Ey,E4];simp_all;done)),Z,ag,au,av,aw,Z⟩)))))
 ·refine Xt (Sq (Rg (Mv (.string s) Z ah (Pl Z (Ki EE Z (Pl Z (Az func79 B1 Z Z Z ((BW (s.size:Int) 1 10 ).mono fun _ _ a0=>?_))))))));obtain ⟨rfl,rfl⟩:=a0;exact As (.bool (decide (1≤(s.size:Int)∧(s.size:Int)≤10))) Z Z (Nl (Rt (⟨.inr Z,Ac Z (v:=.bool (decide (1≤(s.size:Int)∧(s.size:Int)≤10))) Z (⟨(by (symm;congr 1;exact NO hs (by omega))),(ad.trans ag)⟩)⟩)))
theorem Sh {W:Wk prog} {h:GH} (o:Good) (x:Good) (rx:Nat) (hrx:Ae h rx 0 5 #[.string x.name,J x.cost,J x.pack,J x.low,J x.high]):Aa W 200 #[.agg #[.string o.name,J o.cost,J o.pack,J o.low,J o.high],Pt rx] h (fun v h'=>v=(.bool ((o.name).toList==(x.name).toList):Value)∧h.Le h'):=by
 exact AL func200 Z (Nb Z) (Sq (Rg (Pl Z (Aq (v:=.agg #[.string o.name,J o.cost,J o.pack,J o.low,J o.high]) (c:=#[.string o.name,J o.cost,J o.pack,J o.low,J o.high]) Z Z fun _ _ _ aa ab _=>As (.bool false) Z Z (Nl (Sq (Rg (Fa FF Z Z (Ld (.string o.name) Z Z (Rd.one KY ab Z) (Fa FF Z Z (Ld (.string x.name) Z Z (B3 (o:=0) KY (hrx.le aa) Z) (Pl Z (Vc (a:=o.name) (b:=x.name) Z Z (As (.bool ((o.name).toList==(x.name).toList)) Z Z (Nl (Rt (⟨.inr Z,Ac Z (v:=.bool ((o.name).toList==(x.name).toList)) Z (⟨Z,aa⟩)⟩)))))))))))))))))
theorem VB {W:Wk prog} {h:GH} (d:Int) (m:Int) (gs:List Good) (gsv:Value) (ms:List AB) (msv:Value) (cs:List AC) (csv:Value) (hgs:AK h gsv 5 BH gs) (hms:AK h msv 5 BC ms) (hcs:AK h csv 4 Av cs) (hnm:∀k,(gs.getD k Good.z).name.size≤1000):Aa W 195 #[.agg #[J d,J m,gsv,msv,csv]] h (fun v h'=>v=(J (BT gs):Value)∧h.Le h'):=by
 have a2:=hgs.len;have a3:=hms.len;have a4:=hcs.len;refine AL func195 Z (Nb Z) (Sq (Rg (Pl Z (Aq (v:=.agg #[J d,J m,gsv,msv,csv]) (c:=#[J d,J m,gsv,msv,csv]) Z Z fun r4 h5 _ ag a5 _=>As (J 0) Z Z (Nl (Sq (Sq (Rg (Fa Ax Z Z (Fa BJ Z Z (Ld gsv Z Z (Rd.one B9 a5 Z) (have ap:=hgs.le ag;Pl Z (Ab Co ap Z (Pl Z (Az func79 B1 Z Z Z ((BW (gs.length:Int) 1 3 ).mono fun _ _ a6=>?_))))))))))))))));obtain ⟨rfl,rfl⟩:=a6;refine Pl Z (BQ (p:=1≤(gs.length:Int)∧(gs.length:Int)≤3) Z (Nl (AZ (p:=¬(1≤(gs.length:Int)∧(gs.length:Int)≤3)) Z (fun aq=>?_) (fun aq=>?_))))
 ·exact Sq (Rg (As (J 2) Z Z (Nl (Rt (⟨.inr Z,Ac Z (v:=J 2) Z (⟨(by (symm;congr 1;rw [BT,if_pos ‹_›];done)),ag⟩)⟩)))))
 ·have hc16_:=Dn aq;refine Sk (Sq (Sq (Rg (Fa Ax Z Z (Fa BJ Z Z (Ld gsv Z Z (Rd.one B9 a5 Z) (Pl Z (Ab Co ap Z (Mv (J 0) Z Z (Nl (Bk (Ay (fun nn σ' ds' h'=>∃(k:Nat),nn=gs.length-k∧(k≤gs.length)∧(∀j,j<k→FA gs j=0)∧ds'=[]∧GH.Le h5 h'∧σ' 1=Pt r4∧σ' 13=gsv∧σ' 14=J (gs.length:Int)∧σ' 15=J k) ⟨0,Z,(by omega),(by (intro j hj;omega)),Z,Lr,Z,Z,Z,Z⟩ (fun nn _ _ _ a7=>?_)))))))))))));obtain ⟨k,rfl,hk,hs,bx,ar,ay,az,a0,ao⟩:=a7;subst bx;have hnk:=hnm k;refine Sq (Rg (Pl Z (A9 (a:=(k:Int)) (b:=(gs.length:Int)) ao a0 (Nl (Sq (AZ (p:=(k:Int)<(gs.length:Int)) Z (fun a8=>?_) (fun a8=>?_)))))))
  ·refine Sk (Sq (Bk (Sq (Rg (Mv (J k) Z ao ?_)))));have a9:(0:Int)≤(k:Int):=by omega
   have ba:(k:Int)<((gs.length:Nat):Int):=by omega
   refine Pl Z (A0 Ee hgs az ao a9 ba fun bz au bb=>have bc:Ae _ bz au 5 (BH (gs.getD k Good.z)):=Ae.getD Good.z bb;have af:=ag.trans ar;Ld (.agg (Q28 gs k)) Z Z (AO Ge (bc.le af)) (have av:=ar.keep a5 Z;Pl Z (Aj Gr fun a1 _ ah ad bd _=>have be:r4≠a1:=C4 av ah;As (J k) Z Z (Pl Z (AH (v:=.agg (Q28 gs k)) (c':=(Q28 gs k)) Ge Z Z bd Z Z (by simp) Z fun _ ak ai=>Nl (Bk (Sq (Rg (Fa FF Z Z (Ld (.string (TB gs k)) Z Z (Rd.one KY ak Z) (Pl Z (Am func198 Uz Z ((Sg (TB gs k) (by omega)).mono fun _ bw bf=>?_)))))))))))));obtain ⟨rfl,ac⟩:=bf;refine Pl Z (Dq (b:=Dr (TB gs k)) Z (As (.bool (!(Dr (TB gs k)))) Z Z (Nl (Cc (t:= !(Dr (TB gs k))) Z (fun al=>?_) (fun al=>?_)))))
   ·have hc51_:(Dr (TB gs k))=false:=by simpa using al
    exact Sq (Rg (As (J 4) Z Z (Nl (Rt (⟨.inr Z,Ac Z (v:=J 4) Z (⟨(by (symm;congr 1;rw [BT,if_neg ‹_›];exact BS (k:=k) hs (by omega) (by unfold FA;(simp only [*,not_true_eq_false,not_false_eq_true,if_true,if_false,true_or,or_true,reduceCtorEq,Bool.false_eq_true];done)) (by decide))),(((af.trans ad).upd (Ln af ah) ai).trans ac)⟩)⟩)))))
   ·have hc51_:(Dr (TB gs k))=true:=by simpa using al
    refine Sq (Rg (Fa Ax Z ay (Fa BJ Z Z (Ld gsv Z Z (Rd.one B9 (ac.keep ((ai _ be).trans (ad.keep av Z)) Z) Z) (Mv (J k) Z Z (have am:=((af.trans ad).upd (Ln af ah) ai).trans ac;Pl Z (YO (0) k Ee (hgs.le am) Z Z (⟨_,Z⟩) (by omega) (by omega) fun aw bg=>?_)))))));have bh:AK bw aw 5 BH (gs.take k):=by simpa using bg
    refine Pl Z (Ko Z ?_);have bi:∀x ∈ (gs.take k),∀h1,GH.Le bw h1→Ca W (.func (.func 200) #[] #[Pt a1]) #[.agg #[.string x.name,J x.cost,J x.pack,J x.low,J x.high]] h1 fun v h2=>v=.bool ((fun x=>(x.name).toList==((gs.getD k Good.z).name).toList) x)∧h1.Le h2:=by
     intro x hx h1 l1;exact CA func200 U1 Z ((Sh x (gs.getD k Good.z) a1 (Bx (l1.keep (ac.keep ak Z) Z) Z) ).mono fun v h2 hp=>⟨hp.1,hp.2⟩)
    refine Pl Z (AY func199 U0 Z Z ((LO (gs.take k) aw (.func (.func 200) #[] #[Pt a1]) (fun x=>(x.name).toList==((gs.getD k Good.z).name).toList) bh bi).mono fun _ b0 bj=>?_));obtain ⟨rfl,ae⟩:=bj;refine As (.bool ((gs.take k).any (fun x=>(x.name).toList==((gs.getD k Good.z).name).toList))) Z Z (Nl (Cc (t:=(gs.take k).any (fun x=>(x.name).toList==((gs.getD k Good.z).name).toList)) Z (fun bk=>?_) (fun bk=>?_)))
    ·exact Sq (Rg (As (J 5) Z Z (Nl (Rt (⟨.inr Z,Ac Z (v:=J 5) Z (⟨(by (symm;congr 1;rw [BT,if_neg ‹_›];exact BS (k:=k) hs (by omega) (by unfold FA;(simp only [*,not_true_eq_false,not_false_eq_true,if_true,if_false,true_or,or_true,reduceCtorEq,Bool.false_eq_true];done)) (by decide))),(am.trans ae)⟩)⟩)))))
    ·refine BA (fun σ' ds' h'=>ds'=[]∧GH.Le b0 h'∧σ' 1=Pt r4∧σ' 13=gsv∧σ' 14=J (gs.length:Int)∧σ' 15=J k∧σ' 33=.bool (Q22 gs k)) ?_ ?_
     ·refine Rg (Fa Ic Z Z (have an:=ae.keep (ac.keep ak Z) Z;Ld (J (Pq gs k)) Z Z (Rd.one AN an Z) (Pl Z (Az func79 B1 Z Z Z ((BW (Pq gs k) 0 999 ).mono fun _ _ bl=>?_)))));obtain ⟨rfl,rfl⟩:=bl;refine Pl Z (BQ (p:=0≤(Pq gs k)∧(Pq gs k)≤999) Z (Mv (.bool (decide (¬(0≤(Pq gs k)∧(Pq gs k)≤999)))) Z Z (BN (p:=¬(0≤(Pq gs k)∧(Pq gs k)≤999)) ?_ ?_)))
      ·intro aa;exact Gs 4 38 (AE Z aa) Z (Gs 4 38 (AE Z aa) Z (Gs 4 38 (AE Z aa) Z (Gs 4 38 (AE Z aa) Z (Pk true (.bool true) Z (AE Z aa) Z (Mv (.bool true) Z Z (Gs 10 44 Z Z (Gs 10 44 Z Z (Gs 10 44 Z Z (Gs 10 44 Z Z (Pk true (.bool true) Z Z Z (As (.bool true) Z Z (Nl (⟨Z,Lr,ay,az,a0,ao,Et (b:=(.bool true:Value)) Z (congrArg Value.bool (by grind:true=(Q22 gs k)))⟩)))))))))))))
      ·intro aa;refine Gg 4 38 (AD Z aa) Z (AM HC Z (Gg 4 38 (AD Z aa) Z (AF (v:=J (Ms gs k)) Z (Rd.one AN an Z) (Gg 4 38 (AD Z aa) Z (Az func79 B1 Z Z Z ((BW (Ms gs k) 1 20 ).mono fun _ _ bm=>?_))))));obtain ⟨rfl,rfl⟩:=bm;refine Gg 4 38 (AD Z aa) Z (BQ (p:=1≤(Ms gs k)∧(Ms gs k)≤20) Z (Pk false (.bool (decide (¬(1≤(Ms gs k)∧(Ms gs k)≤20)))) Z (AD Z aa) Z (Mv (.bool (decide (¬(1≤(Ms gs k)∧(Ms gs k)≤20)))) Z Z (BN (p:=¬(1≤(Ms gs k)∧(Ms gs k)≤20)) ?_ ?_))))
       ·intro ab;exact Gs 10 44 (AE Z ab) Z (Gs 10 44 (AE Z ab) Z (Gs 10 44 (AE Z ab) Z (Gs 10 44 (AE Z ab) Z (Pk true (.bool true) Z (AE Z ab) Z (As (.bool true) Z Z (Nl (⟨Z,Lr,ay,az,a0,ao,Et (b:=(.bool true:Value)) Z (congrArg Value.bool (by grind:true=(Q22 gs k)))⟩)))))))
       ·intro ab;refine Gg 10 44 (AD Z ab) Z (AM HD Z (Gg 10 44 (AD Z ab) Z (AF (v:=.agg (Q3c gs k)) Z (GJ (o:=3) (ws:=(Q3c gs k)) Bl (Bx an Z) (Nb Z) Z) (Gg 10 44 (AD Z ab) Z (Am func201 ON Z ((Sb ((gs.getD k Good.z).low) ((gs.getD k Good.z).high) ).mono fun _ _ bn=>?_))))));obtain ⟨rfl,ax⟩:=bn;exact Gg 10 44 (AD Z ab) Z (BQ (p:=Ev ((gs.getD k Good.z).low) ((gs.getD k Good.z).high)) Z (Pk false (.bool (decide (¬(Q2e gs k)))) Z (AD Z ab) Z (As (.bool (decide (¬(Q2e gs k)))) Z Z (Nl (⟨Z,ax,ay,az,a0,ao,Et (b:=(.bool (decide (¬(Q2e gs k))):Value)) Z (congrArg Value.bool (by grind:decide (¬(Q2e gs k))=(Q22 gs k)))⟩)))))
     ·rintro _ _ _ ⟨bo,aj,bp,bq,br,bs,bt⟩;subst bo;refine AZ (p:=((¬(0≤(Pq gs k)∧(Pq gs k)≤999))∨(¬(1≤(Ms gs k)∧(Ms gs k)≤20)))∨(¬(Q2e gs k))) bt (fun bu=>?_) (fun bu=>?_)
      ·exact Sq (Rg (As (J 1) Z Z (Nl (Rt (⟨.inr Z,Ac Z (v:=J 1) Z (⟨(by (symm;congr 1;rw [BT,if_neg ‹_›];exact BS (k:=k) hs (by omega) (by unfold FA;(simp only [*,not_true_eq_false,not_false_eq_true,if_true,if_false,true_or,or_true,reduceCtorEq,Bool.false_eq_true];done)) (by decide))),((am.trans ae).trans aj)⟩)⟩)))))
      ·exact Sk (Rg (Ad (k:Int) 1 Z bs Z (by omega) (Mv (J ((k:Int)+1)) Z Z (Nl (have bv:=((((ar.trans ad).upd (Ln ar ah) ai).trans ac).trans ae).trans aj;⟨_,by omega,k+1,Z,(by omega),(by exact Dg hs (by unfold FA;(simp only [*,not_true_eq_false,not_false_eq_true,if_true,if_false,or_self,reduceCtorEq,Bool.false_eq_true];done))),Z,bv,bp,bq,br,Z⟩)))))
  ·exact Xt (Sq (Rg (As (J 0) Z Z (Nl (Rt (⟨.inr Z,Ac Z (v:=J 0) Z (⟨(by (symm;congr 1;rw [BT,if_neg ‹_›];exact CP (k:=k) hs (by omega))),(ag.trans ar)⟩)⟩))))))
end Go.Ns
namespace Go.Ns
open Go.Conc Go.Proofs Go.Proofs.Tryz
attribute [local irreducible] Be EF Tr Aa Ca B5
def Q1:Array Value:=#[.func (.func 194) #[] #[],.func (.func 195) #[] #[],.func (.func 196) #[] #[],.func (.func 197) #[] #[]]
def Q2:Array Value:=#[.string ⟨#[99,97,109,101]⟩,.func (.func 203) #[] #[],.string ⟨#[115,111,108,100]⟩,.func (.func 204) #[] #[],.string ⟨#[108,111,115,116]⟩,.func (.func 204) #[] #[],.string ⟨#[103,105,118,101,110]⟩,.func (.func 204) #[] #[],.string ⟨#[98,97,99,107]⟩,.func (.func 203) #[] #[]]
def Da (h:GH):Prop:=Ae h 0 0 4 Q1∧Ae h 1 0 10 Q2
theorem Da.le {h h':GH} (g:Da h) (l:h.Le h'):Da h':=⟨g.1.le l,g.2.le l⟩
def Mw (k:Nat):Value:=Q1.getD k undef
def VC (k:Nat):Value:=Q2.getD (k*2+1) undef
theorem VD {k:Nat} (h:k<4):(if false=true then some (Value.agg ((#[.func (.func 194) #[] #[],.func (.func 195) #[] #[],.func (.func 196) #[] #[],.func (.func 197) #[] #[]]:Array Value).extract (k*1) (k*1+1))) else (#[.func (.func 194) #[] #[],.func (.func 195) #[] #[],.func (.func 196) #[] #[],.func (.func 197) #[] #[]]:Array Value)[k*1]?)=some (Mw k):=by
 match k,h with
 | 0,_=>rfl
 | 1,_=>rfl
 | 2,_=>rfl
 | 3,_=>rfl
theorem Xd {k:Nat} (h:k<5):Q2[0+k*2+1]? =some (VC k):=by
 match k,h with
 | 0,_=>rfl
 | 1,_=>rfl
 | 2,_=>rfl
 | 3,_=>rfl
 | 4,_=>rfl
theorem Q3 {W:Wk prog} {h:GH} (d m:Int) (gs:List Good) (gsv:Value) (ms:List AB) (msv:Value) (cs:List AC) (csv:Value) (hgs:AK h gsv 5 BH gs) (hms:AK h msv 5 BC ms) (hcs:AK h csv 4 Av cs) (hnm:∀k,(gs.getD k Good.z).name.size≤1000) {k:Nat} (hk:k<4) :
  Ca W (Mw k) #[.agg #[J d,J m,gsv,msv,csv]] h fun v h'=>v=J (Dy d m gs ms cs k)∧h.Le h':=by
 match k,hk with
 | 0,_=>exact CA (first:=#[]) (cap:=#[]) func194 Uv rfl (Xc (W:=W) (h:=h) d m gs gsv ms msv cs csv hgs hms hcs)
 | 1,_=>exact CA (first:=#[]) (cap:=#[]) func195 Uw rfl (VB (W:=W) (h:=h) d m gs gsv ms msv cs csv hgs hms hcs hnm)
 | 2,_=>exact CA (first:=#[]) (cap:=#[]) func196 Ux rfl (VA (W:=W) (h:=h) d m gs gsv ms msv cs csv hgs hms hcs)
 | 3,_=>exact CA (first:=#[]) (cap:=#[]) func197 Uy rfl (Sf (W:=W) (h:=h) d m gs gsv ms msv cs csv hgs hms hcs)
theorem P2 {W:Wk prog} {h:GH} (n:Int):Aa W 203 #[J n] h (fun v h'=>v=(J n:Value)∧h=h'):=by
 exact AL func203 Z (Nb Z) (Sq (Rg (As (J 0) Z Z (Nl (Sq (Rg (Mv (J n) Z Z (As (J n) Z Z (Nl (Rt (⟨.inr Z,Ac Z (v:=J n) Z (⟨Z,Z⟩)⟩)))))))))))
theorem Lu {W:Wk prog} {h:GH} (n:Int) (hn:0≤n∧n≤99):Aa W 204 #[J n] h (fun v h'=>v=(J (-n):Value)∧h=h'):=by
 exact AL func204 Z (Nb Z) (Sq (Rg (As (J 0) Z Z (Nl (Sq (Rg (Mv (J n) Z Z (Pl Z (ok_neg (a:=n) Z (by omega) (As (J (-n)) Z Z (Nl (Rt (⟨.inr Z,Ac Z (v:=J (-n)) Z (⟨Z,Z⟩)⟩)))))))))))))
theorem C8 {W:Wk prog} {h:GH} (d:Int) (m:Int) (gs:List Good) (gsv:Value) (ms:List AB) (msv:Value) (cs:List AC) (csv:Value) (hgs:AK h gsv 5 BH gs) (hms:AK h msv 5 BC ms) (hcs:AK h csv 4 Av cs) (hG:Da h) (hnm:∀k,(gs.getD k Good.z).name.size≤1000):Aa W 25 #[.agg #[J d,J m,gsv,msv,csv]] h (fun v h'=>v=(J (AX d m gs ms cs):Value)∧h.Le h'):=by
 have ae:=hgs.len;have af:=hms.len;have ag:=hcs.len;refine AL func25 Z (Nb Z) (Sq (Rg (Pl Z (Aq (v:=.agg #[J d,J m,gsv,msv,csv]) (c:=#[J d,J m,gsv,msv,csv]) Z Z fun r4 h5 _ ac aq _=>As (J 0) Z Z (Nl (Sq (Sq (Rg (Ld (.agg Q3g) Z Z (AO ZO (hG.le ac).1) (Mv (J 0) Z Z (Nl (Bk (Ay (fun nn σ' ds' h'=>∃(k:Nat),nn=4-k∧(k≤4)∧(∀j,j<k→Dy d m gs ms cs j=0)∧ds'=[]∧GH.Le h5 h'∧σ' 1=Pt r4∧σ' 6=.agg Q3g∧σ' 7=J k) ⟨0,Z,(by omega),(by (intro j hj;omega)),Z,Lr,Z,Z,Z⟩ (fun nn _ _ _ ah=>?_))))))))))))));obtain ⟨k,rfl,hk,hs,ar,ad,ao,ap,ai⟩:=ah;subst ar;refine Sq (Rg (Pl Z (A9 (a:=(k:Int)) (b:=4) ai Z (Nl (Sq (AZ (p:=(k:Int)<4) Z (fun aj=>?_) (fun aj=>?_)))))))
 ·refine Sk (Sq (Bk (Sq (Rg ?_))));have ak:(0:Int)≤(k:Int):=by omega
  have al:(k:Int)<((4:Nat):Int):=by omega
  refine Pl Z (PN W4 ap ai ak al (VD (by omega)) (As (Mw k) Z Z (Nl (Sq (Rg (Mv (Mw k) Z Z (Ld (LM d m gsv msv csv) Z ao (AO Al (Bx (ad.keep aq Z) Z)) (Pl Z (A6 (cells:=#[J d,J m,gsv,msv,csv]) DW Bm (by kernel_rfl) (have aa:=ac.trans ad;Pl Z (HQ Z Z ((Q3 d m gs gsv ms msv cs csv (hgs.le aa) (hms.le aa) (hcs.le aa) hnm (k:=k) (by omega)).mono fun _ _ am=>?_))))))))))));obtain ⟨rfl,ab⟩:=am;refine As (J (Dy d m gs ms cs k)) Z Z (Nl (Sq (Rg (Mv (J (Dy d m gs ms cs k)) Z Z (Pl Z (BI (a:=Dy d m gs ms cs k) (b:=0) Z Z (Nl (AZ (p:=¬(Dy d m gs ms cs k)=0) Z (fun an=>?_) (fun an=>?_)))))))))
  ·exact Sq (Rg (Mv (J (Dy d m gs ms cs k)) Z Z (As (J (Dy d m gs ms cs k)) Z Z (Nl (Rt (⟨.inr Z,Ac Z (v:=J (Dy d m gs ms cs k)) Z (⟨(by (symm;congr 1;exact BS (k:=k) hs (by omega) Z ‹_›)),(aa.trans ab)⟩)⟩))))))
  ·exact Sk (Rg (Ad (k:Int) 1 Z ai Z (by omega) (Mv (J ((k:Int)+1)) Z Z (Nl (⟨_,by omega,k+1,Z,(by omega),(by exact Dg hs (Dn ‹_›)),Z,(ad.trans ab),ao,ap,Z⟩)))))
 ·exact Xt (Sq (Rg (As (J 0) Z Z (Nl (Rt (⟨.inr Z,Ac Z (v:=J 0) Z (⟨(by (symm;congr 1;exact CP (k:=k) hs (by omega))),(ac.trans ad)⟩)⟩))))))
end Go.Ns
namespace Go.Ns
open Go.Conc Go.Proofs Go.Proofs.Tryz
attribute [local irreducible] Be EF Tr Aa Ca B5
theorem Si {W:Wk prog} {h:GH} (n:Int) (hn:0≤n∧n≤99) {k:Nat} (hk:k<5):Ca W (VC k) #[J n] h fun v h'=>v=J (signed k n)∧h.Le h':=by
 match k,hk with
 | 0,_=>exact CA (first:=#[]) (cap:=#[]) func203 OO rfl ((P2 (W:=W) (h:=h) n).mono fun v h' hp=>⟨hp.1,by rw [←hp.2];exact GH.Le.refl _⟩)
 | 1,_=>exact CA (first:=#[]) (cap:=#[]) func204 KV rfl ((Lu (W:=W) (h:=h) n hn).mono fun v h' hp=>⟨hp.1,by rw [←hp.2];exact GH.Le.refl _⟩)
 | 2,_=>exact CA (first:=#[]) (cap:=#[]) func204 KV rfl ((Lu (W:=W) (h:=h) n hn).mono fun v h' hp=>⟨hp.1,by rw [←hp.2];exact GH.Le.refl _⟩)
 | 3,_=>exact CA (first:=#[]) (cap:=#[]) func204 KV rfl ((Lu (W:=W) (h:=h) n hn).mono fun v h' hp=>⟨hp.1,by rw [←hp.2];exact GH.Le.refl _⟩)
 | 4,_=>exact CA (first:=#[]) (cap:=#[]) func203 OO rfl ((P2 (W:=W) (h:=h) n).mono fun v h' hp=>⟨hp.1,by rw [←hp.2];exact GH.Le.refl _⟩)
theorem Ie {W:Wk prog} {h:GH} (d:Int) (m:Int) (gs:List Good) (gsv:Value) (ms:List AB) (msv:Value) (cs:List AC) (csv:Value) (p:AU) (g:Int) (dy:Int) (hgs:AK h gsv 5 BH gs) (hms:AK h msv 5 BC ms) (hcs:AK h csv 4 Av cs) (hG:Da h) (hg0:0≤g) (hg1:g<3) (hp:Bj p) (hml:ms.length≤6) (hkind:∀k,0≤(ms.getD k AB.z).kind∧(ms.getD k AB.z).kind≤4):Aa W 95 #[.agg #[J d,J m,gsv,msv,csv],.agg (An p),J g,J dy] h (fun v h'=>v=(.tuple #[J ((AJ ms p g dy).1),J ((AJ ms p g dy).2)]:Value)∧h.Le h'):=by
 have hpf:=hp.1 g.toNat;have ez:=hgs.len;have e0:=hms.len;have e1:=hcs.len;refine AL func95 Z (Nb Z) (Sq (Rg (Pl Z (Aq (v:=.agg #[J d,J m,gsv,msv,csv]) (c:=#[J d,J m,gsv,msv,csv]) Z Z fun r4 _ _ e2 hu _=>Pl Z (Aq (v:=.agg (An p)) (c:=An p) Z Z fun hl hv _ a2 bs _=>As (J 0) Z Z (As (J 0) Z Z (Nl (Sq (Rg (Mv (J g) Z Z (Fa JB Z Z ?_)))))))))));have e3:(0:Int)≤g:=by omega
 have e4:g<((3:Nat):Int):=by omega
 refine Pl Z (C5 Lh Z Z e3 e4 (Ld (J (p.first (g.toNat))) Z Z (Rd.one AN bs (QM (i:=g.toNat) (by omega))) (As (J (p.first (g.toNat))) Z Z (Nl (Sq (Rg (Mv (J (p.first (g.toNat))) Z Z (As (J (p.first (g.toNat))) Z Z (Nl (Sq (Sq (Rg (Fa Ax Z Z (Fa BB Z Z (have bt:=a2.keep hu Z;Ld msv Z Z (Rd.one Bq bt Z) (have a7:=e2.trans a2;Pl Z (Ab DZ (hms.le a7) Z (Mv (J 0) Z Z (Nl (Bk (Ay (fun nn σ' ds' h'=>∃(k:Nat) (n:Int) (low:Int),nn=ms.length-k∧(k≤ms.length)∧(-99*((k:Int)+1)≤n∧n≤99*((k:Int)+1))∧(CI ms p g dy (ms.length-k) k n low=CI ms p g dy ms.length 0 (p.first g.toNat) (p.first g.toNat))∧ds'=[]∧GH.Le hv h'∧σ' 2=J g∧σ' 3=J dy∧σ' 4=Pt r4∧σ' 5=Pt hl∧σ' 19=msv∧σ' 20=J (ms.length:Int)∧σ' 8=J n∧σ' 9=J low∧σ' 21=J k) ⟨0,p.first g.toNat,p.first g.toNat,Z,(by omega),(by omega),(by rfl),Z,Lr,Z,Z,Z,Z,Z,Z,Z,Z,Z⟩ (fun nn _ _ _ e5=>?_))))))))))))))))))))));obtain ⟨k,n,low,rfl,hk,hn,hrun,hw,an,a8,a9,ay,ba,bb,bc,a3,a4,az⟩:=e5;subst hw;have hkd:=hkind k;have hre:=GV hp k;have hsg:=Ks (k:=(ms.getD k AB.z).kind.toNat) hre;refine Sq (Rg (Pl Z (A9 (a:=(k:Int)) (b:=(ms.length:Int)) az bc (Nl (Sq (AZ (p:=(k:Int)<(ms.length:Int)) Z (fun e6=>?_) (fun e6=>?_)))))))
 ·refine Sk (Sq (Bk (Sq (Rg (Mv (J k) Z az ?_)))));have e7:(0:Int)≤(k:Int):=by omega
  have e8:(k:Int)<((ms.length:Nat):Int):=by omega
  refine Pl Z (A0 C7 hms bb az e7 e8 fun hx bu e9=>have fa:Ae _ hx bu 5 (BC (ms.getD k AB.z)):=Ae.getD AB.z e9;have al:=a7.trans an;Ld (.agg #[J ((ms.getD k AB.z).kind),J ((ms.getD k AB.z).good),J ((ms.getD k AB.z).day),J ((ms.getD k AB.z).low),J ((ms.getD k AB.z).high)]) Z Z (AO F5 (fa.le al)) (have au:=an.keep bt Z;have bv:=an.keep bs Z;Pl Z (Aj Eo fun ey _ ai ac fb _=>have a0:r4≠ey:=C4 au ai;have fc:hl≠ey:=C4 bv ai;As (J k) Z Z (Pl Z (AH (v:=.agg #[J ((ms.getD k AB.z).kind),J ((ms.getD k AB.z).good),J ((ms.getD k AB.z).day),J ((ms.getD k AB.z).low),J ((ms.getD k AB.z).high)]) (c':=#[J ((ms.getD k AB.z).kind),J ((ms.getD k AB.z).good),J ((ms.getD k AB.z).day),J ((ms.getD k AB.z).low),J ((ms.getD k AB.z).high)]) F5 Z Z fb Z Z (by simp) Z fun _ av ae=>Nl (Sq (Sq (Rg (Fa Cn Z Z (Ld (J ((ms.getD k AB.z).day)) Z Z (Rd.one AN av Z) (Mv (J dy) Z a9 (Pl Z (Dx (a:=(ms.getD k AB.z).day) (b:=dy) Z Z (Nl (AZ (p:=dy<((ms.getD k AB.z).day)) Z (fun fd=>?_) (fun fd=>?_))))))))))))))))
  ·exact Xt (Sq (Rg (Mv (J n) Z a3 (Mv (J low) Z a4 (As (J n) Z Z (As (J low) Z Z (Nl (Rt (have fe:=(al.trans ac).upd (Ln al ai) ae;⟨.inr Z,D5 Z (v:=J n) (v':=J low) Z Z (⟨(by (rw [AJ,←hrun,Oo (ms:=ms) (k:=k) (dy:=dy) (by omega) ‹_›])),fe⟩)⟩)))))))))
  ·refine Sk (Sq (Sq (Rg (Fa Fu Z Z (Ld (J ((ms.getD k AB.z).good)) Z Z (Rd.one AN av Z) (Mv (J g) Z a8 (Pl Z (CD (a:=(ms.getD k AB.z).good) (b:=g) Z Z (Nl (AZ (p:=((ms.getD k AB.z).good)=g) Z (fun ff=>?_) (fun ff=>?_)))))))))))
   ·refine BR 10 false [0,5,11,15,20,26,31,36,42,47] Ai (by kernel_rfl) (tP Z Z (fun _=>AA (v:=J n) a3 vz) (tP Z Z (fun _=>AM Eg Z vz) (tR Z Z (AF (v:=J ((ms.getD k AB.z).kind)) Z (Rd.one Hc av Z) vz) ?_)));have fg:(0:Int)≤(ms.getD k AB.z).kind:=by omega
    have fh:(ms.getD k AB.z).kind<((5:Nat):Int):=by omega
    refine tP Z Z (fun _=>C5 W5 Z Z fg fh vz) (tP Z Z (fun _=>AM SU Z vz) (have bd:=(al.trans ac).upd (Ln al ai) ae;tR Z Z (AF (v:=VC (((ms.getD k AB.z).kind).toNat)) Z (rd_at0 ZN (hG.le bd).2 (Xd (by omega))) vz) (tR Z Z (AF (v:=.agg (An p)) ba (AO Bg (Bx ((ae _ fc).trans (ac.keep bv Z)) Z)) vz) (tR Z Z (AA (v:=J k) Z vz) (tE Z Z (AY func83 Lm Z Z ((Lt p (k:Int) (by omega) (by omega)).mono fun _ _ fi=>?_)))))));obtain ⟨rfl,af⟩:=fi;refine eT af (tE Z Z (HQ Z Z ((Si (Br p k) (by omega) (k:=(((ms.getD k AB.z).kind).toNat)) (by omega)).mono fun _ _ fj=>?_)));obtain ⟨rfl,ag⟩:=fj;refine eT ag (tN (Ad n (signed (((ms.getD k AB.z).kind).toNat) (Br p k)) Z Z Z (by omega) (As (J (n+(signed (((ms.getD k AB.z).kind).toNat) (Br p k)))) Z Z (Nl (Sq (NE 18 [[],[0],[],[2],[2,3],[2,3,4],[0,1,2,3,4,5],[0,1,2,3,4,5,6],[0,1,2,3,4,5,6,7],[0,1,2,3,4,5,6,7,8],[0,1,2,3,4,5,6,7,8,9],[0,1,2,3,4,5,6,7],[0,1,2,3,4,5,6,7,11],[0,1,2,3,4,5,6,7,8,9,10,11,12],[0,1,2,3,4,5,6,7,8,9,10,11,12,13],[0,1,2,3,4,5,6,7,8,9,10,11,12,13,14],[0,1,2,3,4,5,6,7],[0,1,2,3,4,5,6,7,16]] [(lF (J k)),(lF (J ((k:Int)+1))),(lF (Pt r4)),(lF (.pointer (some ⟨r4,3,none⟩))),(lF msv),(lF (J (ms.length:Int))),(lF (.bool (decide (((k:Int)+1)=(ms.length:Int))))),(lF (.bool (decide (((k:Int)+1)=(ms.length:Int))))),(lF (Pt r4)),(lF (.pointer (some ⟨r4,3,none⟩))),(lF msv),(lF (J k)),(lF (J ((k:Int)+1))),(fun v h=>∃(a1:Nat) (ah:Nat),v=(.pointer (some ⟨a1,ah,none⟩):Value)∧Ae h a1 ah 5 #[J ((ms.getD (k+1) AB.z).kind),J ((ms.getD (k+1) AB.z).good),J ((ms.getD (k+1) AB.z).day),J ((ms.getD (k+1) AB.z).low),J ((ms.getD (k+1) AB.z).high)]),(fun v h=>∃(a1:Nat) (ah:Nat),v=(.pointer (some ⟨a1,ah+2,none⟩):Value)∧Ae h a1 ah 5 #[J ((ms.getD (k+1) AB.z).kind),J ((ms.getD (k+1) AB.z).good),J ((ms.getD (k+1) AB.z).day),J ((ms.getD (k+1) AB.z).low),J ((ms.getD (k+1) AB.z).high)]),(lF (J ((ms.getD (k+1) AB.z).day))),(lF (.pointer (some ⟨ey,2,none⟩))),(lF (J ((ms.getD k AB.z).day)))] Ai (by kernel_rfl) (K8 (K4 (K1 ⟨(fun _ _ _ l ⟨a1,ah,e,f0⟩=>⟨a1,ah,e,f0.le l⟩),(fun _ _ _ l ⟨a1,ah,e,f0⟩=>⟨a1,ah,e,f0.le l⟩),K2 (K1 trivial)⟩))) ⟨?_,?_,?_,?_,?_,?_,?_,?_,?_,?_,?_,?_,?_,?_,?_,?_,?_,?_,?_⟩))))))
    ·intro _ _ _ fk _ _;exact (AA (v:=J k) (Et (fk 10 Z) Z) (fL Z))
    ·intro _ _ _ _ fl _;obtain ⟨hy,_⟩:=fl;exact (Ct (a:=(k:Int)) (b:=1) (hy trivial) Z (by omega) (fL Z))
    ·intro _ _ _ fm _ _;exact (AM Ax (Et (fm 4 Z) ay) (fL Z))
    ·intro _ _ _ _ bw _;obtain ⟨fn,_⟩:=bw;exact (AM BB (fn trivial) (fL Z))
    ·intro _ _ be _ bx _;obtain ⟨_,fo,_⟩:=bx;have bz:=(be.keep (ag.keep (af.keep ((ae _ a0).trans (ac.keep au Z)) Z) Z) Z);exact (AF (v:=msv) (fo trivial) (Rd.one Bq bz Z) (fL Z))
    ·intro _ _ bf _ b0 _;obtain ⟨_,_,fp,_⟩:=b0;exact (Ab DZ (hms.le (((bd.trans af).trans ag).trans bf)) (fp trivial) (fL Z))
    ·intro _ _ _ _ b1 _;obtain ⟨_,fq,_,_,_,fr,_⟩:=b1;exact (CD (a:=(k:Int)+1) (b:=(ms.length:Int)) (fq trivial) (fr trivial) (fL Z))
    ·intro _ _ _ _ b2 _;obtain ⟨_,_,_,_,_,_,fs,_⟩:=b2;exact (AA (v:=.bool (decide (((k:Int)+1)=(ms.length:Int)))) (fs trivial) (fL Z))
    ·intro _ _ _ b3 b4 b5;obtain ⟨_,_,_,_,_,_,_,ft,_⟩:=b4;have hm:=C9 (ft trivial) b5;exact (AM Ax (Et (b3 4 Z) ay) (fL Z))
    ·intro _ _ _ _ b6 b7;obtain ⟨_,_,_,_,_,_,_,fu,fv,_⟩:=b6;have b8:=fu trivial;have b9:=C9 b8 b7;exact (AM BB (fv (AD b8 b9)) (fL Z))
    ·intro _ _ bg _ ca cb;obtain ⟨_,_,_,_,_,_,_,fw,_,fx,_⟩:=ca;have cc:=fw trivial;have cd:=C9 cc cb;have ce:=(bg.keep (ag.keep (af.keep ((ae _ a0).trans (ac.keep au Z)) Z) Z) Z);exact (AF (v:=msv) (fx (AD cc cd)) (Rd.one Bq ce Z) (fL Z))
    ·intro _ _ _ cf cg ch;obtain ⟨_,_,_,_,_,_,_,fy,_⟩:=cg;have ho:=C9 (fy trivial) ch;exact (AA (v:=J k) (Et (cf 10 Z) Z) (fL Z))
    ·intro _ _ _ _ ci cj;obtain ⟨_,_,_,_,_,_,_,fz,f1,_⟩:=ci;have ck:=fz trivial;have cl:=C9 ck cj;exact (Ct (a:=(k:Int)) (b:=1) (f1 (AD ck cl)) Z (by omega) (fL Z))
    ·intro _ _ bh _ cm cn;obtain ⟨_,_,_,_,_,_,_,f2,_,_,f3,_,f4,_⟩:=cm;have bi:=f2 trivial;have a5:=C9 bi cn;have co:(0:Int)≤(k:Int)+1:=by omega
     have cp:(k:Int)+1<((ms.length:Nat):Int):=by omega
     exact (A0 C7 hms (f3 (AD bi a5)) (f4 (AD bi a5)) co cp fun cq aw cr=>have ct:Ae _ cq aw 5 (BC (ms.getD (k+1) AB.z)):=Ae.getD AB.z cr;fL ⟨cq,aw,Z,(ct.le (((bd.trans af).trans ag).trans bh))⟩)
    ·intro _ _ _ _ cu cv;obtain ⟨_,_,_,_,_,_,_,f5,_,_,_,_,_,f6,_⟩:=cu;have cw:=f5 trivial;have cx:=C9 cw cv;obtain ⟨f7,bj,f8,f9⟩:=f6 (AD cw cx);exact (AM Cn f8 (fL ⟨f7,bj,Z,f9⟩))
    ·intro _ _ _ _ cy cz;obtain ⟨_,_,_,_,_,_,_,ga,_,_,_,_,_,_,gb,_⟩:=cy;have c0:=ga trivial;have c1:=C9 c0 cz;obtain ⟨_,_,gc,gd⟩:=gb (AD c0 c1);exact (AF (v:=J ((ms.getD (k+1) AB.z).day)) gc (B3 (o:=2) AN gd Z) (fL Z))
    ·intro _ _ _ c2 c3 c4;obtain ⟨_,_,_,_,_,_,_,ge,_⟩:=c3;have hq:=C9 (ge trivial) c4;exact (AM Cn (Et (c2 11 Z) Z) (fL Z))
    ·intro _ _ bk _ c5 c6;obtain ⟨_,_,_,_,_,_,_,gf,gg,_⟩:=c5;have c7:=gf trivial;have c8:=C9 c7 c6;exact (AF (v:=J ((ms.getD k AB.z).day)) (gg (AD c7 c8)) (Rd.one AN (bk.keep (ag.keep (af.keep av Z) Z) Z) Z) (fL Z))
    ·intro _ _ ao aa c9;obtain ⟨_,_,_,_,_,_,_,gi,_,_,_,_,_,_,_,gj,_,gk,_⟩:=c9;have aq:=gi trivial;refine BN (p:=((k:Int)+1)=(ms.length:Int)) ?_ ?_
     ·intro aj;exact Gs 7 52 (AE aq aj) Z (Pk true (.bool true) Z (AE aq aj) Z (Nl (Ej Z (Rg (Mv (J low) Z (Et (aa 9 Z) a4) (Mv (J (n+(signed (((ms.getD k AB.z).kind).toNat) (Br p k)))) Z (Et (aa 8 Z) Z) (Pl Z (M6 (a:=low) (b:=n+(signed (((ms.getD k AB.z).kind).toNat) (Br p k))) Z Z (As (J (min low (n+(signed (((ms.getD k AB.z).kind).toNat) (Br p k))))) Z Z (Nl (Rg (Ad (k:Int) 1 Z (Et (aa 21 Z) az) Z (by omega) (Mv (J ((k:Int)+1)) Z Z (Nl (have da:=((((an.trans ac).upd (Ln an ai) ae).trans af).trans ag).trans ao;⟨_,by omega,k+1,n+(signed (((ms.getD k AB.z).kind).toNat) (Br p k)),min low (n+(signed (((ms.getD k AB.z).kind).toNat) (Br p k))),Z,(by omega),(by omega),(by rw [←hrun,EM (ms:=ms) (k:=k) (dy:=dy) (by omega) ‹_›];unfold FI EU;repeat (first | rw [if_pos ‹_›] | rw [if_pos (.inl ‹_›)])),Z,da,(Et (aa 2 Z) a8),(Et (aa 3 Z) a9),(Et (aa 4 Z) ay),(Et (aa 5 Z) ba),(Et (aa 19 Z) bb),(Et (aa 20 Z) bc),(Et (aa 8 Z) Z),Z,Z⟩)))))))))))))))
     ·intro aj;refine Gg 7 52 (AD aq aj) Z (Dx (a:=(ms.getD (k+1) AB.z).day) (b:=(ms.getD k AB.z).day) (gj (AD aq aj)) (gk (AD aq aj)) (Pk false (.bool (decide (((ms.getD k AB.z).day)<((ms.getD (k+1) AB.z).day)))) Z (AD aq aj) Z (Nl (AZ (p:=((ms.getD k AB.z).day)<((ms.getD (k+1) AB.z).day)) Z (fun db=>?_) (fun db=>?_)))))
      ·exact Rg (Mv (J low) Z (Et (aa 9 Z) a4) (Mv (J (n+(signed (((ms.getD k AB.z).kind).toNat) (Br p k)))) Z (Et (aa 8 Z) Z) (Pl Z (M6 (a:=low) (b:=n+(signed (((ms.getD k AB.z).kind).toNat) (Br p k))) Z Z (As (J (min low (n+(signed (((ms.getD k AB.z).kind).toNat) (Br p k))))) Z Z (Nl (Rg (Ad (k:Int) 1 Z (Et (aa 21 Z) az) Z (by omega) (Mv (J ((k:Int)+1)) Z Z (Nl (have dc:=((((an.trans ac).upd (Ln an ai) ae).trans af).trans ag).trans ao;⟨_,by omega,k+1,n+(signed (((ms.getD k AB.z).kind).toNat) (Br p k)),min low (n+(signed (((ms.getD k AB.z).kind).toNat) (Br p k))),Z,(by omega),(by omega),(by rw [←hrun,EM (ms:=ms) (k:=k) (dy:=dy) (by omega) ‹_›];unfold FI EU;repeat (first | rw [if_pos ‹_›] | rw [if_pos (.inr ‹_›)])),Z,dc,(Et (aa 2 Z) a8),(Et (aa 3 Z) a9),(Et (aa 4 Z) ay),(Et (aa 5 Z) ba),(Et (aa 19 Z) bb),(Et (aa 20 Z) bc),(Et (aa 8 Z) Z),Z,Z⟩)))))))))))
      ·exact Sk (Rg (Ad (k:Int) 1 Z (Et (aa 21 Z) az) Z (by omega) (Mv (J ((k:Int)+1)) Z Z (Nl (have dd:=((((an.trans ac).upd (Ln an ai) ae).trans af).trans ag).trans ao;⟨_,by omega,k+1,n+(signed (((ms.getD k AB.z).kind).toNat) (Br p k)),low,rfl,(by omega),(by omega),(by rw [←hrun,EM (ms:=ms) (k:=k) (dy:=dy) (by omega) ‹_›];unfold FI EU;repeat (first | rw [if_pos ‹_›] | rw [if_neg (by rintro (q | q) <;> contradiction)])),rfl,dd,(Et (aa 2 rfl) a8),(Et (aa 3 rfl) a9),(Et (aa 4 rfl) ay),(Et (aa 5 rfl) ba),(Et (aa 19 rfl) bb),(Et (aa 20 rfl) bc),(Et (aa 8 rfl) rfl),(Et (aa 9 rfl) a4),(Et (b:=(J ((k:Int)+1):Value)) rfl (by rfl))⟩)))))
   ·refine Sk (Sq (NE 18 [[],[0],[],[2],[2,3],[2,3,4],[0,1,2,3,4,5],[0,1,2,3,4,5,6],[0,1,2,3,4,5,6,7],[0,1,2,3,4,5,6,7,8],[0,1,2,3,4,5,6,7,8,9],[0,1,2,3,4,5,6,7],[0,1,2,3,4,5,6,7,11],[0,1,2,3,4,5,6,7,8,9,10,11,12],[0,1,2,3,4,5,6,7,8,9,10,11,12,13],[0,1,2,3,4,5,6,7,8,9,10,11,12,13,14],[0,1,2,3,4,5,6,7],[0,1,2,3,4,5,6,7,16]] [(lF (J k)),(lF (J ((k:Int)+1))),(lF (Pt r4)),(lF (.pointer (some ⟨r4,3,none⟩))),(lF msv),(lF (J (ms.length:Int))),(lF (.bool (decide (((k:Int)+1)=(ms.length:Int))))),(lF (.bool (decide (((k:Int)+1)=(ms.length:Int))))),(lF (Pt r4)),(lF (.pointer (some ⟨r4,3,none⟩))),(lF msv),(lF (J k)),(lF (J ((k:Int)+1))),(fun v h=>∃(am:Nat) (ad:Nat),v=(.pointer (some ⟨am,ad,none⟩):Value)∧Ae h am ad 5 #[J ((ms.getD (k+1) AB.z).kind),J ((ms.getD (k+1) AB.z).good),J ((ms.getD (k+1) AB.z).day),J ((ms.getD (k+1) AB.z).low),J ((ms.getD (k+1) AB.z).high)]),(fun v h=>∃(am:Nat) (ad:Nat),v=(.pointer (some ⟨am,ad+2,none⟩):Value)∧Ae h am ad 5 #[J ((ms.getD (k+1) AB.z).kind),J ((ms.getD (k+1) AB.z).good),J ((ms.getD (k+1) AB.z).day),J ((ms.getD (k+1) AB.z).low),J ((ms.getD (k+1) AB.z).high)]),(lF (J ((ms.getD (k+1) AB.z).day))),(lF (.pointer (some ⟨ey,2,none⟩))),(lF (J ((ms.getD k AB.z).day)))] Ai (by kernel_rfl) (K8 (K4 (K1 ⟨(fun _ _ _ l ⟨am,ad,e,f0⟩=>⟨am,ad,e,f0.le l⟩),(fun _ _ _ l ⟨am,ad,e,f0⟩=>⟨am,ad,e,f0.le l⟩),K2 (K1 trivial)⟩))) ⟨?_,?_,?_,?_,?_,?_,?_,?_,?_,?_,?_,?_,?_,?_,?_,?_,?_,?_,?_⟩))
    ·intro _ _ _ de _ _;exact (AA (v:=J k) (Et (de 10 Z) Z) (fL Z))
    ·intro _ _ _ _ df _;obtain ⟨gl,_⟩:=df;exact (Ct (a:=(k:Int)) (b:=1) (gl trivial) Z (by omega) (fL Z))
    ·intro _ _ _ dg _ _;exact (AM Ax (Et (dg 4 Z) ay) (fL Z))
    ·intro _ _ _ _ dh _;obtain ⟨gm,_⟩:=dh;exact (AM BB (gm trivial) (fL Z))
    ·intro _ _ bl _ di _;obtain ⟨_,gn,_⟩:=di;exact (AF (v:=msv) (gn trivial) (Rd.one Bq (bl.keep ((ae _ a0).trans (ac.keep au Z)) Z) Z) (fL Z))
    ·intro _ _ bm _ dj _;obtain ⟨_,_,gp,_⟩:=dj;have dk:=hms.le (((al.trans ac).upd (Ln al ai) ae).trans bm);exact (Ab DZ dk (gp trivial) (fL Z))
    ·intro _ _ _ _ dl _;obtain ⟨_,gq,_,_,_,gr,_⟩:=dl;exact (CD (a:=(k:Int)+1) (b:=(ms.length:Int)) (gq trivial) (gr trivial) (fL Z))
    ·intro _ _ _ _ dm _;obtain ⟨_,_,_,_,_,_,gt,_⟩:=dm;exact (AA (v:=.bool (decide (((k:Int)+1)=(ms.length:Int)))) (gt trivial) (fL Z))
    ·intro _ _ _ dn dp dq;obtain ⟨_,_,_,_,_,_,_,gu,_⟩:=dp;have hr:=C9 (gu trivial) dq;exact (AM Ax (Et (dn 4 Z) ay) (fL Z))
    ·intro _ _ _ _ dr ds;obtain ⟨_,_,_,_,_,_,_,gv,gw,_⟩:=dr;have dt:=gv trivial;have du:=C9 dt ds;exact (AM BB (gw (AD dt du)) (fL Z))
    ·intro _ _ bn _ dv dw;obtain ⟨_,_,_,_,_,_,_,gx,_,gy,_⟩:=dv;have dx:=gx trivial;have dz:=C9 dx dw;exact (AF (v:=msv) (gy (AD dx dz)) (Rd.one Bq (bn.keep ((ae _ a0).trans (ac.keep au Z)) Z) Z) (fL Z))
    ·intro _ _ _ d0 d1 d2;obtain ⟨_,_,_,_,_,_,_,gz,_⟩:=d1;have hs:=C9 (gz trivial) d2;exact (AA (v:=J k) (Et (d0 10 Z) Z) (fL Z))
    ·intro _ _ _ _ d3 d4;obtain ⟨_,_,_,_,_,_,_,g0,g1,_⟩:=d3;have d5:=g0 trivial;have d6:=C9 d5 d4;exact (Ct (a:=(k:Int)) (b:=1) (g1 (AD d5 d6)) Z (by omega) (fL Z))
    ·intro _ _ bo _ d7 d8;obtain ⟨_,_,_,_,_,_,_,g2,_,_,g3,_,g4,_⟩:=d7;have bp:=g2 trivial;have a6:=C9 bp d8;have d9:(0:Int)≤(k:Int)+1:=by omega
     have ea:(k:Int)+1<((ms.length:Nat):Int):=by omega
     exact (A0 C7 hms (g3 (AD bp a6)) (g4 (AD bp a6)) d9 ea fun eb ax ec=>have ed:Ae _ eb ax 5 (BC (ms.getD (k+1) AB.z)):=Ae.getD AB.z ec;have ee:=ed.le (((al.trans ac).upd (Ln al ai) ae).trans bo);fL ⟨eb,ax,Z,ee⟩)
    ·intro _ _ _ _ ef eg;obtain ⟨_,_,_,_,_,_,_,g5,_,_,_,_,_,g6,_⟩:=ef;have eh:=g5 trivial;have ei:=C9 eh eg;obtain ⟨g7,bq,g8,g9⟩:=g6 (AD eh ei);exact (AM Cn g8 (fL ⟨g7,bq,Z,g9⟩))
    ·intro _ _ _ _ ej ek;obtain ⟨_,_,_,_,_,_,_,ha,_,_,_,_,_,_,hb,_⟩:=ej;have el:=ha trivial;have em:=C9 el ek;obtain ⟨_,_,hc,hd⟩:=hb (AD el em);exact (AF (v:=J ((ms.getD (k+1) AB.z).day)) hc (B3 (o:=2) AN hd Z) (fL Z))
    ·intro _ _ _ en eo ep;obtain ⟨_,_,_,_,_,_,_,he,_⟩:=eo;have ht:=C9 (he trivial) ep;exact (AM Cn (Et (en 11 Z) Z) (fL Z))
    ·intro _ _ br _ eq er;obtain ⟨_,_,_,_,_,_,_,hf,hg,_⟩:=eq;have es:=hf trivial;have et:=C9 es er;exact (AF (v:=J ((ms.getD k AB.z).day)) (hg (AD es et)) (Rd.one AN (br.keep av Z) Z) (fL Z))
    ·intro _ _ ap ab eu;obtain ⟨_,_,_,_,_,_,_,hh,_,_,_,_,_,_,_,hi,_,hj,_⟩:=eu;have ar:=hh trivial;refine BN (p:=((k:Int)+1)=(ms.length:Int)) ?_ ?_
     ·intro ak;exact Gs 7 52 (AE ar ak) Z (Pk true (.bool true) Z (AE ar ak) Z (Nl (Ej Z (Rg (Mv (J low) Z (Et (ab 9 Z) a4) (Mv (J n) Z (Et (ab 8 Z) a3) (Pl Z (M6 (a:=low) (b:=n) Z Z (As (J (min low n)) Z Z (Nl (Rg (Ad (k:Int) 1 Z (Et (ab 21 Z) az) Z (by omega) (Mv (J ((k:Int)+1)) Z Z (Nl (have ev:=((an.trans ac).upd (Ln an ai) ae).trans ap;⟨_,by omega,k+1,n,min low n,Z,(by omega),(by omega),(by rw [←hrun,EM (ms:=ms) (k:=k) (dy:=dy) (by omega) ‹_›];unfold FI EU;repeat (first | rw [if_neg ‹_›] | rw [if_pos (.inl ‹_›)])),Z,ev,(Et (ab 2 Z) a8),(Et (ab 3 Z) a9),(Et (ab 4 Z) ay),(Et (ab 5 Z) ba),(Et (ab 19 Z) bb),(Et (ab 20 Z) bc),(Et (ab 8 Z) a3),Z,Z⟩)))))))))))))))
     ·intro ak;refine Gg 7 52 (AD ar ak) Z (Dx (a:=(ms.getD (k+1) AB.z).day) (b:=(ms.getD k AB.z).day) (hi (AD ar ak)) (hj (AD ar ak)) (Pk false (.bool (decide (((ms.getD k AB.z).day)<((ms.getD (k+1) AB.z).day)))) Z (AD ar ak) Z (Nl (AZ (p:=((ms.getD k AB.z).day)<((ms.getD (k+1) AB.z).day)) Z (fun ew=>?_) (fun ew=>?_)))))
      ·exact Rg (Mv (J low) Z (Et (ab 9 Z) a4) (Mv (J n) Z (Et (ab 8 Z) a3) (Pl Z (M6 (a:=low) (b:=n) Z Z (As (J (min low n)) Z Z (Nl (Rg (Ad (k:Int) 1 Z (Et (ab 21 Z) az) Z (by omega) (Mv (J ((k:Int)+1)) Z Z (Nl (have ex:=((an.trans ac).upd (Ln an ai) ae).trans ap;⟨_,by omega,k+1,n,min low n,Z,(by omega),(by omega),(by rw [←hrun,EM (ms:=ms) (k:=k) (dy:=dy) (by omega) ‹_›];unfold FI EU;repeat (first | rw [if_neg ‹_›] | rw [if_pos (.inr ‹_›)])),Z,ex,(Et (ab 2 Z) a8),(Et (ab 3 Z) a9),(Et (ab 4 Z) ay),(Et (ab 5 Z) ba),(Et (ab 19 Z) bb),(Et (ab 20 Z) bc),(Et (ab 8 Z) a3),Z,Z⟩)))))))))))
      ·exact Sk (Rg (Ad (k:Int) 1 Z (Et (ab 21 Z) az) Z (by omega) (Mv (J ((k:Int)+1)) Z Z (Nl (⟨_,by omega,k+1,n,low,rfl,(by omega),(by omega),(by rw [←hrun,EM (ms:=ms) (k:=k) (dy:=dy) (by omega) ‹_›];unfold FI EU;repeat (first | rw [if_neg ‹_›] | rw [if_neg (by rintro (q | q) <;> contradiction)])),rfl,(((an.trans ac).upd (Ln an ai) ae).trans ap),(Et (ab 2 rfl) a8),(Et (ab 3 rfl) a9),(Et (ab 4 rfl) ay),(Et (ab 5 rfl) ba),(Et (ab 19 rfl) bb),(Et (ab 20 rfl) bc),(Et (ab 8 rfl) a3),(Et (ab 9 rfl) a4),(Et (b:=(J ((k:Int)+1):Value)) rfl (by rfl))⟩)))))
 ·exact Xt (Sq (Rg (Mv (J n) Z a3 (Mv (J low) Z a4 (As (J n) Z Z (As (J low) Z Z (Nl (Rt (⟨.inr Z,D5 Z (v:=J n) (v':=J low) Z Z (⟨(by (rw [AJ,←hrun,QO (ms:=ms) (k:=k) ‹_›];done)),(a7.trans an)⟩)⟩)))))))))
end Go.Ns
namespace Go.Ns
open Go.Conc Go.Proofs Go.Proofs.Tryz
attribute [local irreducible] Be EF Tr Aa Ca B5
theorem Q4 {W:Wk prog} {h:GH} (c:AC) (d:Int) (m:Int) (gs:List Good) (gsv:Value) (ms:List AB) (msv:Value) (cs:List AC) (csv:Value) (r:Nat) (p:AU) (rp:Nat) (hgs:AK h gsv 5 BH gs) (hms:AK h msv 5 BC ms) (hcs:AK h csv 4 Av cs) (hr:Ae h r 0 5 #[J d,J m,gsv,msv,csv]) (hrp:Ae h rp 0 15 (An p)) (hG:Da h) (hc0:0≤c.good) (hc1:c.good<3) (hp:Bj p) (hml:ms.length≤6) (hkind:∀k,0≤(ms.getD k AB.z).kind∧(ms.getD k AB.z).kind≤4):Aa W 145 #[.agg #[J c.good,J c.day,J c.low,J c.high],Pt r,Pt rp] h (fun v h'=>v=(.bool (decide (¬(c.low≤(AJ ms p c.good c.day).1∧(AJ ms p c.good c.day).1≤c.high))):Value)∧h.Le h'):=by
 have ad:=hgs.len;have ae:=hms.len;have af:=hcs.len;refine AL func145 Z (Nb Z) (Sq (Rg (Pl Z (Aq (v:=.agg (Q2y c)) (c:=(Q2y c)) Z Z fun _ _ _ aa ag _=>As (.bool false) Z Z (Nl (Sq (Rg (Ld (LM d m gsv msv csv) Z Z (AO Bp (hr.le aa)) (Ld (.agg (An p)) Z Z (AO Bg (hrp.le aa)) (Fa HA Z Z (Ld (J c.good) Z Z (Rd.one AN ag Z) (Fa HB Z Z (Ld (J c.day) Z Z (Rd.one AN ag Z) (Pl Z (B6 func95 JW Z Z Z Z ((Ie d m gs gsv ms msv cs csv p c.good c.day (hgs.le aa) (hms.le aa) (hcs.le aa) (hG.le aa) (by omega) (by omega) (by omega) (by omega) (by omega)).mono fun _ _ ah=>?_))))))))))))))));obtain ⟨rfl,ab⟩:=ah;refine Mv (.tuple #[J (W0 ms p c),J ((AJ ms p c.good c.day).2)]) Z Z (Pl Z (AP (vs:=#[J (W0 ms p c),J ((AJ ms p c.good c.day).2)]) (v:=J (W0 ms p c)) Z Z (Pl Z (AP (vs:=#[J (W0 ms p c),J ((AJ ms p c.good c.day).2)]) (v:=J ((AJ ms p c.good c.day).2)) Z Z (As (J (W0 ms p c)) Z Z (As (J ((AJ ms p c.good c.day).2)) Z Z (Nl (Sq (Rg (Mv (J (W0 ms p c)) Z Z (Fa ED Z Z (Fa Cm Z Z (have ac:=ab.keep ag Z;Ld (J c.low) Z Z (Rd.one AN ac Z) (Fa ED Z Z (Fa C0 Z Z (Ld (J c.high) Z Z (Rd.one AN ac Z) (Pl Z (Az func79 B1 Z Z Z ((BW (W0 ms p c) c.low c.high ).mono fun _ _ ai=>?_)))))))))))))))))));obtain ⟨rfl,rfl⟩:=ai;exact Pl Z (BQ (p:=c.low≤(W0 ms p c)∧(W0 ms p c)≤c.high) Z (As (.bool (decide (¬(c.low≤(W0 ms p c)∧(W0 ms p c)≤c.high)))) Z Z (Nl (Rt (⟨.inr Z,Ac Z (v:=.bool (decide (¬(c.low≤(W0 ms p c)∧(W0 ms p c)≤c.high)))) Z (⟨(by rfl),(aa.trans ab)⟩)⟩)))))
theorem Sj {W:Wk prog} {h:GH} (d:Int) (m:Int) (gs:List Good) (gsv:Value) (ms:List AB) (msv:Value) (cs:List AC) (csv:Value) (p:AU) (hgs:AK h gsv 5 BH gs) (hms:AK h msv 5 BC ms) (hcs:AK h csv 4 Av cs) (hG:Da h) (hp:Bj p) (hml:ms.length≤6) (hkind:∀k,0≤(ms.getD k AB.z).kind∧(ms.getD k AB.z).kind≤4) (hgl:gs.length≤3) (hcg:∀x ∈ cs,0≤x.good∧x.good<3):Aa W 102 #[.agg #[J d,J m,gsv,msv,csv],.agg (An p)] h (fun v h'=>v=(.bool (A7 d gs.length ms cs p):Value)∧h.Le h'):=by
 have ao:=hgs.len;have ap:=hms.len;have aq:=hcs.len;refine AL func102 Z (Nb Z) (Sq (Rg (Pl Z (Aq (v:=.agg #[J d,J m,gsv,msv,csv]) (c:=#[J d,J m,gsv,msv,csv]) Z Z fun r4 _ _ ar a3 _=>Pl Z (Aq (v:=.agg (An p)) (c:=An p) Z Z fun an a4 _ ac ai _=>As (.bool false) Z Z (Nl (Sq (Sq (Rg (Fa Ax Z Z (Fa BJ Z Z (have ae:=ac.keep a3 Z;Ld gsv Z Z (Rd.one B9 ae Z) (have af:=ar.trans ac;Pl Z (Ab Co (hgs.le af) Z (Mv (J 0) Z Z (Nl (Bk (Ay (fun nn σ' ds' h'=>∃(k:Nat),nn=gs.length-k∧(k≤gs.length)∧(∀j,j<k→¬(AJ ms p (j:Int) d).2<0)∧ds'=[]∧GH.Le a4 h'∧σ' 2=Pt r4∧σ' 3=Pt an∧σ' 11=J (gs.length:Int)∧σ' 12=J k) ⟨0,Z,(by omega),(by (intro j hj;omega)),Z,Lr,Z,Z,Z,Z⟩ (fun nn _ _ a5 au=>?_)))))))))))))))))));obtain ⟨k,rfl,hk,hs,a6,ag,aj,av,a2,aw⟩:=au;subst a6;refine Sq (Rg (Pl Z (A9 (a:=(k:Int)) (b:=(gs.length:Int)) aw a2 (Nl (Sq (AZ (p:=(k:Int)<(gs.length:Int)) Z (fun ax=>?_) (fun ax=>?_)))))))
 ·refine Sk (Sq (Bk (Sq (Rg (Mv (J k) Z aw (As (J k) Z Z (Nl (Sq (Rg (have ak:=ag.keep ae Z;Ld (LM d m gsv msv csv) Z aj (AO Bp (Bx ak Z)) (Ld (.agg (An p)) Z av (AO Bg (Bx (ag.keep ai Z) Z)) (Mv (J k) Z Z (Fa Ax Z aj (Fa CJ Z Z (Ld (J d) Z Z (Rd.one AN ak Z) (have aa:=af.trans ag;Pl Z (B6 func95 JW Z Z Z Z ((Ie d m gs gsv ms msv cs csv p (k:Int) d (hgs.le aa) (hms.le aa) (hcs.le aa) (hG.le aa) (by omega) (by omega) (by omega) (by omega) (by omega)).mono fun _ _ ay=>?_))))))))))))))))));obtain ⟨rfl,ad⟩:=ay;refine Mv (.tuple (Q41 ms p k d)) Z Z (Pl Z (AP (vs:=(Q41 ms p k d)) (v:=J ((AJ ms p (k:Int) d).1)) Z Z (Pl Z (AP (vs:=(Q41 ms p k d)) (v:=J ((AJ ms p (k:Int) d).2)) Z Z (As (J ((AJ ms p (k:Int) d).1)) Z Z (As (J ((AJ ms p (k:Int) d).2)) Z Z (Nl (Sq (Rg (Mv (J ((AJ ms p (k:Int) d).2)) Z Z (Pl Z (A9 (a:=(AJ ms p (k:Int) d).2) (b:=0) Z Z (Nl (AZ (p:=((AJ ms p (k:Int) d).2)<0) Z (fun az=>?_) (fun az=>?_)))))))))))))))
  ·exact Sq (Rg (As (.bool false) Z Z (Nl (Rt (⟨.inr Z,Ac Z (v:=.bool false) Z (⟨(by (symm;congr 1;exact TS (k:=k) (by omega) ‹_›)),(aa.trans ad)⟩)⟩)))))
  ·exact Sk (Rg (Ad (k:Int) 1 Z aw Z (by omega) (Mv (J ((k:Int)+1)) Z Z (Nl (⟨_,by omega,k+1,Z,(by omega),(by exact JM hs ‹_›),Z,(ag.trans ad),aj,av,a2,Z⟩)))))
 ·refine Xt (Sq (Rg (Fa Ax Z aj (Fa Bd Z Z (have al:=ag.keep ae Z;Ld csv Z Z (Rd.one CY al Z) (Pl Z (GS aj av ?_)))))));have ah:=af.trans ag;have a0:∀x ∈ cs,∀h1,GH.Le a5 h1→Ca W (.func (.func 145) #[] #[Pt r4,Pt an]) #[.agg #[J x.good,J x.day,J x.low,J x.high]] h1 fun v h2=>v=.bool ((fun x=>decide (¬(x.low≤(AJ ms p x.good x.day).1∧(AJ ms p x.good x.day).1≤x.high))) x)∧h1.Le h2:=by
   intro x hx h1 l1;have hcx:=hcg x hx;have ab:=ah.trans l1;exact CA func145 Ub Z ((Q4 x d m gs gsv ms msv cs csv r4 p an (hgs.le ab) (hms.le ab) (hcs.le ab) (Bx (l1.keep al Z) Z) (Bx (l1.keep (ag.keep ai Z) Z) Z) (hG.le ab) (by omega) (by omega) (by omega) (by omega) (by omega)).mono fun v h2 hp=>⟨hp.1,hp.2⟩)
  refine Pl Z (AY func144 Ua Z Z ((KZ cs csv (.func (.func 145) #[] #[Pt r4,Pt an]) (fun x=>decide (¬(x.low≤(AJ ms p x.good x.day).1∧(AJ ms p x.good x.day).1≤x.high))) (hcs.le ah) a0).mono fun _ _ a1=>?_));obtain ⟨rfl,am⟩:=a1;exact Pl Z (Dq (b:=cs.any (fun x=>decide (¬(x.low≤(AJ ms p x.good x.day).1∧(AJ ms p x.good x.day).1≤x.high)))) Z (As (.bool (!(cs.any (fun x=>decide (¬(x.low≤(AJ ms p x.good x.day).1∧(AJ ms p x.good x.day).1≤x.high)))))) Z Z (Nl (Rt (⟨.inr Z,Ac Z (v:=.bool (!(cs.any (fun x=>decide (¬(x.low≤(AJ ms p x.good x.day).1∧(AJ ms p x.good x.day).1≤x.high)))))) Z (⟨(by (symm;congr 1;exact RY (k:=k) (by omega) hs)),(ah.trans am)⟩)⟩)))))
end Go.Ns
namespace Go.Ns
open Go.Conc Go.Proofs Go.Proofs.Tryz
attribute [local irreducible] Be EF Tr Aa Ca B5
theorem Sm {W:Wk prog} {h:GH} (d:Int) (m:Int) (gs:List Good) (gsv:Value) (ms:List AB) (msv:Value) (cs:List AC) (csv:Value) (f:List Int) (fv:Value) (y:List Int) (yv:Value) (l:List Int) (lv:Value) (hgs:AK h gsv 5 BH gs) (hms:AK h msv 5 BC ms) (hcs:AK h csv 4 Av cs) (hf:AK h fv 1 eI f) (hy:AK h yv 1 eI y) (hl:AK h lv 1 eI l) (hG:Da h) (hnm:∀k,(gs.getD k Good.z).name.size≤1000):Aa W 94 #[.agg #[J d,J m,gsv,msv,csv],fv,yv,lv] h (fun v h'=>v=(.tuple #[.agg (An (A8 d m gs ms cs f y l)),J (Aw d m gs ms cs f y l)]:Value)∧h.Le h'):=by
 have br:=hgs.len;have bs:=hms.len;have bt:=hcs.len;have bu:=hf.len;have bv:=hy.len;have bw:=hl.len;refine AL func94 Z (Nb Z) (Sq (Rg (Pl Z (Aq (v:=.agg #[J d,J m,gsv,msv,csv]) (c:=#[J d,J m,gsv,msv,csv]) Z Z fun r7 _ _ aa bx _=>Pl Z (Aj DY fun ck cm ah ag bz _=>have al:cm ck=some (true,.cells Zx 119 (0,0)):=bz;As (J 0) Z Z (Nl (Sq (Sq (Rg (have aw:=ag.keep bx Z;Ld (LM d m gsv msv csv) Z Z (AO Al (Bx aw Z)) (have ai:=aa.trans ag;Pl Z (Am func25 FM Z ((C8 d m gs gsv ms msv cs csv (hgs.le ai) (hms.le ai) (hcs.le ai) (hG.le ai) (by omega)).mono fun _ _ b0=>?_)))))))))))));obtain ⟨rfl,ab⟩:=b0;refine As (J (Hk d m gs ms cs)) Z Z (Nl (Sq (Rg (Mv (J (Hk d m gs ms cs)) Z Z (Pl Z (BI (a:=AX d m gs ms cs) (b:=0) Z Z (Nl (AZ (p:=¬(Hk d m gs ms cs)=0) Z (fun ax=>?_) (fun ax=>?_)))))))))
 ·exact Sq (Rg (Pl Z (A6 (cells:=Xz) H5 DY (by kernel_rfl) (Mv (J (Hk d m gs ms cs)) Z Z (Pl Z (AH (v:=.agg Xz) (c':=An AU.zero) Bg Z Z (ab.keep al Z) Z Z (Nb Z) Z fun _ b1 b2=>As (J (Hk d m gs ms cs)) Z Z (Nl (Rt (⟨.inr Z,DQ Z (v:=.agg Zx) (v':=J (Hk d m gs ms cs)) Z (AO Bg (Bx b1 Z)) Z (⟨(by exact G3 (QR ‹_›) ‹_›),((ai.trans ab).upd (Ln aa ah) b2)⟩)⟩)))))))))
 ·have hbk:=G2 (Dn ax);have hgl:=hbk.glen;have hml:=hbk.mlen;have hcl:=hbk.clen;have hdy:=hbk.days;have hmo:=hbk.most;have hkind:=hbk.kind;refine Sk (Sq (Sq (Rg (Mv fv Z Z (Fa BJ Z Z (have ay:=ab.keep aw Z;Ld gsv Z Z (Rd.one B9 ay Z) (have am:=ai.trans ab;Pl Z (Ab Co (hgs.le am) Z (Pl Z (AY func140 OH Z Z ((LP f fv (gs.length:Int) (hf.le am) ).mono fun _ _ b3=>?_)))))))))));obtain ⟨rfl,ae⟩:=b3;refine As (J (Q3v f gs)) Z Z (Nl (Sq (Rg (Mv (J (Q3v f gs)) Z Z (Pl Z (BI (a:=A3 f (gs.length:Int)) (b:=0) Z Z (Nl (AZ (p:=¬(Q3v f gs)=0) Z (fun az=>?_) (fun az=>?_)))))))))
  ·exact Sq (Rg (Pl Z (A6 (cells:=Xz) H5 DY (by kernel_rfl) (Mv (J (Q3v f gs)) Z Z (Pl Z (AH (v:=.agg Xz) (c':=An AU.zero) Bg Z Z (ae.keep (ab.keep al Z) Z) Z Z (Nb Z) Z fun _ b4 b5=>As (J (Q3v f gs)) Z Z (Nl (Rt (⟨.inr Z,DQ Z (v:=.agg Zx) (v':=J (Q3v f gs)) Z (AO Bg (Bx b4 Z)) Z (⟨(by exact G3 (QS ‹_› ‹_›) ‹_›),((am.trans ae).upd (Ln aa ah) b5)⟩)⟩)))))))))
  ·obtain ⟨_,hnb51_⟩:=DM (Dn az);refine Sk (Sq (Sq (Rg (Mv yv Z Z (Fa BB Z Z (have a0:=ae.keep ay Z;Ld msv Z Z (Rd.one Bq a0 Z) (have aj:=am.trans ae;Pl Z (Ab DZ (hms.le aj) Z (Pl Z (AY func140 OH Z Z ((LP y yv (ms.length:Int) (hy.le aj) ).mono fun _ cn b6=>?_)))))))))));obtain ⟨rfl,ac⟩:=b6;refine As (J (Q3w y ms)) Z Z (Nl (Sq (Rg (Mv (J (Q3w y ms)) Z Z (Pl Z (BI (a:=A3 y (ms.length:Int)) (b:=0) Z Z (Nl (AZ (p:=¬(Q3w y ms)=0) Z (fun a1=>?_) (fun a1=>?_)))))))))
   ·exact Sq (Rg (Pl Z (A6 (cells:=Xz) H5 DY (by kernel_rfl) (Mv (J (Q3w y ms)) Z Z (Pl Z (AH (v:=.agg Xz) (c':=An AU.zero) Bg Z Z (ac.keep (ae.keep (ab.keep al Z) Z) Z) Z Z (Nb Z) Z fun _ b7 b8=>As (J (Q3w y ms)) Z Z (Nl (Rt (⟨.inr Z,DQ Z (v:=.agg Zx) (v':=J (Q3w y ms)) Z (AO Bg (Bx b7 Z)) Z (⟨(by exact G3 (QT ‹_› ‹_› ‹_›) ‹_›),((aj.trans ac).upd (Ln aa ah) b8)⟩)⟩)))))))))
   ·obtain ⟨_,hnb66_⟩:=DM (Dn a1);refine Sk (Sq (Rg (have ap:=(ac.keep (ae.keep (ab.keep al Z) Z) Z);Pl Z (Aj DY fun b9 co ak an ca _=>have cb:co b9=some (true,.cells Zx 119 (0,0)):=ca;Nl (Sq (Rg (Fa JB Z Z (Pl Z (MA Lh Z (Mv fv Z Z (have a2:=(aj.trans ac).trans an;Pl Z (RS (enc:=eI) (ys:=f) (c':=An (AU.zero.setFirsts f)) AV Z Z cb (Nb Z) (hf.le a2) (by omega) (by intro y hy;rfl) (by intro y hy;rfl) (Ma (by omega)) fun _ cc a3=>Nl (Sq (Rg (Fa JC Z Z (Pl Z (MA Li Z (Mv yv Z Z (have a4:=a2.upd (Ln ((((aa.trans ag).trans ab).trans ae).trans ac) ak) a3;Pl Z (RS (enc:=eI) (ys:=y) (c':=An (ZH f y)) AV Z Z cc (Nb Z) (hy.le a4) (by omega) (by intro y hy;rfl) (by intro y hy;rfl) (NP (by omega)) fun _ cd a5=>Nl (Sq (Rg (As (J (-1)) Z Z (Nl (Sq (Sq (Rg (Mv lv Z Z (have ce:=a4.upd (Ln ((((aa.trans ag).trans ab).trans ae).trans ac) ak) a5;Pl Z (Ab Cp (hl.le ce) Z (Mv (J 0) Z Z (Nl (Bk (have cf:=(an.upd (Ln Lr ak) a3).upd (Ln Lr ak) a5;Ay (fun nn σ' ds' h'=>∃(k:Nat),nn=l.length-k∧(k≤l.length)∧(∀j,j<k→Ik ms l j=0)∧ds'=[]∧GH.Le cn h'∧σ' 4=Pt r7∧σ' 8=Pt ck∧σ' 13=Pt b9∧σ' 49=lv∧σ' 50=J (l.length:Int)∧σ' 14=J (GW l k)∧σ' 51=J k∧h' b9=some (true,.cells (An (Df (ZH f y) l k)) 119 (0,0))) ⟨0,Z,(by omega),(by (intro j hj;omega)),Z,cf,Z,Z,Z,Z,Z,Z,Z,(by have e:(An (Df (ZH f y) l 0):Array Value)=An (ZH f y):=(by rfl);rw [e];exact cd)⟩ (fun nn _ _ _ cg=>?_)))))))))))))))))))))))))))))))))));obtain ⟨k,rfl,hk,hs,cp,aq,cl,ar,ch,a6,a7,ci,au,a8⟩:=cg;subst cp;refine Sq (Rg (Pl Z (A9 (a:=(k:Int)) (b:=(l.length:Int)) au a7 (Nl (Sq (AZ (p:=(k:Int)<(l.length:Int)) Z (fun a9=>?_) (fun a9=>?_)))))))
    ·refine Sk (Sq (Bk (Sq (Rg ?_))));have ba:(0:Int)≤(k:Int):=by omega
     have bb:(k:Int)<((l.length:Nat):Int):=by omega
     refine Pl Z (A0 AV hl a6 au ba bb fun cj av bc=>have bd:Ae _ cj av 1 (eI (l.getD k 0)):=Ae.getD 0 bc;have af:=(aj.trans ac).trans aq;Ld (Me l k) Z Z (CL AN (bd.le af) Z) (As (Me l k) Z Z (Nl (Sq (Bk (Sq (Rg (Ld (LM d m gsv msv csv) Z cl (AO Al (Bx (aq.keep (ac.keep a0 Z) Z) Z)) (Pl Z (A6 (cells:=#[J d,J m,gsv,msv,csv]) DW Bm (by kernel_rfl) (Mv (Me l k) Z Z (Pl Z (AY func110 IZ Z Z ((Hd d m gs gsv ms msv cs csv (l.getD k 0) (hgs.le af) (hms.le af) (hcs.le af) ).mono fun _ _ be=>?_))))))))))))));obtain ⟨rfl,ad⟩:=be;refine Pl Z (BQ (p:=(0≤(l.getD k 0)∧(l.getD k 0)≤(ms.length:Int)-1)∧(ms.getD ((l.getD k 0)).toNat AB.z).kind=0) Z (As (.bool (decide (¬((0≤(l.getD k 0)∧(l.getD k 0)≤(ms.length:Int)-1)∧(ms.getD ((l.getD k 0)).toNat AB.z).kind=0)))) Z Z (Nl (AZ (p:=¬((0≤(l.getD k 0)∧(l.getD k 0)≤(ms.length:Int)-1)∧(ms.getD ((l.getD k 0)).toNat AB.z).kind=0)) Z (fun ao=>?_) (fun ao=>?_)))))
     ·exact Sq (Rg (Pl Z (A6 (cells:=Xz) H5 DY (by kernel_rfl) (Pl Z (AH (v:=.agg Xz) (c':=An AU.zero) Bg ar Z (ad.keep (aq.keep ap Z) Z) Z Z (Nb Z) Z fun _ bf bg=>As (J 6) Z Z (Nl (Rt (⟨.inr Z,DQ Z (v:=.agg Zx) (v':=J 6) ar (AO Bg (Bx bf Z)) Z (⟨(by exact G3 (GX ‹_› ‹_› ‹_› (BS (k:=k) hs (by omega) (AAE ‹_›) (by decide))) (by decide)),((af.trans ad).upd (Ln aa ah) bg)⟩)⟩))))))))
     ·have hc122_:=Dn ao;refine Sq (Rg (Mv (Me l k) Z Z (Mv (J (GW l k)) Z ci (Pl Z (Dp (a:=l.getD k 0) (b:=GW l k) Z Z (As (.bool (decide ((l.getD k 0)≤(GW l k)))) Z Z (Nl (AZ (p:=(l.getD k 0)≤(GW l k)) Z (fun bh=>?_) (fun bh=>?_)))))))))
      ·exact Sq (Rg (Pl Z (A6 (cells:=Xz) H5 DY (by kernel_rfl) (Pl Z (AH (v:=.agg Xz) (c':=An AU.zero) Bg ar Z (ad.keep (aq.keep ap Z) Z) Z Z (Nb Z) Z fun _ bi bj=>As (J 7) Z Z (Nl (Rt (⟨.inr Z,DQ Z (v:=.agg Zx) (v':=J 7) ar (AO Bg (Bx bi Z)) Z (⟨(by exact G3 (GX ‹_› ‹_› ‹_› (BS (k:=k) hs (by omega) (AAF ‹_› ‹_›) (by decide))) (by decide)),((af.trans ad).upd (Ln aa ah) bj)⟩)⟩))))))))
      ·refine Sk (Rg (Mv (Me l k) Z Z (Mv (Me l k) Z Z (Fa Ef Z ch ?_))));have bk:(0:Int)≤l.getD k 0:=by omega
       have bl:l.getD k 0<((6:Nat):Int):=by omega
       exact Pl Z (C5 Gq Z Z bk bl (Pl Z (AH (v:=.bool true) (c':=An ((Df (ZH f y) l k).setLie ((l.getD k 0).toNat) true)) Hl Z Z (ad.keep a8 Z) Z Z (by show _≤15;omega) (IJ (i:=(l.getD k 0).toNat) (by omega)) fun _ bm bn=>As (Me l k) Z Z (Nl (Rg (Ad (k:Int) 1 Z au Z (by omega) (Mv (J ((k:Int)+1)) Z Z (Nl (⟨_,by omega,k+1,Z,(by omega),(by exact Dg hs (AAG ‹_› ‹_›)),Z,((aq.trans ad).upd (Ln Lr ak) bn),cl,ar,ch,a6,a7,Z,Z,(by have e:(An (Df (ZH f y) l (k+1)):Array Value)=An ((Df (ZH f y) l k).setLie ((l.getD k 0).toNat) true):=(by rw [Re (by omega)]);rw [e];exact bm)⟩)))))))))
    ·exact Xt (Sq (Rg (Ld (.agg (An (Df (ZH f y) l k))) Z ch (AO Bg (Bx a8 Z)) (Pl Z (AH (v:=.agg (An (Df (ZH f y) l k))) (c':=An (Df (ZH f y) l k)) Bg ar Z (aq.keep ap Z) (IL _) (IM _) (JN _) (JO _ _) fun _ bo bp=>As (J 0) Z Z (Nl (Rt (have bq:=((aj.trans ac).trans aq).upd (Ln aa ah) bp;⟨.inr Z,DQ Z (v:=.agg (An (Df (ZH f y) l k))) (v':=J 0) ar (AO Bg (Bx bo Z)) Z (⟨(by exact Rf (GX ‹_› ‹_› ‹_› (CP (k:=k) hs (by omega))) ‹_› hk),bq⟩)⟩))))))))
theorem Xe {W:Wk prog} {h:GH} (d:Int) (m:Int) (gs:List Good) (gsv:Value) (ms:List AB) (msv:Value) (cs:List AC) (csv:Value) (f:List Int) (fv:Value) (y:List Int) (yv:Value) (l:List Int) (lv:Value) (hgs:AK h gsv 5 BH gs) (hms:AK h msv 5 BC ms) (hcs:AK h csv 4 Av cs) (hf:AK h fv 1 eI f) (hy:AK h yv 1 eI y) (hl:AK h lv 1 eI l) (hG:Da h) (hnm:∀k,(gs.getD k Good.z).name.size≤1000):Aa W 23 #[.agg #[J d,J m,gsv,msv,csv],fv,yv,lv] h (fun v h'=>∃(w1:Value) (w2:Value),v=(.tuple #[w1,w2,J (Aw d m gs ms cs f y l)]:Value)∧AK h' w1 1 eI (G4 d m gs ms cs f y l)∧AK h' w2 1 eI (IN d m gs ms cs f y l)∧h.Le h'):=by
 have ba:=hgs.len;have bb:=hms.len;have bc:=hcs.len;have bd:=hf.len;have be:=hy.len;have bf:=hl.len;refine AL func23 Z (Nb Z) (Sq (Rg (Pl Z (Aq (v:=.agg #[J d,J m,gsv,msv,csv]) (c:=#[J d,J m,gsv,msv,csv]) Z Z fun r7 _ _ aa ar _=>As Md Z Z (As Md Z Z (As (J 0) Z Z (Nl (Sq (Rg (Ld (LM d m gsv msv csv) Z Z (AO Al (Bx ar Z)) (Mv fv Z Z (Mv yv Z Z (Mv lv Z Z (Pl Z (B6 func94 XT Z Z Z Z ((Sm d m gs gsv ms msv cs csv f fv y yv l lv (hgs.le aa) (hms.le aa) (hcs.le aa) (hf.le aa) (hy.le aa) (hl.le aa) (hG.le aa) (by omega)).mono fun _ _ bg=>?_))))))))))))))));obtain ⟨rfl,ab⟩:=bg;refine Mv (.tuple #[.agg (An (A8 d m gs ms cs f y l)),J (Aw d m gs ms cs f y l)]) Z Z (Pl Z (AP (vs:=#[.agg (An (A8 d m gs ms cs f y l)),J (Aw d m gs ms cs f y l)]) (v:=.agg (An (A8 d m gs ms cs f y l))) Z Z (Pl Z (AP (vs:=#[.agg (An (A8 d m gs ms cs f y l)),J (Aw d m gs ms cs f y l)]) (v:=J (Aw d m gs ms cs f y l)) Z Z (have au:=ab.keep ar Z;Pl Z (Aj DY fun bh b4 am ad bi _=>have bj:b4 bh=some (true,.cells Zx 119 (0,0)):=bi;have bk:r7≠bh:=C4 au am;Pl Z (AH (v:=.agg (An (A8 d m gs ms cs f y l))) (c':=An (A8 d m gs ms cs f y l)) Bg Z Z bj (IL _) (IM _) (JN _) (JO _ _) fun av bl an=>As (J (Aw d m gs ms cs f y l)) Z Z (Nl (Sq (Sq (Rg (Mv (J (Aw d m gs ms cs f y l)) Z Z (Pl Z (BI (a:=Aw d m gs ms cs f y l) (b:=0) Z Z (Nl (AZ (p:=¬(Aw d m gs ms cs f y l)=0) Z (fun aw=>?_) (fun aw=>?_)))))))))))))))))
 ·exact Sq (Rg (Mv (J (Aw d m gs ms cs f y l)) Z Z (As Md Z Z (As Md Z Z (As (J (Aw d m gs ms cs f y l)) Z Z (Nl (Rt (have bm:=((aa.trans ab).trans ad).upd (Ln (aa.trans ab) am) an;⟨.inr Z,PL Z (v:=.slice none 0 0) (v':=.slice none 0 0) (v2:=J (Aw d m gs ms cs f y l)) Z Z Z (⟨.slice none 0 0,.slice none 0 0,(by rfl),(by have e:G4 d m gs ms cs f y l=[]:=(by exact QU ‹_›);rw [e];exact AK.nil _ _ _),(by have e:IN d m gs ms cs f y l=[]:=(by exact Rh ‹_›);rw [e];exact AK.nil _ _ _),bm⟩)⟩))))))))
 ·obtain ⟨hbk,hpo⟩:=WE (Dn aw);have hgl:=hbk.glen;have hml:=hbk.mlen;have hdy:=hbk.days;have hkind:=hbk.kind;refine Sk (Sq (Sq (Rg (Fa BJ Z Z (have ax:=(an _ bk).trans (ad.keep au Z);Ld gsv Z Z (Rd.one B9 ax Z) (have ao:=((aa.trans ab).trans ad).upd (Ln (aa.trans ab) am) an;Pl Z (Ab Co (hgs.le ao) Z (Mv (J 0) Z Z (Nl (Bk (Ay (fun nn σ' ds' h'=>∃(k:Nat) (w8:Value) (w9:Value),nn=gs.length-k∧(k≤gs.length)∧ds'=[]∧GH.Le av h'∧σ' 4=Pt r7∧σ' 10=J 0∧σ' 11=Pt bh∧σ' 29=J (gs.length:Int)∧σ' 30=J k∧σ' 8=w8∧σ' 9=w9∧AS av h' w8 3 1 eI ((List.range k).map (fun (i:Nat)=>(AJ ms (A8 d m gs ms cs f y l) (i:Int) d).1))∧AS av h' w9 3 1 eI ((List.range k).map (fun (i:Nat)=>(AJ ms (A8 d m gs ms cs f y l) (i:Int) d).2))∧Apart w9 w8) ⟨0,.slice none 0 0,.slice none 0 0,Z,(by omega),Z,Lr,Z,Z,Z,Z,Z,Z,Z,(by have e:(List.range 0).map (fun (i:Nat)=>(AJ ms (A8 d m gs ms cs f y l) (i:Int) d).1)=[]:=(by rfl);rw [e];exact AS.nil _ _ _ _ _),(by have e:(List.range 0).map (fun (i:Nat)=>(AJ ms (A8 d m gs ms cs f y l) (i:Int) d).2)=[]:=(by rfl);rw [e];exact AS.nil _ _ _ _ _),Apart.nil⟩ (fun nn _ _ _ bn=>?_))))))))))));obtain ⟨k,w8,w9,rfl,hk,b5,ay,bo,b6,bw,bx,bp,bz,b0,b1,b2,b3⟩:=bn;subst b5;refine Sq (Rg (Pl Z (A9 (a:=(k:Int)) (b:=(gs.length:Int)) bp bx (Nl (Sq (AZ (p:=(k:Int)<(gs.length:Int)) Z (fun bq=>?_) (fun bq=>?_)))))))
  ·refine Sk (Sq (Bk (Sq (Rg (Mv (J k) Z bp (As (J k) Z Z (Nl (Sq (Rg (have az:=ay.keep ax Z;Ld (LM d m gsv msv csv) Z bo (AO Al (Bx az Z)) (Pl Z (A6 (cells:=#[J d,J m,gsv,msv,csv]) DW Bm (by kernel_rfl) (Ld (.agg (An (A8 d m gs ms cs f y l))) Z bw (AO Bg (Bx (ay.keep bl Z) Z)) (Mv (J k) Z Z (Fa CJ Z bo (Ld (J d) Z Z (Rd.one AN az Z) (have ah:=ao.trans ay;Pl Z (B6 func95 JW Z Z Z Z ((Ie d m gs gsv ms msv cs csv (A8 d m gs ms cs f y l) (k:Int) d (hgs.le ah) (hms.le ah) (hcs.le ah) (hG.le ah) (by omega) (by omega) (by omega) (by omega) (by omega)).mono fun _ _ br=>?_)))))))))))))))))));obtain ⟨rfl,ae⟩:=br;exact Mv (.tuple #[J ((AJ ms (A8 d m gs ms cs f y l) (k:Int) d).1),J ((AJ ms (A8 d m gs ms cs f y l) (k:Int) d).2)]) Z Z (Pl Z (AP (vs:=#[J ((AJ ms (A8 d m gs ms cs f y l) (k:Int) d).1),J ((AJ ms (A8 d m gs ms cs f y l) (k:Int) d).2)]) (v:=J ((AJ ms (A8 d m gs ms cs f y l) (k:Int) d).1)) Z Z (Pl Z (AP (vs:=#[J ((AJ ms (A8 d m gs ms cs f y l) (k:Int) d).1),J ((AJ ms (A8 d m gs ms cs f y l) (k:Int) d).2)]) (v:=J ((AJ ms (A8 d m gs ms cs f y l) (k:Int) d).2)) Z Z (As (J ((AJ ms (A8 d m gs ms cs f y l) (k:Int) d).1)) Z Z (As (J ((AJ ms (A8 d m gs ms cs f y l) (k:Int) d).2)) Z Z (Nl (Rg (Mv w8 Z bz (Mv (J ((AJ ms (A8 d m gs ms cs f y l) (k:Int) d).1)) Z Z (Pl Z (Af (cells:=#[J ((AJ ms (A8 d m gs ms cs f y l) (k:Int) d).1)]) CO (by decide) (by decide) (by kernel_rfl) fun _ _ bs af bt _=>have bu:=AS.built (enc:=eI) (xs:=[(AJ ms (A8 d m gs ms cs f y l) (k:Int) d).1]) (n:=1) bs bt Z Z (by intro x hx;rfl) Z;have a0:=(b1.le ae).le af;have a1:=(ay.trans ae).trans af;have a2:=(b2.le ae).le af;Pl Z (CB (h0:=av) Do Z Z a0 (bu.sl) (fun _ q=>Ln a1 q) (by simp <;> omega) (by intro y hy;rfl) fun a9 _ bv ap=>have ai:Apart a9 w9:=Apart.grown ap a2 (Apart.symm b3);Mv w9 Z b0 (Mv (J ((AJ ms (A8 d m gs ms cs f y l) (k:Int) d).2)) Z Z (Pl Z (Af (cells:=#[J ((AJ ms (A8 d m gs ms cs f y l) (k:Int) d).2)]) CO (by decide) (by decide) (by kernel_rfl) fun _ _ a3 ac a4 _=>have a5:=AS.built (enc:=eI) (xs:=[(AJ ms (A8 d m gs ms cs f y l) (k:Int) d).2]) (n:=1) a3 a4 Z Z (by intro x hx;rfl) Z;have aj:=((AS.grown ap a2 (Apart.symm b3)).le ac);have ak:=(GH.Le.grown ap a1 fun b e=>Ln Lr (a0.fresh b e)).trans ac;have al:=bv.le ac;Pl Z (CB (h0:=av) Do Z Z aj (a5.sl) (fun _ q=>Ln ak q) (by simp <;> omega) (by intro y hy;rfl) fun aq _ a6 ag=>have a7:Apart aq a9:=Apart.grown ag al (Apart.symm ai);As a9 Z Z (As aq Z Z (Nl (Rg (Ad (k:Int) 1 Z bp Z (by omega) (Mv (J ((k:Int)+1)) Z Z (Nl (have a8:=GH.Le.grown ag ak fun b e=>Ln Lr (aj.fresh b e);⟨_,by omega,k+1,a9,aq,Z,(by omega),Z,a8,bo,b6,bw,bx,Z,Z,Z,(by have e:(List.range (k+1)).map (fun (i:Nat)=>(AJ ms (A8 d m gs ms cs f y l) (i:Int) d).1)=((List.range k).map (fun (i:Nat)=>(AJ ms (A8 d m gs ms cs f y l) (i:Int) d).1))++[(AJ ms (A8 d m gs ms cs f y l) (k:Int) d).1]:=(by exact DS _ _);rw [e];exact (AS.grown ag al (Apart.symm ai))),(by have e:(List.range (k+1)).map (fun (i:Nat)=>(AJ ms (A8 d m gs ms cs f y l) (i:Int) d).2)=((List.range k).map (fun (i:Nat)=>(AJ ms (A8 d m gs ms cs f y l) (i:Int) d).2))++[(AJ ms (A8 d m gs ms cs f y l) (k:Int) d).2]:=(by exact DS _ _);rw [e];exact a6),a7⟩))))))))))))))))))))))))
  ·exact Xt (Sq (Rg (Mv w8 Z bz (Mv w9 Z b0 (As w8 Z Z (As w9 Z Z (As (J 0) Z Z (Nl (Rt (⟨.inr Z,PL Z (v:=w8) (v':=w9) (v2:=J 0) Z Z Z (⟨w8,w9,(by (rw [Dn (by assumption:¬¬Aw d m gs ms cs f y l=0)])),(by have e:G4 d m gs ms cs f y l=(List.range k).map (fun (i:Nat)=>(AJ ms (A8 d m gs ms cs f y l) (i:Int) d).1):=(by exact Ou ‹_› hk ‹_›);rw [e];exact b1.sl),(by have e:IN d m gs ms cs f y l=(List.range k).map (fun (i:Nat)=>(AJ ms (A8 d m gs ms cs f y l) (i:Int) d).2):=(by exact QV ‹_› hk ‹_›);rw [e];exact b2.sl),(ao.trans ay)⟩)⟩))))))))))
end Go.Ns
