/- Rules and walks, part 3 of 6. No conditions. -/
import Derived.Carry
import Derived.Conc.LeavingOf
import Derived.LaidMore
import Derived.OpenShut
import Derived.ProofKit
import Derived.Test.YthccgklboafliaaDoorBlA
import Derived.Test.YthccgklboafliaaDoorBlB
import Derived.Test.YthccgklboafliaaDoorProg
set_option linter.unusedVariables false
set_option linter.unusedSimpArgs false
set_option linter.unnecessarySimpa false
set_option linter.unusedSectionVars false
namespace Go.Ns
open Go.Conc
section
variable {P:Program} {E:Env P} {σ:Nat→Value} {ds:List Deferred} {h:GH} {T:(Nat→Value)→List Deferred→GH→Prop} {dst:Option Nat} {ty:TypeId} {pos:String} {af:Array Edge} {gd:Option (Nat×Bool)}
theorem shr_u8 {a:Int} {k:Nat} (h:k≤8):a.fdiv (2 ^ (min ((k:Int)).toNat IntKind.u8.bits))=a.fdiv (2 ^ k):=by
 have:min ((k:Int)).toNat IntKind.u8.bits=k:=by
  show min ((k:Int)).toNat 8=k;omega
 rw [this]
theorem ok_and1b {xt yt:TypeId} {x y:Operand} {a:Int} (hx:evalS σ x=.int .u8 a) (hy:evalS σ y=.int .u8 1) (h0:0≤a) (h1:a≤255) (k:T (putS σ dst (.int .u8 (a%2))) ds h) :
  OpK E ⟨dst,.binOp .and xt x y yt,ty,pos,af,gd⟩ σ ds h T:=ok_bin hx hy (by
 show (pure (Value.int .u8 (IntKind.u8.wrap ((BitVec.ofInt 8 a &&& BitVec.ofInt 8 1).toNat))):Sem Value)=_;obtain ⟨n,rfl⟩:=Int.eq_ofNat_of_zero_le h0
 have:(BitVec.ofInt 8 (n:Int) &&& BitVec.ofInt 8 1).toNat=n%2:=by
  rw [BitVec.toNat_and];have e1:(BitVec.ofInt 8 (n:Int)).toNat=n:=by
   rw [BitVec.toNat_ofInt];omega
  have e2:(BitVec.ofInt 8 1).toNat=1:=by decide
  rw [e1,e2,Nat.and_one_is_mod]
 rw [this,IntWalk.u8_in _ (by omega)];congr 2) k
theorem fdiv_byte {a:Int} (h:0≤a∧a≤255) (k:Nat):0≤a.fdiv (2 ^ k)∧a.fdiv (2 ^ k)≤255:=by
 have hp:(0:Int)<2 ^ k:=by
  have:=Nat.pow_pos (n:=k) (show 0<2 by decide)
  exact_mod_cast this
 rw [Int.fdiv_eq_ediv_of_nonneg _ (Int.le_of_lt hp)];refine ⟨Int.ediv_nonneg h.1 (Int.le_of_lt hp),Int.le_trans (Int.ediv_le_self _ h.1) h.2⟩
end
theorem pick_range {p:List Int} (hp:∀i,0≤p.getD i 0∧p.getD i 0≤65535) (k:Int) (i:Nat):0≤(if k<(p.length:Int) then p.getD i 0 else 0)∧(if k<(p.length:Int) then p.getD i 0 else 0)≤65535:=by
 split
 ·exact hp i
 ·decide
theorem realLies_t {ms:List Move} {m bits:Int} {k:Nat} (h:(ms.getD k Move.z).kind=0) (h2:bits.fdiv (2 ^ k)%2=1) (h3:((realLies ms m bits k).length:Int)<m):realLies ms m bits (k+1)=realLies ms m bits k++[(k:Int)]:=by
 conv=>lhs;unfold realLies
 rw [if_pos ⟨h,h2,h3⟩]
theorem realLies_f {ms:List Move} {m bits:Int} {k:Nat} (h:¬(((ms.getD k Move.z).kind=0∧bits.fdiv (2 ^ k)%2=1)∧((realLies ms m bits k).length:Int)<m)):realLies ms m bits (k+1)=realLies ms m bits k:=by
 conv=>lhs;unfold realLies
 rw [if_neg (fun q=>h ⟨⟨q.1,q.2.1⟩,q.2.2⟩)]
theorem realLies_len (ms:List Move) (m bits:Int):∀k,(realLies ms m bits k).length≤k
 | 0=>Nat.le_refl _
 | k+1=>by
  have:=realLies_len ms m bits k
  unfold realLies;split <;> simp <;> omega
section
variable {d m:Int} {gs:List Good} {ms:List Move} {cs:List Count} {f y l:List Int}
theorem fit_ok (h:fitB d m gs ms cs=true):BookOK d m gs ms cs∧∀k,(gs.getD k Good.z).name.size≤1000:=by
 unfold fitB at h;rw [Bool.and_eq_true] at h;exact ⟨bookOK (of_decide_eq_true h.2),great_names' h.1⟩
theorem playLeft_len (h:handedBell d m gs ms cs f y l=0):(playLeft d m gs ms cs f y l).length=gs.length:=by unfold playLeft;rw [if_pos h];simp
theorem playLow_len (h:handedBell d m gs ms cs f y l=0):(playLow d m gs ms cs f y l).length=gs.length:=by unfold playLow;rw [if_pos h];simp
theorem playLeft_at (h:handedBell d m gs ms cs f y l=0) {i:Nat} (hi:i<gs.length):(playLeft d m gs ms cs f y l).getD i 0=(stockOf ms (handedP d m gs ms cs f y l) (i:Int) d).1:=by
 unfold playLeft;rw [if_pos h,getD_at 0 (by simpa using hi)];simp
theorem playLow_at (h:handedBell d m gs ms cs f y l=0) {i:Nat} (hi:i<gs.length):(playLow d m gs ms cs f y l).getD i 0=(stockOf ms (handedP d m gs ms cs f y l) (i:Int) d).2:=by
 unfold playLow;rw [if_pos h,getD_at 0 (by simpa using hi)];simp
theorem consTo_skip {g:Int} {k:Nat} (h:¬(ms.getD k Move.z).good=g∨(k:Int) ∈ l):consTo ms f y l g (k+1)=consTo ms f y l g k:=by conv=>lhs;unfold consTo;rw [if_pos h]
theorem consTo_add {g:Int} {k:Nat} (h:¬(¬(ms.getD k Move.z).good=g∨(k:Int) ∈ l)) (h2:(ms.getD k Move.z).kind=0∨(ms.getD k Move.z).kind=4):consTo ms f y l g (k+1)=consTo ms f y l g k+y.getD k 0:=by conv=>lhs;unfold consTo;rw [if_neg h,if_pos h2]
theorem consTo_sub {g:Int} {k:Nat} (h:¬(¬(ms.getD k Move.z).good=g∨(k:Int) ∈ l)) (h2:¬((ms.getD k Move.z).kind=0∨(ms.getD k Move.z).kind=4)):consTo ms f y l g (k+1)=consTo ms f y l g k-y.getD k 0:=by conv=>lhs;unfold consTo;rw [if_neg h,if_neg h2]
theorem consTo_range {g:Int} (hf:∀k,0≤f.getD k 0∧f.getD k 0≤99) (hy:∀k,0≤y.getD k 0∧y.getD k 0≤99) (k:Nat): -99*((k:Int)+1)≤consTo ms f y l g k∧consTo ms f y l g k≤99*((k:Int)+1):=by
 induction k with
 | zero=>have:=hf g.toNat;show _≤f.getD g.toNat 0∧f.getD g.toNat 0≤_;omega
 | succ k ih=>
  have:=hy k
  unfold consTo;split
  ·omega
  ·split <;> omega
theorem conserved (b:BookOK d m gs ms cs) (hf:numsBell f gs.length=0) (hy:numsBell y ms.length=0) (hl:firstB (lieAt ms l) 0 l.length=0) (h0:∀x ∈ l,0≤x) {g:Int} (hg0:0≤g) (hg:g<gs.length) :
  (playLeft d m gs ms cs f y l).getD g.toNat 0=consTo ms f y l g ms.length∧(playLow d m gs ms cs f y l).getD g.toNat 0≤(playLeft d m gs ms cs f y l).getD g.toNat 0∧(playLow d m gs ms cs f y l).getD g.toNat 0≤f.getD g.toNat 0:=by
 obtain ⟨n,rfl⟩:=Int.eq_ofNat_of_zero_le hg0;have hn:n<gs.length:=by omega
 have hb:=handed_of b hf hy hl;have hlow:=cons_low b hf hy hl hn;rw [Int.toNat_natCast,playLeft_at hb hn,playLow_at hb hn];exact ⟨cons_left b hf hy hl h0 hn,hlow.1,hlow.2⟩
theorem kept_play (b:BookOK d m gs ms cs) (hf:numsBell f gs.length=0) (hy:numsBell y ms.length=0) (hl:firstB (lieAt ms l) 0 l.length=0) (h0:∀x ∈ l,0≤x) :
  playLeft d m gs (keptM ms l ms.length) [] f (keptY y l ms.length) []=playLeft d m gs ms cs f y l∧playLow d m gs (keptM ms l ms.length) [] f (keptY y l ms.length) []=playLow d m gs ms cs f y l:=by
 have hb:=handed_of b hf hy hl;have hb':=kept_ok (l:=l) b hf hy;unfold playLeft playLow;rw [if_pos hb,if_pos hb',if_pos hb,if_pos hb'];refine ⟨List.map_congr_left fun i hi=>?_,List.map_congr_left fun i hi=>?_⟩ <;> rw [kept_stock b hf hy hl h0 (List.mem_range.1 hi)]
end
end Go.Ns
namespace Go.Ns
open Go.Conc
def aloneC (cs:List Count) (l:List Int):List Count:=l.map fun i=>cs.getD i.toNat Count.z
theorem aloneC_len (cs:List Count) (l:List Int):(aloneC cs l).length=l.length:=by unfold aloneC;simp
theorem aloneC_next {cs:List Count} {l:List Int} {k:Nat} (hk:k<l.length):aloneC cs (l.take (k+1))=aloneC cs (l.take k)++[cs.getD (l.getD k 0).toNat Count.z]:=by
 unfold aloneC;rw [take_getD 0 hk,List.map_append];rfl
theorem aloneC_end {cs:List Count} {l:List Int} {k:Nat} (h:¬(k:Int)<l.length):aloneC cs (l.take k)=aloneC cs l:=by rw [List.take_of_length_le (by omega)]
theorem drop_all {l:List Int} {k:Nat} (hk:k<l.length):l.take k++l.drop (k+1)=l.eraseIdx k:=by rw [List.eraseIdx_eq_take_drop_succ]
theorem before_end {a b:List Int} {k:Nat} (hk:k≤a.length) (hkb:k≤b.length) (h:¬((k:Int)<a.length∧(k:Int)<b.length)):(cmpFrom a b (a.length-k) k<0)↔(a.length:Int)<b.length:=by
 by_cases hA:(k:Int)<a.length
 ·rw [cmpFrom_at (by omega),if_pos (by omega)];omega
 ·rw [cmpFrom_end (k:=k) hA];split <;> omega
theorem before_ne {a b:List Int} {k:Nat} (hk:k<a.length) (hkb:k<b.length) (h:¬a.getD k 0=b.getD k 0):(cmpFrom a b (a.length-k) k<0)↔a.getD k 0<b.getD k 0:=by
 rw [cmpFrom_at hk,if_neg (by omega)];unfold cmpI;split
 ·simp_all
 ·split <;> simp_all <;> omega
theorem before_eq {a b:List Int} {k:Nat} (hk:k<a.length) (hkb:k<b.length) (h:¬¬a.getD k 0=b.getD k 0):cmpFrom a b (a.length-k) k=cmpFrom a b (a.length-(k+1)) (k+1):=by
 have e:=Decidable.not_not.1 h;rw [cmpFrom_at hk,if_neg (by omega),if_neg (by unfold cmpI;rw [e];simp)]
section
variable {P:Program} {E:Env P} {σ:Nat→Value} {ds:List Deferred} {h:GH} {T:(Nat→Value)→List Deferred→GH→Prop} {dst:Option Nat} {ty:TypeId} {pos:String} {af:Array Edge} {gd:Option (Nat×Bool)}
theorem ok_slice0 {α:Type} {h0:GH} {t:TypeId} {x:Operand} {olo ohi:Option Operand} {n:Nat} {enc:α→Array Value} {xs:List α} {v:Value} (lo hi:Nat) (ht:eszOf P t=some n) (hs:SlIs h0 v n enc xs) (hx:evalS σ x=v)
  (hlo:match olo with | none=>lo=0 | some o=>∃kd,evalS σ o=.int kd lo) (hhi:match ohi with | none=>hi=xs.length | some o=>∃kd,evalS σ o=.int kd hi) (h1:lo≤hi) (h2:hi≤xs.length)
  (k:∀v',SlIs h0 v' n enc ((xs.take hi).drop lo)→T (putS σ dst v') ds h):OpK E ⟨dst,.slice t x olo ohi none,ty,pos,af,gd⟩ σ ds h T:=by
 have hs':=hs;obtain ⟨a,cap,rfl,hc,_,_⟩:=hs';exact ok_sliceE lo hi ht hc hx hlo hhi h1 h2 (k _ (hs.part h1 h2))
end
def SameRoom (h h':GH) (v:Value) (t:TypeId):Prop:=∀b c,back v=some b→h b=some (true,.cells c t (0,0))→∃c',h' b=some (true,.cells c' t (0,0))∧c'.size=c.size
theorem SameRoom.empty {h h':GH} {v v':Value} {t:TypeId} (g:Grown h h' v v') (f:SameRoom h h' v t) {r:Nat} (hr:h r=some (true,.cells #[] t (0,0))):h' r=some (true,.cells #[] t (0,0)):=by
 by_cases e:back v=some r
 ·obtain ⟨c',h1,h2⟩:=f r #[] e hr;have e0:c'=#[]:=Array.eq_empty_of_size_eq_zero (by simpa using h2);rw [h1,e0]
 ·exact g.1 r _ hr e
theorem SameRoom.le {h h':GH} {v v':Value} {t:TypeId} (g:Grown h h' v v') (f:SameRoom h h' v t) {r:Nat} (hv:back v=some r) (hr:h r=some (true,.cells #[] t (0,0))):h.Le h':=fun b p o hb=>by
 by_cases e:b=r
 ·subst e;rw [hr] at hb;cases hb;exact ⟨_,f.empty g hr,.inl rfl⟩
 ·exact ⟨o,g.1 b _ hb (fun q=>e (by rw [hv] at q;cases q;rfl)),.inl rfl⟩
theorem OwnSl.selfGrown {α:Type} {h0 h h':GH} {v v' u:Value} {t:TypeId} {n:Nat} {enc:α→Array Value} {xs ys:List α} (g:Grown h h' v v') (f:SameRoom h h' v t) (o:OwnSl h0 h' v' t n enc (xs++ys)) (y:OwnSl h0 h u t n enc xs):OwnSl h0 h' u t n enc xs:=by
 rcases y with y | ⟨b,cap,c,rfl,h1,h2,h3,h4,h5,h6,h7⟩
 ·exact .inl y
 by_cases e:back v=some b
 ·obtain ⟨c',k1,k2⟩:=f b c e h2;refine .inr ⟨b,cap,c',rfl,h1,k1,by rw [k2];exact h3,h4,h5,?_,h7⟩;rcases g.2 with q | ⟨_,q⟩
  ·rcases o with ⟨o,_⟩ | ⟨b2,cap2,c2,rfl,_,o2,_,_,_,o6,_⟩
   ·rw [o] at q;rw [e] at q;cases q
   ·have eb:b2=b:=Option.some.inj ((show some b2=back v from q).trans e);subst eb;rw [k1] at o2;cases o2;have hx:=flat_length h7
    have:=congrArg (List.take (xs.length*n)) o6
    rw [List.take_take,flat_append,List.length_append,Nat.add_mul,Nat.min_eq_left (Nat.le_add_right _ _),←hx,List.take_append_of_le_length (Nat.le_refl _),List.take_length] at this;rw [←hx];exact this
  ·rw [q b _ h2] at k1;cases k1;exact h6
 ·exact .inr ⟨b,cap,c,rfl,h1,g.1 b _ h2 e,h3,h4,h5,h6,h7⟩
theorem drAll2_law {P:Program} {E:Env P} {R R':GH→GH→Prop} {Pre:Nat→GH→Prop} {ops rest:List Oper} {n m k:Nat} {Φ:List Law2} {σ:Nat→Value} {ds:List Deferred} {h:GH} {Q:Post} {cls:List (List Nat)} (_:LawsOK2 R' Φ) (x:DrAll2 R Pre E ops n Φ σ ds h Q m k rest cls):DrAll2 R Pre E ops n Φ σ ds h Q m k rest cls:=x
end Go.Ns
namespace Go.Ns
open Go.Conc Go Go.RowKit
def keyL (l:List Int):Nat:=l.length*100000+(l.foldl (fun n x=>10*n+x.toNat) 0)
def chk1:Bool:=(List.range 5).all fun n=>(List.range (2 ^ n)).all fun (x:Nat)=>(List.range (2 ^ n)).all fun (y:Nat)=>fewerB (pickI (x:Int) n) (pickI (y:Int) n)==decide (keyL (pickI (x:Int) n)<keyL (pickI (y:Int) n))
def chk2:Bool:=(List.range 5).all fun n=>(List.range (2 ^ n)).all fun (x:Nat)=>(List.range (pickI (x:Int) n).length).all fun k=>(List.range (2 ^ n)).any fun (y:Nat)=>pickI (y:Int) n==(pickI (x:Int) n).eraseIdx k && fewerB (pickI (y:Int) n) (pickI (x:Int) n)
def chk3:Bool:=(List.range 5).all fun n=>(List.range 256).all fun (b:Nat)=>(List.range (2 ^ n)).any fun (y:Nat)=>pickI (y:Int) n==pickI (b:Int) n
def chk4:Bool:=(List.range 5).all fun n=>(List.range (2 ^ n)).all fun (x:Nat)=>(List.range (pickI (x:Int) n).length).all fun i=>decide (0≤(pickI (x:Int) n).getD i 0) && decide ((pickI (x:Int) n).getD i 0<(n:Int)) && (i==0 || decide ((pickI (x:Int) n).getD (i-1) 0<(pickI (x:Int) n).getD i 0))
theorem chk1_true:chk1=true:=by kernel_rfl
theorem chk2_true:chk2=true:=by kernel_rfl
theorem chk3_true:chk3=true:=by kernel_rfl
theorem chk4_true:chk4=true:=by kernel_rfl
theorem mask_cmp {n x y:Nat} (hn:n≤4) (hx:x<2 ^ n) (hy:y<2 ^ n):fewerB (pickI (x:Int) n) (pickI (y:Int) n)=decide (keyL (pickI (x:Int) n)<keyL (pickI (y:Int) n)):=by
 have h:=chk1_true;unfold chk1 at h;rw [List.all_eq_true] at h;have h2:=List.all_eq_true.1 (List.all_eq_true.1 (h n (List.mem_range.2 (by omega))) x (List.mem_range.2 hx)) y (List.mem_range.2 hy);exact eq_of_beq h2
theorem mask_erase {n x k:Nat} (hn:n≤4) (hx:x<2 ^ n) (hk:k<(pickI (x:Int) n).length):∃y:Nat,y<2 ^ n∧pickI (y:Int) n=(pickI (x:Int) n).eraseIdx k∧fewerB (pickI (y:Int) n) (pickI (x:Int) n)=true:=by
 have h:=chk2_true;unfold chk2 at h;rw [List.all_eq_true] at h;have h2:=List.all_eq_true.1 (List.all_eq_true.1 (h n (List.mem_range.2 (by omega))) x (List.mem_range.2 hx)) k (List.mem_range.2 hk);obtain ⟨y,hy,e⟩:=List.any_eq_true.1 h2;rw [Bool.and_eq_true] at e;exact ⟨y,List.mem_range.1 hy,eq_of_beq e.1,e.2⟩
theorem mask_bits {n:Nat} {b:Int} (hn:n≤4) (hb:0≤b∧b≤255):∃y:Nat,y<2 ^ n∧pickI (y:Int) n=pickI b n:=by
 obtain ⟨b,rfl⟩:=Int.eq_ofNat_of_zero_le hb.1;have h:=chk3_true;unfold chk3 at h;rw [List.all_eq_true] at h;have h2:=List.all_eq_true.1 (h n (List.mem_range.2 (by omega))) b (List.mem_range.2 (by omega));obtain ⟨y,hy,e⟩:=List.any_eq_true.1 h2;exact ⟨y,List.mem_range.1 hy,eq_of_beq e⟩
theorem mask_rng {n x i:Nat} (hn:n≤4) (hx:x<2 ^ n) (hi:i<(pickI (x:Int) n).length):0≤(pickI (x:Int) n).getD i 0∧(pickI (x:Int) n).getD i 0<(n:Int)∧(0<i→(pickI (x:Int) n).getD (i-1) 0<(pickI (x:Int) n).getD i 0):=by
 have h:=chk4_true;unfold chk4 at h;rw [List.all_eq_true] at h;have h2:=List.all_eq_true.1 (List.all_eq_true.1 (h n (List.mem_range.2 (by omega))) x (List.mem_range.2 hx)) i (List.mem_range.2 hi);simp only [Bool.and_eq_true,decide_eq_true_eq,Bool.or_eq_true,beq_iff_eq] at h2;exact ⟨h2.1.1,h2.1.2,fun q=>h2.2.resolve_left (by omega)⟩
theorem bestL_spec:∀(l:List (List Int)) (c:List Int),(∀x ∈ c ::l,∀y ∈ c ::l,fewerB x y=decide (keyL x<keyL y))→bestL c l ∈ c ::l∧∀x ∈ c ::l,keyL (bestL c l)≤keyL x
 | [],c,_=>⟨List.mem_cons_self ..,fun x hx=>by
  rcases List.mem_cons.1 hx with rfl | q
  ·exact Nat.le_refl _
  ·cases q⟩
 | a ::l,c,H=>by
  have e:bestL c (a ::l)=bestL (bestStep a c) l:=rfl;have hs:bestStep a c=a∨bestStep a c=c:=by unfold bestStep;split <;> simp
  have hm:∀x ∈ bestStep a c ::l,x ∈ c ::a ::l:=fun x hx=>by
   rcases List.mem_cons.1 hx with rfl | q
   ·rcases hs with q | q <;> rw [q] <;> simp
   ·simp [q]
  obtain ⟨h1,h2⟩:=bestL_spec l (bestStep a c) fun x hx y hy=>H x (hm x hx) y (hm y hy);have hk:keyL (bestStep a c)≤keyL a∧keyL (bestStep a c)≤keyL c:=by
   have:=H a (by simp) c (by simp)
   unfold bestStep;by_cases q:fewerB a c=true
   ·rw [if_pos q];rw [this] at q;have:=of_decide_eq_true q;omega
   ·rw [if_neg q];rw [this] at q;simp only [decide_eq_true_eq] at q;omega
  rw [e];refine ⟨hm _ h1,fun x hx=>?_⟩;have h0:=h2 _ (List.mem_cons_self ..);rcases List.mem_cons.1 hx with rfl | q
  ·omega
  ·rcases List.mem_cons.1 q with rfl | q
   ·omega
   ·exact h2 x (List.mem_cons_of_mem _ q)
theorem movesFrom_mono {ag ag':Past→Bool} (ha:∀p,ag p=true→ag' p=true) {ms:List Move} {mo:Int}:∀(f i:Nat) (p q:Past),q ∈ movesFrom ag ms mo f i p→q ∈ movesFrom ag' ms mo f i p
 | 0,i,p,q,h=>by
  unfold movesFrom at h ⊢;split at h
  ·rename_i e;rw [if_pos (ha p e)];exact h
  ·cases h
 | f+1,i,p,q,h=>by
  rw [movesFrom_succ,List.mem_flatMap] at h ⊢;obtain ⟨n,hn,h⟩:=h;refine ⟨n,hn,?_⟩;unfold moveRound at h ⊢;rw [List.mem_append] at h ⊢;rcases h with h | h
  ·exact .inl (movesFrom_mono ha f _ _ _ h)
  ·right;split at h
   ·rename_i e;rw [if_pos e];exact movesFrom_mono ha f _ _ _ h
   ·cases h
theorem goodsFrom_mono {ag ag':Past→Bool} (ha:∀p,ag p=true→ag' p=true) {gs:List Good} {ms:List Move} {mo:Int}:∀(f i:Nat) (p q:Past),q ∈ goodsFrom ag gs ms mo f i p→q ∈ goodsFrom ag' gs ms mo f i p
 | 0,i,p,q,h=>movesFrom_mono ha _ _ _ _ h
 | f+1,i,p,q,h=>by
  rw [goodsFrom_succ,List.mem_flatMap] at h ⊢;obtain ⟨n,hn,h⟩:=h;exact ⟨n,hn,goodsFrom_mono ha f _ _ _ h⟩
section
variable {d m:Int} {gs:List Good} {ms:List Move} {cs:List Count}
theorem someB_nil (h:someB d gs ms cs m=true):someB d gs ms [] m=true:=by
 have hne:hists d gs ms cs m≠[]:=fun e=>by rw [someB_f e] at h;cases h
 obtain ⟨q,hq⟩:=List.exists_mem_of_ne_nil _ hne;refine someB_t fun e=>?_
 have:q ∈ hists d gs ms [] m:=goodsFrom_mono (fun p hp=>by
  unfold agreesB at hp ⊢;rw [Bool.and_eq_true] at hp ⊢;exact ⟨hp.1,by simp⟩) _ _ _ _ hq
 rw [e] at this;cases this
theorem histN_pos (b:bookBell d m gs ms cs=0) (h:someB d gs ms cs m=true):0<histN d m gs ms cs:=by
 unfold histN;rw [if_pos b];have hne:hists d gs ms cs m≠[]:=fun e=>by rw [someB_f e] at h;cases h
 have:=List.length_pos_iff.2 hne
 omega
theorem histN_zero (h:someB d gs ms cs m=false):histN d m gs ms cs=0:=by
 have:hists d gs ms cs m=[]:=by
  cases hx:hists d gs ms cs m with
  | nil=>rfl
  | cons _ _=>rw [someB_t (by rw [hx];simp)] at h;cases h
 unfold histN;rw [this];split <;> rfl
theorem histN_some (b:bookBell d m gs ms cs=0) (h:¬0<histN d m gs ms cs):someB d gs ms cs m=false:=by
 cases hx:someB d gs ms cs m with
 | false=>rfl
 | true=>exact absurd (histN_pos b hx) h
theorem BookOK.alone (b:BookOK d m gs ms cs) {l:List Int} (h:∀i,i<l.length→0≤l.getD i 0∧l.getD i 0<cs.length) (hl:l.length≤4):BookOK d m gs ms (aloneC cs l):=
 { b with
  clen:=by rw [aloneC_len];exact hl
  count:=fun k hk=>by
   rw [aloneC_len] at hk;have e:(aloneC cs l).getD k Count.z=cs.getD (l.getD k 0).toNat Count.z:=by
    unfold aloneC;rw [getD_at Count.z (by simpa using hk),List.getElem_map,getD_at 0 hk]
   have:=b.count (l.getD k 0).toNat (by have:=h k hk;omega)
   unfold countAt at this ⊢;rw [e];exact this }
theorem aloneC_pick (mask:Int) (n:Nat):aloneC cs (pickI mask n)=pickC cs mask n:=by
 unfold aloneC pickI pickC;rw [List.map_map];exact List.map_congr_left fun i _=>rfl
theorem pickC_zero (n:Nat):pickC cs 0 n=[]:=by
 unfold pickC;rw [List.filter_eq_nil_iff.2 fun i _=>by unfold bitOn;simp];rfl
theorem clash_A (b:BookOK d m gs ms cs) (h:someB d gs ms cs m=true):clashBell d m gs ms cs=0∧clashL d m gs ms cs=[]∧0<histN d m gs ms cs∧0<histN d m gs ms []:=
 have b0:=bookBell_of b;have bn:BookOK d m gs ms []:=by have:=b.alone (l:=[]) (by simp) (by simp);exact this
 ⟨clashBell_some b0 h,clashL_some h,histN_pos b0 h,histN_pos (bookBell_of bn) (someB_nil h)⟩
theorem clash_B (b:BookOK d m gs ms cs) (h:someB d gs ms cs m=false) (h2:someB d gs ms [] m=false):clashBell d m gs ms cs=8∧clashL d m gs ms cs=[]∧histN d m gs ms cs=0∧histN d m gs ms []=0:=
 have h2':someB d gs ms (pickC cs 0 cs.length) m=false:=by rw [pickC_zero];exact h2
 ⟨clashBell_short (bookBell_of b) h h2',clashL_short h2',histN_zero h,histN_zero h2⟩
theorem mem_clashAll {x:List Int}:x ∈ clashAll d m gs ms cs↔∃mask:Nat,mask<2 ^ cs.length∧x=pickI (mask:Int) cs.length∧someB d gs ms (pickC cs (mask:Int) cs.length) m=false:=by
 unfold clashAll clashFrom;rw [List.mem_filterMap];constructor
 ·rintro ⟨k,hk,e⟩;rw [List.mem_range'_1] at hk;unfold clashOne at e;by_cases q:someB d gs ms (pickC cs (k:Int) cs.length) m=true
  ·rw [if_pos q] at e;cases e
  ·rw [if_neg q] at e;exact ⟨k,by omega,(Option.some.inj e).symm,by simpa using q⟩
 ·rintro ⟨k,hk,rfl,q⟩;exact ⟨k,List.mem_range'_1.2 ⟨Nat.zero_le _,by omega⟩,by unfold clashOne;rw [if_neg (by rw [q];simp)]⟩
theorem clash_C (b:BookOK d m gs ms cs) (h:someB d gs ms cs m=false) (h2:someB d gs ms [] m=true) {bits:Int} (hb:0≤bits∧bits≤255) :
  clashBell d m gs ms cs=0∧histN d m gs ms cs=0∧0<histN d m gs ms []∧(clashL d m gs ms cs).length≤4∧(∀i,i<(clashL d m gs ms cs).length→0≤(clashL d m gs ms cs).getD i 0∧(clashL d m gs ms cs).getD i 0<cs.length)∧
  (∀i,i<(clashL d m gs ms cs).length→(0≤(clashL d m gs ms cs).getD i 0∧(clashL d m gs ms cs).getD i 0≤(cs.length:Int)-1)∧(0<i→(clashL d m gs ms cs).getD ((i:Int)-1).toNat 0<(clashL d m gs ms cs).getD i 0))∧
  histN d m gs ms (aloneC cs (clashL d m gs ms cs))=0∧(∀k,k<(clashL d m gs ms cs).length→((clashL d m gs ms cs).eraseIdx k).length≤4∧(∀i,i<((clashL d m gs ms cs).eraseIdx k).length→0≤((clashL d m gs ms cs).eraseIdx k).getD i 0∧((clashL d m gs ms cs).eraseIdx k).getD i 0<cs.length)∧
   0<histN d m gs ms (aloneC cs ((clashL d m gs ms cs).eraseIdx k)))∧
  ((pickI bits cs.length).length≤4∧(∀i,i<(pickI bits cs.length).length→0≤(pickI bits cs.length).getD i 0∧(pickI bits cs.length).getD i 0<cs.length)∧(¬0<histN d m gs ms (aloneC cs (pickI bits cs.length))→fewerB (pickI bits cs.length) (clashL d m gs ms cs)=false)):=by
 have hcl:=b.clen;have b0:=bookBell_of b;have bn:BookOK d m gs ms []:=by have:=b.alone (l:=[]) (by simp) (by simp);exact this
 have h2':someB d gs ms (pickC cs 0 cs.length) m=true:=by rw [pickC_zero];exact h2
 have hne:=clashAll_ne (d:=d) (gs:=gs) (ms:=ms) hcl h;have hL:clashL d m gs ms cs=bestL ((clashAll d m gs ms cs).getD 0 []) ((clashAll d m gs ms cs).drop 1):=by unfold clashL;rw [if_pos ⟨b0,h,h2'⟩]
 have hcons:(clashAll d m gs ms cs).getD 0 [] ::(clashAll d m gs ms cs).drop 1=clashAll d m gs ms cs:=by
  cases hx:clashAll d m gs ms cs with
  | nil=>exact absurd hx hne
  | cons _ _=>rfl
 obtain ⟨hin,hmin⟩:=bestL_spec ((clashAll d m gs ms cs).drop 1) ((clashAll d m gs ms cs).getD 0 []) (fun x hx y hy=>by
  rw [hcons] at hx hy;obtain ⟨p,hp,rfl,_⟩:=mem_clashAll.1 hx;obtain ⟨q,hq,rfl,_⟩:=mem_clashAll.1 hy;exact mask_cmp hcl hp hq)
 rw [hcons,←hL] at hin hmin;obtain ⟨mk,hmk,eL,hno⟩:=mem_clashAll.1 hin;have hlen:∀y:Nat,(pickI (y:Int) cs.length).length≤4:=fun y=>Nat.le_trans (pickI_len _ _) hcl;have hrng:∀y:Nat,y<2 ^ cs.length→∀i,i<(pickI (y:Int) cs.length).length→0≤(pickI (y:Int) cs.length).getD i 0∧(pickI (y:Int) cs.length).getD i 0<cs.length:=fun y hy i hi=>⟨(mask_rng hcl hy hi).1,(mask_rng hcl hy hi).2.1⟩;have hleast:∀y:Nat,y<2 ^ cs.length→someB d gs ms (pickC cs (y:Int) cs.length) m=false→fewerB (pickI (y:Int) cs.length) (clashL d m gs ms cs)=false:=fun y hy hs=>by
  have:=hmin _ (mem_clashAll.2 ⟨y,hy,rfl,hs⟩)
  rw [eL] at this ⊢;rw [mask_cmp hcl hy hmk];exact decide_eq_false (by omega)
 refine ⟨clashBell_ok b0 h h2',histN_zero h,histN_pos (bookBell_of bn) h2,by rw [eL];exact hlen mk,by rw [eL];exact hrng mk hmk,fun i hi=>?_,?_,fun k hk=>?_,?_⟩
 ·rw [eL] at hi ⊢;obtain ⟨k1,k2,k3⟩:=mask_rng hcl hmk hi;refine ⟨⟨k1,by omega⟩,fun q=>?_⟩;rw [show ((i:Int)-1).toNat=i-1 by omega];exact k3 q
 ·rw [eL,aloneC_pick];exact histN_zero hno
 ·rw [eL] at hk ⊢;obtain ⟨y,hy,ey,hf⟩:=mask_erase hcl hmk hk;rw [←ey];refine ⟨hlen y,hrng y hy,?_⟩;rw [aloneC_pick];cases hx:someB d gs ms (pickC cs (y:Int) cs.length) m with
  | true=>exact histN_pos (bookBell_of (b.pick _)) hx
  | false=>
   have:=hleast y hy hx
   rw [eL,hf] at this;cases this
 ·obtain ⟨y,hy,ey⟩:=mask_bits hcl hb;rw [←ey];refine ⟨hlen y,hrng y hy,fun q=>?_⟩;rw [aloneC_pick] at q;exact hleast y hy (histN_some (bookBell_of (b.pick _)) q)
end
section
variable {P:Program} {E:Env P} {σ:Nat→Value} {ds:List Deferred} {h:GH} {T:(Nat→Value)→List Deferred→GH→Prop} {dst:Option Nat} {ty:TypeId} {pos:String} {af:Array Edge} {gd:Option (Nat×Bool)}
theorem ok_neqB {xt yt:TypeId} {x y:Operand} {a b:Bool} (hx:evalS σ x=.bool a) (hy:evalS σ y=.bool b) (he:eqP P 1 xt (.bool a) (.bool b)=some (a==b)) (k:T (putS σ dst (.bool (a !=b))) ds h):OpK E ⟨dst,.binOp .neq xt x y yt,ty,pos,af,gd⟩ σ ds h T:=by
 unfold OpK execOp;simp only [hx,hy];refine gh_v (gh_bind _ _ ?_);have hg:∀(Q:Unit→GH→Prop),Q () h→(eqGuard .neq xt x y (.bool a) (.bool b)).gh P h Q:=fun Q q=>q;refine hg _ ?_;show Sem.gh P (do pure (Value.bool (!(←Op.equal xt (.bool a) (.bool b)))):Sem Value) h _;refine gh_bind _ _ ?_;exact gh_equalIn 1 _ _ _ _ (a==b) h _ (by decide) he k
end
end Go.Ns
namespace Go.Ns
open Go.Conc Go Go.RowKit
theorem lyingTo_congr {p q:Past}:∀{n:Nat},(∀k,k<n→p.lies k=q.lies k)→lyingTo p n=lyingTo q n
 | 0,_=>rfl
 | n+1,h=>by unfold lyingTo;rw [lyingTo_congr fun k hk=>h k (by omega),h n (by omega)]
theorem lyingTo_mono (p:Past):∀{i n:Nat},i≤n→lyingTo p i≤lyingTo p n
 | i,0,h=>by rw [show i=0 by omega];exact Nat.le_refl _
 | i,n+1,h=>by
  by_cases e:i=n+1
  ·rw [e];exact Nat.le_refl _
  ·have:=lyingTo_mono p (i:=i) (n:=n) (by omega)
   have h2:lyingTo p (n+1)=lyingTo p n+if p.lies n then 1 else 0:=rfl
   omega
theorem lyingTo_cut {p:Past}:∀{i n:Nat},(∀k,i≤k→k<n→p.lies k=false)→i≤n→lyingTo p n=lyingTo p i
 | i,0,_,h=>by rw [show i=0 by omega]
 | i,n+1,h0,h=>by
  by_cases e:i=n+1
  ·rw [e]
  ·have h2:lyingTo p (n+1)=lyingTo p n+if p.lies n then 1 else 0:=rfl
   rw [h2,h0 n (by omega) (by omega),lyingTo_cut (fun k hk hk'=>h0 k hk (by omega)) (by omega)];rfl
theorem lyingTo_set {p:Past} {i:Nat} {n:Int} (h:p.lies i=false):∀k,lyingTo (p.setMove i n true) k=lyingTo p k+if i<k then 1 else 0
 | 0=>rfl
 | k+1=>by
  have h1:lyingTo (p.setMove i n true) (k+1)=lyingTo (p.setMove i n true) k+if (p.setMove i n true).lies k then 1 else 0:=rfl
  have h2:lyingTo p (k+1)=lyingTo p k+if p.lies k then 1 else 0:=rfl
  have h3:(p.setMove i n true).lies k=if k=i then true else p.lies k:=rfl
  rw [h1,h2,h3,lyingTo_set h k];by_cases e:k=i
  ·subst e;have e3:¬k<k:=by omega
   have e4:k<k+1:=by omega
   simp [h,e3,e4]
  ·rw [if_neg e];by_cases e2:i<k
   ·have e4:i<k+1:=by omega
    simp only [e2,e4,if_true];omega
   ·have e4:¬i<k+1:=by omega
    simp only [e2,e4,if_false];omega
theorem lyingTo_filter (p:Past):∀n,((List.range n).filter p.lies).length=lyingTo p n
 | 0=>rfl
 | n+1=>by
  rw [List.range_succ,List.filter_append,List.length_append,lyingTo_filter p n];have h2:lyingTo p (n+1)=lyingTo p n+if p.lies n then 1 else 0:=rfl
  rw [h2];by_cases e:p.lies n=true
  ·simp [e]
  ·simp [e]
structure Legal (gs:List Good) (ms:List Move) (mo:Int) (p:Past):Prop where
 first:∀i,i<gs.length→(gs.getD i Good.z).low≤p.first i∧p.first i≤(gs.getD i Good.z).high
 many:∀i,i<ms.length→(ms.getD i Move.z).low≤p.many i∧p.many i≤(ms.getD i Move.z).high
 note:∀i,i<ms.length→p.lies i=true→isNoteB ms i=true
 few:(lyingTo p ms.length:Int)≤mo
theorem movesFrom_out {ag:Past→Bool} {ms:List Move} {mo:Int} (h6:ms.length≤6):∀(f i:Nat) (p q:Past),i+f=ms.length→(∀k,i≤k→p.lies k=false)→(lyingTo p 6:Int)≤mo→q ∈ movesFrom ag ms mo f i p→
  ag q=true∧q.first=p.first∧(∀k,k<i→q.many k=p.many k∧q.lies k=p.lies k)∧(∀k,i≤k→k<ms.length→(ms.getD k Move.z).low≤q.many k∧q.many k≤(ms.getD k Move.z).high∧(q.lies k=true→isNoteB ms k=true))∧(lyingTo q 6:Int)≤mo
 | 0,i,p,q,e,_,hl,h=>by
  unfold movesFrom at h;split at h
  ·rename_i ha
   rw [List.mem_singleton] at h;subst h;exact ⟨ha,rfl,fun _ _=>⟨rfl,rfl⟩,fun k h1 h2=>by omega,hl⟩
  ·cases h
 | f+1,i,p,q,e,hz,hl,h=>by
  rw [movesFrom_succ,List.mem_flatMap] at h;obtain ⟨n,hn,h⟩:=h;rw [mem_spanL] at hn;have hlf:∀k,i+1≤k→(p.setMove i n false).lies k=false:=fun k hk=>by
   show (if k=i then false else p.lies k)=false;split
   ·rfl
   ·exact hz k (by omega)
  have hcf:lyingTo (p.setMove i n false) 6=lyingTo p 6:=lyingTo_congr fun k _=>by
   show (if k=i then false else p.lies k)=p.lies k;split
   ·rename_i e2;rw [e2,hz i (Nat.le_refl _)]
   ·rfl
  unfold moveRound at h;rw [List.mem_append] at h;rcases h with h | h
  ·obtain ⟨a1,a2,a3,a4,a5⟩:=movesFrom_out h6 f (i+1) _ q (by omega) hlf (by rw [hcf];exact hl) h;refine ⟨a1,a2,fun k hk=>?_,fun k h1 h2=>?_,a5⟩
   ·have:=a3 k (by omega)
    rw [this.1,this.2];exact ⟨show (if k=i then n else p.many k)=_ from if_neg (by omega),show (if k=i then false else p.lies k)=_ from if_neg (by omega)⟩
   ·by_cases e2:k=i
    ·subst e2
     have:=a3 k (by omega)
     have g1:(p.setMove k n false).many k=n:=if_pos rfl;have g2:(p.setMove k n false).lies k=false:=if_pos rfl;rw [this.1,this.2,g1,g2];exact ⟨hn.1,hn.2,fun q=>by cases q⟩
    ·exact a4 k (by omega) h2
  ·split at h
   ·rename_i hc
    rw [Bool.and_eq_true] at hc;have hlt:=of_decide_eq_true hc.2;have hct:lyingTo (p.setMove i n true) 6=lyingTo p 6+1:=by rw [lyingTo_set (hz i (Nat.le_refl _)),if_pos (by omega)]
    have hlt2:∀k,i+1≤k→(p.setMove i n true).lies k=false:=fun k hk=>by
     show (if k=i then true else p.lies k)=false;rw [if_neg (by omega)];exact hz k (by omega)
    obtain ⟨a1,a2,a3,a4,a5⟩:=movesFrom_out h6 f (i+1) _ q (by omega) hlt2 (by rw [hct];omega) h;refine ⟨a1,a2,fun k hk=>?_,fun k h1 h2=>?_,a5⟩
    ·have:=a3 k (by omega)
     rw [this.1,this.2];exact ⟨show (if k=i then n else p.many k)=_ from if_neg (by omega),show (if k=i then true else p.lies k)=_ from if_neg (by omega)⟩
    ·by_cases e2:k=i
     ·subst e2
      have:=a3 k (by omega)
      have g1:(p.setMove k n true).many k=n:=if_pos rfl;rw [this.1,g1];exact ⟨hn.1,hn.2,fun _=>hc.1⟩
     ·exact a4 k (by omega) h2
   ·cases h
theorem goodsFrom_out {ag:Past→Bool} {gs:List Good} {ms:List Move} {mo:Int} (h6:ms.length≤6) (h0:0≤mo):∀(f i:Nat) (p q:Past),i+f=gs.length→(∀k,p.lies k=false)→q ∈ goodsFrom ag gs ms mo f i p→
  ag q=true∧(∀k,k<i→q.first k=p.first k)∧(∀k,i≤k→k<gs.length→(gs.getD k Good.z).low≤q.first k∧q.first k≤(gs.getD k Good.z).high)∧(∀k,k<ms.length→(ms.getD k Move.z).low≤q.many k∧q.many k≤(ms.getD k Move.z).high∧(q.lies k=true→isNoteB ms k=true))∧(lyingTo q 6:Int)≤mo
 | 0,i,p,q,e,hz,h=>by
  have hl:(lyingTo p 6:Int)≤mo:=by
   rw [lyingTo_cut (i:=0) (fun k _ _=>hz k) (Nat.zero_le _)];exact h0
  obtain ⟨a1,a2,_,a4,a5⟩:=movesFrom_out h6 ms.length 0 p q (by omega) (fun k _=>hz k) hl h;exact ⟨a1,fun k _=>by rw [a2],fun k h1 h2=>by omega,fun k hk=>a4 k (Nat.zero_le _) hk,a5⟩
 | f+1,i,p,q,e,hz,h=>by
  rw [goodsFrom_succ,List.mem_flatMap] at h;obtain ⟨n,hn,h⟩:=h;rw [mem_spanL] at hn;obtain ⟨a1,a2,a3,a4,a5⟩:=goodsFrom_out h6 h0 f (i+1) (p.setFirst i n) q (by omega) hz h;refine ⟨a1,fun k hk=>?_,fun k h1 h2=>?_,a4,a5⟩
  ·rw [a2 k (by omega)];exact if_neg (by omega)
  ·by_cases e2:k=i
   ·subst e2;rw [a2 k (by omega)];have g1:(p.setFirst k n).first k=n:=if_pos rfl;rw [g1];exact hn
   ·exact a3 k (by omega) h2
theorem hists_out {d:Int} {gs:List Good} {ms:List Move} {cs:List Count} {mo:Int} (h6:ms.length≤6) (h0:0≤mo) {q:Past} (h:q ∈ hists d gs ms cs mo):Legal gs ms mo q∧agreesB d gs.length ms cs q=true:=by
 obtain ⟨a1,_,a3,a4,a5⟩:=goodsFrom_out h6 h0 gs.length 0 Past.zero q (by omega) (fun _=>rfl) h;refine ⟨⟨fun i hi=>a3 i (Nat.zero_le _) hi,fun i hi=>⟨(a4 i hi).1,(a4 i hi).2.1⟩,fun i hi=>(a4 i hi).2.2,?_⟩,a1⟩
 have:=lyingTo_mono q h6
 omega
def preP (p:Past) (i j:Nat):Past:=⟨fun k=>if k<i then p.first k else 0,fun k=>if k<j then p.many k else 0,fun k=>if k<j then p.lies k else false⟩
theorem preP_move (p:Past) (i j:Nat):(preP p i j).setMove j (p.many j) (p.lies j)=preP p i (j+1):=by
 unfold preP Past.setMove Past.setMany Past.setLie;congr 1
 ·funext k;show (if k=j then p.many j else if k<j then p.many k else 0)=if k<j+1 then p.many k else 0
  by_cases e:k=j
  ·rw [if_pos e,e,if_pos (by omega)]
  ·rw [if_neg e];by_cases e2:k<j
   ·rw [if_pos e2,if_pos (by omega)]
   ·rw [if_neg e2,if_neg (by omega)]
 ·funext k;show (if k=j then p.lies j else if k<j then p.lies k else false)=if k<j+1 then p.lies k else false
  by_cases e:k=j
  ·rw [if_pos e,e,if_pos (by omega)]
  ·rw [if_neg e];by_cases e2:k<j
   ·rw [if_pos e2,if_pos (by omega)]
   ·rw [if_neg e2,if_neg (by omega)]
theorem preP_first (p:Past) (i:Nat):(preP p i 0).setFirst i (p.first i)=preP p (i+1) 0:=by
 unfold preP Past.setFirst;congr 1;funext k;show (if k=i then p.first i else if k<i then p.first k else 0)=if k<i+1 then p.first k else 0
 by_cases e:k=i
 ·rw [if_pos e,e,if_pos (by omega)]
 ·rw [if_neg e];by_cases e2:k<i
  ·rw [if_pos e2,if_pos (by omega)]
  ·rw [if_neg e2,if_neg (by omega)]
theorem movesFrom_in {ag:Past→Bool} {gs:List Good} {ms:List Move} {mo:Int} (h6:ms.length≤6) {p:Past} (L:Legal gs ms mo p) (ha:ag (preP p gs.length ms.length)=true):∀(f i:Nat),i+f=ms.length→preP p gs.length ms.length ∈ movesFrom ag ms mo f i (preP p gs.length i)
 | 0,i,e=>by
  rw [show i=ms.length by omega];unfold movesFrom;rw [if_pos ha];exact List.mem_singleton.2 rfl
 | f+1,i,e=>by
  rw [movesFrom_succ,List.mem_flatMap];refine ⟨p.many i,mem_spanL.2 (L.many i (by omega)),?_⟩;have ih:=movesFrom_in h6 L ha f (i+1) (by omega);unfold moveRound;rw [List.mem_append];cases hli:p.lies i with
  | false=>
   left
   have:=preP_move p gs.length i
   rw [hli] at this;rw [this];exact ih
  | true=>
   right;have hlie:lyingTo ((preP p gs.length i).setMove i (p.many i) false) 6=lyingTo p i:=by
    rw [lyingTo_cut (i:=i) (fun k h1 h2=>?_) (by omega)]
    ·refine lyingTo_congr fun k hk=>?_;show (if k=i then false else if k<i then p.lies k else false)=_;rw [if_neg (by omega),if_pos hk]
    ·show (if k=i then false else if k<i then p.lies k else false)=_;split
     ·rfl
     ·rw [if_neg (by omega)]
   have h1:lyingTo p (i+1)=lyingTo p i+1:=by
    show lyingTo p i+(if p.lies i then 1 else 0)=_;rw [hli];rfl
   have h2:=lyingTo_mono p (i:=i+1) (n:=ms.length) (by omega);have h3:=L.few;rw [if_pos (by rw [Bool.and_eq_true];exact ⟨L.note i (by omega) hli,decide_eq_true (by rw [hlie];omega)⟩)]
   have:=preP_move p gs.length i
   rw [hli] at this;rw [this];exact ih
theorem goodsFrom_in {ag:Past→Bool} {gs:List Good} {ms:List Move} {mo:Int} (h6:ms.length≤6) {p:Past} (L:Legal gs ms mo p) (ha:ag (preP p gs.length ms.length)=true):∀(f i:Nat),i+f=gs.length→preP p gs.length ms.length ∈ goodsFrom ag gs ms mo f i (preP p i 0)
 | 0,i,e=>by
  rw [show i=gs.length by omega];exact movesFrom_in h6 L ha ms.length 0 (by omega)
 | f+1,i,e=>by
  rw [goodsFrom_succ,List.mem_flatMap];refine ⟨p.first i,mem_spanL.2 (L.first i (by omega)),?_⟩;rw [preP_first];exact goodsFrom_in h6 L ha f (i+1) (by omega)
theorem stockRun_like {ms ms':List Move} {p p':Past} {g dy:Int} (hlen:ms.length=ms'.length) (hm:∀k,(ms.getD k Move.z).day=(ms'.getD k Move.z).day∧(ms.getD k Move.z).good=(ms'.getD k Move.z).good∧(ms.getD k Move.z).kind=(ms'.getD k Move.z).kind)
  (hr:∀k,k<ms.length→realOf p k=realOf p' k):∀(f k:Nat) (n low:Int),k+f=ms.length→stockRun ms p g dy f k n low=stockRun ms' p' g dy f k n low
 | 0,_,_,_,_=>rfl
 | f+1,k,n,low,e=>by
  unfold stockRun;rw [(hm k).1];have h1:nNext ms p g k n=nNext ms' p' g k n:=by unfold nNext;rw [(hm k).2.1,(hm k).2.2,hr k (by omega)]
  have h2:∀n,lowNext ms k low n=lowNext ms' k low n:=fun n=>by unfold lowNext;rw [(hm k).1,(hm (k+1)).1,hlen]
  rw [h1,h2,stockRun_like hlen hm hr f (k+1) _ _ (by omega)]
theorem stockOf_like {ms ms':List Move} {p p':Past} {g dy:Int} (hlen:ms.length=ms'.length) (hm:∀k,(ms.getD k Move.z).day=(ms'.getD k Move.z).day∧(ms.getD k Move.z).good=(ms'.getD k Move.z).good∧(ms.getD k Move.z).kind=(ms'.getD k Move.z).kind)
  (hr:∀k,k<ms.length→realOf p k=realOf p' k) (hf:p.first g.toNat=p'.first g.toNat):stockOf ms p g dy=stockOf ms' p' g dy:=by
 unfold stockOf;rw [hf,←hlen];exact stockRun_like hlen hm hr _ _ _ _ (by omega)
theorem agreesB_of {d:Int} {ng:Nat} {ms ms':List Move} {cs:List Count} {p p':Past} (h:agreesB d ng ms cs p=true) (h1:∀j,j<ng→(stockOf ms' p' (j:Int) d).2=(stockOf ms p (j:Int) d).2) (h2:∀x ∈ cs,(stockOf ms' p' x.good x.day).1=(stockOf ms p x.good x.day).1):agreesB d ng ms' cs p'=true:=by
 unfold agreesB at h ⊢;rw [Bool.and_eq_true] at h ⊢;refine ⟨decide_eq_true fun j hj=>by rw [h1 j hj];exact of_decide_eq_true h.1 j hj,?_⟩;have h3:=h.2;rw [Bool.not_eq_true',List.any_eq_false] at h3 ⊢;intro x hx
 have:=h3 x hx
 rw [h2 x hx];exact this
theorem preP_real (p:Past) {i j k:Nat} (h:k<j):realOf (preP p i j) k=realOf p k:=by
 unfold realOf preP;simp only [];rw [if_pos h,if_pos h]
theorem hists_in {d m:Int} {gs:List Good} {ms:List Move} {cs:List Count} {mo:Int} (b:BookOK d m gs ms cs) {p:Past} (L:Legal gs ms mo p) (ha:agreesB d gs.length ms cs p=true):hists d gs ms cs mo≠[]:=fun e=>by
 have h2:agreesB d gs.length ms cs (preP p gs.length ms.length)=true:=agreesB_of ha
  (fun j hj=>by rw [stockOf_like rfl (fun _=>⟨rfl,rfl,rfl⟩) (fun k hk=>preP_real p hk) (show (if (j:Int).toNat<gs.length then _ else _)=_ from if_pos (by omega))])
  (fun x hx=>by
   obtain ⟨i,hi,e2⟩:=List.getElem_of_mem hx;have hc:=b.count i hi;unfold countAt at hc;rw [getD_at Count.z hi,e2] at hc;have hg:0≤x.good∧x.good≤(gs.length:Int)-1:=by
    apply Decidable.byContradiction;intro q;rw [if_pos q] at hc;cases hc
   rw [stockOf_like rfl (fun _=>⟨rfl,rfl,rfl⟩) (fun k hk=>preP_real p hk) (show (if x.good.toNat<gs.length then _ else _)=_ from if_pos (by omega))])
 have:=goodsFrom_in (ag:=agreesB d gs.length ms cs) b.mlen L h2 gs.length 0 (by omega)
 have e3:preP p 0 0=Past.zero:=by unfold preP Past.zero;congr 1 <;> (funext k;exact if_neg (by omega))
 rw [e3] at this;have e4:goodsFrom (agreesB d gs.length ms cs) gs ms mo gs.length 0 Past.zero=[]:=e;rw [e4] at this;cases this
end Go.Ns
namespace Go.Ns
open Go.Conc Go Go.RowKit
def bls:Nat→List (List Bool)
 | 0=>[[]]
 | n+1=>(bls n).flatMap fun l=>[l++[false],l++[true]]
def chk5:Bool:=(List.range 7).all fun n=>(bls n).all fun l=>(List.range (2 ^ n)).any fun (mask:Nat)=>(List.range n).map (bitOn (mask:Int))==l
theorem chk5_true:chk5=true:=by kernel_rfl
theorem map_bls (f:Nat→Bool):∀n,(List.range n).map f ∈ bls n
 | 0=>List.mem_singleton.2 rfl
 | n+1=>by
  rw [List.range_succ,List.map_append];refine List.mem_flatMap.2 ⟨_,map_bls f n,?_⟩;cases h:f n <;> simp [h]
theorem mask_of {n:Nat} (hn:n≤6) (f:Nat→Bool):∃mask:Nat,mask<2 ^ n∧∀i,i<n→bitOn (mask:Int) i=f i:=by
 have h:=chk5_true;unfold chk5 at h;rw [List.all_eq_true] at h;have h2:=List.all_eq_true.1 (h n (List.mem_range.2 (by omega))) _ (map_bls f n);obtain ⟨y,hy,e⟩:=List.any_eq_true.1 h2;refine ⟨y,List.mem_range.1 hy,fun i hi=>?_⟩;have e2:=eq_of_beq e
 have:=congrArg (fun l:List Bool=>l.getD i false) e2
 simpa [List.getD_eq_getElem?_getD,List.getElem?_range hi] using this
theorem mem_pickI {mask:Int} {n k:Nat}:(k:Int) ∈ pickI mask n↔k<n∧bitOn mask k=true:=by
 unfold pickI;rw [List.mem_map];constructor
 ·rintro ⟨i,hi,e⟩
  have:i=k:=by omega
  subst this
  have:=List.mem_filter.1 hi
  exact ⟨List.mem_range.1 this.1,this.2⟩
 ·rintro ⟨h1,h2⟩;exact ⟨k,List.mem_filter.2 ⟨List.mem_range.2 h1,h2⟩,rfl⟩
theorem pickI_nat {mask:Int} {n:Nat} {x:Int} (h:x ∈ pickI mask n):∃k:Nat,x=(k:Int)∧k<n∧bitOn mask k=true:=by
 unfold pickI at h;obtain ⟨i,hi,rfl⟩:=List.mem_map.1 h
 have:=List.mem_filter.1 hi
 exact ⟨i,rfl,List.mem_range.1 this.1,this.2⟩
theorem pickI_size (mask:Int) (n:Nat):(pickI mask n).length=((List.range n).filter (bitOn mask)).length:=by unfold pickI;rw [List.length_map]
theorem pickI_up {mask:Int} {n:Nat}:(pickI mask n).Pairwise (· < ·):=by
 unfold pickI;rw [List.pairwise_map]
 have:(List.range n).Pairwise (fun a b:Nat=>(a:Int)<(b:Int)):=(List.pairwise_lt_range (n:=n)).imp fun {a b} h=>by omega
 exact this.sublist List.filter_sublist
theorem up_getD {l:List Int} (h:l.Pairwise (· < ·)) {i:Nat} (h0:0<i) (hi:i<l.length):l.getD ((i:Int)-1).toNat 0<l.getD i 0:=by
 rw [show ((i:Int)-1).toNat=i-1 by omega,getD_at 0 (show i-1<l.length by omega),getD_at 0 hi];rw [List.pairwise_iff_getElem] at h;exact h (i-1) i (by omega) hi (by omega)
theorem clearM_getD:∀(l:List Int) (ms:List Move) (k:Nat),(∀x ∈ l,0≤x)→k<ms.length→(clearM ms l).getD k Move.z=if (k:Int) ∈ l then { ms.getD k Move.z with low:=0,high:=0 } else ms.getD k Move.z
 | [],ms,k,_,_=>by simp [clearM]
 | i ::l,ms,k,h,hk=>by
  have h1:clearM ms (i ::l)=clearM (clearAt ms i.toNat) l:=rfl;have hi:=h i (by simp);rw [h1,clearM_getD l (clearAt ms i.toNat) k (fun x hx=>h x (by simp [hx])) (by rw [clearAt_length];exact hk)];have e:(clearAt ms i.toNat).getD k Move.z=if i.toNat=k then { ms.getD k Move.z with low:=0,high:=0 } else ms.getD k Move.z:=by
   unfold clearAt;rw [List.getD_eq_getElem?_getD,List.getElem?_set];by_cases q:i.toNat=k
   ·rw [if_pos q,if_pos q,q,if_pos hk];rfl
   ·rw [if_neg q,if_neg q,List.getD_eq_getElem?_getD]
  rw [e];by_cases q:i.toNat=k
  ·have hm:(k:Int) ∈ i ::l:=by rw [←q,Int.toNat_of_nonneg hi];simp
   rw [if_pos q,if_pos hm];split <;> rfl
  ·have hm:((k:Int) ∈ i ::l)↔(k:Int) ∈ l:=by
    rw [List.mem_cons];constructor
    ·rintro (r | r)
     ·omega
     ·exact r
    ·exact .inr
   rw [if_neg q];by_cases r:(k:Int) ∈ l
   ·rw [if_pos r,if_pos (hm.2 r)]
   ·rw [if_neg r,if_neg (fun s=>r (hm.1 s))]
theorem clearM_like {l:List Int} {ms:List Move} (h:∀x ∈ l,0≤x) (k:Nat):((clearM ms l).getD k Move.z).day=(ms.getD k Move.z).day∧((clearM ms l).getD k Move.z).good=(ms.getD k Move.z).good∧((clearM ms l).getD k Move.z).kind=(ms.getD k Move.z).kind:=by
 by_cases hk:k<ms.length
 ·rw [clearM_getD l ms k h hk];split <;> exact ⟨rfl,rfl,rfl⟩
 ·rw [getD_out (by rw [clearM_length];omega),getD_out (by omega)];exact ⟨rfl,rfl,rfl⟩
section
variable {d m:Int} {gs:List Good} {ms:List Move} {cs:List Count}
theorem isNote_iff {i:Nat} (hi:i<ms.length):isNoteB ms (i:Int)=true↔(ms.getD i Move.z).kind=0:=by
 unfold isNoteB;rw [decide_eq_true_eq,Int.toNat_natCast];exact ⟨fun h=>h.2,fun h=>⟨⟨by omega,by omega⟩,h⟩⟩
theorem mem_blameTo {x:List Int}:x ∈ blameTo d gs ms cs (2 ^ ms.length)↔∃mask:Nat,mask<2 ^ ms.length∧x=pickI (mask:Int) ms.length∧(∀i,i<ms.length→bitOn (mask:Int) i=true→isNoteB ms (i:Int)=true)∧hists d gs (clearM ms x) cs 0≠[]:=by
 unfold blameTo;rw [List.mem_filterMap];have hall:∀k:Nat,allNotes ms (k:Int) ms.length=true↔∀i,i<ms.length→bitOn (k:Int) i=true→isNoteB ms (i:Int)=true:=fun k=>by
  unfold allNotes;rw [List.all_eq_true];constructor
  ·intro h i hi hb
   have:=h i (List.mem_range.2 hi)
   rw [hb] at this;simpa using this
  ·intro h i hi;cases hb:bitOn (k:Int) i with
   | false=>rfl
   | true=>simpa using h i (List.mem_range.1 hi) hb
 constructor
 ·rintro ⟨k,hk,e⟩;unfold blameOne at e;split at e
  ·rename_i ha
   split at e
   ·cases e
   ·rename_i hh
    cases e;exact ⟨k,List.mem_range.1 hk,rfl,(hall k).1 ha,hh⟩
  ·cases e
 ·rintro ⟨k,hk,rfl,ha,hh⟩;refine ⟨k,List.mem_range.2 hk,?_⟩;unfold blameOne;rw [if_pos ((hall k).2 ha),if_neg hh]
theorem blame_out (b:BookOK d m gs ms cs) {mo:Int} (h0:0≤mo) (h:hists d gs ms cs mo≠[]):∃x ∈ blameTo d gs ms cs (2 ^ ms.length),(x.length:Int)≤mo:=by
 obtain ⟨q,hq⟩:=List.exists_mem_of_ne_nil _ h;obtain ⟨L,ha⟩:=hists_out b.mlen h0 hq;obtain ⟨mask,hmask,hbit⟩:=mask_of b.mlen q.lies;have hx0:∀x ∈ pickI (mask:Int) ms.length,0≤x:=fun x hx=>by obtain ⟨k,rfl,_⟩:=pickI_nat hx;omega
 have hmem:∀k,k<ms.length→((k:Int) ∈ pickI (mask:Int) ms.length↔q.lies k=true):=fun k hk=>by
  rw [mem_pickI,hbit k hk];exact ⟨fun h=>h.2,fun h=>⟨hk,h⟩⟩
 refine ⟨_,mem_blameTo.2 ⟨mask,hmask,rfl,fun i hi hb=>L.note i hi (by rw [←hbit i hi];exact hb),?_⟩,?_⟩
 ·refine hists_in (p:=⟨q.first,fun k=>if q.lies k then 0 else q.many k,fun _=>false⟩) (BookOK.clear (l:=pickI (mask:Int) ms.length) b) ⟨L.first,fun i hi=>?_,fun i hi e=>(by cases e),?_⟩ ?_
  ·rw [clearM_length] at hi;rw [clearM_getD _ _ _ hx0 hi];show _≤(if q.lies i then 0 else q.many i)∧(if q.lies i then 0 else q.many i)≤_;by_cases e:q.lies i=true
   ·rw [if_pos ((hmem i hi).2 e),if_pos e];exact ⟨Int.le_refl _,Int.le_refl _⟩
   ·rw [if_neg (fun r=>e ((hmem i hi).1 r)),if_neg e];exact L.many i hi
  ·rw [lyingTo_cut (i:=0) (fun _ _ _=>rfl) (Nat.zero_le _)];exact Int.le_refl 0
  ·have hs:∀g dy,stockOf (clearM ms (pickI (mask:Int) ms.length)) ⟨q.first,fun k=>if q.lies k then 0 else q.many k,fun _=>false⟩ g dy=stockOf ms q g dy:=fun g dy=>
    stockOf_like (clearM_length ms _) (clearM_like hx0) (fun k hk=>by unfold realOf;rfl) rfl
   exact agreesB_of ha (fun j _=>by rw [hs]) (fun x _=>by rw [hs])
 ·rw [pickI_size,List.filter_congr (q:=q.lies) fun i hi=>hbit i (List.mem_range.1 hi),lyingTo_filter];exact L.few
theorem blame_in (b:BookOK d m gs ms cs) {mo:Int} {x:List Int} (hx:x ∈ blameTo d gs ms cs (2 ^ ms.length)) (hl:(x.length:Int)≤mo):hists d gs ms cs mo≠[]:=by
 obtain ⟨mask,hmask,rfl,hn,hh⟩:=mem_blameTo.1 hx;obtain ⟨r,hr⟩:=List.exists_mem_of_ne_nil _ hh;have hx0:∀x ∈ pickI (mask:Int) ms.length,0≤x:=fun x hx=>by obtain ⟨k,rfl,_⟩:=pickI_nat hx;omega
 obtain ⟨L,ha⟩:=hists_out (by rw [clearM_length];exact b.mlen) (Int.le_refl 0) hr;have hno:∀k,k<ms.length→r.lies k=false:=fun k hk=>by
  cases e:r.lies k with
  | false=>rfl
  | true=>
   have h1:lyingTo r (k+1)=lyingTo r k+1:=by show lyingTo r k+(if r.lies k then 1 else 0)=_;rw [e];rfl
   have h2:=lyingTo_mono r (i:=k+1) (n:=ms.length) (by omega);have h3:=L.few;rw [clearM_length] at h3;omega
 refine hists_in (p:=⟨r.first,fun k=>if bitOn (mask:Int) k then (ms.getD k Move.z).low else r.many k,bitOn (mask:Int)⟩) b ⟨L.first,fun i hi=>?_,fun i hi e=>hn i hi e,?_⟩ ?_
 ·show _≤(if bitOn (mask:Int) i then (ms.getD i Move.z).low else r.many i)∧(if bitOn (mask:Int) i then (ms.getD i Move.z).low else r.many i)≤_;by_cases e:bitOn (mask:Int) i=true
  ·rw [if_pos e];have:=b.few i;exact ⟨Int.le_refl _,by omega⟩
  ·rw [if_neg e]
   have:=L.many i (by rw [clearM_length];exact hi)
   rwa [clearM_getD _ _ _ hx0 hi,if_neg (fun q=>e (mem_pickI.1 q).2)] at this
 ·rw [←lyingTo_filter];show (((List.range ms.length).filter (bitOn (mask:Int))).length:Int)≤mo;rw [←pickI_size];exact hl
 ·have hs:∀g dy,stockOf ms ⟨r.first,fun k=>if bitOn (mask:Int) k then (ms.getD k Move.z).low else r.many k,bitOn (mask:Int)⟩ g dy=stockOf (clearM ms (pickI (mask:Int) ms.length)) r g dy:=fun g dy=>
   stockOf_like (clearM_length ms _).symm (fun k=>by obtain ⟨a,b,c⟩:=clearM_like (ms:=ms) hx0 k;exact ⟨a.symm,b.symm,c.symm⟩) (fun k hk=>by
    unfold realOf;rw [hno k hk];show (if bitOn (mask:Int) k then (0:Int) else if bitOn (mask:Int) k then _ else r.many k)=_;by_cases e:bitOn (mask:Int) k=true
    ·rw [if_pos e]
     have:=L.many k (by rw [clearM_length];exact hk)
     rw [clearM_getD _ _ _ hx0 hk,if_pos (mem_pickI.2 ⟨hk,e⟩)] at this;have h1:(0:Int)≤r.many k:=this.1;have h2:r.many k≤0:=this.2;show 0=r.many k;omega
    ·rw [if_neg e,if_neg e];rfl) rfl
  exact agreesB_of ha (fun j _=>by rw [hs]) (fun x _=>by rw [hs])
end
def cutAt (ms:List Move) (p:Past) (g dy:Int) (k:Nat):Int:=if (ms.getD k Move.z).day≤dy then dlOf ms p g k else 0
theorem sum_zero {F:Nat→Int}:∀{l:List Nat},(∀i ∈ l,F i=0)→(l.map F).sum=0
 | [],_=>rfl
 | i ::l,h=>by rw [List.map_cons,List.sum_cons,h i (by simp),sum_zero fun j hj=>h j (by simp [hj])];rfl
theorem sum_filter {F:Nat→Int} {q:Nat→Bool}:∀{l:List Nat},(∀i ∈ l,q i=false→F i=0)→(l.map F).sum=((l.filter q).map F).sum
 | [],_=>rfl
 | i ::l,h=>by
  have ih:=sum_filter (F:=F) (q:=q) (l:=l) fun j hj=>h j (by simp [hj]);rw [List.map_cons,List.sum_cons,ih];cases e:q i with
  | true=>rw [List.filter_cons,if_pos e,List.map_cons,List.sum_cons]
  | false=>rw [List.filter_cons,if_neg (by rw [e];simp),h i (by simp) e];omega
theorem stockRun_fst {ms:List Move} {p:Past} {g dy:Int} (up:∀i j,i≤j→j<ms.length→(ms.getD i Move.z).day≤(ms.getD j Move.z).day):∀(f k:Nat) (n low:Int),k+f=ms.length→(stockRun ms p g dy f k n low).1=n+((List.range' k f).map (cutAt ms p g dy)).sum
 | 0,_,n,_,_=>by simp [stockRun]
 | f+1,k,n,low,e=>by
  unfold stockRun;by_cases h:dy<(ms.getD k Move.z).day
  ·rw [if_pos h,sum_zero fun i hi=>?_]
   ·omega
   ·have:=List.mem_range'_1.1 hi
    have h2:=up k i this.1 (by omega);unfold cutAt;rw [if_neg (by omega)]
  ·rw [if_neg h,stockRun_fst up f (k+1) _ _ (by omega),List.range'_succ,List.map_cons,List.sum_cons];have h1:cutAt ms p g dy k=dlOf ms p g k:=by unfold cutAt;rw [if_pos (by omega)]
   have hn:nNext ms p g k n=n+dlOf ms p g k:=by unfold nNext dlOf;split <;> omega
   rw [h1,hn];omega
theorem DaysUp.le {ms:List Move} (h:DaysUp ms):∀i j,i≤j→j<ms.length→(ms.getD i Move.z).day≤(ms.getD j Move.z).day:=fun i j hij hj=>by
 by_cases e:i=j
 ·rw [e];exact Int.le_refl _
 ·unfold DaysUp at h;rw [List.pairwise_iff_getElem] at h;rw [getD_at Move.z (by omega),getD_at Move.z hj];exact h i j (by omega) hj (by omega)
theorem stockOf_fst {ms:List Move} (up:DaysUp ms) (p:Past) (g dy:Int):(stockOf ms p g dy).1=p.first g.toNat+((List.range ms.length).map (cutAt ms p g dy)).sum:=by
 unfold stockOf;rw [stockRun_fst up.le _ _ _ _ (by omega),List.range_eq_range']
section
variable {d m:Int} {gs:List Good} {ms:List Move} {cs:List Count}
theorem BookOK.subC (b:BookOK d m gs ms cs) {ms':List Move} (s:ms'.Sublist ms):BookOK d 0 gs ms' cs:=
 { b.sub s with most:=⟨Int.le_refl 0,by decide⟩,clen:=b.clen,count:=b.count }
theorem kept_hists (b:BookOK d m gs ms cs) {l:List Int} (h0:∀x ∈ l,0≤x) (h:hists d gs (clearM ms l) cs 0≠[]):hists d gs (keptM ms l ms.length) cs 0≠[]:=by
 obtain ⟨r,hr⟩:=List.exists_mem_of_ne_nil _ h;obtain ⟨L,ha⟩:=hists_out (by rw [clearM_length];exact b.mlen) (Int.le_refl 0) hr;have hlen:=clearM_length ms l;have b1:BookOK d m gs (clearM ms l) cs:=BookOK.clear b;have b2:=b.subC (keptM_sub ms l);have hno:∀k,k<ms.length→r.lies k=false:=fun k hk=>by
  cases e:r.lies k with
  | false=>rfl
  | true=>
   have h1:lyingTo r (k+1)=lyingTo r k+1:=by show lyingTo r k+(if r.lies k then 1 else 0)=_;rw [e];rfl
   have h2:=lyingTo_mono r (i:=k+1) (n:=ms.length) (by omega);have h3:=L.few;rw [hlen] at h3;omega
 have hz:∀k,k<ms.length→(k:Int) ∈ l→realOf r k=0:=fun k hk hm=>by
  have:=L.many k (by rw [hlen];exact hk)
  rw [clearM_getD _ _ _ h0 hk,if_pos hm] at this;have h1:(0:Int)≤r.many k:=this.1;have h2:r.many k≤0:=this.2;unfold realOf;rw [hno k hk];show r.many k=0;omega
 have hkn:(keptM ms l ms.length).length=(keptI l ms.length).length:=by unfold keptM;simp
 have hk:∀j,j<(keptI l ms.length).length→(keptI l ms.length).getD j 0<ms.length∧¬(((keptI l ms.length).getD j 0:Nat):Int) ∈ l∧(keptM ms l ms.length).getD j Move.z=(clearM ms l).getD ((keptI l ms.length).getD j 0) Move.z:=fun j hj=>by
  have hm:(keptI l ms.length).getD j 0 ∈ keptI l ms.length:=by rw [getD_at 0 hj];exact List.getElem_mem hj
  have h1:=List.mem_filter.1 hm;have h2:=List.mem_range.1 h1.1;have h3:¬(((keptI l ms.length).getD j 0:Nat):Int) ∈ l:=by simpa using h1.2
  refine ⟨h2,h3,?_⟩;rw [clearM_getD _ _ _ h0 h2,if_neg h3];unfold keptM;rw [getD_at Move.z (by simpa using hj),List.getElem_map,getD_at 0 hj]
 have hreal:∀j,j<(keptI l ms.length).length→realOf ⟨r.first,fun j=>r.many ((keptI l ms.length).getD j 0),fun _=>false⟩ j=realOf r ((keptI l ms.length).getD j 0):=fun j hj=>by
  unfold realOf;rw [hno _ (hk j hj).1]
 have hdl:∀g j,j<(keptI l ms.length).length→dlOf (keptM ms l ms.length) ⟨r.first,fun j=>r.many ((keptI l ms.length).getD j 0),fun _=>false⟩ g j=dlOf (clearM ms l) r g ((keptI l ms.length).getD j 0):=fun g j hj=>by
  unfold dlOf;rw [(hk j hj).2.2,hreal j hj]
 have hrange:∀{β:Type} (F:Nat→β) (G:Nat→β),(∀j,j<(keptI l ms.length).length→F j=G ((keptI l ms.length).getD j 0))→(List.range (keptM ms l ms.length).length).map F=(keptI l ms.length).map G:=fun {β} F G hFG=>by
  apply List.ext_getElem
  ·simp [hkn]
  ·intro j h1 h2;have hj:j<(keptI l ms.length).length:=by simpa using h2
   rw [List.getElem_map,List.getElem_map,List.getElem_range,hFG j hj,getD_at 0 hj]
 have hzero:∀g i,i<ms.length→(!decide ((i:Int) ∈ l))=false→dlOf (clearM ms l) r g i=0:=fun g i hi hq=>by
  have hm:(i:Int) ∈ l:=by simpa using hq
  unfold dlOf;split
  ·rw [hz i hi hm];unfold signed;split <;> rfl
  ·rfl
 refine hists_in (p:=⟨r.first,fun j=>r.many ((keptI l ms.length).getD j 0),fun _=>false⟩) b2 ⟨L.first,fun i hi=>?_,fun i hi e=>(by cases e),?_⟩ (agreesB_of ha (fun j hj=>?_) (fun x hx=>?_))
 ·rw [hkn] at hi;rw [(hk i hi).2.2];exact L.many _ (by rw [hlen];exact (hk i hi).1)
 ·rw [lyingTo_cut (i:=0) (fun _ _ _=>rfl) (Nat.zero_le _)];exact Int.le_refl 0
 ·rw [b2.stock,b1.stock];have e:pairsOf (keptM ms l ms.length) ⟨r.first,fun j=>r.many ((keptI l ms.length).getD j 0),fun _=>false⟩ (j:Int)=(keptI l ms.length).map (pairAt (clearM ms l) r (j:Int)):=
   hrange _ _ fun i hi=>by unfold pairAt;rw [hdl _ i hi,(hk i hi).2.2]
  rw [e];have e2:runB 0 (r.first (j:Int).toNat) (r.first (j:Int).toNat) (pairsOf (clearM ms l) r (j:Int))=runB 0 (r.first (j:Int).toNat) (r.first (j:Int).toNat) ((keptI l ms.length).map (pairAt (clearM ms l) r (j:Int))):=by
   unfold pairsOf keptI;rw [hlen];refine runB_filter (fun i hi hq=>hzero _ i (List.mem_range.1 hi) hq) ?_
   have:=b1.pairsUp r (j:Int) (List.Sublist.refl _)
   rwa [hlen] at this
  rw [e2]
 ·rw [stockOf_fst b2.up,stockOf_fst b1.up];show r.first x.good.toNat+_=r.first x.good.toNat+_;congr 1;rw [hrange (cutAt (keptM ms l ms.length) ⟨r.first,fun j=>r.many ((keptI l ms.length).getD j 0),fun _=>false⟩ x.good x.day) (cutAt (clearM ms l) r x.good x.day) fun i hi=>by unfold cutAt;rw [hdl _ i hi,(hk i hi).2.2]];unfold keptI;rw [hlen];exact (sum_filter fun i hi hq=>by unfold cutAt;rw [hzero _ i (List.mem_range.1 hi) hq];split <;> rfl).symm
theorem movesFrom_more {ag:Past→Bool} {ms:List Move} {mo mo':Int} (h:mo≤mo'):∀(f i:Nat) (p:Past),(movesFrom ag ms mo f i p).Sublist (movesFrom ag ms mo' f i p)
 | 0,i,p=>List.Sublist.refl _
 | f+1,i,p=>by
  rw [movesFrom_succ,movesFrom_succ]
  induction spanL (ms.getD i Move.z).low (ms.getD i Move.z).high with
  | nil=>exact List.Sublist.refl _
  | cons n l ih=>
   rw [List.flatMap_cons,List.flatMap_cons];refine List.Sublist.append ?_ ih;unfold moveRound;refine List.Sublist.append (movesFrom_more h f _ _) ?_;split
   ·rename_i e
    rw [Bool.and_eq_true] at e
    have:=of_decide_eq_true e.2
    rw [if_pos (by rw [Bool.and_eq_true];exact ⟨e.1,decide_eq_true (by omega)⟩)];exact movesFrom_more h f _ _
   ·exact List.nil_sublist _
theorem goodsFrom_more {ag:Past→Bool} {gs:List Good} {ms:List Move} {mo mo':Int} (h:mo≤mo'):∀(f i:Nat) (p:Past),(goodsFrom ag gs ms mo f i p).Sublist (goodsFrom ag gs ms mo' f i p)
 | 0,i,p=>movesFrom_more h _ _ _
 | f+1,i,p=>by
  rw [goodsFrom_succ,goodsFrom_succ]
  induction spanL (gs.getD i Good.z).low (gs.getD i Good.z).high with
  | nil=>exact List.Sublist.refl _
  | cons n l ih=>
   rw [List.flatMap_cons,List.flatMap_cons];exact List.Sublist.append (goodsFrom_more h f _ _) ih
theorem BookOK.moreM (b:BookOK d m gs ms cs):BookOK d (min (m+1) 2) gs ms cs:={ b with most:=by have:=b.most;omega }
theorem more_hists (b:BookOK d m gs ms cs):0≤histN d m gs ms cs∧histN d m gs ms cs≤histN d (min (m+1) 2) gs ms cs:=by
 unfold histN;rw [if_pos (bookBell_of b),if_pos (bookBell_of b.moreM)]
 have:=(goodsFrom_more (ag:=agreesB d gs.length ms cs) (gs:=gs) (ms:=ms) (show m≤min (m+1) 2 by have:=b.most;omega) gs.length 0 Past.zero).length_le
 unfold hists;omega
def cameTo (ms:List Move) (k:Nat):List Int:=((List.range k).filter fun i=>decide ((ms.getD i Move.z).kind=0)).map fun (i:Nat)=>(i:Int)
theorem cameTo_t {k:Nat} (h:(ms.getD k Move.z).kind=0):cameTo ms (k+1)=cameTo ms k++[(k:Int)]:=by
 unfold cameTo;rw [List.range_succ,List.filter_append];simp only [List.filter_cons,h,List.filter_nil];simp
theorem cameTo_f {k:Nat} (h:¬(ms.getD k Move.z).kind=0):cameTo ms (k+1)=cameTo ms k:=by
 unfold cameTo;rw [List.range_succ,List.filter_append];simp only [List.filter_cons,h,List.filter_nil];simp
theorem cameTo_len (ms:List Move) (k:Nat):(cameTo ms k).length≤k:=by
 unfold cameTo;rw [List.length_map]
 have:=List.length_filter_le (fun i:Nat=>decide ((ms.getD i Move.z).kind=0)) (List.range k)
 rwa [List.length_range] at this
theorem mem_cameTo {k i:Nat} (hi:i<k) (h:(ms.getD i Move.z).kind=0):(i:Int) ∈ cameTo ms k:=List.mem_map.2 ⟨i,List.mem_filter.2 ⟨List.mem_range.2 hi,decide_eq_true h⟩,rfl⟩
theorem bestL_len:∀(l:List (List Int)) (c:List Int),bestL c l ∈ c ::l∧∀x ∈ c ::l,(bestL c l).length≤x.length
 | [],c=>⟨List.mem_cons_self ..,fun x hx=>by
  rcases List.mem_cons.1 hx with rfl | q
  ·exact Nat.le_refl _
  ·cases q⟩
 | a ::l,c=>by
  have e:bestL c (a ::l)=bestL (bestStep a c) l:=rfl;obtain ⟨h1,h2⟩:=bestL_len l (bestStep a c);have hs:bestStep a c=a∨bestStep a c=c:=by unfold bestStep;split <;> simp
  have hk:(bestStep a c).length≤a.length∧(bestStep a c).length≤c.length:=by
   unfold bestStep;by_cases q:fewerB a c=true
   ·rw [if_pos q];unfold fewerB at q;simp only [Bool.or_eq_true,Bool.and_eq_true,decide_eq_true_eq] at q;omega
   ·rw [if_neg q];unfold fewerB at q;simp only [Bool.or_eq_true,Bool.and_eq_true,decide_eq_true_eq,not_or] at q;omega
  rw [e];refine ⟨?_,fun x hx=>?_⟩
  ·rcases List.mem_cons.1 h1 with q | q
   ·rw [q];rcases hs with q | q <;> rw [q] <;> simp
   ·simp [q]
  ·have h0:=h2 _ (List.mem_cons_self ..);rcases List.mem_cons.1 hx with rfl | q
   ·omega
   ·rcases List.mem_cons.1 q with rfl | q
    ·omega
    ·exact h2 x (List.mem_cons_of_mem _ q)
theorem bestL_nil:∀l:List (List Int),bestL [] l=[]
 | []=>rfl
 | a ::l=>by
  have e:bestL [] (a ::l)=bestL (bestStep a []) l:=rfl;have hs:bestStep a []=[]:=by
   unfold bestStep;cases a with
   | nil=>split <;> rfl
   | cons x a=>
    rw [if_neg];unfold fewerB;simp only [Bool.or_eq_true,Bool.and_eq_true,decide_eq_true_eq,not_or,List.length_cons,List.length_nil];omega
  rw [e,hs,bestL_nil l]
theorem blame_book (b:BookOK d m gs ms cs):histN d m gs ms cs=0∨0<histN d m gs ms cs:=by have:=(more_hists b).1;omega
theorem histN_iff (b:BookOK d m gs ms cs):0<histN d m gs ms cs↔hists d gs ms cs m≠[]:=by
 unfold histN;rw [if_pos (bookBell_of b)];rw [←List.length_pos_iff];omega
theorem blame_9 (b:BookOK d m gs ms cs) (h:(blameTo d gs ms cs (2 ^ ms.length)).isEmpty=true):blameBell d m gs ms cs=9∧blameL d m gs ms cs=[]∧histN d m gs ms cs=0:=by
 have h':blameTo d gs ms cs (2 ^ ms.length)=[]:=List.isEmpty_iff.1 h;have e:blameBell d m gs ms cs=9:=by rw [blameBell_ok (bookBell_of b),h'];rfl
 refine ⟨e,by unfold blameL;rw [if_neg (by rw [e];decide)],?_⟩;rcases blame_book b with q | q
 ·exact q
 ·obtain ⟨x,hx,_⟩:=blame_out b b.most.1 ((histN_iff b).1 q);rw [h'] at hx;cases hx
theorem blame_empty (b:BookOK d m gs ms cs) (h:hists d gs ms cs 0≠[]):blameBell d m gs ms cs=0∧blameL d m gs ms cs=[]:=by
 have hp:0<2 ^ ms.length:=Nat.pow_pos (by decide);have p0:pickI ((0:Nat):Int) ms.length=[]:=by
  unfold pickI;rw [List.filter_eq_nil_iff.2 fun i _=>by unfold bitOn;simp];rfl
 have hone:blameOne d gs ms cs 0=some []:=by
  unfold blameOne;have ha:allNotes ms ((0:Nat):Int) ms.length=true:=by
   unfold allNotes;rw [List.all_eq_true];intro i _;unfold bitOn;simp
  rw [if_pos ha,p0,if_neg (by show¬hists d gs ms cs 0=[];exact h)]
 have hto:blameTo d gs ms cs (2 ^ ms.length)=[] ::(blameTo d gs ms cs (2 ^ ms.length)).drop 1:=by
  obtain ⟨n,hn⟩:∃n,2 ^ ms.length=n+1:=⟨2 ^ ms.length-1,by omega⟩;rw [hn];unfold blameTo;rw [List.range_succ_eq_map,List.filterMap_cons,hone];rfl
 have hb:blameBell d m gs ms cs=0:=by
  rw [blameBell_ok (bookBell_of b),if_neg];rw [hto];simp
 refine ⟨hb,?_⟩;unfold blameL;rw [if_pos hb,hto];exact bestL_nil _
theorem blame_0 (b:BookOK d m gs ms cs) (h:(blameTo d gs ms cs (2 ^ ms.length)).isEmpty=false) :
  blameBell d m gs ms cs=0∧(blameL d m gs ms cs).length≤6∧
  (∀i,i<(blameL d m gs ms cs).length→(blameL d m gs ms cs).getD i 0 ∈ cameTo ms ms.length∧(0<i→(blameL d m gs ms cs).getD ((i:Int)-1).toNat 0<(blameL d m gs ms cs).getD i 0))∧
  ((0<histN d m gs ms cs)↔((blameL d m gs ms cs).length:Int)≤m)∧BookOK d 0 gs (keptM ms (blameL d m gs ms cs) ms.length) cs∧
  0<histN d 0 gs (keptM ms (blameL d m gs ms cs) ms.length) cs∧blameBell d 0 gs (keptM ms (blameL d m gs ms cs) ms.length) cs=0∧blameL d 0 gs (keptM ms (blameL d m gs ms cs) ms.length) cs=[]:=by
 have hne:blameTo d gs ms cs (2 ^ ms.length)≠[]:=fun e=>by rw [e] at h;cases h
 have hb:blameBell d m gs ms cs=0:=by
  rw [blameBell_ok (bookBell_of b),if_neg]
  have:=List.length_pos_iff.2 hne
  omega
 have hcons:(blameTo d gs ms cs (2 ^ ms.length)).getD 0 [] ::(blameTo d gs ms cs (2 ^ ms.length)).drop 1=blameTo d gs ms cs (2 ^ ms.length):=by
  cases hx:blameTo d gs ms cs (2 ^ ms.length) with
  | nil=>exact absurd hx hne
  | cons _ _=>rfl
 obtain ⟨hin,hmin⟩:=bestL_len ((blameTo d gs ms cs (2 ^ ms.length)).drop 1) ((blameTo d gs ms cs (2 ^ ms.length)).getD 0 []);have hL:blameL d m gs ms cs=bestL ((blameTo d gs ms cs (2 ^ ms.length)).getD 0 []) ((blameTo d gs ms cs (2 ^ ms.length)).drop 1):=by unfold blameL;rw [if_pos hb]
 rw [hcons,←hL] at hin hmin;obtain ⟨mask,hmask,eL,hn,hh⟩:=mem_blameTo.1 hin;have h0:∀x ∈ blameL d m gs ms cs,0≤x:=fun x hx=>by rw [eL] at hx;obtain ⟨k,rfl,_⟩:=pickI_nat hx;omega
 have b2:=b.subC (keptM_sub ms (blameL d m gs ms cs));have hk:=kept_hists b h0 hh;refine ⟨hb,?_,fun i hi=>⟨?_,fun q=>?_⟩,⟨fun q=>?_,fun q=>(histN_iff b).2 (blame_in b hin q)⟩,b2,(histN_iff b2).2 hk,(blame_empty b2 hk).1,(blame_empty b2 hk).2⟩
 ·rw [eL];exact Nat.le_trans (pickI_len _ _) b.mlen
 ·have hm:(blameL d m gs ms cs).getD i 0 ∈ blameL d m gs ms cs:=by rw [getD_at 0 hi];exact List.getElem_mem hi
  generalize (blameL d m gs ms cs).getD i 0=y at hm;rw [eL] at hm;obtain ⟨k,rfl,h1,h2⟩:=pickI_nat hm;exact mem_cameTo h1 ((isNote_iff h1).1 (hn k h1 h2))
 ·exact up_getD (by rw [eL];exact pickI_up) q hi
 ·obtain ⟨x,hx,hxl⟩:=blame_out b b.most.1 ((histN_iff b).1 q)
  have:=hmin x hx
  omega
end
end Go.Ns
namespace Go.Ns
open Go.Conc
section
variable {P:Program} {Post:Value→World→Prop}
def mainW (P:Program) (Post:Value→World→Prop):Wk P:=⟨true,MainOK P Post,mainOK_closed⟩
theorem isMain_mainW:IsMain (mainW P Post):=⟨Post,rfl⟩
theorem top_of_tr {f:FuncId} {fn:Func} {c:Code} {args:Array Value} {h:GH} {R:Value→GH→Prop} (hf:P.funcs[f]? =some fn) (hb:fn.body=some c) (hsz:args.size≤fn.ntmps) (hin:P.inits.idxOf? f=none) (hpost:∀v h',R v h'→∀w,Fits w h'→Post v w)
  (x:Tr ⟨mainW P Post,f,none,fn.ntmps⟩ c (fun i=>args.getD i undef) [] h (fun e σ ds h'=>(e=.normal∨e=.ret)∧Outs P fn σ R ds h')):MainOK P Post (G (Frame.enter P f args .normal) []) h:=by
 have e0:Frame.enter P f args .normal=fat (Frame.enter P f args .normal) (args++Array.replicate (fn.ntmps-args.size) undef) [] [.code c]:=by
  simp [Frame.enter,fat,hf,hb]
 rw [e0];let L:Lv:=fun j t ds h'=>(j=none∨j=some .ret)∧∃σ,SlotsAre t fn.ntmps σ∧Outs P fn σ R ds h';have fin:∀σ ds h' t k,SlotsAre t fn.ntmps σ→Outs P fn σ R ds h'→(mainW P Post).K (G (fret (Frame.enter P f args .normal) t ds k) []) h':=by
  intro σ ds h' t k hs ho;refine leave_frame (W:=mainW P Post) (R:=R) hf (b:=Frame.enter P f args .normal) rfl (fun t k v h h' hr hrun=>?_) ds h' t k hs ho;refine mainOK_end rfl fun w fw=>?_;obtain ⟨w',es,r1,r2⟩:=hrun w fw;refine ⟨v,w',seen P f es++ #[],h',?_,r2.sub (es':=seen P f es++ #[]) fun e he=>?_,hpost v h' hr w' r2.fits⟩
  ·rw [stepG_fret];unfold unwind;have hfn:(fret (Frame.enter P f args .normal) t [] k).fn=f:=rfl;have hk:(fret (Frame.enter P f args .normal) t [] k).kind=.normal:=rfl;have hm:(fret (Frame.enter P f args .normal) t [] k).mode=.returning:=rfl;have hd:(fret (Frame.enter P f args .normal) t [] k).defers=[]:=rfl;have ht:(fret (Frame.enter P f args .normal) t [] k).tmps=t:=rfl;simp only [hd,hm,hfn,hf,ht,r1,GStep.after,doReturn,hk,hin];rfl
  ·rw [Array.append_empty] at he;exact mem_seen he
 refine x (Frame.enter P f args .normal) [] [] L _ rfl rfl ⟨?_,?_,?_⟩ ⟨by simp;omega,fun i=>?_⟩ ?_
 ·rintro t ds h' ⟨_,σ,hs,ho⟩;exact Wk.go (fret (Frame.enter P f args .normal) t ds []) (fun w=>by rw [stepG_fat];simp [stepG.exec,fat,fret,G,Frame.enter]) (fin σ ds h' t [] hs ho)
 ·rintro t ds h' k ⟨_,σ,hs,ho⟩;exact Wk.go (fret (Frame.enter P f args .normal) t ds (.code .ret ::k)) (fun w=>by rw [stepG_fat];simp [stepG.exec,fat,fret,G,Frame.enter]) (fin σ ds h' t _ hs ho)
 ·rintro id t ds h' k _ ⟨h1 | h1,_⟩ <;> cases h1
 ·by_cases hi:i<args.size
  ·simp [Array.getD_eq_getD_getElem?,Array.getElem?_append_left hi]
  ·simp only [Array.getD_eq_getD_getElem?];rw [Array.getElem?_append_right (by omega),Array.getElem?_eq_none (show args.size≤i by omega),Array.getElem?_replicate];split <;> rfl
 ·rintro e σ ds h' ⟨he,ho⟩ t' ht';rcases he with rfl | rfl
  ·exact Wk.go (fret (Frame.enter P f args .normal) t' ds []) (fun w=>by rw [stepG_fat];simp [stepG.exec,fat,fret,G,Frame.enter]) (fin σ ds h' t' [] ht' ho)
  ·exact ⟨.inr rfl,σ,ht',ho⟩
def GH.of (W:World):GH:=fun b=>(W.heap[b]?).map fun o=>(false,o)
theorem GH.of_some {W:World} {b:Nat} {o:Obj} (h:W.heap[b]? =some o):GH.of W b=some (false,o):=by unfold GH.of;rw [h];rfl
theorem fits_of (W:World):Fits W (GH.of W):=fun b p o h=>by
 unfold GH.of at h;cases e:W.heap[b]? with
 | none=>rw [e] at h;cases h
 | some x=>rw [e] at h;cases h;rfl
theorem kept_of {W w:World} {h:GH} (l:(GH.of W).Le h) (f:Fits w h) {b:Nat} {o:Obj} (hb:W.heap[b]? =some o):w.heap[b]? =some o:=f b _ _ (l.keep (GH.of_some hb) rfl)
theorem start_runs {g:Goroutine} {W:World} (hg:MainOK P Post g (GH.of W)):RunsWell P (PostIO Post W.os W.output) (solo g W) #[]:=by
 have hno:∀k a,touchAt (#[]:Trace) k=some a→False:=fun k a h=>by
  obtain ⟨op,h1,_⟩:=touch_of h;simp at h1
 refine hg #[g] W none (fun _=>0) #[] ⟨rfl,?_,fits_of W,?_,?_,fun k a b hk=>(hno k a hk).elim,?_,fun k a hk=>(hno k a hk).elim,fun b p o k a _ _ hk=>(hno k a hk).elim⟩
 ·intro j x hj hx;rw [Array.getElem?_eq_none (by simp;omega)] at hx;cases hx
 ·intro op hop;simp at hop
 ·rintro said ⟨i,j,hij,⟨a,b,ha,_⟩,_⟩;exact hno i a ha
 ·intro op hop;simp at hop
end
end Go.Ns
namespace Go.Ns
open Go.Conc Go.ChangeShapes Go.WideShapes Go.ChangeAt Go.RowKit
section
variable {P:Program} {W:World}
theorem cells_elem {b off n:Nat} {cs:List Value} (h:W.cells? 0 ⟨b,off,none⟩ n=some cs) (hn:0<n):Elem (GH.of W) b off n cs.toArray:=by
 obtain ⟨_,hl,hc⟩:=World.cells?_some h;have hcell:∀i,i<n→W.cell? ⟨b,off+i,none⟩=cs[i]? :=fun i hi=>by
  have:=hc i hi
  unfold Addr.add at this;split at this
  ·rename_i e;subst e;exact this
  ·exact this
 have h0:=hcell 0 hn;unfold World.cell? at h0;cases hb:W.heap[b]? with
 | none=>simp [hb,List.getElem?_eq_getElem (show 0<cs.length by omega)] at h0
 | some o=>
  cases o with
  | cells c t f=>
   have hall:∀i,i<n→c[off+i]? =cs[i]? :=fun i hi=>by
    have:=hcell i hi
    unfold World.cell? at this;simpa [hb] using this
   have hlast:=hall (n-1) (by omega);rw [List.getElem?_eq_getElem (show n-1<cs.length by omega)] at hlast;have hsz:=(Array.getElem?_eq_some_iff.1 hlast).1;refine ⟨false,c,t,f,GH.of_some hb,by omega,?_⟩;apply Array.ext
   ·simp;omega
   ·intro i h1 h2;have hi:i<n:=by simp at h2;omega
    have:=hall i hi
    rw [Array.getElem?_eq_getElem (by omega),List.getElem?_eq_getElem (by omega)] at this;simpa using this
  | _=>simp [hb,List.getElem?_eq_getElem (show 0<cs.length by omega)] at h0
def Opens (P:Program) (e:TypeId) {α:Type} (enc:α→Array Value) (good:α→Prop):Prop:=
 ∀{H:Type} (en:TypeId×Value→H) (W:World) (base:Nat) (sp:Nat→Bool) (held:Bool) (fuel:Nat) (cs:List Value) (x:DataW H×List MemPlace),DataW.trod en P W base sp held fuel e cs=some x→∃a:α,cs=(enc a).toList∧good a
theorem open_sl {H:Type} {en:TypeId×Value→H} {sp:Nat→Bool} {held:Bool} {fuel:Nat} {t e:TypeId} {n:Nat} {α:Type} {enc:α→Array Value} {good:α→Prop} {v:Value} {d:DataW H} {ps:List MemPlace} (ht:P.underlying t=some (.slice e)) (hc:P.cellsOf e=n) (hn:0<n)
  (ho:Opens P e enc good) (h:DataW.trod en P W 0 sp held fuel t [v]=some (d,ps)) (hw:∀es rs,d=.slice es rs→es.length≤140737488355328):∃xs:List α,SlIs (GH.of W) v n enc xs∧∀x ∈ xs,good x:=by
 rcases DataW.trod_slice ht h with ⟨h1,_⟩ | ⟨a,len,cap,elems,rest,m,rfl,h1,h2,_,hl,_,hlen,hel,_,_⟩
 ·simp at h1;subst h1;exact ⟨[],SlIs.nil _ _ _,fun x hx=>by cases hx⟩
 ·simp only [List.cons.injEq,and_true] at h1;subst h1;simp only [Prod.mk.injEq] at h2;have hlim:len≤140737488355328:=by
   have:=hw _ _ h2.1
   simpa [hlen] using this
  have each:∀i,i<len→∃x:α,∃b off,a=⟨b,off,none⟩∧Elem (GH.of W) b (off+i*n) n (enc x)∧good x:=fun i hi=>by
   have:=hel i hi
   rw [List.getElem?_eq_getElem (by omega),hc] at this;simp only [Option.bind_eq_some_iff] at this;obtain ⟨cs,hcs,hx⟩:=this;obtain ⟨x,e1,e2⟩:=ho _ _ _ _ _ _ _ _ hx;have hc0:=(World.cells?_some hcs).2.2 0 hn;have hlen2:=(World.cells?_some hcs).2.1;rw [List.getElem?_eq_getElem (show 0<cs.length by omega)] at hc0;have hsp:=World.cell?_spot hc0;obtain ⟨b,off,spot⟩:=a;have hspot:spot=none∨i≠0:=by
    by_cases e0:i=0
    ·subst e0;left;simpa [Addr.add] using hsp
    ·exact .inr e0
   have hfirst:spot=none:=by
    rcases hspot with e | e
    ·exact e
    ·have h00:=hel 0 (by omega);rw [List.getElem?_eq_getElem (by omega),hc] at h00;simp only [Option.bind_eq_some_iff] at h00;obtain ⟨c0,hc00,_⟩:=h00;have z:=(World.cells?_some hc00).2.2 0 hn;have zl:=(World.cells?_some hc00).2.1;rw [List.getElem?_eq_getElem (show 0<c0.length by omega)] at z
     have:=World.cell?_spot z
     simpa [Addr.add] using this
   subst hfirst;refine ⟨x,b,off,rfl,?_,e2⟩;have ea:(Addr.add ⟨b,off,none⟩ (i*n))=⟨b,off+i*n,none⟩:=by
    unfold Addr.add;split
    ·rename_i e;rw [e];rfl
    ·rfl
   rw [ea] at hcs
   have:=cells_elem hcs hn
   rw [e1] at this;simpa using this
  by_cases hz:len=0
  ·subst hz;exact ⟨[],⟨some a,cap,rfl,Nat.zero_le _,Nat.zero_le _,fun i hi=>by simp at hi⟩,fun x hx=>by cases hx⟩
  ·have hch:∀i:Fin len,∃x:α,∃b off,a=⟨b,off,none⟩∧Elem (GH.of W) b (off+i.val*n) n (enc x)∧good x:=fun i=>each i.val i.isLt;refine ⟨List.ofFn fun i=>Classical.choose (hch i),⟨some a,cap,by rw [List.length_ofFn],by rw [List.length_ofFn];exact hl,by rw [List.length_ofFn];exact hlim,fun i hi=>?_⟩,fun x hx=>?_⟩
   ·rw [List.length_ofFn] at hi;obtain ⟨b,off,e1,e2,_⟩:=Classical.choose_spec (hch ⟨i,hi⟩);refine ⟨b,off,by rw [e1],?_⟩;rw [List.getElem_ofFn];exact e2
   ·obtain ⟨i,rfl⟩:=List.mem_ofFn.1 hx;obtain ⟨_,_,_,_,e3⟩:=Classical.choose_spec (hch i);exact e3
theorem trod_kept {H:Type} {en:TypeId×Value→H} {t:TypeId} (hl:laidOutB P=true) (hr:P.readableRec t=true) (hrow:t<P.types.size) {W':World} {v:Value} {d:DataW H} {ps:List MemPlace} (h:DataW.Trod en P W 0 (fun _=>true) true t v d ps)
  (hk:∀(b:Nat) (o:Obj),W.heap[b]? =some o→W'.heap[b]? =some o) (hlt:∀x ∈ ps,x.block<W.heap.size):DataW.Trod en P W' 0 (fun b=>decide (b<W.heap.size)) true t v d ps:=by
 let W2:World:={ W' with os:=W.os,tape:=W.tape,output:=W.output };have hsz:W.heap.size≤W'.heap.size:=by
  rcases Nat.lt_or_ge W'.heap.size W.heap.size with x | x
  ·have:=hk W'.heap.size _ (Array.getElem?_eq_getElem x)
   rw [Array.getElem?_eq_none (Nat.le_refl _)] at this;cases this
  ·exact x
 have hb:Below W.heap.size W W2:=⟨rfl,rfl,rfl,hsz,fun k hk'=>by
  show W'.heap[k]? =_;rw [Array.getElem?_eq_getElem hk'];exact hk k _ (Array.getElem?_eq_getElem hk')⟩
 exact DataW.Trod.of_heap (w:=W2) (w':=W') rfl (Below.trod hl hr hrow h hb hlt)
theorem kept_but {W':World} (hk:∀(b:Nat) (o:Obj),W.heap[b]? =some o→W'.heap[b]? =some o) (ho:W'.os=W.os) (hp:W'.output=W.output) (may:MemPlace→Prop):W.keptBut W' may:=by
 refine ⟨ho,hp,fun i hi=>?_⟩;rw [hk i _ (Array.getElem?_eq_getElem hi),Array.getElem?_eq_getElem hi];split <;> simp_all
end
end Go.Ns
namespace Go.Ns
open Go.Conc
universe u
theorem Z {α:Sort u} {a:α}:a=a:=rfl
theorem Lr {h:GH}:GH.Le h h:=GH.Le.refl h
theorem Ln {h h':GH} (l:h.Le h') {r:Nat} (hr:h' r=none):h r=none:=l.nothing hr
theorem Ne' {h:GH} {b r:Nat} {p:Bool} {o:Obj} (hb:h b=some (p,o)) (hr:h r=none):b≠r:=GH.ne_of hb hr
theorem Nb {a b:Nat} (h:Nat.ble a b=true):a≤b:=Nat.le_of_ble_eq_true h
theorem Dn {p:Prop} [Decidable p] (h:¬¬p):p:=Decidable.not_not.1 h
theorem Et {α:Sort u} {a b c:α} (x:a=b) (y:b=c):a=c:=x.trans y
theorem Kl {h0 h:GH} (k:KeepD (fun b=>h0 b=none) h0 h):h0.Le h:=k.leOf
theorem Bx {h:GH} {b:Nat} {p:Bool} {c:Array Value} {t:TypeId} {f:Nat×Nat} (hb:h b=some (p,.cells c t f)) {n:Nat} (hn:c.size=n):Elem h b 0 n c:=Elem.box hb hn
abbrev lE (v:Value):Law2:=fun _ u _=>u=v
abbrev lF (v:Value):Law:=fun u _=>u=v
abbrev zP:Array Value:=#[.int .i64 0,.int .i64 0,.slice none 0 0,.slice none 0 0,.slice none 0 0,.slice none 0 0,.map none]
section
variable {P:Program} {E:Env P} {σ:Nat→Value} {ds:List Deferred} {h:GH} {Q:Post} {T:(Nat→Value)→List Deferred→GH→Prop}
variable {dst:Option Nat} {ty:TypeId} {pos:String} {af:Array Edge} {ops:Array Oper} {o:Oper} {l:List Oper}
theorem Sq {x y:Code} (a:Tr E x σ ds h (fun e σ' ds' h'=>match e with | .normal=>Tr E y σ' ds' h' Q | e=>Q e σ' ds' h')):Tr E (.seq x y) σ ds h Q:=tr_seq a
theorem Rg {id:Nat} {l:List Oper} (a:TrL E l.toArray l σ ds h Q):Tr E (.region id l.toArray false) σ ds h Q:=tr_region a
theorem Nl (q:Q .normal σ ds h):TrL E ops [] σ ds h Q:=trL_nil q
abbrev Rt:=@tr_ret
abbrev Bk:=@tr_block
abbrev Sk:=@tr_skip
abbrev Xt:=@tr_exit
def plainB (N:Nat) (o:Oper):Bool:=o.guard.isNone && !isDefer o.op && dstOK o.dst N
theorem Pl (hp:plainB E.N o=true) (x:OpK E o σ ds h fun σ' ds' h'=>TrL E ops l σ' ds' h' Q):TrL E ops (o ::l) σ ds h Q:=by
 simp only [plainB,Bool.and_eq_true,Option.isNone_iff_eq_none,Bool.not_eq_true'] at hp;exact trL_plain hp.1.1 hp.1.2 hp.2 x
theorem Mv {x:Operand} (v:Value) (hp:dstOK dst E.N=true) (hx:evalS σ x=v) (k:TrL E ops l (putS σ dst v) ds h Q):TrL E ops (⟨dst,.move x,ty,pos,af,none⟩ ::l) σ ds h Q:=trL_plain rfl rfl hp (ok_move hx k)
theorem As {x:Operand} (v:Value) (hp:dstOK dst E.N=true) (hx:evalS σ x=v) (k:TrL E ops l (putS σ dst v) ds h Q):TrL E ops (⟨dst,.assign x,ty,pos,af,none⟩ ::l) σ ds h Q:=trL_plain rfl rfl hp (ok_assign hx k)
theorem Ld {t:TypeId} {x:Operand} {b off:Nat} (v:Value) (hp:dstOK dst E.N=true) (hx:evalS σ x=.pointer (some ⟨b,off,none⟩)) (hr:Rd P h t b off v) (k:TrL E ops l (putS σ dst v) ds h Q):TrL E ops (⟨dst,.load t x,ty,pos,af,none⟩ ::l) σ ds h Q:=
 trL_plain rfl rfl hp (ok_load hx hr k)
theorem Fa {s:TypeId} {x:Operand} {f o b off:Nat} (hf:fldOf P s f=some o) (hp:dstOK dst E.N=true) (hx:evalS σ x=.pointer (some ⟨b,off,none⟩)) (k:TrL E ops l (putS σ dst (.pointer (some ⟨b,off+o,none⟩))) ds h Q) :
  TrL E ops (⟨dst,.fieldAddr s x f,ty,pos,af,none⟩ ::l) σ ds h Q:=trL_plain rfl rfl hp (ok_fieldAddr hf hx k)
theorem Pk {c a b:Operand} (t:Bool) (v:Value) (hp:dstOK dst E.N=true) (hc:evalS σ c=.bool t) (hv:(if t then evalS σ a else evalS σ b)=v) (k:TrL E ops l (putS σ dst v) ds h Q):TrL E ops (⟨dst,.pick c a b,ty,pos,af,none⟩ ::l) σ ds h Q:=
 trL_plain rfl rfl hp (ok_pick hc hv k)
theorem Ad {xt yt:TypeId} {x y:Operand} (a b:Int) (hp:dstOK dst E.N=true) (hx:evalS σ x=.int .i64 a) (hy:evalS σ y=.int .i64 b) (hr: -9223372036854775808≤a+b∧a+b≤9223372036854775807) (k:TrL E ops l (putS σ dst (.int .i64 (a+b))) ds h Q) :
  TrL E ops (⟨dst,.binOp .add xt x y yt,ty,pos,af,none⟩ ::l) σ ds h Q:=trL_plain rfl rfl hp (ok_add hx hy hr k)
def skipB (N:Nat) (ops:Array Oper) (o:Oper) (j d:Nat) (is:Bool):Bool:=(match o.guard with
 | some (i,w)=>i==j && w !=is
 | none=>false) && (match ops[j]? with
 | some oj=>(match oj.dst with
  | some e=>e==d
  | none=>false)
 | none=>false) && Nat.blt d N && dstOK o.dst N
theorem Gs (j d:Nat) {is:Bool} (hv:σ d=.bool is) (hs:skipB E.N ops o j d is=true) (x:TrL E ops l (putS σ o.dst undef) ds h Q):TrL E ops (o ::l) σ ds h Q:=by
 simp only [skipB,Bool.and_eq_true] at hs;obtain ⟨⟨⟨h1,h2⟩,h3⟩,h4⟩:=hs;cases hg:o.guard with
 | none=>rw [hg] at h1;cases h1
 | some q=>
  obtain ⟨i,w⟩:=q;rw [hg] at h1;simp only [Bool.and_eq_true,beq_iff_eq,bne_iff_ne,ne_eq] at h1;obtain ⟨rfl,hne⟩:=h1;cases hj:ops[i]? with
  | none=>rw [hj] at h2;cases h2
  | some oj=>
   cases hd:oj.dst with
   | none=>simp [hj,hd] at h2
   | some e=>
    obtain rfl:e=d:=by simpa [hj,hd] using h2
    exact trL_skip_guard hg hj hd hv h3 hne h4 x
def goB (N:Nat) (ops:Array Oper) (o:Oper) (j d:Nat) (is:Bool):Bool:=(match o.guard with
 | some (i,w)=>i==j && w==is
 | none=>false) && (match ops[j]? with
 | some oj=>(match oj.dst with
  | some e=>e==d
  | none=>false)
 | none=>false) && Nat.blt d N && !isDefer o.op && dstOK o.dst N
theorem Gg (j d:Nat) {is:Bool} (hv:σ d=.bool is) (hs:goB E.N ops o j d is=true) (x:OpK E o σ ds h fun σ' ds' h'=>TrL E ops l σ' ds' h' Q):TrL E ops (o ::l) σ ds h Q:=by
 simp only [goB,Bool.and_eq_true,Bool.not_eq_true'] at hs;obtain ⟨⟨⟨⟨h1,h2⟩,h3⟩,h5⟩,h4⟩:=hs;cases hg:o.guard with
 | none=>rw [hg] at h1;cases h1
 | some q=>
  obtain ⟨i,w⟩:=q;rw [hg] at h1;simp only [Bool.and_eq_true,beq_iff_eq] at h1;obtain ⟨rfl,rfl⟩:=h1;cases hj:ops[i]? with
  | none=>rw [hj] at h2;cases h2
  | some oj=>
   cases hd:oj.dst with
   | none=>simp [hj,hd] at h2
   | some e=>
    obtain rfl:e=d:=by simpa [hj,hd] using h2
    exact trL_opg hg hj hd hv h3 (.inr h5) h4 x
end
section
variable {S:Nat→Prop} {Pre:Nat→GH→Prop} {Φ:List Law2} {cl:List Nat} {k d:Nat} {h h':GH} {σ:Nat→Value} {ds:List Deferred} {v:Value}
theorem fS (p:lawAt2 Φ k (putS σ (some d) v) v h):ds=ds∧St (KeepD S) Pre Φ cl k h h∧∃w,putS σ (some d) v=putS σ (some d) w∧lawAt2 Φ k (putS σ (some d) v) w h∧((some d:Option Nat)=none→w=undef):=
 ⟨rfl,St.same,_,rfl,p,fun e=>by cases e⟩
theorem fT (l:h.Le h') (m:LawsOK2 GH.Le Φ) (p:lawAt2 Φ k (putS σ (some d) v) v h'):ds=ds∧St (KeepD S) (fun _ _=>True) Φ cl k h h'∧∃w,putS σ (some d) v=putS σ (some d) w∧lawAt2 Φ k (putS σ (some d) v) w h'∧((some d:Option Nat)=none→w=undef):=
 ⟨rfl,St.ofLe l m (fun _ _ _ _ _=>trivial),_,rfl,p,fun e=>by cases e⟩
theorem fL {Φ:List Law} (p:lawAt Φ k v h):ds=ds∧GH.Le h h∧∃w,putS σ (some d) v=putS σ (some d) w∧lawAt Φ k w h:=⟨rfl,GH.Le.refl _,_,rfl,p⟩
theorem L1 {R:GH→GH→Prop} {a:Value} (x:LawsOK2 R Φ):LawsOK2 R (lE a ::Φ):=⟨fun _ _ _ _ _ y=>y,x⟩
theorem L2 {R:GH→GH→Prop} {a b:Value} (x:LawsOK2 R Φ):LawsOK2 R (lE a ::lE b ::Φ):=L1 (L1 x)
theorem L4 {R:GH→GH→Prop} {a b c d:Value} (x:LawsOK2 R Φ):LawsOK2 R (lE a ::lE b ::lE c ::lE d ::Φ):=L2 (L2 x)
theorem L8 {R:GH→GH→Prop} {a b c d a' b' c' d':Value} (x:LawsOK2 R Φ):LawsOK2 R (lE a ::lE b ::lE c ::lE d ::lE a' ::lE b' ::lE c' ::lE d' ::Φ):=L4 (L4 x)
theorem K1 {R:GH→GH→Prop} {Φ:List Law} {a:Value} (x:LawsOK R Φ):LawsOK R (lF a ::Φ):=⟨fun _ _ _ _ y=>y,x⟩
theorem K2 {R:GH→GH→Prop} {Φ:List Law} {a b:Value} (x:LawsOK R Φ):LawsOK R (lF a ::lF b ::Φ):=K1 (K1 x)
theorem K4 {R:GH→GH→Prop} {Φ:List Law} {a b c d:Value} (x:LawsOK R Φ):LawsOK R (lF a ::lF b ::lF c ::lF d ::Φ):=K2 (K2 x)
theorem K8 {R:GH→GH→Prop} {Φ:List Law} {a b c d a' b' c' d':Value} (x:LawsOK R Φ):LawsOK R (lF a ::lF b ::lF c ::lF d ::lF a' ::lF b' ::lF c' ::lF d' ::Φ):=K4 (K4 x)
end
theorem Dk {P:Program} {E:Env P} {S:Nat→Prop} {id:Nat} {l:List Oper} {σ:Nat→Value} {ds:List Deferred} {h:GH} {Q:Post} {Φ:List Law2} (_:LawsOK2 GH.Le Φ) (n:Nat) (cls:List (List Nat)) (Pre:Nat→GH→Prop)
  (hm:P.follows .mixedOrders=true) (ok:drawOK2 E.N l n cls=true) (p0:∀k,k<n→Pre k h) (ind:IndepOK l n cls Φ) (x:DrAll2 (KeepD S) Pre E l n Φ σ ds h Q n 0 l cls):Tr E (.region id l.toArray true) σ ds h Q:=
 tr_drawnK n cls Φ Pre hm ok p0 ind x
end Go.Ns
namespace Go.Ns.Fx
open Go.Conc Go.Proofs
theorem app23_23:appOf Tryd.prog 23 23=some (41,5,40):=by kernel_rfl
theorem app24_24:appOf Tryd.prog 24 24=some (71,4,32):=by kernel_rfl
theorem app30_30:appOf Tryd.prog 30 30=some (3,1,8):=by kernel_rfl
theorem app44_44:appOf Tryd.prog 44 44=some (30,1,24):=by kernel_rfl
theorem app94_94:appOf Tryd.prog 94 94=some (87,15,80):=by kernel_rfl
theorem arr130:arrOf Tryd.prog 130=some (4,false,1):=by kernel_rfl
theorem arr85:arrOf Tryd.prog 85=some (6,false,1):=by kernel_rfl
theorem asz121:aszOf Tryd.prog 121=some (5,2):=by kernel_rfl
theorem asz83:aszOf Tryd.prog 83=some (3,1):=by kernel_rfl
theorem asz84:aszOf Tryd.prog 84=some (6,1):=by kernel_rfl
theorem asz85:aszOf Tryd.prog 85=some (6,1):=by kernel_rfl
theorem call10:callable Tryd.f10=true:=by kernel_rfl
theorem call101:callable Tryd.f101=true:=by kernel_rfl
theorem call105:callable Tryd.f105=true:=by kernel_rfl
theorem call106:callable Tryd.f106=true:=by kernel_rfl
theorem call107:callable Tryd.f107=true:=by kernel_rfl
theorem call11:callable Tryd.f11=true:=by kernel_rfl
theorem call13:callable Tryd.f13=true:=by kernel_rfl
theorem call130:callable Tryd.f130=true:=by kernel_rfl
theorem call131:callable Tryd.f131=true:=by kernel_rfl
theorem call132:callable Tryd.f132=true:=by kernel_rfl
theorem call133:callable Tryd.f133=true:=by kernel_rfl
theorem call134:callable Tryd.f134=true:=by kernel_rfl
theorem call135:callable Tryd.f135=true:=by kernel_rfl
theorem call136:callable Tryd.f136=true:=by kernel_rfl
theorem call137:callable Tryd.f137=true:=by kernel_rfl
theorem call138:callable Tryd.f138=true:=by kernel_rfl
theorem call139:callable Tryd.f139=true:=by kernel_rfl
theorem call14:callable Tryd.f14=true:=by kernel_rfl
theorem call140:callable Tryd.f140=true:=by kernel_rfl
theorem call141:callable Tryd.f141=true:=by kernel_rfl
theorem call15:callable Tryd.f15=true:=by kernel_rfl
theorem call16:callable Tryd.f16=true:=by kernel_rfl
theorem call17:callable Tryd.f17=true:=by kernel_rfl
theorem call18:callable Tryd.f18=true:=by kernel_rfl
theorem call19:callable Tryd.f19=true:=by kernel_rfl
theorem call20:callable Tryd.f20=true:=by kernel_rfl
theorem call21:callable Tryd.f21=true:=by kernel_rfl
theorem call22:callable Tryd.f22=true:=by kernel_rfl
theorem call23:callable Tryd.f23=true:=by kernel_rfl
theorem call24:callable Tryd.f24=true:=by kernel_rfl
theorem call25:callable Tryd.f25=true:=by kernel_rfl
theorem call30:callable Tryd.f30=true:=by kernel_rfl
theorem call31:callable Tryd.f31=true:=by kernel_rfl
theorem call32:callable Tryd.f32=true:=by kernel_rfl
theorem call33:callable Tryd.f33=true:=by kernel_rfl
theorem call34:callable Tryd.f34=true:=by kernel_rfl
theorem call35:callable Tryd.f35=true:=by kernel_rfl
theorem call36:callable Tryd.f36=true:=by kernel_rfl
theorem call39:callable Tryd.f39=true:=by kernel_rfl
theorem call40:callable Tryd.f40=true:=by kernel_rfl
theorem call41:callable Tryd.f41=true:=by kernel_rfl
theorem call42:callable Tryd.f42=true:=by kernel_rfl
theorem call43:callable Tryd.f43=true:=by kernel_rfl
theorem call44:callable Tryd.f44=true:=by kernel_rfl
theorem call45:callable Tryd.f45=true:=by kernel_rfl
theorem call46:callable Tryd.f46=true:=by kernel_rfl
theorem call47:callable Tryd.f47=true:=by kernel_rfl
theorem call48:callable Tryd.f48=true:=by kernel_rfl
theorem call49:callable Tryd.f49=true:=by kernel_rfl
theorem call50:callable Tryd.f50=true:=by kernel_rfl
theorem call51:callable Tryd.f51=true:=by kernel_rfl
theorem call52:callable Tryd.f52=true:=by kernel_rfl
theorem call53:callable Tryd.f53=true:=by kernel_rfl
theorem call54:callable Tryd.f54=true:=by kernel_rfl
theorem call55:callable Tryd.f55=true:=by kernel_rfl
theorem call56:callable Tryd.f56=true:=by kernel_rfl
theorem call57:callable Tryd.f57=true:=by kernel_rfl
theorem call58:callable Tryd.f58=true:=by kernel_rfl
theorem call59:callable Tryd.f59=true:=by kernel_rfl
theorem call60:callable Tryd.f60=true:=by kernel_rfl
theorem call61:callable Tryd.f61=true:=by kernel_rfl
theorem call62:callable Tryd.f62=true:=by kernel_rfl
theorem call63:callable Tryd.f63=true:=by kernel_rfl
theorem call64:callable Tryd.f64=true:=by kernel_rfl
theorem call65:callable Tryd.f65=true:=by kernel_rfl
theorem call67:callable Tryd.f67=true:=by kernel_rfl
theorem call68:callable Tryd.f68=true:=by kernel_rfl
theorem call69:callable Tryd.f69=true:=by kernel_rfl
theorem call70:callable Tryd.f70=true:=by kernel_rfl
theorem call71:callable Tryd.f71=true:=by kernel_rfl
theorem call72:callable Tryd.f72=true:=by kernel_rfl
theorem call73:callable Tryd.f73=true:=by kernel_rfl
theorem call74:callable Tryd.f74=true:=by kernel_rfl
theorem call75:callable Tryd.f75=true:=by kernel_rfl
theorem call76:callable Tryd.f76=true:=by kernel_rfl
theorem call77:callable Tryd.f77=true:=by kernel_rfl
theorem call78:callable Tryd.f78=true:=by kernel_rfl
theorem call79:callable Tryd.f79=true:=by kernel_rfl
theorem call80:callable Tryd.f80=true:=by kernel_rfl
theorem call81:callable Tryd.f81=true:=by kernel_rfl
theorem call82:callable Tryd.f82=true:=by kernel_rfl
theorem call83:callable Tryd.f83=true:=by kernel_rfl
theorem call84:callable Tryd.f84=true:=by kernel_rfl
theorem call85:callable Tryd.f85=true:=by kernel_rfl
theorem call86:callable Tryd.f86=true:=by kernel_rfl
theorem call87:callable Tryd.f87=true:=by kernel_rfl
theorem call88:callable Tryd.f88=true:=by kernel_rfl
theorem call89:callable Tryd.f89=true:=by kernel_rfl
theorem call90:callable Tryd.f90=true:=by kernel_rfl
theorem call91:callable Tryd.f91=true:=by kernel_rfl
theorem call92:callable Tryd.f92=true:=by kernel_rfl
theorem call93:callable Tryd.f93=true:=by kernel_rfl
theorem call94:callable Tryd.f94=true:=by kernel_rfl
theorem call95:callable Tryd.f95=true:=by kernel_rfl
theorem eqg39:Tryd.prog.eqGuardType Tryd.prog.depth 39=false:=by kernel_rfl
theorem esz122:eszOf Tryd.prog 122=some 1:=by kernel_rfl
theorem esz22:eszOf Tryd.prog 22=some 5:=by kernel_rfl
theorem esz23:eszOf Tryd.prog 23=some 5:=by kernel_rfl
theorem esz24:eszOf Tryd.prog 24=some 4:=by kernel_rfl
theorem esz27:eszOf Tryd.prog 27=some 1:=by kernel_rfl
theorem esz30:eszOf Tryd.prog 30=some 1:=by kernel_rfl
theorem esz44:eszOf Tryd.prog 44=some 1:=by kernel_rfl
theorem esz50:eszOf Tryd.prog 50=some 1:=by kernel_rfl
theorem esz94:eszOf Tryd.prog 94=some 15:=by kernel_rfl
theorem fld120_1:fldOf Tryd.prog 120 1=some 1:=by kernel_rfl
theorem fld26_0:fldOf Tryd.prog 26 0=some 0:=by kernel_rfl
theorem fld26_1:fldOf Tryd.prog 26 1=some 1:=by kernel_rfl
theorem fld26_2:fldOf Tryd.prog 26 2=some 2:=by kernel_rfl
theorem fld26_3:fldOf Tryd.prog 26 3=some 3:=by kernel_rfl
theorem fld26_4:fldOf Tryd.prog 26 4=some 4:=by kernel_rfl
theorem fld39_0:fldOf Tryd.prog 39 0=some 0:=by kernel_rfl
theorem fld39_1:fldOf Tryd.prog 39 1=some 1:=by kernel_rfl
theorem fld41_0:fldOf Tryd.prog 41 0=some 0:=by kernel_rfl
theorem fld41_1:fldOf Tryd.prog 41 1=some 1:=by kernel_rfl
theorem fld41_2:fldOf Tryd.prog 41 2=some 2:=by kernel_rfl
theorem fld41_3:fldOf Tryd.prog 41 3=some 3:=by kernel_rfl
theorem fld57_0:fldOf Tryd.prog 57 0=some 0:=by kernel_rfl
theorem fld57_1:fldOf Tryd.prog 57 1=some 1:=by kernel_rfl
theorem fld57_2:fldOf Tryd.prog 57 2=some 2:=by kernel_rfl
theorem fld57_3:fldOf Tryd.prog 57 3=some 3:=by kernel_rfl
theorem fld71_0:fldOf Tryd.prog 71 0=some 0:=by kernel_rfl
theorem fld71_1:fldOf Tryd.prog 71 1=some 1:=by kernel_rfl
theorem fld71_2:fldOf Tryd.prog 71 2=some 2:=by kernel_rfl
theorem fld87_0:fldOf Tryd.prog 87 0=some 0:=by kernel_rfl
theorem fld87_1:fldOf Tryd.prog 87 1=some 3:=by kernel_rfl
theorem fld87_2:fldOf Tryd.prog 87 2=some 9:=by kernel_rfl
theorem fld92_0:fldOf Tryd.prog 92 0=some 0:=by kernel_rfl
theorem fld97_0:fldOf Tryd.prog 97 0=some 0:=by kernel_rfl
theorem fld97_1:fldOf Tryd.prog 97 1=some 5:=by kernel_rfl
theorem fld97_2:fldOf Tryd.prog 97 2=some 6:=by kernel_rfl
theorem infs30:(Tryd.prog.info? 30).isSome=true:=by kernel_rfl
theorem infz30:(Tryd.prog.info? 30).map (·.zero)=some (some (.slice none 0 0)):=by kernel_rfl
theorem kind140:kindOf Tryd.prog 140=some .u64:=by kernel_rfl
theorem kind3:kindOf Tryd.prog 3=some .i64:=by kernel_rfl
theorem kind5:kindOf Tryd.prog 5=some .u8:=by kernel_rfl
theorem map117:mapOf Tryd.prog 117=some (3,3):=by kernel_rfl
theorem map95:mapOf Tryd.prog 95=some (127,3):=by kernel_rfl
theorem mck95:∀a:Key,ckP Tryd.prog 3 127 (eKey a)=true:=by intros;kernel_rfl
theorem mcn117:∀a:Int,ckP Tryd.prog 3 3 (eNum a)=true:=by intros;kernel_rfl
theorem men117:∀a b:Int,eqP Tryd.prog 3 3 (eNum a) (eNum b)=some (a==b):=by intros;kernel_rfl
theorem meq95:∀a b:Key,eqP Tryd.prog 3 127 (eKey a) (eKey b)=some (a.1==b.1 && (a.2.1==b.2.1 && (a.2.2==b.2.2 && true))):=by intros;kernel_rfl
theorem mixed:Tryd.prog.follows .mixedOrders=true:=by kernel_rfl
theorem mz117:(Tryd.prog.info? 3).bind (·.zero)=some (.int .i64 0):=by kernel_rfl
theorem mz95:(Tryd.prog.info? 3).bind (·.zero)=some (.int .i64 0):=by kernel_rfl
theorem pl127:placesOf Tryd.prog 127=some [(0,1),(1,1),(2,1)]:=by kernel_rfl
theorem pl26:placesOf Tryd.prog 26=some [(0,1),(1,1),(2,1),(3,1),(4,1)]:=by kernel_rfl
theorem pl39:placesOf Tryd.prog 39=some [(0,1),(1,1)]:=by kernel_rfl
theorem pl41:placesOf Tryd.prog 41=some [(0,1),(1,1),(2,1),(3,2)]:=by kernel_rfl
theorem pl57:placesOf Tryd.prog 57=some [(0,1),(1,1),(2,1),(3,2)]:=by kernel_rfl
theorem pl71:placesOf Tryd.prog 71=some [(0,1),(1,1),(2,2)]:=by kernel_rfl
theorem pl87:placesOf Tryd.prog 87=some [(0,3),(3,6),(9,6)]:=by kernel_rfl
theorem pl92:placesOf Tryd.prog 92=some [(0,5)]:=by kernel_rfl
theorem pl97:placesOf Tryd.prog 97=some [(0,5),(5,1),(6,1)]:=by kernel_rfl
theorem s2b9_50:s2bOf Tryd.prog 9 50=some 5:=by kernel_rfl
theorem sel122:selemOf Tryd.prog 122=some (1,#[.int .i64 0],34):=by kernel_rfl
theorem sel22:selemOf Tryd.prog 22=some (5,#[.string ⟨#[]⟩,.int .i64 0,.int .i64 0,.int .i64 0,.int .i64 0],57):=by kernel_rfl
theorem sel23:selemOf Tryd.prog 23=some (5,#[.int .i64 0,.int .i64 0,.int .i64 0,.int .i64 0,.int .i64 0],41):=by kernel_rfl
theorem sel24:selemOf Tryd.prog 24=some (4,#[.int .i64 0,.int .i64 0,.int .i64 0,.int .i64 0],71):=by kernel_rfl
theorem sel30:selemOf Tryd.prog 30=some (1,#[.int .i64 0],3):=by kernel_rfl
theorem sel44:selemOf Tryd.prog 44=some (1,#[.slice none 0 0],30):=by kernel_rfl
theorem sel94:selemOf Tryd.prog 94=some (15,#[.int .i64 0,.int .i64 0,.int .i64 0,.int .i64 0,.int .i64 0,.int .i64 0,.int .i64 0,.int .i64 0,.int .i64 0,.bool false,.bool false,.bool false,.bool false,.bool false,.bool false],87):=by kernel_rfl
theorem sl122:slOf Tryd.prog 122=true:=by kernel_rfl
theorem sl22:slOf Tryd.prog 22=true:=by kernel_rfl
theorem sl23:slOf Tryd.prog 23=true:=by kernel_rfl
theorem sl24:slOf Tryd.prog 24=true:=by kernel_rfl
theorem sl27:slOf Tryd.prog 27=true:=by kernel_rfl
theorem sl30:slOf Tryd.prog 30=true:=by kernel_rfl
theorem sl44:slOf Tryd.prog 44=true:=by kernel_rfl
theorem sl50:slOf Tryd.prog 50=true:=by kernel_rfl
theorem sl94:slOf Tryd.prog 94=true:=by kernel_rfl
theorem str9:strOf Tryd.prog 9=true:=by kernel_rfl
theorem ty104:tyOf Tryd.prog 104=some (false,1):=by kernel_rfl
theorem ty115:tyOf Tryd.prog 115=some (false,1):=by kernel_rfl
theorem ty118:tyOf Tryd.prog 118=some (false,1):=by kernel_rfl
theorem ty127:tyOf Tryd.prog 127=some (true,3):=by kernel_rfl
theorem ty130:tyOf Tryd.prog 130=some (true,4):=by kernel_rfl
theorem ty131:tyOf Tryd.prog 131=some (false,1):=by kernel_rfl
theorem ty132:tyOf Tryd.prog 132=some (false,1):=by kernel_rfl
theorem ty22:tyOf Tryd.prog 22=some (false,1):=by kernel_rfl
theorem ty23:tyOf Tryd.prog 23=some (false,1):=by kernel_rfl
theorem ty24:tyOf Tryd.prog 24=some (false,1):=by kernel_rfl
theorem ty26:tyOf Tryd.prog 26=some (true,5):=by kernel_rfl
theorem ty3:tyOf Tryd.prog 3=some (false,1):=by kernel_rfl
theorem ty30:tyOf Tryd.prog 30=some (false,1):=by kernel_rfl
theorem ty34:tyOf Tryd.prog 34=some (false,1):=by kernel_rfl
theorem ty37:tyOf Tryd.prog 37=some (false,1):=by kernel_rfl
theorem ty39:tyOf Tryd.prog 39=some (true,2):=by kernel_rfl
theorem ty4:tyOf Tryd.prog 4=some (false,1):=by kernel_rfl
theorem ty41:tyOf Tryd.prog 41=some (true,5):=by kernel_rfl
theorem ty44:tyOf Tryd.prog 44=some (false,1):=by kernel_rfl
theorem ty5:tyOf Tryd.prog 5=some (false,1):=by kernel_rfl
theorem ty57:tyOf Tryd.prog 57=some (true,5):=by kernel_rfl
theorem ty71:tyOf Tryd.prog 71=some (true,4):=by kernel_rfl
theorem ty85:tyOf Tryd.prog 85=some (true,6):=by kernel_rfl
theorem ty87:tyOf Tryd.prog 87=some (true,15):=by kernel_rfl
theorem ty9:tyOf Tryd.prog 9=some (false,1):=by kernel_rfl
theorem ty92:tyOf Tryd.prog 92=some (true,5):=by kernel_rfl
theorem ty94:tyOf Tryd.prog 94=some (false,1):=by kernel_rfl
theorem ty95:tyOf Tryd.prog 95=some (false,1):=by kernel_rfl
theorem ty97:tyOf Tryd.prog 97=some (true,7):=by kernel_rfl
theorem und118:(Tryd.prog.underlying 118).isSome=true:=by kernel_rfl
theorem und156:(Tryd.prog.underlying 156).isSome=true:=by kernel_rfl
theorem und3:(Tryd.prog.underlying 3).isSome=true:=by kernel_rfl
theorem und5:(Tryd.prog.underlying 5).isSome=true:=by kernel_rfl
theorem und_chan115:Tryd.prog.underlying 115=some (.chan .both 30):=by kernel_rfl
theorem zero115:zeroOf Tryd.prog 115=some #[.chan none]:=by kernel_rfl
theorem zero127:zeroOf Tryd.prog 127=some #[.int .i64 0,.int .i64 0,.int .i64 0]:=by kernel_rfl
theorem zero132:zeroOf Tryd.prog 132=some #[.nilFunc]:=by kernel_rfl
theorem zero26:zeroOf Tryd.prog 26=some #[.int .i64 0,.int .i64 0,.slice none 0 0,.slice none 0 0,.slice none 0 0]:=by kernel_rfl
theorem zero3:zeroOf Tryd.prog 3=some #[.int .i64 0]:=by kernel_rfl
theorem zero30:zeroOf Tryd.prog 30=some #[.slice none 0 0]:=by kernel_rfl
theorem zero34:zeroOf Tryd.prog 34=some #[.int .i64 0]:=by kernel_rfl
theorem zero39:zeroOf Tryd.prog 39=some #[.int .i64 0,.int .i64 0]:=by kernel_rfl
theorem zero4:zeroOf Tryd.prog 4=some #[.bool false]:=by kernel_rfl
theorem zero41:zeroOf Tryd.prog 41=some #[.int .i64 0,.int .i64 0,.int .i64 0,.int .i64 0,.int .i64 0]:=by kernel_rfl
theorem zero44:zeroOf Tryd.prog 44=some #[.slice none 0 0]:=by kernel_rfl
theorem zero57:zeroOf Tryd.prog 57=some #[.string ⟨#[]⟩,.int .i64 0,.int .i64 0,.int .i64 0,.int .i64 0]:=by kernel_rfl
theorem zero71:zeroOf Tryd.prog 71=some #[.int .i64 0,.int .i64 0,.int .i64 0,.int .i64 0]:=by kernel_rfl
theorem zero87:zeroOf Tryd.prog 87=some #[.int .i64 0,.int .i64 0,.int .i64 0,.int .i64 0,.int .i64 0,.int .i64 0,.int .i64 0,.int .i64 0,.int .i64 0,.bool false,.bool false,.bool false,.bool false,.bool false,.bool false]:=by kernel_rfl
theorem zero92:zeroOf Tryd.prog 92=some #[.int .i64 0,.int .i64 0,.slice none 0 0,.slice none 0 0,.slice none 0 0]:=by kernel_rfl
theorem zero94:zeroOf Tryd.prog 94=some #[.slice none 0 0]:=by kernel_rfl
theorem zero97:zeroOf Tryd.prog 97=some #[.int .i64 0,.int .i64 0,.slice none 0 0,.slice none 0 0,.slice none 0 0,.slice none 0 0,.map none]:=by kernel_rfl
end Go.Ns.Fx
namespace Go.Ns
open Go.Conc Go.Proofs
attribute [local irreducible] OpK TrL Tr CallK ValK RoundK
theorem inside_spec {W:Wk Tryd.prog} {h:GH} (n:Int) (lo:Int) (hi:Int):CallK W 46 #[.int .i64 n,.int .i64 lo,.int .i64 hi] h (fun v h'=>v=(.bool (decide (lo≤n∧n≤hi)):Value)∧h=h'):=by
 refine call_of_tr Tryd.func46 Z (Nb Z) ?_;refine Sq (Rg ?_);refine As (.bool false) Z Z ?_;refine Nl ?_;refine tr_seq_mid (fun σ' ds' h'=>ds'=[]∧h=h'∧σ' 6=.bool (decide ((lo≤n)∧(n≤hi)))) ?_ ?_
 ·refine Rg ?_;refine Mv (.int .i64 lo) Z Z ?_;refine Mv (.int .i64 n) Z Z ?_;refine Pl Z (ok_leq (a:=lo) (b:=n) Z Z ?_);refine Mv (.bool (decide (lo≤n))) Z Z ?_;refine trL_case (p:=lo≤n) ?_ ?_
  ·intro aa;refine Gg 3 10 (bool_t Z aa) Z (ok_move (v:=.int .i64 n) Z ?_);refine Gg 3 10 (bool_t Z aa) Z (ok_move (v:=.int .i64 hi) Z ?_);refine Gg 3 10 (bool_t Z aa) Z (ok_leq (a:=n) (b:=hi) Z Z ?_);refine Pk true (.bool (decide (n≤hi))) Z (bool_t Z aa) Z ?_;refine As (.bool (decide (n≤hi))) Z Z ?_;refine Nl ?_;exact ⟨Z,Z,Et (b:=(.bool (decide (n≤hi)):Value)) Z (congrArg Value.bool (by (simp [aa];done):decide (n≤hi)=decide ((lo≤n)∧(n≤hi))))⟩
  ·intro aa;refine Gs 3 10 (bool_f Z aa) Z ?_;refine Gs 3 10 (bool_f Z aa) Z ?_;refine Gs 3 10 (bool_f Z aa) Z ?_;refine Pk false (.bool false) Z (bool_f Z aa) Z ?_;refine As (.bool false) Z Z ?_;refine Nl ?_;exact ⟨Z,Z,Et (b:=(.bool false:Value)) Z (congrArg Value.bool (by (simp [aa];done):false=decide ((lo≤n)∧(n≤hi))))⟩
 ·rintro _ _ _ ⟨ac,ab,ad⟩;subst ac;subst ab;refine Rt ?_;refine ⟨.inr Z,outs1 Z (v:=.bool (decide ((lo≤n)∧(n≤hi)))) ad ?_⟩;exact ⟨(by rfl),Z⟩
theorem spans_spec {W:Wk Tryd.prog} {h:GH} (xl:Int) (xh:Int) (lo:Int) (hi:Int):CallK W 140 #[.agg #[.int .i64 xl,.int .i64 xh],.int .i64 lo,.int .i64 hi] h (fun v h'=>v=(.bool (decide ((lo≤xl∧xl≤xh)∧xh≤hi)):Value)∧h.Le h'):=by
 refine call_of_tr Tryd.func140 Z (Nb Z) ?_;refine Sq (Rg ?_);refine Pl Z (ok_box' (v:=.agg #[.int .i64 xl,.int .i64 xh]) (c:=#[.int .i64 xl,.int .i64 xh]) Z Z fun _ h2 _ ae ad _=>?_);refine As (.bool false) Z Z ?_;refine Nl ?_;refine tr_seq_mid (fun σ' ds' h'=>ds'=[]∧h2=h'∧σ' 6=.bool (decide (((lo≤xl)∧(xl≤xh))∧(xh≤hi)))) ?_ ?_
 ·refine Rg ?_;refine Mv (.int .i64 lo) Z Z ?_;refine Fa Fx.fld39_0 Z Z ?_;refine Ld (.int .i64 xl) Z Z (Rd.one Fx.ty3 ad Z) ?_;refine Pl Z (ok_leq (a:=lo) (b:=xl) Z Z ?_);refine Mv (.bool (decide (lo≤xl))) Z Z ?_;refine trL_case (p:=lo≤xl) ?_ ?_
  ·intro aa;refine Gg 4 11 (bool_t Z aa) Z (ok_fieldAddr Fx.fld39_0 Z ?_);refine Gg 4 11 (bool_t Z aa) Z (ok_load (v:=.int .i64 xl) Z (Rd.one Fx.ty3 ad Z) ?_);refine Gg 4 11 (bool_t Z aa) Z (ok_fieldAddr Fx.fld39_1 Z ?_);refine Gg 4 11 (bool_t Z aa) Z (ok_load (v:=.int .i64 xh) Z (Rd.one Fx.ty3 ad Z) ?_);refine Gg 4 11 (bool_t Z aa) Z (ok_leq (a:=xl) (b:=xh) Z Z ?_);refine Pk true (.bool (decide (xl≤xh))) Z (bool_t Z aa) Z ?_;refine Mv (.bool (decide (xl≤xh))) Z Z ?_;refine trL_case (p:=xl≤xh) ?_ ?_
   ·intro ab;refine Gg 11 18 (bool_t Z ab) Z (ok_fieldAddr Fx.fld39_1 Z ?_);refine Gg 11 18 (bool_t Z ab) Z (ok_load (v:=.int .i64 xh) Z (Rd.one Fx.ty3 ad Z) ?_);refine Gg 11 18 (bool_t Z ab) Z (ok_move (v:=.int .i64 hi) Z ?_);refine Gg 11 18 (bool_t Z ab) Z (ok_leq (a:=xh) (b:=hi) Z Z ?_);refine Pk true (.bool (decide (xh≤hi))) Z (bool_t Z ab) Z ?_;refine As (.bool (decide (xh≤hi))) Z Z ?_;refine Nl ?_;exact ⟨Z,Z,Et (b:=(.bool (decide (xh≤hi)):Value)) Z (congrArg Value.bool (by (simp [aa,ab];done):decide (xh≤hi)=decide (((lo≤xl)∧(xl≤xh))∧(xh≤hi))))⟩
   ·intro ab;refine Gs 11 18 (bool_f Z ab) Z ?_;refine Gs 11 18 (bool_f Z ab) Z ?_;refine Gs 11 18 (bool_f Z ab) Z ?_;refine Gs 11 18 (bool_f Z ab) Z ?_;refine Pk false (.bool false) Z (bool_f Z ab) Z ?_;refine As (.bool false) Z Z ?_;refine Nl ?_;exact ⟨Z,Z,Et (b:=(.bool false:Value)) Z (congrArg Value.bool (by (simp [aa,ab];done):false=decide (((lo≤xl)∧(xl≤xh))∧(xh≤hi))))⟩
  ·intro aa;refine Gs 4 11 (bool_f Z aa) Z ?_;refine Gs 4 11 (bool_f Z aa) Z ?_;refine Gs 4 11 (bool_f Z aa) Z ?_;refine Gs 4 11 (bool_f Z aa) Z ?_;refine Gs 4 11 (bool_f Z aa) Z ?_;refine Pk false (.bool false) Z (bool_f Z aa) Z ?_;refine Mv (.bool false) Z Z ?_;refine Gs 11 18 Z Z ?_;refine Gs 11 18 Z Z ?_;refine Gs 11 18 Z Z ?_;refine Gs 11 18 Z Z ?_;refine Pk false (.bool false) Z Z Z ?_;refine As (.bool false) Z Z ?_;refine Nl ?_;exact ⟨Z,Z,Et (b:=(.bool false:Value)) Z (congrArg Value.bool (by (simp [aa];done):false=decide (((lo≤xl)∧(xl≤xh))∧(xh≤hi))))⟩
 ·rintro _ _ _ ⟨af,ac,ag⟩;subst af;subst ac;refine Rt ?_;refine ⟨.inr Z,outs1 Z (v:=.bool (decide (((lo≤xl)∧(xl≤xh))∧(xh≤hi)))) ag ?_⟩;exact ⟨(by rfl),ae⟩
theorem few_spec {W:Wk Tryd.prog} {h:GH} (xl:Int) (xh:Int):CallK W 139 #[.agg #[.int .i64 xl,.int .i64 xh]] h (fun v h'=>v=(.bool (decide (isFew xl xh)):Value)∧h.Le h'):=by
 refine call_of_tr Tryd.func139 Z (Nb Z) ?_;refine Sq (Rg ?_);refine Pl Z (ok_box' (v:=.agg #[.int .i64 xl,.int .i64 xh]) (c:=#[.int .i64 xl,.int .i64 xh]) Z Z fun _ h2 _ ae ah _=>?_);refine As (.bool false) Z Z ?_;refine Nl ?_;refine tr_seq_mid (fun σ' ds' h'=>ds'=[]∧GH.Le h2 h'∧σ' 2=.bool (decide (((0≤xl∧xl≤xh)∧xh≤99)∧((xh-xl)<3)))) ?_ ?_
 ·refine Rg ?_;refine Ld (.agg #[.int .i64 xl,.int .i64 xh]) Z Z (rd_agg0 Fx.ty39 (Bx ah Z)) ?_;refine Pl Z (ok_call3 Tryd.func140 Fx.call140 Z Z Z ((spans_spec xl xh 0 99 ).mono fun _ _ ai=>?_));obtain ⟨rfl,ab⟩:=ai;refine Mv (.bool (decide ((0≤xl∧xl≤xh)∧xh≤99))) Z Z ?_;refine trL_case (p:=(0≤xl∧xl≤xh)∧xh≤99) ?_ ?_
  ·intro aa;refine Gg 2 5 (bool_t Z aa) Z (ok_fieldAddr Fx.fld39_1 Z ?_);have ac:=ab.keep ah Z;refine Gg 2 5 (bool_t Z aa) Z (ok_load (v:=.int .i64 xh) Z (Rd.one Fx.ty3 ac Z) ?_);refine Gg 2 5 (bool_t Z aa) Z (ok_fieldAddr Fx.fld39_0 Z ?_);refine Gg 2 5 (bool_t Z aa) Z (ok_load (v:=.int .i64 xl) Z (Rd.one Fx.ty3 ac Z) ?_);refine Gg 2 5 (bool_t Z aa) Z (ok_sub (a:=xh) (b:=xl) Z Z (by omega) ?_);refine Gg 2 5 (bool_t Z aa) Z (ok_lss (a:=xh-xl) (b:=3) Z Z ?_);refine Pk true (.bool (decide ((xh-xl)<3))) Z (bool_t Z aa) Z ?_;refine As (.bool (decide ((xh-xl)<3))) Z Z ?_;refine Nl ?_;exact ⟨Z,ab,Et (b:=(.bool (decide ((xh-xl)<3)):Value)) Z (congrArg Value.bool (by (simp [aa];done):decide ((xh-xl)<3)=decide (((0≤xl∧xl≤xh)∧xh≤99)∧((xh-xl)<3))))⟩
  ·intro aa;refine Gs 2 5 (bool_f Z aa) Z ?_;refine Gs 2 5 (bool_f Z aa) Z ?_;refine Gs 2 5 (bool_f Z aa) Z ?_;refine Gs 2 5 (bool_f Z aa) Z ?_;refine Gs 2 5 (bool_f Z aa) Z ?_;refine Gs 2 5 (bool_f Z aa) Z ?_;refine Pk false (.bool false) Z (bool_f Z aa) Z ?_;refine As (.bool false) Z Z ?_;refine Nl ?_;exact ⟨Z,ab,Et (b:=(.bool false:Value)) Z (congrArg Value.bool (by (simp [aa];done):false=decide (((0≤xl∧xl≤xh)∧xh≤99)∧((xh-xl)<3))))⟩
 ·rintro _ _ _ ⟨af,ad,ag⟩;subst af;refine Rt ?_;refine ⟨.inr Z,outs1 Z (v:=.bool (decide (((0≤xl∧xl≤xh)∧xh≤99)∧((xh-xl)<3)))) ag ?_⟩;exact ⟨(by rfl),(ae.trans ad)⟩
theorem missing_spec {W:Wk Tryd.prog} {h:GH} (b:Bool):CallK W 43 #[.bool b] h (fun v h'=>v=(.int .i64 (if b then (0:Int) else 6):Value)∧h=h'):=by
 refine call_of_tr Tryd.func43 Z (Nb Z) ?_;refine Sq (Rg ?_);refine As (.int .i64 0) Z Z ?_;refine Nl (Sq (Sq (Rg ?_)));refine Mv (.bool b) Z Z ?_;refine Pl Z (ok_not (b:=b) Z ?_);refine Nl ?_;refine tr_ifb (t:= !b) Z (fun aa=>?_) (fun aa=>?_)
 ·have hc1_:b=false:=by simpa using aa
  refine Sq (Rg ?_);refine As (.int .i64 6) Z Z ?_;refine Nl (Rt ?_);refine ⟨.inr Z,outs1 Z (v:=.int .i64 6) Z ?_⟩;exact ⟨(by simp_all),Z⟩
 ·have hc1_:b=true:=by simpa using aa
  refine Sk (Sq (Rg ?_));refine As (.int .i64 0) Z Z ?_;refine Nl (Rt ?_);refine ⟨.inr Z,outs1 Z (v:=.int .i64 0) Z ?_⟩;exact ⟨(by simp_all),Z⟩
theorem bound_spec {W:Wk Tryd.prog} {h:GH} (b:Bool):CallK W 45 #[.bool b] h (fun v h'=>v=(.int .i64 (if b then (0:Int) else 1):Value)∧h=h'):=by
 refine call_of_tr Tryd.func45 Z (Nb Z) ?_;refine Sq (Rg ?_);refine As (.int .i64 0) Z Z ?_;refine Nl (Sq (Sq (Rg ?_)));refine Mv (.bool b) Z Z ?_;refine Pl Z (ok_not (b:=b) Z ?_);refine Nl ?_;refine tr_ifb (t:= !b) Z (fun aa=>?_) (fun aa=>?_)
 ·have hc1_:b=false:=by simpa using aa
  refine Sq (Rg ?_);refine As (.int .i64 1) Z Z ?_;refine Nl (Rt ?_);refine ⟨.inr Z,outs1 Z (v:=.int .i64 1) Z ?_⟩;exact ⟨(by simp_all),Z⟩
 ·have hc1_:b=true:=by simpa using aa
  refine Sk (Sq (Rg ?_));refine As (.int .i64 0) Z Z ?_;refine Nl (Rt ?_);refine ⟨.inr Z,outs1 Z (v:=.int .i64 0) Z ?_⟩;exact ⟨(by simp_all),Z⟩
theorem isGood_spec {W:Wk Tryd.prog} {h:GH} (d:Int) (m:Int) (gs:List Good) (gsv:Value) (ms:List Move) (msv:Value) (cs:List Count) (csv:Value) (n:Int) (hgs:SlIs h gsv 5 eGood gs) (hms:SlIs h msv 5 eMove ms) (hcs:SlIs h csv 4 eCount cs):CallK W 44 #[.agg #[.int .i64 d,.int .i64 m,gsv,msv,csv],.int .i64 n] h (fun v h'=>v=(.bool (decide (0≤n∧n≤(gs.length:Int)-1)):Value)∧h.Le h'):=by
 have ab:=hgs.len;have ac:=hms.len;have ad:=hcs.len;refine call_of_tr Tryd.func44 Z (Nb Z) ?_;refine Sq (Rg ?_);refine Pl Z (ok_box' (v:=.agg #[.int .i64 d,.int .i64 m,gsv,msv,csv]) (c:=#[.int .i64 d,.int .i64 m,gsv,msv,csv]) Z Z fun _ _ _ aa af _=>?_);refine As (.bool false) Z Z ?_;refine Nl (Sq (Rg ?_));refine Mv (.int .i64 n) Z Z ?_;refine Fa Fx.fld92_0 Z Z ?_;refine Fa Fx.fld26_2 Z Z ?_;refine Ld gsv Z Z (Rd.one Fx.ty22 af Z) ?_;refine Pl Z (ok_lenSl Fx.sl22 (hgs.le aa) Z ?_);refine Pl Z (ok_sub (a:=(gs.length:Int)) (b:=1) Z Z (by omega) ?_);refine Pl Z (ok_call3 Tryd.func46 Fx.call46 Z Z Z ((inside_spec n 0 ((gs.length:Int)-1) ).mono fun _ _ ae=>?_));obtain ⟨rfl,rfl⟩:=ae;refine As (.bool (decide (0≤n∧n≤((gs.length:Int)-1)))) Z Z ?_;refine Nl (Rt ?_);refine ⟨.inr Z,outs1 Z (v:=.bool (decide (0≤n∧n≤((gs.length:Int)-1)))) Z ?_⟩;exact ⟨(by rfl),aa⟩
theorem isMove_spec {W:Wk Tryd.prog} {h:GH} (d:Int) (m:Int) (gs:List Good) (gsv:Value) (ms:List Move) (msv:Value) (cs:List Count) (csv:Value) (n:Int) (hgs:SlIs h gsv 5 eGood gs) (hms:SlIs h msv 5 eMove ms) (hcs:SlIs h csv 4 eCount cs):CallK W 71 #[.agg #[.int .i64 d,.int .i64 m,gsv,msv,csv],.int .i64 n] h (fun v h'=>v=(.bool (decide (0≤n∧n≤(ms.length:Int)-1)):Value)∧h.Le h'):=by
 have ab:=hgs.len;have ac:=hms.len;have ad:=hcs.len;refine call_of_tr Tryd.func71 Z (Nb Z) ?_;refine Sq (Rg ?_);refine Pl Z (ok_box' (v:=.agg #[.int .i64 d,.int .i64 m,gsv,msv,csv]) (c:=#[.int .i64 d,.int .i64 m,gsv,msv,csv]) Z Z fun _ _ _ aa af _=>?_);refine As (.bool false) Z Z ?_;refine Nl (Sq (Rg ?_));refine Mv (.int .i64 n) Z Z ?_;refine Fa Fx.fld92_0 Z Z ?_;refine Fa Fx.fld26_3 Z Z ?_;refine Ld msv Z Z (Rd.one Fx.ty23 af Z) ?_;refine Pl Z (ok_lenSl Fx.sl23 (hms.le aa) Z ?_);refine Pl Z (ok_sub (a:=(ms.length:Int)) (b:=1) Z Z (by omega) ?_);refine Pl Z (ok_call3 Tryd.func46 Fx.call46 Z Z Z ((inside_spec n 0 ((ms.length:Int)-1) ).mono fun _ _ ae=>?_));obtain ⟨rfl,rfl⟩:=ae;refine As (.bool (decide (0≤n∧n≤((ms.length:Int)-1)))) Z Z ?_;refine Nl (Rt ?_);refine ⟨.inr Z,outs1 Z (v:=.bool (decide (0≤n∧n≤((ms.length:Int)-1)))) Z ?_⟩;exact ⟨(by rfl),aa⟩
theorem real_spec {W:Wk Tryd.prog} {h:GH} (p:Past) (i:Int) (hi0:0≤i) (hi1:i<6):CallK W 50 #[.agg (ePast p),.int .i64 i] h (fun v h'=>v=(.int .i64 (realOf p ((i).toNat)):Value)∧h.Le h'):=by
 refine call_of_tr Tryd.func50 Z (Nb Z) ?_;refine Sq (Rg ?_);refine Pl Z (ok_box' (v:=.agg (ePast p)) (c:=ePast p) Z Z fun _ _ _ aa ad _=>?_);refine As (.int .i64 0) Z Z ?_;refine Nl (Sq (Sq (Rg ?_)));refine Mv (.int .i64 i) Z Z ?_;refine Fa Fx.fld87_2 Z Z ?_;have ae:(0:Int)≤i:=by omega
 have af:i<((6:Nat):Int):=by omega
 refine Pl Z (ok_indexArr Fx.asz85 Z Z ae af ?_);refine Ld (.bool (p.lies (i.toNat))) Z Z (Rd.one Fx.ty4 ad (ePast_lies (i:=i.toNat) (by omega))) ?_;refine Nl ?_;refine tr_ifb (t:=p.lies (i.toNat)) Z (fun ag=>?_) (fun ag=>?_)
 ·refine Sq (Rg ?_);refine As (.int .i64 0) Z Z ?_;refine Nl (Rt ?_);refine ⟨.inr Z,outs1 Z (v:=.int .i64 0) Z ?_⟩;exact ⟨(by simp_all [realOf]),aa⟩
 ·refine Sk (Sq (Rg ?_));refine Mv (.int .i64 i) Z Z ?_;refine Fa Fx.fld87_1 Z Z ?_;have ab:(0:Int)≤i:=by omega
  have ac:i<((6:Nat):Int):=by omega
  refine Pl Z (ok_indexArr Fx.asz84 Z Z ab ac ?_);refine Ld (.int .i64 (p.many (i.toNat))) Z Z (Rd.one Fx.ty3 ad (ePast_many (i:=i.toNat) (by omega))) ?_;refine As (.int .i64 (p.many (i.toNat))) Z Z ?_;refine Nl (Rt ?_);refine ⟨.inr Z,outs1 Z (v:=.int .i64 (p.many (i.toNat))) Z ?_⟩;exact ⟨(by simp_all [realOf]),aa⟩
theorem lying_spec {W:Wk Tryd.prog} {h:GH} (p:Past):CallK W 82 #[.agg (ePast p)] h (fun v h'=>v=(.int .i64 (lyingTo p 6:Int):Value)∧h.Le h'):=by
 refine call_of_tr Tryd.func82 Z (Nb Z) ?_;refine Sq (Rg ?_);refine Pl Z (ok_box' (v:=.agg (ePast p)) (c:=ePast p) Z Z fun _ h2 _ ab al _=>?_);refine As (.int .i64 0) Z Z ?_;refine Nl (Sq (Rg ?_));refine As (.int .i64 0) Z Z ?_;refine Nl (Sq (Sq (Rg ?_)));refine Fa Fx.fld87_2 Z Z ?_;refine Ld (.agg #[.bool (p.lies 0),.bool (p.lies 1),.bool (p.lies 2),.bool (p.lies 3),.bool (p.lies 4),.bool (p.lies 5)]) Z Z (rd_agg (o:=9) (ws:=#[.bool (p.lies 0),.bool (p.lies 1),.bool (p.lies 2),.bool (p.lies 3),.bool (p.lies 4),.bool (p.lies 5)]) Fx.ty85 (Bx al Z) (Nb Z) Z) ?_;refine Mv (.int .i64 0) Z Z ?_;refine Nl (Bk ?_);refine tr_loop (fun nn σ' ds' h'=>∃(k:Nat),nn=6-k∧(k≤6)∧ds'=[]∧GH.Le h2 h'∧σ' 2=.int .i64 0∧σ' 7=.agg #[.bool (p.lies 0),.bool (p.lies 1),.bool (p.lies 2),.bool (p.lies 3),.bool (p.lies 4),.bool (p.lies 5)]∧σ' 3=.int .i64 (lyingTo p k:Int)∧σ' 8=.int .i64 (k:Int)) ⟨0,Z,(by omega),Z,Lr,Z,Z,Z,Z⟩ (fun nn _ _ _ ac=>?_);obtain ⟨k,rfl,hk,am,ad,ak,ae,af,aa⟩:=ac;subst am;have hly:=lyingTo_le p k;refine Sq (Rg ?_);refine Pl Z (ok_lss (a:=(k:Int)) (b:=6) aa Z ?_);refine Nl (Sq ?_);refine tr_if (p:=(k:Int)<6) Z (fun ag=>?_) (fun ag=>?_)
 ·refine Sk (Sq (Bk (Sq (Rg ?_))));have ah:(0:Int)≤(k:Int):=by omega
  have ai:(k:Int)<((6:Nat):Int):=by omega
  refine Pl Z (ok_indexA Fx.arr85 ae aa ah ai (ePast_lies6 (by omega)) ?_);refine As (.bool (p.lies k)) Z Z ?_;refine Nl (Sq (Rg ?_));refine Mv (.bool (p.lies k)) Z Z ?_;refine Nl ?_;refine tr_ifb (t:=p.lies k) Z (fun aj=>?_) (fun aj=>?_)
  ·refine Rg ?_;refine Mv (.int .i64 (lyingTo p k:Int)) Z af ?_;refine Ad (lyingTo p k:Int) 1 Z Z Z (by omega) ?_;refine As (.int .i64 ((lyingTo p k:Int)+1)) Z Z ?_;refine Nl (Rg ?_);refine Ad (k:Int) 1 Z aa Z (by omega) ?_;refine Mv (.int .i64 ((k:Int)+1)) Z Z ?_;refine Nl ?_;exact ⟨_,by omega,k+1,Z,(by omega),Z,ad,ak,ae,(Et (b:=(.int .i64 ((lyingTo p k:Int)+1):Value)) Z (by congr 1;simp_all [lyingTo])),Z⟩
  ·refine Sk (Rg ?_);refine Ad (k:Int) 1 Z aa Z (by omega) ?_;refine Mv (.int .i64 ((k:Int)+1)) Z Z ?_;refine Nl ?_;exact ⟨_,by omega,k+1,Z,(by omega),Z,ad,ak,ae,(Et (b:=(.int .i64 (lyingTo p k:Int):Value)) af (by congr 1;simp_all [lyingTo])),Z⟩
 ·refine Xt (Sq (Rg ?_));refine Mv (.int .i64 (lyingTo p k:Int)) Z af ?_;refine As (.int .i64 (lyingTo p k:Int)) Z Z ?_;refine Nl (Rt ?_);refine ⟨.inr Z,outs1 Z (v:=.int .i64 (lyingTo p k:Int)) Z ?_⟩;exact ⟨(by obtain rfl:k=6:=(by omega);rfl),(ab.trans ad)⟩
theorem sameList_spec {W:Wk Tryd.prog} {h:GH} (a:List Int) (av:Value) (b:List Int) (bv:Value) (ha:SlIs h av 1 eI a) (hb:SlIs h bv 1 eI b):CallK W 41 #[av,bv] h (fun v h'=>v=(.bool (decide (a=b)):Value)∧h.Le h'):=by
 have ao:=ha.len;have ap:=hb.len;refine call_of_tr Tryd.func41 Z (Nb Z) ?_;refine Sq (Rg ?_);refine As (.bool false) Z Z ?_;refine Nl (Sq (Sq (Rg ?_)));refine Mv av Z Z ?_;refine Pl Z (ok_lenSl Fx.sl30 ha Z ?_);refine Mv bv Z Z ?_;refine Pl Z (ok_lenSl Fx.sl30 hb Z ?_);refine Pl Z (ok_neq (a:=(a.length:Int)) (b:=(b.length:Int)) Z Z ?_);refine Nl ?_;refine tr_if (p:=¬(a.length:Int)=(b.length:Int)) Z (fun bk=>?_) (fun bk=>?_)
 ·refine Sq (Rg ?_);refine As (.bool false) Z Z ?_;refine Nl (Rt ?_);refine ⟨.inr Z,outs1 Z (v:=.bool false) Z ?_⟩;exact ⟨(by (rw [decide_eq_false (ne_len (by omega))];done)),Lr⟩
 ·refine Sk (Sq (Sq (Rg ?_)));refine As (.int .i64 0) Z Z ?_;refine Nl (Bk ?_);refine tr_loop (fun nn σ' ds' h'=>∃(k:Nat),nn=a.length-k∧(k≤a.length)∧(a.take k=b.take k)∧ds'=[]∧GH.Le h h'∧σ' 0=av∧σ' 1=bv∧σ' 5=.int .i64 (k:Int)) ⟨0,Z,(by omega),(by rfl),Z,Lr,Z,Z,Z⟩ (fun nn _ _ _ bl=>?_);obtain ⟨k,rfl,hk,hs,x8,x9,aq,bh,al⟩:=bl;subst x8;refine Sq (Sq (Rg ?_));refine Mv (.int .i64 (k:Int)) Z al ?_;refine Mv av Z aq ?_;refine Pl Z (ok_lenSl Fx.sl30 (ha.le x9) Z ?_);refine Pl Z (ok_lss (a:=(k:Int)) (b:=(a.length:Int)) Z Z ?_);refine Nl ?_;refine tr_if (p:=(k:Int)<(a.length:Int)) Z (fun ar=>?_) (fun ar=>?_)
  ·refine Sk (Sq (Bk (Sq ?_)));refine tr_drawnLe 8 [[],[],[0,1],[0,1,2],[],[],[4,5],[4,5,6]] [(lF av),(lF (.int .i64 (k:Int))),(fun v h=>∃(am:Nat) (aa:Nat),v=(.pointer (some ⟨am,aa,none⟩):Value)∧Elem h am aa 1 #[.int .i64 (a.getD k 0)]),(lF (.int .i64 (a.getD k 0))),(lF bv),(lF (.int .i64 (k:Int))),(fun v h=>∃(an:Nat) (ab:Nat),v=(.pointer (some ⟨an,ab,none⟩):Value)∧Elem h an ab 1 #[.int .i64 (b.getD k 0)]),(lF (.int .i64 (b.getD k 0)))] Fx.mixed (by kernel_rfl) (K2 ⟨(fun _ _ _ l ⟨am,aa,e,f0⟩=>⟨am,aa,e,f0.le l⟩),K2 (K1 ⟨(fun _ _ _ l ⟨an,ab,e,f0⟩=>⟨an,ab,e,f0.le l⟩),K1 trivial⟩)⟩) ⟨?_,?_,?_,?_,?_,?_,?_,?_,?_⟩
   ·intro _ _ _ au _ _;refine (ok_move (v:=av) (Et (au 0 Z) aq) ?_);exact fL Z
   ·intro _ _ _ aw _ _;refine (ok_move (v:=.int .i64 (k:Int)) (Et (aw 5 Z) al) ?_);exact fL Z
   ·intro _ _ ag _ ax _;obtain ⟨bm,bn,_⟩:=ax;have ay:(0:Int)≤(k:Int):=by omega
    have az:(k:Int)<((a.length:Nat):Int):=by omega
    refine (ok_indexS0 Fx.esz30 ha (bm trivial) (bn trivial) ay az fun bi ae a0=>?_);have a1:Elem _ bi ae 1 (eI (a.getD k 0)):=Elem.getD 0 a0;exact fL ⟨bi,ae,Z,(a1.le (x9.trans ag))⟩
   ·intro _ _ _ _ a2 _;obtain ⟨_,_,bo,_⟩:=a2;obtain ⟨_,_,bp,bq⟩:=bo trivial;refine (ok_load (v:=.int .i64 (a.getD k 0)) bp (rd_one0 Fx.ty3 bq Z) ?_);exact fL Z
   ·intro _ _ _ a3 _ _;refine (ok_move (v:=bv) (Et (a3 1 Z) bh) ?_);exact fL Z
   ·intro _ _ _ a4 _ _;refine (ok_move (v:=.int .i64 (k:Int)) (Et (a4 5 Z) al) ?_);exact fL Z
   ·intro _ _ ah _ a5 _;obtain ⟨br,bs,_⟩:=a5;have a6:(0:Int)≤(k:Int):=by omega
    have a7:(k:Int)<((b.length:Nat):Int):=by omega
    refine (ok_indexS0 Fx.esz30 hb (br trivial) (bs trivial) a6 a7 fun bj af a8=>?_);have a9:Elem _ bj af 1 (eI (b.getD k 0)):=Elem.getD 0 a8;exact fL ⟨bj,af,Z,(a9.le (x9.trans ah))⟩
   ·intro _ _ _ _ ba _;obtain ⟨_,_,bt,_⟩:=ba;obtain ⟨_,_,bb,bc⟩:=bt trivial;refine (ok_load (v:=.int .i64 (b.getD k 0)) bb (rd_one0 Fx.ty3 bc Z) ?_);exact fL Z
   ·intro _ _ ac ad ai;obtain ⟨_,_,bd,be,_,_,bf,bg,_⟩:=ai;obtain ⟨_,_⟩:=bd trivial;obtain ⟨_,_⟩:=bf trivial;refine Pl Z (ok_neq (a:=a.getD k 0) (b:=b.getD k 0) (be trivial) (bg trivial) ?_);refine Nl ?_;refine tr_if (p:=¬(a.getD k 0)=(b.getD k 0)) Z (fun aj=>?_) (fun aj=>?_)
    ·refine Sq (Rg ?_);refine As (.bool false) Z Z ?_;refine Nl (Rt ?_);have ak:=x9.trans ac;refine ⟨.inr Z,outs1 Z (v:=.bool false) Z ?_⟩;exact ⟨(by (rw [decide_eq_false (ne_getD (k:=k) (d:=0) ‹_›)])),ak⟩
    ·refine Sk (Rg ?_);refine Mv (.int .i64 (k:Int)) Z (Et (ad 5 Z) al) ?_;refine Ad (k:Int) 1 Z Z Z (by omega) ?_;refine As (.int .i64 ((k:Int)+1)) Z Z ?_;refine Nl ?_;exact ⟨_,by omega,k+1,Z,(by omega),(by exact take_eq_of 0 hs (by omega) (by omega) (by simp_all)),Z,(x9.trans ac),(Et (ad 0 Z) aq),(Et (ad 1 Z) bh),Z⟩
  ·refine Xt (Sq (Rg ?_));refine As (.bool true) Z Z ?_;refine Nl (Rt ?_);refine ⟨.inr Z,outs1 Z (v:=.bool true) Z ?_⟩;exact ⟨(by (rw [decide_eq_true (sameList_end hs hk ‹_› (by omega))];done)),x9⟩
theorem has_spec {W:Wk Tryd.prog} {h:GH} (a:List Int) (av:Value) (n:Int) (ha:SlIs h av 1 eI a):CallK W 14 #[av,.int .i64 n] h (fun v h'=>v=(.bool (decide (n ∈ a)):Value)∧h.Le h'):=by
 have ab:=ha.len;refine call_of_tr Tryd.func14 Z (Nb Z) ?_;refine Sq (Rg ?_);refine As (.bool false) Z Z ?_;refine Nl (Sq (Sq (Rg ?_)));refine As (.int .i64 0) Z Z ?_;refine Nl (Bk ?_);refine tr_loop (fun nn σ' ds' h'=>∃(k:Nat),nn=a.length-k∧(k≤a.length)∧(¬n ∈ a.take k)∧ds'=[]∧GH.Le h h'∧σ' 0=av∧σ' 1=.int .i64 n∧σ' 5=.int .i64 (k:Int)) ⟨0,Z,(by omega),(by simp),Z,Lr,Z,Z,Z⟩ (fun nn _ _ _ aj=>?_);obtain ⟨k,rfl,hk,hs,x6,x7,x8,x9,ac⟩:=aj;subst x6;refine Sq (Sq (Rg ?_));refine Mv (.int .i64 (k:Int)) Z ac ?_;refine Mv av Z x8 ?_;refine Pl Z (ok_lenSl Fx.sl30 (ha.le x7) Z ?_);refine Pl Z (ok_lss (a:=(k:Int)) (b:=(a.length:Int)) Z Z ?_);refine Nl ?_;refine tr_if (p:=(k:Int)<(a.length:Int)) Z (fun ad=>?_) (fun ad=>?_)
 ·refine Sk (Sq (Bk (Sq (Rg ?_))));refine Mv av Z x8 ?_;refine Mv (.int .i64 (k:Int)) Z ac ?_;have ae:(0:Int)≤(k:Int):=by omega
  have af:(k:Int)<((a.length:Nat):Int):=by omega
  refine Pl Z (ok_indexS0 Fx.esz30 ha Z Z ae af fun ak aa ag=>?_);have ah:Elem _ ak aa 1 (eI (a.getD k 0)):=Elem.getD 0 ag;refine Ld (.int .i64 (a.getD k 0)) Z Z (rd_one0 Fx.ty3 (ah.le x7) Z) ?_;refine Mv (.int .i64 n) Z x9 ?_;refine Pl Z (ok_eql (a:=a.getD k 0) (b:=n) Z Z ?_);refine Nl ?_;refine tr_if (p:=(a.getD k 0)=n) Z (fun ai=>?_) (fun ai=>?_)
  ·refine Sq (Rg ?_);refine As (.bool true) Z Z ?_;refine Nl (Rt ?_);refine ⟨.inr Z,outs1 Z (v:=.bool true) Z ?_⟩;exact ⟨(by (rw [decide_eq_true (has_hit (k:=k) ‹_› ‹_›)];done)),x7⟩
  ·refine Sk (Rg ?_);refine Mv (.int .i64 (k:Int)) Z ac ?_;refine Ad (k:Int) 1 Z Z Z (by omega) ?_;refine As (.int .i64 ((k:Int)+1)) Z Z ?_;refine Nl ?_;exact ⟨_,by omega,k+1,Z,(by omega),(by exact has_next ‹_› hs ‹_›),Z,x7,x8,x9,Z⟩
 ·refine Xt (Sq (Rg ?_));refine As (.bool false) Z Z ?_;refine Nl (Rt ?_);refine ⟨.inr Z,outs1 Z (v:=.bool false) Z ?_⟩;exact ⟨(by (rw [decide_eq_false (has_end (k:=k) ‹_› hs)])),x7⟩
theorem in_spec {W:Wk Tryd.prog} {h:GH} (n:Int) (lo:Int) (hi:Int):CallK W 20 #[.int .i64 n,.int .i64 lo,.int .i64 hi] h (fun v h'=>v=(.bool (decide (lo≤n∧n≤hi)):Value)∧h=h'):=by
 refine call_of_tr Tryd.func20 Z (Nb Z) ?_;refine Sq (Rg ?_);refine As (.bool false) Z Z ?_;refine Nl ?_;refine tr_seq_mid (fun σ' ds' h'=>ds'=[]∧h=h'∧σ' 6=.bool (decide ((lo≤n)∧(n≤hi)))) ?_ ?_
 ·refine Rg ?_;refine Mv (.int .i64 n) Z Z ?_;refine Mv (.int .i64 lo) Z Z ?_;refine Pl Z (ok_geq (a:=n) (b:=lo) Z Z ?_);refine Mv (.bool (decide (lo≤n))) Z Z ?_;refine trL_case (p:=lo≤n) ?_ ?_
  ·intro aa;refine Gg 3 10 (bool_t Z aa) Z (ok_move (v:=.int .i64 n) Z ?_);refine Gg 3 10 (bool_t Z aa) Z (ok_move (v:=.int .i64 hi) Z ?_);refine Gg 3 10 (bool_t Z aa) Z (ok_leq (a:=n) (b:=hi) Z Z ?_);refine Pk true (.bool (decide (n≤hi))) Z (bool_t Z aa) Z ?_;refine As (.bool (decide (n≤hi))) Z Z ?_;refine Nl ?_;exact ⟨Z,Z,Et (b:=(.bool (decide (n≤hi)):Value)) Z (congrArg Value.bool (by (simp [aa];done):decide (n≤hi)=decide ((lo≤n)∧(n≤hi))))⟩
  ·intro aa;refine Gs 3 10 (bool_f Z aa) Z ?_;refine Gs 3 10 (bool_f Z aa) Z ?_;refine Gs 3 10 (bool_f Z aa) Z ?_;refine Pk false (.bool false) Z (bool_f Z aa) Z ?_;refine As (.bool false) Z Z ?_;refine Nl ?_;exact ⟨Z,Z,Et (b:=(.bool false:Value)) Z (congrArg Value.bool (by (simp [aa];done):false=decide ((lo≤n)∧(n≤hi))))⟩
 ·rintro _ _ _ ⟨ac,ab,ad⟩;subst ac;subst ab;refine Rt ?_;refine ⟨.inr Z,outs1 Z (v:=.bool (decide ((lo≤n)∧(n≤hi)))) ad ?_⟩;exact ⟨(by rfl),Z⟩
theorem within_spec {W:Wk Tryd.prog} {h:GH} (xl:Int) (xh:Int) (lo:Int) (hi:Int):CallK W 86 #[.agg #[.int .i64 xl,.int .i64 xh],.int .i64 lo,.int .i64 hi] h (fun v h'=>v=(.bool (decide ((lo≤xl∧xl≤xh)∧xh≤hi)):Value)∧h.Le h'):=by
 refine call_of_tr Tryd.func86 Z (Nb Z) ?_;refine Sq (Rg ?_);refine Pl Z (ok_box' (v:=.agg #[.int .i64 xl,.int .i64 xh]) (c:=#[.int .i64 xl,.int .i64 xh]) Z Z fun _ h2 _ ae ad _=>?_);refine As (.bool false) Z Z ?_;refine Nl ?_;refine tr_seq_mid (fun σ' ds' h'=>ds'=[]∧h2=h'∧σ' 6=.bool (decide (((lo≤xl)∧(xl≤xh))∧(xh≤hi)))) ?_ ?_
 ·refine Rg ?_;refine Fa Fx.fld39_0 Z Z ?_;refine Ld (.int .i64 xl) Z Z (Rd.one Fx.ty3 ad Z) ?_;refine Mv (.int .i64 lo) Z Z ?_;refine Pl Z (ok_geq (a:=xl) (b:=lo) Z Z ?_);refine Mv (.bool (decide (lo≤xl))) Z Z ?_;refine trL_case (p:=lo≤xl) ?_ ?_
  ·intro aa;refine Gg 4 11 (bool_t Z aa) Z (ok_fieldAddr Fx.fld39_1 Z ?_);refine Gg 4 11 (bool_t Z aa) Z (ok_load (v:=.int .i64 xh) Z (Rd.one Fx.ty3 ad Z) ?_);refine Gg 4 11 (bool_t Z aa) Z (ok_fieldAddr Fx.fld39_0 Z ?_);refine Gg 4 11 (bool_t Z aa) Z (ok_load (v:=.int .i64 xl) Z (Rd.one Fx.ty3 ad Z) ?_);refine Gg 4 11 (bool_t Z aa) Z (ok_geq (a:=xh) (b:=xl) Z Z ?_);refine Pk true (.bool (decide (xl≤xh))) Z (bool_t Z aa) Z ?_;refine Mv (.bool (decide (xl≤xh))) Z Z ?_;refine trL_case (p:=xl≤xh) ?_ ?_
   ·intro ab;refine Gg 11 18 (bool_t Z ab) Z (ok_fieldAddr Fx.fld39_1 Z ?_);refine Gg 11 18 (bool_t Z ab) Z (ok_load (v:=.int .i64 xh) Z (Rd.one Fx.ty3 ad Z) ?_);refine Gg 11 18 (bool_t Z ab) Z (ok_move (v:=.int .i64 hi) Z ?_);refine Gg 11 18 (bool_t Z ab) Z (ok_leq (a:=xh) (b:=hi) Z Z ?_);refine Pk true (.bool (decide (xh≤hi))) Z (bool_t Z ab) Z ?_;refine As (.bool (decide (xh≤hi))) Z Z ?_;refine Nl ?_;exact ⟨Z,Z,Et (b:=(.bool (decide (xh≤hi)):Value)) Z (congrArg Value.bool (by (simp [aa,ab];done):decide (xh≤hi)=decide (((lo≤xl)∧(xl≤xh))∧(xh≤hi))))⟩
   ·intro ab;refine Gs 11 18 (bool_f Z ab) Z ?_;refine Gs 11 18 (bool_f Z ab) Z ?_;refine Gs 11 18 (bool_f Z ab) Z ?_;refine Gs 11 18 (bool_f Z ab) Z ?_;refine Pk false (.bool false) Z (bool_f Z ab) Z ?_;refine As (.bool false) Z Z ?_;refine Nl ?_;exact ⟨Z,Z,Et (b:=(.bool false:Value)) Z (congrArg Value.bool (by (simp [aa,ab];done):false=decide (((lo≤xl)∧(xl≤xh))∧(xh≤hi))))⟩
  ·intro aa;refine Gs 4 11 (bool_f Z aa) Z ?_;refine Gs 4 11 (bool_f Z aa) Z ?_;refine Gs 4 11 (bool_f Z aa) Z ?_;refine Gs 4 11 (bool_f Z aa) Z ?_;refine Gs 4 11 (bool_f Z aa) Z ?_;refine Pk false (.bool false) Z (bool_f Z aa) Z ?_;refine Mv (.bool false) Z Z ?_;refine Gs 11 18 Z Z ?_;refine Gs 11 18 Z Z ?_;refine Gs 11 18 Z Z ?_;refine Gs 11 18 Z Z ?_;refine Pk false (.bool false) Z Z Z ?_;refine As (.bool false) Z Z ?_;refine Nl ?_;exact ⟨Z,Z,Et (b:=(.bool false:Value)) Z (congrArg Value.bool (by (simp [aa];done):false=decide (((lo≤xl)∧(xl≤xh))∧(xh≤hi))))⟩
 ·rintro _ _ _ ⟨af,ac,ag⟩;subst af;subst ac;refine Rt ?_;refine ⟨.inr Z,outs1 Z (v:=.bool (decide (((lo≤xl)∧(xl≤xh))∧(xh≤hi)))) ag ?_⟩;exact ⟨(by rfl),ae⟩
theorem isFew_spec {W:Wk Tryd.prog} {h:GH} (xl:Int) (xh:Int):CallK W 85 #[.agg #[.int .i64 xl,.int .i64 xh]] h (fun v h'=>v=(.bool (decide (isFew xl xh)):Value)∧h.Le h'):=by
 refine call_of_tr Tryd.func85 Z (Nb Z) ?_;refine Sq (Rg ?_);refine Pl Z (ok_box' (v:=.agg #[.int .i64 xl,.int .i64 xh]) (c:=#[.int .i64 xl,.int .i64 xh]) Z Z fun _ h2 _ ae ah _=>?_);refine As (.bool false) Z Z ?_;refine Nl ?_;refine tr_seq_mid (fun σ' ds' h'=>ds'=[]∧GH.Le h2 h'∧σ' 2=.bool (decide (((0≤xl∧xl≤xh)∧xh≤99)∧((xh-xl)<3)))) ?_ ?_
 ·refine Rg ?_;refine Ld (.agg #[.int .i64 xl,.int .i64 xh]) Z Z (rd_agg0 Fx.ty39 (Bx ah Z)) ?_;refine Pl Z (ok_call3 Tryd.func86 Fx.call86 Z Z Z ((within_spec xl xh 0 99 ).mono fun _ _ ai=>?_));obtain ⟨rfl,ab⟩:=ai;refine Mv (.bool (decide ((0≤xl∧xl≤xh)∧xh≤99))) Z Z ?_;refine trL_case (p:=(0≤xl∧xl≤xh)∧xh≤99) ?_ ?_
  ·intro aa;refine Gg 2 5 (bool_t Z aa) Z (ok_fieldAddr Fx.fld39_1 Z ?_);have ac:=ab.keep ah Z;refine Gg 2 5 (bool_t Z aa) Z (ok_load (v:=.int .i64 xh) Z (Rd.one Fx.ty3 ac Z) ?_);refine Gg 2 5 (bool_t Z aa) Z (ok_fieldAddr Fx.fld39_0 Z ?_);refine Gg 2 5 (bool_t Z aa) Z (ok_load (v:=.int .i64 xl) Z (Rd.one Fx.ty3 ac Z) ?_);refine Gg 2 5 (bool_t Z aa) Z (ok_sub (a:=xh) (b:=xl) Z Z (by omega) ?_);refine Gg 2 5 (bool_t Z aa) Z (ok_lss (a:=xh-xl) (b:=3) Z Z ?_);refine Pk true (.bool (decide ((xh-xl)<3))) Z (bool_t Z aa) Z ?_;refine As (.bool (decide ((xh-xl)<3))) Z Z ?_;refine Nl ?_;exact ⟨Z,ab,Et (b:=(.bool (decide ((xh-xl)<3)):Value)) Z (congrArg Value.bool (by (simp [aa];done):decide ((xh-xl)<3)=decide (((0≤xl∧xl≤xh)∧xh≤99)∧((xh-xl)<3))))⟩
  ·intro aa;refine Gs 2 5 (bool_f Z aa) Z ?_;refine Gs 2 5 (bool_f Z aa) Z ?_;refine Gs 2 5 (bool_f Z aa) Z ?_;refine Gs 2 5 (bool_f Z aa) Z ?_;refine Gs 2 5 (bool_f Z aa) Z ?_;refine Gs 2 5 (bool_f Z aa) Z ?_;refine Pk false (.bool false) Z (bool_f Z aa) Z ?_;refine As (.bool false) Z Z ?_;refine Nl ?_;exact ⟨Z,ab,Et (b:=(.bool false:Value)) Z (congrArg Value.bool (by (simp [aa];done):false=decide (((0≤xl∧xl≤xh)∧xh≤99)∧((xh-xl)<3))))⟩
 ·rintro _ _ _ ⟨af,ad,ag⟩;subst af;refine Rt ?_;refine ⟨.inr Z,outs1 Z (v:=.bool (decide (((0≤xl∧xl≤xh)∧xh≤99)∧((xh-xl)<3)))) ag ?_⟩;exact ⟨(by rfl),(ae.trans ad)⟩
theorem letter_spec {W:Wk Tryd.prog} {h:GH} (c:Int):CallK W 93 #[.int .u8 c] h (fun v h'=>v=(.bool (decide (isLetter c)):Value)∧h=h'):=by
 refine call_of_tr Tryd.func93 Z (Nb Z) ?_;refine Sq (Rg ?_);refine As (.bool false) Z Z ?_;refine Nl ?_;refine tr_seq_mid (fun σ' ds' h'=>ds'=[]∧h=h'∧σ' 2=.bool (decide ((97≤c)∧(c≤122)))) ?_ ?_
 ·refine Rg ?_;refine Mv (.int .u8 c) Z Z ?_;refine Pl Z (ok_geq (a:=c) (b:=97) Z Z ?_);refine Mv (.bool (decide (97≤c))) Z Z ?_;refine trL_case (p:=97≤c) ?_ ?_
  ·intro aa;refine Gg 2 5 (bool_t Z aa) Z (ok_move (v:=.int .u8 c) Z ?_);refine Gg 2 5 (bool_t Z aa) Z (ok_leq (a:=c) (b:=122) Z Z ?_);refine Pk true (.bool (decide (c≤122))) Z (bool_t Z aa) Z ?_;refine As (.bool (decide (c≤122))) Z Z ?_;refine Nl ?_;exact ⟨Z,Z,Et (b:=(.bool (decide (c≤122)):Value)) Z (congrArg Value.bool (by (simp [aa];done):decide (c≤122)=decide ((97≤c)∧(c≤122))))⟩
  ·intro aa;refine Gs 2 5 (bool_f Z aa) Z ?_;refine Gs 2 5 (bool_f Z aa) Z ?_;refine Pk false (.bool false) Z (bool_f Z aa) Z ?_;refine As (.bool false) Z Z ?_;refine Nl ?_;exact ⟨Z,Z,Et (b:=(.bool false:Value)) Z (congrArg Value.bool (by (simp [aa];done):false=decide ((97≤c)∧(c≤122))))⟩
 ·rintro _ _ _ ⟨ac,ab,ad⟩;subst ac;subst ab;refine Rt ?_;refine ⟨.inr Z,outs1 Z (v:=.bool (decide ((97≤c)∧(c≤122)))) ad ?_⟩;exact ⟨(by rfl),Z⟩
theorem digit_spec {W:Wk Tryd.prog} {h:GH} (c:Int):CallK W 94 #[.int .u8 c] h (fun v h'=>v=(.bool (decide (isDigit c)):Value)∧h=h'):=by
 refine call_of_tr Tryd.func94 Z (Nb Z) ?_;refine Sq (Rg ?_);refine As (.bool false) Z Z ?_;refine Nl ?_;refine tr_seq_mid (fun σ' ds' h'=>ds'=[]∧h=h'∧σ' 2=.bool (decide ((48≤c)∧(c≤57)))) ?_ ?_
 ·refine Rg ?_;refine Mv (.int .u8 c) Z Z ?_;refine Pl Z (ok_geq (a:=c) (b:=48) Z Z ?_);refine Mv (.bool (decide (48≤c))) Z Z ?_;refine trL_case (p:=48≤c) ?_ ?_
  ·intro aa;refine Gg 2 5 (bool_t Z aa) Z (ok_move (v:=.int .u8 c) Z ?_);refine Gg 2 5 (bool_t Z aa) Z (ok_leq (a:=c) (b:=57) Z Z ?_);refine Pk true (.bool (decide (c≤57))) Z (bool_t Z aa) Z ?_;refine As (.bool (decide (c≤57))) Z Z ?_;refine Nl ?_;exact ⟨Z,Z,Et (b:=(.bool (decide (c≤57)):Value)) Z (congrArg Value.bool (by (simp [aa];done):decide (c≤57)=decide ((48≤c)∧(c≤57))))⟩
  ·intro aa;refine Gs 2 5 (bool_f Z aa) Z ?_;refine Gs 2 5 (bool_f Z aa) Z ?_;refine Pk false (.bool false) Z (bool_f Z aa) Z ?_;refine As (.bool false) Z Z ?_;refine Nl ?_;exact ⟨Z,Z,Et (b:=(.bool false:Value)) Z (congrArg Value.bool (by (simp [aa];done):false=decide ((48≤c)∧(c≤57))))⟩
 ·rintro _ _ _ ⟨ac,ab,ad⟩;subst ac;subst ab;refine Rt ?_;refine ⟨.inr Z,outs1 Z (v:=.bool (decide ((48≤c)∧(c≤57)))) ad ?_⟩;exact ⟨(by rfl),Z⟩
theorem to_spec {W:Wk Tryd.prog} {h:GH} (a:Int) (b:Int):CallK W 17 #[.int .i64 a,.int .i64 b] h (fun v h'=>v=(.agg #[.int .i64 a,.int .i64 b]:Value)∧h.Le h'):=by
 refine call_of_tr Tryd.func17 Z (Nb Z) ?_;refine Sq (Rg ?_);refine Pl Z (ok_alloc' Fx.zero39 fun _ _ ab aa ac _=>?_);refine Nl (Sq (Rg ?_));refine Mv (.int .i64 a) Z Z ?_;refine Mv (.int .i64 b) Z Z ?_;refine Pl Z (ok_build (cells:=#[.int .i64 a,.int .i64 b]) Fx.pl39 Fx.zero39 (by kernel_rfl) ?_);refine Pl Z (ok_store' (v:=.agg #[.int .i64 a,.int .i64 b]) (c':=#[.int .i64 a,.int .i64 b]) Fx.ty39 Z Z ac Z Z (by simp) Z fun _ ad ae=>?_);refine Nl (Rt ?_);refine ⟨.inr Z,outsC1 Z (v:=.agg #[.int .i64 a,.int .i64 b]) Z (rd_agg0 Fx.ty39 (Bx ad Z)) ?_⟩;exact ⟨Z,(aa.upd (Ln Lr ab) ae)⟩
theorem num_spec {W:Wk Tryd.prog} {h:GH} (xl:Int) (xh:Int) (n:Int) (hs:0≤xl∧xl≤xh∧xh≤99) (hn:0≤n∧n≤65535):CallK W 37 #[.agg #[.int .i64 xl,.int .i64 xh],.int .i64 n] h (fun v h'=>v=(.int .i64 (xl+n%(xh-xl+1)):Value)∧h.Le h'):=by
 have a3:=Int.emod_nonneg n (show xh-xl+1≠0 by omega);have a4:=Int.emod_lt_of_pos n (show 0<xh-xl+1 by omega);refine call_of_tr Tryd.func37 Z (Nb Z) ?_;refine Sq (Rg ?_);refine Pl Z (ok_box' (v:=.agg #[.int .i64 xl,.int .i64 xh]) (c:=#[.int .i64 xl,.int .i64 xh]) Z Z fun r1 _ _ af ag _=>?_);refine As (.int .i64 0) Z Z ?_;refine Nl (Sq ?_);refine tr_drawnLe 10 [[],[0],[],[],[3],[],[5],[3,4,5,6],[3,4,5,6,7],[2,3,4,5,6,7,8]] [(lF (.pointer (some ⟨r1,0,none⟩))),(lF (.int .i64 xl)),(lF (.int .i64 n)),(lF (.pointer (some ⟨r1,1,none⟩))),(lF (.int .i64 xh)),(lF (.pointer (some ⟨r1,0,none⟩))),(lF (.int .i64 xl)),(lF (.int .i64 (xh-xl))),(lF (.int .i64 ((xh-xl)+1))),(lF (.int .i64 (n%((xh-xl)+1))))] Fx.mixed (by kernel_rfl) (K8 (K2 trivial)) ⟨?_,?_,?_,?_,?_,?_,?_,?_,?_,?_,?_⟩
 ·intro _ _ _ ah _ _;refine (ok_fieldAddr Fx.fld39_0 (Et (ah 2 Z) Z) ?_);exact fL Z
 ·intro _ _ ab _ ai _;obtain ⟨av,_⟩:=ai;refine (ok_load (v:=.int .i64 xl) (av trivial) (Rd.one Fx.ty3 (ab.keep ag Z) Z) ?_);exact fL Z
 ·intro _ _ _ aj _ _;refine (ok_move (v:=.int .i64 n) (Et (aj 1 Z) Z) ?_);exact fL Z
 ·intro _ _ _ ak _ _;refine (ok_fieldAddr Fx.fld39_1 (Et (ak 2 Z) Z) ?_);exact fL Z
 ·intro _ _ ac _ al _;obtain ⟨aw,_⟩:=al;refine (ok_load (v:=.int .i64 xh) (aw trivial) (Rd.one Fx.ty3 (ac.keep ag Z) Z) ?_);exact fL Z
 ·intro _ _ _ am _ _;refine (ok_fieldAddr Fx.fld39_0 (Et (am 2 Z) Z) ?_);exact fL Z
 ·intro _ _ ad _ an _;obtain ⟨ax,_⟩:=an;refine (ok_load (v:=.int .i64 xl) (ax trivial) (Rd.one Fx.ty3 (ad.keep ag Z) Z) ?_);exact fL Z
 ·intro _ _ _ _ ao _;obtain ⟨_,ay,_,az,_⟩:=ao;refine (ok_sub (a:=xh) (b:=xl) (ay trivial) (az trivial) (by omega) ?_);exact fL Z
 ·intro _ _ _ _ ap _;obtain ⟨_,_,_,_,a0,_⟩:=ap;refine (ok_add (a:=xh-xl) (b:=1) (a0 trivial) Z (by omega) ?_);exact fL Z
 ·intro _ _ _ _ aq _;obtain ⟨a1,_,_,_,_,_,a2,_⟩:=aq;refine (ok_rem (a:=n) (b:=(xh-xl)+1) (a1 trivial) (a2 trivial) (by omega) (by omega) ?_);exact fL Z
 ·intro _ _ aa _ ae;obtain ⟨_,ar,_,_,_,_,_,_,_,au,_⟩:=ae;refine Ad xl (n%((xh-xl)+1)) Z (ar trivial) (au trivial) (by omega) ?_;refine As (.int .i64 (xl+(n%((xh-xl)+1)))) Z Z ?_;refine Nl (Rt ?_);refine ⟨.inr Z,outs1 Z (v:=.int .i64 (xl+(n%((xh-xl)+1)))) Z ?_⟩;exact ⟨(by rfl),(af.trans aa)⟩
theorem choice_spec {W:Wk Tryd.prog} {h:GH} (p:List Int) (pv:Value) (k:Int) (hp:SlIs h pv 1 eH p) (hk:0≤k) (hp0:∀i,0≤p.getD i 0∧p.getD i 0≤65535):CallK W 38 #[pv,.int .i64 k] h (fun v h'=>v=(.int .i64 (if k<(p.length:Int) then p.getD (k).toNat 0 else 0):Value)∧h.Le h'):=by
 have hpk:=hp0 k.toNat;have aa:=hp.len;refine call_of_tr Tryd.func38 Z (Nb Z) ?_;refine Sq (Rg ?_);refine As (.int .i64 0) Z Z ?_;refine Nl (Sq (Sq (Rg ?_)));refine Mv (.int .i64 k) Z Z ?_;refine Mv pv Z Z ?_;refine Pl Z (ok_lenSl Fx.sl27 hp Z ?_);refine Pl Z (ok_lss (a:=k) (b:=(p.length:Int)) Z Z ?_);refine Nl ?_;refine tr_if (p:=k<(p.length:Int)) Z (fun ac=>?_) (fun ac=>?_)
 ·refine Sq (Rg ?_);refine Mv pv Z Z ?_;refine Mv (.int .i64 k) Z Z ?_;have ad:(0:Int)≤k:=by omega
  have ae:k<((p.length:Nat):Int):=by omega
  refine Pl Z (ok_indexS0 Fx.esz27 hp Z Z ad ae fun b5 ab af=>?_);have ag:Elem _ b5 ab 1 (eH (p.getD (k.toNat) 0)):=Elem.getD 0 af;refine Ld (.int .u16 (p.getD (k.toNat) 0)) Z Z (rd_one0 Fx.ty118 ag Z) ?_;refine Pl Z (ok_convInt (r:=p.getD (k.toNat) 0) Fx.und118 Fx.kind3 Z (by rw [IntWalk.i64_in _ (by omega)]) ?_);refine As (.int .i64 (p.getD (k.toNat) 0)) Z Z ?_;refine Nl (Rt ?_);refine ⟨.inr Z,outs1 Z (v:=.int .i64 (p.getD (k.toNat) 0)) Z ?_⟩;exact ⟨(by simp_all),Lr⟩
 ·refine Sk (Sq (Rg ?_));refine As (.int .i64 0) Z Z ?_;refine Nl (Rt ?_);refine ⟨.inr Z,outs1 Z (v:=.int .i64 0) Z ?_⟩;exact ⟨(by simp_all),Lr⟩
theorem isNote_spec {W:Wk Tryd.prog} {h:GH} (d:Int) (m:Int) (gs:List Good) (gsv:Value) (ms:List Move) (msv:Value) (cs:List Count) (csv:Value) (n:Int) (hgs:SlIs h gsv 5 eGood gs) (hms:SlIs h msv 5 eMove ms) (hcs:SlIs h csv 4 eCount cs):CallK W 57 #[.agg #[.int .i64 d,.int .i64 m,gsv,msv,csv],.int .i64 n] h (fun v h'=>v=(.bool (decide ((0≤n∧n≤(ms.length:Int)-1)∧(ms.getD (n).toNat Move.z).kind=0)):Value)∧h.Le h'):=by
 have af:=hgs.len;have ag:=hms.len;have ah:=hcs.len;refine call_of_tr Tryd.func57 Z (Nb Z) ?_;refine Sq (Rg ?_);refine Pl Z (ok_box' (v:=.agg #[.int .i64 d,.int .i64 m,gsv,msv,csv]) (c:=#[.int .i64 d,.int .i64 m,gsv,msv,csv]) Z Z fun _ h5 _ ac ap _=>?_);refine As (.bool false) Z Z ?_;refine Nl ?_;refine tr_seq_mid (fun σ' ds' h'=>ds'=[]∧GH.Le h5 h'∧σ' 4=.bool (decide ((0≤n∧n≤(ms.length:Int)-1)∧(((ms.getD (n.toNat) Move.z).kind)=0)))) ?_ ?_
 ·refine Rg ?_;refine Ld (.agg #[.int .i64 d,.int .i64 m,gsv,msv,csv]) Z Z (rd_agg0 Fx.ty92 (Bx ap Z)) ?_;refine Mv (.int .i64 n) Z Z ?_;refine Pl Z (ok_call2 Tryd.func71 Fx.call71 Z Z ((isMove_spec d m gs gsv ms msv cs csv n (hgs.le ac) (hms.le ac) (hcs.le ac) ).mono fun _ _ ai=>?_));obtain ⟨rfl,ab⟩:=ai;refine Mv (.bool (decide (0≤n∧n≤(ms.length:Int)-1))) Z Z ?_;refine trL_case (p:=0≤n∧n≤(ms.length:Int)-1) ?_ ?_
  ·intro aa;refine Gg 3 8 (bool_t Z aa) Z (ok_fieldAddr Fx.fld92_0 Z ?_);refine Gg 3 8 (bool_t Z aa) Z (ok_fieldAddr Fx.fld26_3 Z ?_);refine Gg 3 8 (bool_t Z aa) Z (ok_load (v:=msv) Z (Rd.one Fx.ty23 (ab.keep ap Z) Z) ?_);refine Gg 3 8 (bool_t Z aa) Z (ok_move (v:=.int .i64 n) Z ?_);have aj:(0:Int)≤n:=by omega
   have ak:n<((ms.length:Nat):Int):=by omega
   refine Gg 3 8 (bool_t Z aa) Z (ok_indexS0 Fx.esz23 hms Z Z aj ak fun aq ad al=>?_);have am:Elem _ aq ad 5 (eMove (ms.getD (n.toNat) Move.z)):=Elem.getD Move.z al;refine Gg 3 8 (bool_t Z aa) Z (ok_fieldAddr Fx.fld41_0 Z ?_);refine Gg 3 8 (bool_t Z aa) Z (ok_load (v:=.int .i64 ((ms.getD (n.toNat) Move.z).kind)) Z (rd_one0 Fx.ty37 (am.le (ac.trans ab)) Z) ?_);refine Gg 3 8 (bool_t Z aa) Z (ok_eql (a:=(ms.getD (n.toNat) Move.z).kind) (b:=0) Z Z ?_);refine Pk true (.bool (decide (((ms.getD (n.toNat) Move.z).kind)=0))) Z (bool_t Z aa) Z ?_;refine As (.bool (decide (((ms.getD (n.toNat) Move.z).kind)=0))) Z Z ?_;refine Nl ?_;exact ⟨Z,ab,Et (b:=(.bool (decide (((ms.getD (n.toNat) Move.z).kind)=0)):Value)) Z (congrArg Value.bool (by (simp [aa];done):decide (((ms.getD (n.toNat) Move.z).kind)=0)=decide ((0≤n∧n≤(ms.length:Int)-1)∧(((ms.getD (n.toNat) Move.z).kind)=0))))⟩
  ·intro aa;refine Gs 3 8 (bool_f Z aa) Z ?_;refine Gs 3 8 (bool_f Z aa) Z ?_;refine Gs 3 8 (bool_f Z aa) Z ?_;refine Gs 3 8 (bool_f Z aa) Z ?_;refine Gs 3 8 (bool_f Z aa) Z ?_;refine Gs 3 8 (bool_f Z aa) Z ?_;refine Gs 3 8 (bool_f Z aa) Z ?_;refine Gs 3 8 (bool_f Z aa) Z ?_;refine Pk false (.bool false) Z (bool_f Z aa) Z ?_;refine As (.bool false) Z Z ?_;refine Nl ?_;exact ⟨Z,ab,Et (b:=(.bool false:Value)) Z (congrArg Value.bool (by (simp [aa];done):false=decide ((0≤n∧n≤(ms.length:Int)-1)∧(((ms.getD (n.toNat) Move.z).kind)=0))))⟩
 ·rintro _ _ _ ⟨an,ae,ao⟩;subst an;refine Rt ?_;refine ⟨.inr Z,outs1 Z (v:=.bool (decide ((0≤n∧n≤(ms.length:Int)-1)∧(((ms.getD (n.toNat) Move.z).kind)=0)))) ao ?_⟩;exact ⟨(by rfl),(ac.trans ae)⟩
theorem head_spec {W:Wk Tryd.prog} {h:GH} (d:Int) (m:Int) (gs:List Good) (gsv:Value) (ms:List Move) (msv:Value) (cs:List Count) (csv:Value) (hgs:SlIs h gsv 5 eGood gs) (hms:SlIs h msv 5 eMove ms) (hcs:SlIs h csv 4 eCount cs):CallK W 132 #[.agg #[.int .i64 d,.int .i64 m,gsv,msv,csv]] h (fun v h'=>v=(.int .i64 (headBell d m):Value)∧h.Le h'):=by
 have ad:=hgs.len;have ae:=hms.len;have af:=hcs.len;refine call_of_tr Tryd.func132 Z (Nb Z) ?_;refine Sq (Rg ?_);refine Pl Z (ok_box' (v:=.agg #[.int .i64 d,.int .i64 m,gsv,msv,csv]) (c:=#[.int .i64 d,.int .i64 m,gsv,msv,csv]) Z Z fun _ h5 _ ab al _=>?_);refine As (.int .i64 0) Z Z ?_;refine Nl (Sq ?_);refine tr_seq_mid (fun σ' ds' h'=>ds'=[]∧h5=h'∧σ' 2=.int .i64 0∧σ' 14=.bool (decide ((¬(1≤d∧d≤99))∨(¬(0≤m∧m≤2))))) ?_ ?_
 ·refine Rg ?_;refine Fa Fx.fld92_0 Z Z ?_;refine Fa Fx.fld26_0 Z Z ?_;refine Ld (.int .i64 d) Z Z (Rd.one Fx.ty3 al Z) ?_;refine Pl Z (ok_call3 Tryd.func46 Fx.call46 Z Z Z ((inside_spec d 1 99 ).mono fun _ _ ag=>?_));obtain ⟨rfl,rfl⟩:=ag;refine Pl Z (ok_notp (p:=1≤d∧d≤99) Z ?_);refine Mv (.bool (decide (¬(1≤d∧d≤99)))) Z Z ?_;refine trL_case (p:=¬(1≤d∧d≤99)) ?_ ?_
  ·intro aa;refine Gs 5 8 (bool_t Z aa) Z ?_;refine Gs 5 8 (bool_t Z aa) Z ?_;refine Gs 5 8 (bool_t Z aa) Z ?_;refine Gs 5 8 (bool_t Z aa) Z ?_;refine Gs 5 8 (bool_t Z aa) Z ?_;refine Pk true (.bool true) Z (bool_t Z aa) Z ?_;refine Nl ?_;exact ⟨Z,Z,Z,Et (b:=(.bool true:Value)) Z (congrArg Value.bool (by (simp [aa];done):true=decide ((¬(1≤d∧d≤99))∨(¬(0≤m∧m≤2)))))⟩
  ·intro aa;refine Gg 5 8 (bool_f Z aa) Z (ok_fieldAddr Fx.fld92_0 Z ?_);refine Gg 5 8 (bool_f Z aa) Z (ok_fieldAddr Fx.fld26_1 Z ?_);refine Gg 5 8 (bool_f Z aa) Z (ok_load (v:=.int .i64 m) Z (Rd.one Fx.ty3 al Z) ?_);refine Gg 5 8 (bool_f Z aa) Z (ok_call3 Tryd.func46 Fx.call46 Z Z Z ((inside_spec m 0 2 ).mono fun _ _ ah=>?_));obtain ⟨rfl,rfl⟩:=ah;refine Gg 5 8 (bool_f Z aa) Z (ok_notp (p:=0≤m∧m≤2) Z ?_);refine Pk false (.bool (decide (¬(0≤m∧m≤2)))) Z (bool_f Z aa) Z ?_;refine Nl ?_;exact ⟨Z,Z,Z,Et (b:=(.bool (decide (¬(0≤m∧m≤2))):Value)) Z (congrArg Value.bool (by (simp [aa];done):decide (¬(0≤m∧m≤2))=decide ((¬(1≤d∧d≤99))∨(¬(0≤m∧m≤2)))))⟩
 ·rintro _ _ _ ⟨ai,ac,am,aj⟩;subst ai;subst ac;refine tr_if (p:=(¬(1≤d∧d≤99))∨(¬(0≤m∧m≤2))) aj (fun ak=>?_) (fun ak=>?_)
  ·refine Sq (Rg ?_);refine As (.int .i64 1) Z Z ?_;refine Nl (Rt ?_);refine ⟨.inr Z,outs1 Z (v:=.int .i64 1) Z ?_⟩;exact ⟨(by simp_all [headBell]),ab⟩
  ·refine Sk (Sq (Rg ?_));refine As (.int .i64 0) Z Z ?_;refine Nl (Rt ?_);refine ⟨.inr Z,outs1 Z (v:=.int .i64 0) Z ?_⟩;exact ⟨(by simp_all [headBell]),ab⟩
theorem indexInt_spec {W:Wk Tryd.prog} {h:GH} (xs:List Int) (xsv:Value) (fv:Value) (p:Int→Bool) (hxs:SlIs h xsv 1 eI xs) (hf:∀x ∈ xs,∀h1,h.Le h1→ValK W fv #[.int .i64 x] h1 fun v h2=>v=.bool (p x)∧h1.Le h2):CallK W 76 #[xsv,fv] h (fun v h'=>v=(.int .i64 (idxOf p xs):Value)∧h.Le h'):=by
 have ac:=hxs.len;refine call_of_tr Tryd.func76 Z (Nb Z) ?_;refine Sq (Rg ?_);refine As (.int .i64 0) Z Z ?_;refine Nl (Sq (Sq (Rg ?_)));refine Mv xsv Z Z ?_;refine Pl Z (ok_lenSl Fx.sl30 hxs Z ?_);refine Mv (.int .i64 0) Z Z ?_;refine Nl (Bk ?_);refine tr_loop (fun nn σ' ds' h'=>∃(k:Nat),nn=xs.length-k∧(k≤xs.length)∧((xs.take k).any p=false)∧ds'=[]∧GH.Le h h'∧σ' 0=xsv∧σ' 1=fv∧σ' 7=.int .i64 (xs.length:Int)∧σ' 8=.int .i64 (k:Int)) ⟨0,Z,(by omega),(by simp),Z,Lr,Z,Z,Z,Z⟩ (fun nn _ _ _ am=>?_);obtain ⟨k,rfl,hk,hs,x6,x7,x8,x9,al,ad⟩:=am;subst x6;refine Sq (Rg ?_);refine Pl Z (ok_lss (a:=(k:Int)) (b:=(xs.length:Int)) ad al ?_);refine Nl (Sq ?_);refine tr_if (p:=(k:Int)<(xs.length:Int)) Z (fun ae=>?_) (fun ae=>?_)
 ·refine Sk (Sq (Bk (Sq (Rg ?_))));refine Mv (.int .i64 (k:Int)) Z ad ?_;refine As (.int .i64 (k:Int)) Z Z ?_;refine Nl (Sq (Rg ?_));refine Mv fv Z x9 ?_;refine Mv xsv Z x8 ?_;refine Mv (.int .i64 (k:Int)) Z Z ?_;have af:(0:Int)≤(k:Int):=by omega
  have ag:(k:Int)<((xs.length:Nat):Int):=by omega
  refine Pl Z (ok_indexS0 Fx.esz30 hxs Z Z af ag fun an ab ah=>?_);have ai:Elem _ an ab 1 (eI (xs.getD k 0)):=Elem.getD 0 ah;refine Ld (.int .i64 (xs.getD k 0)) Z Z (rd_one0 Fx.ty3 (ai.le x7) Z) ?_;refine Pl Z (ok_callVal Z (vs:=#[.int .i64 (xs.getD k 0)]) (by simp only [List.map_toArray,List.map_cons,List.map_nil,evalS] <;> rfl) ((hf (xs.getD k 0) (getD_mem (by omega)) _ x7).mono fun _ _ aj=>?_));obtain ⟨rfl,aa⟩:=aj;refine Nl ?_;refine tr_ifb (t:=p (xs.getD k 0)) Z (fun ak=>?_) (fun ak=>?_)
  ·refine Sq (Rg ?_);refine Mv (.int .i64 (k:Int)) Z Z ?_;refine As (.int .i64 (k:Int)) Z Z ?_;refine Nl (Rt ?_);refine ⟨.inr Z,outs1 Z (v:=.int .i64 (k:Int)) Z ?_⟩;exact ⟨(by (rw [idxOf_hit (k:=k) (by omega) hs ‹_›];done)),(x7.trans aa)⟩
  ·refine Sk (Rg ?_);refine Ad (k:Int) 1 Z ad Z (by omega) ?_;refine Mv (.int .i64 ((k:Int)+1)) Z Z ?_;refine Nl ?_;exact ⟨_,by omega,k+1,Z,(by omega),(by exact any_next (d:=0) (by omega) hs ‹_›),Z,(x7.trans aa),x8,x9,al,Z⟩
 ·refine Xt (Sq (Rg ?_));refine As (.int .i64 (-1)) Z Z ?_;refine Nl (Rt ?_);refine ⟨.inr Z,outs1 Z (v:=.int .i64 (-1)) Z ?_⟩;exact ⟨(by (rw [idxOf_miss (k:=k) (by omega) hs])),x7⟩
theorem containsInt_spec {W:Wk Tryd.prog} {h:GH} (xs:List Int) (xsv:Value) (fv:Value) (p:Int→Bool) (hxs:SlIs h xsv 1 eI xs) (hf:∀x ∈ xs,∀h1,h.Le h1→ValK W fv #[.int .i64 x] h1 fun v h2=>v=.bool (p x)∧h1.Le h2):CallK W 51 #[xsv,fv] h (fun v h'=>v=(.bool (xs.any p):Value)∧h.Le h'):=by
 have aa:=hxs.len;refine call_of_tr Tryd.func51 Z (Nb Z) ?_;refine Sq (Rg ?_);refine As (.bool false) Z Z ?_;refine Nl (Sq (Rg ?_));refine Mv xsv Z Z ?_;refine Mv fv Z Z ?_;refine Pl Z (ok_call2 Tryd.func76 Fx.call76 Z Z ((indexInt_spec xs xsv fv p hxs (fun x hx h1 l1=>hf x hx h1 (GH.Le.trans Lr l1))).mono fun _ _ ac=>?_));obtain ⟨rfl,ab⟩:=ac;refine Pl Z (ok_geq (a:=idxOf p xs) (b:=0) Z Z ?_);refine As (.bool (decide (0≤(idxOf p xs)))) Z Z ?_;refine Nl (Rt ?_);refine ⟨.inr Z,outs1 Z (v:=.bool (decide (0≤(idxOf p xs)))) Z ?_⟩;exact ⟨(by rw [show decide (0≤idxOf p xs)=xs.any p from by rw [Bool.eq_iff_iff];simp [idxOf_any]]),ab⟩
theorem indexCount_spec {W:Wk Tryd.prog} {h:GH} (xs:List Count) (xsv:Value) (fv:Value) (p:Count→Bool) (hxs:SlIs h xsv 4 eCount xs) (hf:∀x ∈ xs,∀h1,h.Le h1→ValK W fv #[.agg #[.int .i64 x.good,.int .i64 x.day,.int .i64 x.low,.int .i64 x.high]] h1 fun v h2=>v=.bool (p x)∧h1.Le h2):CallK W 106 #[xsv,fv] h (fun v h'=>v=(.int .i64 (idxOf p xs):Value)∧h.Le h'):=by
 have ac:=hxs.len;refine call_of_tr Tryd.func106 Z (Nb Z) ?_;refine Sq (Rg ?_);refine As (.int .i64 0) Z Z ?_;refine Nl (Sq (Sq (Rg ?_)));refine Mv xsv Z Z ?_;refine Pl Z (ok_lenSl Fx.sl24 hxs Z ?_);refine Mv (.int .i64 0) Z Z ?_;refine Nl (Bk ?_);refine tr_loop (fun nn σ' ds' h'=>∃(k:Nat),nn=xs.length-k∧(k≤xs.length)∧((xs.take k).any p=false)∧ds'=[]∧GH.Le h h'∧σ' 0=xsv∧σ' 1=fv∧σ' 7=.int .i64 (xs.length:Int)∧σ' 8=.int .i64 (k:Int)) ⟨0,Z,(by omega),(by simp),Z,Lr,Z,Z,Z,Z⟩ (fun nn _ _ _ am=>?_);obtain ⟨k,rfl,hk,hs,x6,x7,x8,x9,al,ad⟩:=am;subst x6;refine Sq (Rg ?_);refine Pl Z (ok_lss (a:=(k:Int)) (b:=(xs.length:Int)) ad al ?_);refine Nl (Sq ?_);refine tr_if (p:=(k:Int)<(xs.length:Int)) Z (fun ae=>?_) (fun ae=>?_)
 ·refine Sk (Sq (Bk (Sq (Rg ?_))));refine Mv (.int .i64 (k:Int)) Z ad ?_;refine As (.int .i64 (k:Int)) Z Z ?_;refine Nl (Sq (Rg ?_));refine Mv fv Z x9 ?_;refine Mv xsv Z x8 ?_;refine Mv (.int .i64 (k:Int)) Z Z ?_;have af:(0:Int)≤(k:Int):=by omega
  have ag:(k:Int)<((xs.length:Nat):Int):=by omega
  refine Pl Z (ok_indexS0 Fx.esz24 hxs Z Z af ag fun an ab ah=>?_);have ai:Elem _ an ab 4 (eCount (xs.getD k Count.z)):=Elem.getD Count.z ah;refine Ld (.agg #[.int .i64 ((xs.getD k Count.z).good),.int .i64 ((xs.getD k Count.z).day),.int .i64 ((xs.getD k Count.z).low),.int .i64 ((xs.getD k Count.z).high)]) Z Z (rd_agg0 Fx.ty71 (ai.le x7)) ?_;refine Pl Z (ok_callVal Z (vs:=#[.agg #[.int .i64 ((xs.getD k Count.z).good),.int .i64 ((xs.getD k Count.z).day),.int .i64 ((xs.getD k Count.z).low),.int .i64 ((xs.getD k Count.z).high)]]) (by simp only [List.map_toArray,List.map_cons,List.map_nil,evalS] <;> rfl) ((hf (xs.getD k Count.z) (getD_mem (by omega)) _ x7).mono fun _ _ aj=>?_));obtain ⟨rfl,aa⟩:=aj;refine Nl ?_;refine tr_ifb (t:=p (xs.getD k Count.z)) Z (fun ak=>?_) (fun ak=>?_)
  ·refine Sq (Rg ?_);refine Mv (.int .i64 (k:Int)) Z Z ?_;refine As (.int .i64 (k:Int)) Z Z ?_;refine Nl (Rt ?_);refine ⟨.inr Z,outs1 Z (v:=.int .i64 (k:Int)) Z ?_⟩;exact ⟨(by (rw [idxOf_hit (k:=k) (by omega) hs ‹_›];done)),(x7.trans aa)⟩
  ·refine Sk (Rg ?_);refine Ad (k:Int) 1 Z ad Z (by omega) ?_;refine Mv (.int .i64 ((k:Int)+1)) Z Z ?_;refine Nl ?_;exact ⟨_,by omega,k+1,Z,(by omega),(by exact any_next (d:=Count.z) (by omega) hs ‹_›),Z,(x7.trans aa),x8,x9,al,Z⟩
 ·refine Xt (Sq (Rg ?_));refine As (.int .i64 (-1)) Z Z ?_;refine Nl (Rt ?_);refine ⟨.inr Z,outs1 Z (v:=.int .i64 (-1)) Z ?_⟩;exact ⟨(by (rw [idxOf_miss (k:=k) (by omega) hs])),x7⟩
theorem containsCount_spec {W:Wk Tryd.prog} {h:GH} (xs:List Count) (xsv:Value) (fv:Value) (p:Count→Bool) (hxs:SlIs h xsv 4 eCount xs) (hf:∀x ∈ xs,∀h1,h.Le h1→ValK W fv #[.agg #[.int .i64 x.good,.int .i64 x.day,.int .i64 x.low,.int .i64 x.high]] h1 fun v h2=>v=.bool (p x)∧h1.Le h2):CallK W 90 #[xsv,fv] h (fun v h'=>v=(.bool (xs.any p):Value)∧h.Le h'):=by
 have aa:=hxs.len;refine call_of_tr Tryd.func90 Z (Nb Z) ?_;refine Sq (Rg ?_);refine As (.bool false) Z Z ?_;refine Nl (Sq (Rg ?_));refine Mv xsv Z Z ?_;refine Mv fv Z Z ?_;refine Pl Z (ok_call2 Tryd.func106 Fx.call106 Z Z ((indexCount_spec xs xsv fv p hxs (fun x hx h1 l1=>hf x hx h1 (GH.Le.trans Lr l1))).mono fun _ _ ac=>?_));obtain ⟨rfl,ab⟩:=ac;refine Pl Z (ok_geq (a:=idxOf p xs) (b:=0) Z Z ?_);refine As (.bool (decide (0≤(idxOf p xs)))) Z Z ?_;refine Nl (Rt ?_);refine ⟨.inr Z,outs1 Z (v:=.bool (decide (0≤(idxOf p xs)))) Z ?_⟩;exact ⟨(by rw [show decide (0≤idxOf p xs)=xs.any p from by rw [Bool.eq_iff_iff];simp [idxOf_any]]),ab⟩
theorem indexGood_spec {W:Wk Tryd.prog} {h:GH} (xs:List Good) (xsv:Value) (fv:Value) (p:Good→Bool) (hxs:SlIs h xsv 5 eGood xs) (hf:∀x ∈ xs,∀h1,h.Le h1→ValK W fv #[.agg #[.string x.name,.int .i64 x.cost,.int .i64 x.pack,.int .i64 x.low,.int .i64 x.high]] h1 fun v h2=>v=.bool (p x)∧h1.Le h2):CallK W 141 #[xsv,fv] h (fun v h'=>v=(.int .i64 (idxOf p xs):Value)∧h.Le h'):=by
 have ac:=hxs.len;refine call_of_tr Tryd.func141 Z (Nb Z) ?_;refine Sq (Rg ?_);refine As (.int .i64 0) Z Z ?_;refine Nl (Sq (Sq (Rg ?_)));refine Mv xsv Z Z ?_;refine Pl Z (ok_lenSl Fx.sl22 hxs Z ?_);refine Mv (.int .i64 0) Z Z ?_;refine Nl (Bk ?_);refine tr_loop (fun nn σ' ds' h'=>∃(k:Nat),nn=xs.length-k∧(k≤xs.length)∧((xs.take k).any p=false)∧ds'=[]∧GH.Le h h'∧σ' 0=xsv∧σ' 1=fv∧σ' 7=.int .i64 (xs.length:Int)∧σ' 8=.int .i64 (k:Int)) ⟨0,Z,(by omega),(by simp),Z,Lr,Z,Z,Z,Z⟩ (fun nn _ _ _ am=>?_);obtain ⟨k,rfl,hk,hs,x6,x7,x8,x9,al,ad⟩:=am;subst x6;refine Sq (Rg ?_);refine Pl Z (ok_lss (a:=(k:Int)) (b:=(xs.length:Int)) ad al ?_);refine Nl (Sq ?_);refine tr_if (p:=(k:Int)<(xs.length:Int)) Z (fun ae=>?_) (fun ae=>?_)
 ·refine Sk (Sq (Bk (Sq (Rg ?_))));refine Mv (.int .i64 (k:Int)) Z ad ?_;refine As (.int .i64 (k:Int)) Z Z ?_;refine Nl (Sq (Rg ?_));refine Mv fv Z x9 ?_;refine Mv xsv Z x8 ?_;refine Mv (.int .i64 (k:Int)) Z Z ?_;have af:(0:Int)≤(k:Int):=by omega
  have ag:(k:Int)<((xs.length:Nat):Int):=by omega
  refine Pl Z (ok_indexS0 Fx.esz22 hxs Z Z af ag fun an ab ah=>?_);have ai:Elem _ an ab 5 (eGood (xs.getD k Good.z)):=Elem.getD Good.z ah;refine Ld (.agg #[.string ((xs.getD k Good.z).name),.int .i64 ((xs.getD k Good.z).cost),.int .i64 ((xs.getD k Good.z).pack),.int .i64 ((xs.getD k Good.z).low),.int .i64 ((xs.getD k Good.z).high)]) Z Z (rd_agg0 Fx.ty57 (ai.le x7)) ?_;refine Pl Z (ok_callVal Z (vs:=#[.agg #[.string ((xs.getD k Good.z).name),.int .i64 ((xs.getD k Good.z).cost),.int .i64 ((xs.getD k Good.z).pack),.int .i64 ((xs.getD k Good.z).low),.int .i64 ((xs.getD k Good.z).high)]]) (by simp only [List.map_toArray,List.map_cons,List.map_nil,evalS] <;> rfl) ((hf (xs.getD k Good.z) (getD_mem (by omega)) _ x7).mono fun _ _ aj=>?_));obtain ⟨rfl,aa⟩:=aj;refine Nl ?_;refine tr_ifb (t:=p (xs.getD k Good.z)) Z (fun ak=>?_) (fun ak=>?_)
  ·refine Sq (Rg ?_);refine Mv (.int .i64 (k:Int)) Z Z ?_;refine As (.int .i64 (k:Int)) Z Z ?_;refine Nl (Rt ?_);refine ⟨.inr Z,outs1 Z (v:=.int .i64 (k:Int)) Z ?_⟩;exact ⟨(by (rw [idxOf_hit (k:=k) (by omega) hs ‹_›];done)),(x7.trans aa)⟩
  ·refine Sk (Rg ?_);refine Ad (k:Int) 1 Z ad Z (by omega) ?_;refine Mv (.int .i64 ((k:Int)+1)) Z Z ?_;refine Nl ?_;exact ⟨_,by omega,k+1,Z,(by omega),(by exact any_next (d:=Good.z) (by omega) hs ‹_›),Z,(x7.trans aa),x8,x9,al,Z⟩
 ·refine Xt (Sq (Rg ?_));refine As (.int .i64 (-1)) Z Z ?_;refine Nl (Rt ?_);refine ⟨.inr Z,outs1 Z (v:=.int .i64 (-1)) Z ?_⟩;exact ⟨(by (rw [idxOf_miss (k:=k) (by omega) hs])),x7⟩
theorem containsGood_spec {W:Wk Tryd.prog} {h:GH} (xs:List Good) (xsv:Value) (fv:Value) (p:Good→Bool) (hxs:SlIs h xsv 5 eGood xs) (hf:∀x ∈ xs,∀h1,h.Le h1→ValK W fv #[.agg #[.string x.name,.int .i64 x.cost,.int .i64 x.pack,.int .i64 x.low,.int .i64 x.high]] h1 fun v h2=>v=.bool (p x)∧h1.Le h2):CallK W 137 #[xsv,fv] h (fun v h'=>v=(.bool (xs.any p):Value)∧h.Le h'):=by
 have aa:=hxs.len;refine call_of_tr Tryd.func137 Z (Nb Z) ?_;refine Sq (Rg ?_);refine As (.bool false) Z Z ?_;refine Nl (Sq (Rg ?_));refine Mv xsv Z Z ?_;refine Mv fv Z Z ?_;refine Pl Z (ok_call2 Tryd.func141 Fx.call141 Z Z ((indexGood_spec xs xsv fv p hxs (fun x hx h1 l1=>hf x hx h1 (GH.Le.trans Lr l1))).mono fun _ _ ac=>?_));obtain ⟨rfl,ab⟩:=ac;refine Pl Z (ok_geq (a:=idxOf p xs) (b:=0) Z Z ?_);refine As (.bool (decide (0≤(idxOf p xs)))) Z Z ?_;refine Nl (Rt ?_);refine ⟨.inr Z,outs1 Z (v:=.bool (decide (0≤(idxOf p xs)))) Z ?_⟩;exact ⟨(by rw [show decide (0≤idxOf p xs)=xs.any p from by rw [Bool.eq_iff_iff];simp [idxOf_any]]),ab⟩
theorem numbers1_spec {W:Wk Tryd.prog} {h:GH} (n:Int):CallK W 87 #[.int .i64 n] h (fun v h'=>v=(.bool (decide (¬(0≤n∧n≤99))):Value)∧h=h'):=by
 refine call_of_tr Tryd.func87 Z (Nb Z) ?_;refine Sq (Rg ?_);refine As (.bool false) Z Z ?_;refine Nl (Sq (Rg ?_));refine Mv (.int .i64 n) Z Z ?_;refine Pl Z (ok_call3 Tryd.func46 Fx.call46 Z Z Z ((inside_spec n 0 99 ).mono fun _ _ aa=>?_));obtain ⟨rfl,rfl⟩:=aa;refine Pl Z (ok_notp (p:=0≤n∧n≤99) Z ?_);refine As (.bool (decide (¬(0≤n∧n≤99)))) Z Z ?_;refine Nl (Rt ?_);refine ⟨.inr Z,outs1 Z (v:=.bool (decide (¬(0≤n∧n≤99)))) Z ?_⟩;exact ⟨Z,Z⟩
theorem numbers_spec {W:Wk Tryd.prog} {h:GH} (l:List Int) (lv:Value) (m:Int) (hl:SlIs h lv 1 eI l):CallK W 73 #[lv,.int .i64 m] h (fun v h'=>v=(.int .i64 (numsBell l m):Value)∧h.Le h'):=by
 have ab:=hl.len;refine call_of_tr Tryd.func73 Z (Nb Z) ?_;refine Sq (Rg ?_);refine As (.int .i64 0) Z Z ?_;refine Nl (Sq (Bk (Sq (Rg ?_))));refine Mv lv Z Z ?_;refine Pl Z (ok_lenSl Fx.sl30 hl Z ?_);refine Mv (.int .i64 m) Z Z ?_;refine Pl Z (ok_neq (a:=(l.length:Int)) (b:=m) Z Z ?_);refine As (.bool (decide (¬(l.length:Int)=m))) Z Z ?_;refine Nl ?_;refine tr_if (p:=¬(l.length:Int)=m) Z (fun ac=>?_) (fun ac=>?_)
 ·refine Sq (Rg ?_);refine As (.int .i64 2) Z Z ?_;refine Nl (Rt ?_);refine ⟨.inr Z,outs1 Z (v:=.int .i64 2) Z ?_⟩;exact ⟨(by simp_all [numsBell]),Lr⟩
 ·refine Sq (Rg ?_);refine Mv lv Z Z ?_;have ad:∀x ∈ l,∀h1,GH.Le h h1→ValK W (.func (.func 87) #[] #[]) #[.int .i64 x] h1 fun v h2=>v=.bool ((fun x=>decide (¬(0≤x∧x≤99))) x)∧h1.Le h2:=by
   intro x hx h1 _;exact valK_func Tryd.func87 Fx.call87 Z ((numbers1_spec x ).mono fun v h2 hp=>⟨hp.1,by rw [←hp.2];exact GH.Le.refl _⟩)
  refine Pl Z (ok_call2 Tryd.func51 Fx.call51 Z Z ((containsInt_spec l lv (.func (.func 87) #[] #[]) (fun x=>decide (¬(0≤x∧x≤99))) hl ad).mono fun _ _ ae=>?_));obtain ⟨rfl,aa⟩:=ae;refine As (.bool (l.any (fun x=>decide (¬(0≤x∧x≤99))))) Z Z ?_;refine Nl ?_;refine tr_ifb (t:=l.any (fun x=>decide (¬(0≤x∧x≤99)))) Z (fun af=>?_) (fun af=>?_)
  ·refine Sq (Rg ?_);refine As (.int .i64 1) Z Z ?_;refine Nl (Rt ?_);refine ⟨.inr Z,outs1 Z (v:=.int .i64 1) Z ?_⟩;exact ⟨(by simp_all [numsBell]),aa⟩
  ·refine Sk (Sq (Rg ?_));refine As (.int .i64 0) Z Z ?_;refine Nl (Rt ?_);refine ⟨.inr Z,outs1 Z (v:=.int .i64 0) Z ?_⟩;exact ⟨(by simp_all [numsBell]),aa⟩
end Go.Ns
namespace Go.Ns
open Go.Conc Go.Proofs
attribute [local irreducible] OpK TrL Tr CallK ValK RoundK
theorem moves_spec {W:Wk Tryd.prog} {h:GH} (d:Int) (m:Int) (gs:List Good) (gsv:Value) (ms:List Move) (msv:Value) (cs:List Count) (csv:Value) (hgs:SlIs h gsv 5 eGood gs) (hms:SlIs h msv 5 eMove ms) (hcs:SlIs h csv 4 eCount cs):CallK W 134 #[.agg #[.int .i64 d,.int .i64 m,gsv,msv,csv]] h (fun v h'=>v=(.int .i64 (movesBell d gs ms):Value)∧h.Le h'):=by
 have av:=hgs.len;have aw:=hms.len;have ax:=hcs.len;refine call_of_tr Tryd.func134 Z (Nb Z) ?_;refine Sq (Rg ?_);refine Pl Z (ok_box' (v:=.agg #[.int .i64 d,.int .i64 m,gsv,msv,csv]) (c:=#[.int .i64 d,.int .i64 m,gsv,msv,csv]) Z Z fun r4 h5 _ af ay _=>?_);refine As (.int .i64 0) Z Z ?_;refine Nl (Sq (Sq (Rg ?_)));refine Fa Fx.fld92_0 Z Z ?_;refine Fa Fx.fld26_3 Z Z ?_;refine Ld msv Z Z (Rd.one Fx.ty23 ay Z) ?_;have ak:=hms.le af;refine Pl Z (ok_lenSl Fx.sl23 ak Z ?_);refine Pl Z (ok_gtr (a:=(ms.length:Int)) (b:=6) Z Z ?_);refine Nl ?_;refine tr_if (p:=6<(ms.length:Int)) Z (fun az=>?_) (fun az=>?_)
 ·refine Sq (Rg ?_);refine As (.int .i64 2) Z Z ?_;refine Nl (Rt ?_);refine ⟨.inr Z,outs1 Z (v:=.int .i64 2) Z ?_⟩;exact ⟨(by (symm;congr 1;rw [movesBell,if_pos ‹_›];done)),af⟩
 ·refine Sk (Sq (Rg ?_));refine As (.int .i64 0) Z Z ?_;refine Nl (Sq (Sq (Rg ?_)));refine Fa Fx.fld92_0 Z Z ?_;refine Fa Fx.fld26_3 Z Z ?_;refine Ld msv Z Z (Rd.one Fx.ty23 ay Z) ?_;refine Pl Z (ok_lenSl Fx.sl23 ak Z ?_);refine Mv (.int .i64 0) Z Z ?_;refine Nl (Bk ?_);refine tr_loop (fun nn σ' ds' h'=>∃(k:Nat),nn=ms.length-k∧(k≤ms.length)∧(∀j,j<k→moveAt d gs ms j=0)∧ds'=[]∧GH.Le h5 h'∧σ' 1=.pointer (some ⟨r4,0,none⟩)∧σ' 13=msv∧σ' 14=.int .i64 (ms.length:Int)∧σ' 3=.int .i64 (lastDay ms k)∧σ' 15=.int .i64 (k:Int)) ⟨0,Z,(by omega),(by (intro j hj;omega)),Z,Lr,Z,Z,Z,Z,Z⟩ (fun nn _ _ _ a0=>?_);obtain ⟨k,rfl,hk,hs,bi,al,a1,bg,bh,bj,a2⟩:=a0;subst bi;refine Sq (Rg ?_);refine Pl Z (ok_lss (a:=(k:Int)) (b:=(ms.length:Int)) a2 bh ?_);refine Nl (Sq ?_);refine tr_if (p:=(k:Int)<(ms.length:Int)) Z (fun a3=>?_) (fun a3=>?_)
  ·refine Sk (Sq (Bk (Sq (Rg ?_))));have a4:(0:Int)≤(k:Int):=by omega
   have a5:(k:Int)<((ms.length:Nat):Int):=by omega
   refine Pl Z (ok_indexS0 Fx.esz23 hms bg a2 a4 a5 fun bk am a6=>?_);have a7:Elem _ bk am 5 (eMove (ms.getD k Move.z)):=Elem.getD Move.z a6;have ad:=af.trans al;refine Ld (.agg #[.int .i64 ((ms.getD k Move.z).kind),.int .i64 ((ms.getD k Move.z).good),.int .i64 ((ms.getD k Move.z).day),.int .i64 ((ms.getD k Move.z).low),.int .i64 ((ms.getD k Move.z).high)]) Z Z (rd_agg0 Fx.ty41 (a7.le ad)) ?_;have an:=al.keep ay Z;refine Pl Z (ok_alloc' Fx.zero41 fun bl _ ag ac a8 _=>?_);have a9:r4≠bl:=Ne' an ag;refine Pl Z (ok_store' (v:=.agg #[.int .i64 ((ms.getD k Move.z).kind),.int .i64 ((ms.getD k Move.z).good),.int .i64 ((ms.getD k Move.z).day),.int .i64 ((ms.getD k Move.z).low),.int .i64 ((ms.getD k Move.z).high)]) (c':=#[.int .i64 ((ms.getD k Move.z).kind),.int .i64 ((ms.getD k Move.z).good),.int .i64 ((ms.getD k Move.z).day),.int .i64 ((ms.getD k Move.z).low),.int .i64 ((ms.getD k Move.z).high)]) Fx.ty41 Z Z a8 Z Z (by simp) Z fun _ aj ah=>?_);refine Nl (Sq (Bk (Sq (Rg ?_))));refine Fa Fx.fld41_0 Z Z ?_;refine Ld (.int .i64 ((ms.getD k Move.z).kind)) Z Z (Rd.one Fx.ty37 aj Z) ?_;refine Pl Z (ok_call3 Tryd.func46 Fx.call46 Z Z Z ((inside_spec ((ms.getD k Move.z).kind) 0 4 ).mono fun _ _ ba=>?_));obtain ⟨rfl,rfl⟩:=ba;refine Pl Z (ok_notp (p:=0≤((ms.getD k Move.z).kind)∧((ms.getD k Move.z).kind)≤4) Z ?_);refine As (.bool (decide (¬(0≤((ms.getD k Move.z).kind)∧((ms.getD k Move.z).kind)≤4)))) Z Z ?_;refine Nl ?_;refine tr_if (p:=¬(0≤((ms.getD k Move.z).kind)∧((ms.getD k Move.z).kind)≤4)) Z (fun ao=>?_) (fun ao=>?_)
   ·refine Sq (Rg ?_);refine As (.int .i64 1) Z Z ?_;refine Nl (Rt ?_);refine ⟨.inr Z,outs1 Z (v:=.int .i64 1) Z ?_⟩;exact ⟨(by (symm;congr 1;rw [movesBell,if_neg ‹_›];exact firstB_hit0 (k:=k) hs (by omega) (by unfold moveAt;(simp only [*,not_true_eq_false,not_false_eq_true,if_true,if_false,true_or,or_true,reduceCtorEq,Bool.false_eq_true];done)) (by decide))),((ad.trans ac).upd (Ln ad ag) ah)⟩
   ·have hc48_:=Dn ao;refine Sq (Rg ?_);have ap:=(ah _ a9).trans (ac.keep an Z);refine Ld (.agg #[.int .i64 d,.int .i64 m,gsv,msv,csv]) Z a1 (rd_agg0 Fx.ty92 (Bx ap Z)) ?_;refine Fa Fx.fld41_1 Z Z ?_;refine Ld (.int .i64 ((ms.getD k Move.z).good)) Z Z (Rd.one Fx.ty3 aj Z) ?_;have ab:=(ad.trans ac).upd (Ln ad ag) ah;refine Pl Z (ok_call2 Tryd.func44 Fx.call44 Z Z ((isGood_spec d m gs gsv ms msv cs csv ((ms.getD k Move.z).good) (hgs.le ab) (hms.le ab) (hcs.le ab) ).mono fun _ _ bb=>?_));obtain ⟨rfl,aa⟩:=bb;refine Pl Z (ok_notp (p:=0≤((ms.getD k Move.z).good)∧((ms.getD k Move.z).good)≤(gs.length:Int)-1) Z ?_);refine As (.bool (decide (¬(0≤((ms.getD k Move.z).good)∧((ms.getD k Move.z).good)≤(gs.length:Int)-1)))) Z Z ?_;refine Nl ?_;refine tr_if (p:=¬(0≤((ms.getD k Move.z).good)∧((ms.getD k Move.z).good)≤(gs.length:Int)-1)) Z (fun aq=>?_) (fun aq=>?_)
    ·refine Sq (Rg ?_);refine As (.int .i64 6) Z Z ?_;refine Nl (Rt ?_);refine ⟨.inr Z,outs1 Z (v:=.int .i64 6) Z ?_⟩;exact ⟨(by (symm;congr 1;rw [movesBell,if_neg ‹_›];exact firstB_hit0 (k:=k) hs (by omega) (by unfold moveAt;(clear hs;simp_all;done)) (by decide))),(ab.trans aa)⟩
    ·have hc59_:=Dn aq;refine Sq (Rg ?_);refine Fa Fx.fld41_2 Z Z ?_;have ai:=aa.keep aj Z;refine Ld (.int .i64 ((ms.getD k Move.z).day)) Z Z (Rd.one Fx.ty3 ai Z) ?_;refine Fa Fx.fld92_0 Z a1 ?_;refine Fa Fx.fld26_0 Z Z ?_;refine Ld (.int .i64 d) Z Z (Rd.one Fx.ty3 (aa.keep ap Z) Z) ?_;refine Pl Z (ok_call3 Tryd.func46 Fx.call46 Z Z Z ((inside_spec ((ms.getD k Move.z).day) 1 d ).mono fun _ _ bc=>?_));obtain ⟨rfl,rfl⟩:=bc;refine Pl Z (ok_notp (p:=1≤((ms.getD k Move.z).day)∧((ms.getD k Move.z).day)≤d) Z ?_);refine As (.bool (decide (¬(1≤((ms.getD k Move.z).day)∧((ms.getD k Move.z).day)≤d)))) Z Z ?_;refine Nl ?_;refine tr_if (p:=¬(1≤((ms.getD k Move.z).day)∧((ms.getD k Move.z).day)≤d)) Z (fun ar=>?_) (fun ar=>?_)
     ·refine Sq (Rg ?_);refine As (.int .i64 1) Z Z ?_;refine Nl (Rt ?_);refine ⟨.inr Z,outs1 Z (v:=.int .i64 1) Z ?_⟩;exact ⟨(by (symm;congr 1;rw [movesBell,if_neg ‹_›];exact firstB_hit0 (k:=k) hs (by omega) (by unfold moveAt;(clear hs;simp_all;done)) (by decide))),(ab.trans aa)⟩
     ·have hc67_:=Dn ar;refine Sq (Rg ?_);refine Fa Fx.fld41_2 Z Z ?_;refine Ld (.int .i64 ((ms.getD k Move.z).day)) Z Z (Rd.one Fx.ty3 ai Z) ?_;refine Mv (.int .i64 (lastDay ms k)) Z bj ?_;refine Pl Z (ok_lss (a:=(ms.getD k Move.z).day) (b:=lastDay ms k) Z Z ?_);refine As (.bool (decide (((ms.getD k Move.z).day)<(lastDay ms k)))) Z Z ?_;refine Nl ?_;refine tr_if (p:=((ms.getD k Move.z).day)<(lastDay ms k)) Z (fun bd=>?_) (fun bd=>?_)
      ·refine Sq (Rg ?_);refine As (.int .i64 7) Z Z ?_;refine Nl (Rt ?_);refine ⟨.inr Z,outs1 Z (v:=.int .i64 7) Z ?_⟩;exact ⟨(by (symm;congr 1;rw [movesBell,if_neg ‹_›];exact firstB_hit0 (k:=k) hs (by omega) (by unfold moveAt;(clear hs;simp_all;done)) (by decide))),(ab.trans aa)⟩
      ·refine Sq (Rg ?_);refine Fa Fx.fld41_3 Z Z ?_;refine Ld (.agg #[.int .i64 ((ms.getD k Move.z).low),.int .i64 ((ms.getD k Move.z).high)]) Z Z (rd_agg (o:=3) (ws:=#[.int .i64 ((ms.getD k Move.z).low),.int .i64 ((ms.getD k Move.z).high)]) Fx.ty39 (Bx ai Z) (Nb Z) Z) ?_;refine Pl Z (ok_call1 Tryd.func139 Fx.call139 Z ((few_spec ((ms.getD k Move.z).low) ((ms.getD k Move.z).high) ).mono fun _ _ be=>?_));obtain ⟨rfl,ae⟩:=be;refine Pl Z (ok_notp (p:=isFew ((ms.getD k Move.z).low) ((ms.getD k Move.z).high)) Z ?_);refine As (.bool (decide (¬(isFew ((ms.getD k Move.z).low) ((ms.getD k Move.z).high))))) Z Z ?_;refine Nl ?_;refine tr_if (p:=¬(isFew ((ms.getD k Move.z).low) ((ms.getD k Move.z).high))) Z (fun au=>?_) (fun au=>?_)
       ·refine Sq (Rg ?_);refine As (.int .i64 1) Z Z ?_;refine Nl (Rt ?_);refine ⟨.inr Z,outs1 Z (v:=.int .i64 1) Z ?_⟩;exact ⟨(by (symm;congr 1;rw [movesBell,if_neg ‹_›];exact firstB_hit0 (k:=k) hs (by omega) (by unfold moveAt;(clear hs;simp_all;done)) (by decide))),((ab.trans aa).trans ae)⟩
       ·have hc75_:=Dn au;refine Sk (Rg ?_);refine Fa Fx.fld41_2 Z Z ?_;refine Ld (.int .i64 ((ms.getD k Move.z).day)) Z Z (Rd.one Fx.ty3 (ae.keep ai Z) Z) ?_;refine As (.int .i64 ((ms.getD k Move.z).day)) Z Z ?_;refine Nl (Rg ?_);refine Ad (k:Int) 1 Z a2 Z (by omega) ?_;refine Mv (.int .i64 ((k:Int)+1)) Z Z ?_;refine Nl ?_;have bf:=(((al.trans ac).upd (Ln al ag) ah).trans aa).trans ae;exact ⟨_,by omega,k+1,Z,(by omega),(by exact allB_next hs (by unfold moveAt;(clear hs;simp_all;done))),Z,bf,a1,bg,bh,(Et (b:=(.int .i64 ((ms.getD k Move.z).day):Value)) Z (by simp [lastDay])),Z⟩
  ·refine Xt (Sq (Rg ?_));refine As (.int .i64 0) Z Z ?_;refine Nl (Rt ?_);refine ⟨.inr Z,outs1 Z (v:=.int .i64 0) Z ?_⟩;exact ⟨(by (symm;congr 1;rw [movesBell,if_neg ‹_›];exact firstB_miss0 (k:=k) hs (by omega))),(af.trans al)⟩
theorem counts_spec {W:Wk Tryd.prog} {h:GH} (d:Int) (m:Int) (gs:List Good) (gsv:Value) (ms:List Move) (msv:Value) (cs:List Count) (csv:Value) (hgs:SlIs h gsv 5 eGood gs) (hms:SlIs h msv 5 eMove ms) (hcs:SlIs h csv 4 eCount cs):CallK W 135 #[.agg #[.int .i64 d,.int .i64 m,gsv,msv,csv]] h (fun v h'=>v=(.int .i64 (countsBell d gs cs):Value)∧h.Le h'):=by
 have aw:=hgs.len;have ax:=hms.len;have ay:=hcs.len;refine call_of_tr Tryd.func135 Z (Nb Z) ?_;refine Sq (Rg ?_);refine Pl Z (ok_box' (v:=.agg #[.int .i64 d,.int .i64 m,gsv,msv,csv]) (c:=#[.int .i64 d,.int .i64 m,gsv,msv,csv]) Z Z fun r4 h5 _ ae az _=>?_);refine As (.int .i64 0) Z Z ?_;refine Nl (Sq (Sq (Rg ?_)));refine Fa Fx.fld92_0 Z Z ?_;refine Fa Fx.fld26_4 Z Z ?_;refine Ld csv Z Z (Rd.one Fx.ty24 az Z) ?_;have ak:=hcs.le ae;refine Pl Z (ok_lenSl Fx.sl24 ak Z ?_);refine Pl Z (ok_gtr (a:=(cs.length:Int)) (b:=4) Z Z ?_);refine Nl ?_;refine tr_if (p:=4<(cs.length:Int)) Z (fun a0=>?_) (fun a0=>?_)
 ·refine Sq (Rg ?_);refine As (.int .i64 2) Z Z ?_;refine Nl (Rt ?_);refine ⟨.inr Z,outs1 Z (v:=.int .i64 2) Z ?_⟩;exact ⟨(by (symm;congr 1;rw [countsBell,if_pos ‹_›];done)),ae⟩
 ·refine Sk (Sq (Sq (Rg ?_)));refine Fa Fx.fld92_0 Z Z ?_;refine Fa Fx.fld26_4 Z Z ?_;refine Ld csv Z Z (Rd.one Fx.ty24 az Z) ?_;refine Pl Z (ok_lenSl Fx.sl24 ak Z ?_);refine Mv (.int .i64 0) Z Z ?_;refine Nl (Bk ?_);refine tr_loop (fun nn σ' ds' h'=>∃(k:Nat),nn=cs.length-k∧(k≤cs.length)∧(∀j,j<k→countAt d gs cs j=0)∧ds'=[]∧GH.Le h5 h'∧σ' 1=.pointer (some ⟨r4,0,none⟩)∧σ' 12=csv∧σ' 13=.int .i64 (cs.length:Int)∧σ' 14=.int .i64 (k:Int)) ⟨0,Z,(by omega),(by (intro j hj;omega)),Z,Lr,Z,Z,Z,Z⟩ (fun nn _ _ _ a1=>?_);obtain ⟨k,rfl,hk,hs,bo,al,au,a2,a3,av⟩:=a1;subst bo;refine Sq (Rg ?_);refine Pl Z (ok_lss (a:=(k:Int)) (b:=(cs.length:Int)) av a3 ?_);refine Nl (Sq ?_);refine tr_if (p:=(k:Int)<(cs.length:Int)) Z (fun a4=>?_) (fun a4=>?_)
  ·refine Sk (Sq (Bk (Sq (Rg ?_))));have a5:(0:Int)≤(k:Int):=by omega
   have a6:(k:Int)<((cs.length:Nat):Int):=by omega
   refine Pl Z (ok_indexS0 Fx.esz24 hcs a2 av a5 a6 fun bn af a7=>?_);have a8:Elem _ bn af 4 (eCount (cs.getD k Count.z)):=Elem.getD Count.z a7;have ah:=ae.trans al;refine Ld (.agg #[.int .i64 ((cs.getD k Count.z).good),.int .i64 ((cs.getD k Count.z).day),.int .i64 ((cs.getD k Count.z).low),.int .i64 ((cs.getD k Count.z).high)]) Z Z (rd_agg0 Fx.ty71 (a8.le ah)) ?_;have am:=al.keep az Z;refine Pl Z (ok_alloc' Fx.zero71 fun a9 _ ai ac ba _=>?_);have bb:r4≠a9:=Ne' am ai;refine Pl Z (ok_store' (v:=.agg #[.int .i64 ((cs.getD k Count.z).good),.int .i64 ((cs.getD k Count.z).day),.int .i64 ((cs.getD k Count.z).low),.int .i64 ((cs.getD k Count.z).high)]) (c':=#[.int .i64 ((cs.getD k Count.z).good),.int .i64 ((cs.getD k Count.z).day),.int .i64 ((cs.getD k Count.z).low),.int .i64 ((cs.getD k Count.z).high)]) Fx.ty71 Z Z ba Z Z (by simp) Z fun _ an aj=>?_);refine Nl (Bk (Sq (Rg ?_)));have ao:=(aj _ bb).trans (ac.keep am Z);refine Ld (.agg #[.int .i64 d,.int .i64 m,gsv,msv,csv]) Z au (rd_agg0 Fx.ty92 (Bx ao Z)) ?_;refine Fa Fx.fld71_0 Z Z ?_;refine Ld (.int .i64 ((cs.getD k Count.z).good)) Z Z (Rd.one Fx.ty3 an Z) ?_;have ad:=(ah.trans ac).upd (Ln ah ai) aj;refine Pl Z (ok_call2 Tryd.func44 Fx.call44 Z Z ((isGood_spec d m gs gsv ms msv cs csv ((cs.getD k Count.z).good) (hgs.le ad) (hms.le ad) (hcs.le ad) ).mono fun _ bp bc=>?_));obtain ⟨rfl,ab⟩:=bc;refine Pl Z (ok_notp (p:=0≤((cs.getD k Count.z).good)∧((cs.getD k Count.z).good)≤(gs.length:Int)-1) Z ?_);refine As (.bool (decide (¬(0≤((cs.getD k Count.z).good)∧((cs.getD k Count.z).good)≤(gs.length:Int)-1)))) Z Z ?_;refine Nl ?_;refine tr_if (p:=¬(0≤((cs.getD k Count.z).good)∧((cs.getD k Count.z).good)≤(gs.length:Int)-1)) Z (fun ap=>?_) (fun ap=>?_)
   ·refine Sq (Rg ?_);refine As (.int .i64 6) Z Z ?_;refine Nl (Rt ?_);refine ⟨.inr Z,outs1 Z (v:=.int .i64 6) Z ?_⟩;exact ⟨(by (symm;congr 1;rw [countsBell,if_neg ‹_›];exact firstB_hit0 (k:=k) hs (by omega) (by unfold countAt;(simp only [*,not_true_eq_false,not_false_eq_true,if_true,if_false,true_or,or_true,reduceCtorEq,Bool.false_eq_true];done)) (by decide))),(ad.trans ab)⟩
   ·have hc52_:=Dn ap;refine tr_seq_mid (fun σ' ds' h'=>ds'=[]∧GH.Le bp h'∧σ' 1=.pointer (some ⟨r4,0,none⟩)∧σ' 4=.pointer (some ⟨a9,0,none⟩)∧σ' 12=csv∧σ' 13=.int .i64 (cs.length:Int)∧σ' 14=.int .i64 (k:Int)∧σ' 15=.bool (decide ((k:Int)<(cs.length:Int)))∧σ' 16=.pointer (some ⟨bn,af,none⟩)∧σ' 17=.agg #[.int .i64 ((cs.getD k Count.z).good),.int .i64 ((cs.getD k Count.z).day),.int .i64 ((cs.getD k Count.z).low),.int .i64 ((cs.getD k Count.z).high)]∧σ' 18=.bool (decide (¬(0≤((cs.getD k Count.z).good)∧((cs.getD k Count.z).good)≤(gs.length:Int)-1)))∧σ' 19=.agg #[.int .i64 d,.int .i64 m,gsv,msv,csv]∧σ' 20=.pointer (some ⟨a9,0,none⟩)∧σ' 21=.int .i64 ((cs.getD k Count.z).good)∧σ' 22=.bool (decide (0≤((cs.getD k Count.z).good)∧((cs.getD k Count.z).good)≤(gs.length:Int)-1))∧σ' 23=.bool (decide (¬(0≤((cs.getD k Count.z).good)∧((cs.getD k Count.z).good)≤(gs.length:Int)-1)))∧σ' 24=.bool (decide ((¬(0≤((cs.getD k Count.z).day)∧((cs.getD k Count.z).day)≤d))∨(¬((0≤((cs.getD k Count.z).low)∧((cs.getD k Count.z).low)≤((cs.getD k Count.z).high))∧((cs.getD k Count.z).high)≤999))))∧σ' 26=.int .i64 ((cs.getD k Count.z).day)∧σ' 29=.int .i64 d∧σ' 30=.bool (decide (0≤((cs.getD k Count.z).day)∧((cs.getD k Count.z).day)≤d))∧σ' 31=.bool (decide (¬(0≤((cs.getD k Count.z).day)∧((cs.getD k Count.z).day)≤d)))∧σ' 32=.bool (decide (¬(0≤((cs.getD k Count.z).day)∧((cs.getD k Count.z).day)≤d)))∧σ' 37=.bool (decide ((¬(0≤((cs.getD k Count.z).day)∧((cs.getD k Count.z).day)≤d))∨(¬((0≤((cs.getD k Count.z).low)∧((cs.getD k Count.z).low)≤((cs.getD k Count.z).high))∧((cs.getD k Count.z).high)≤999))))) ?_ ?_
    ·refine Rg ?_;refine Fa Fx.fld71_1 Z Z ?_;have aq:=ab.keep an Z;refine Ld (.int .i64 ((cs.getD k Count.z).day)) Z Z (Rd.one Fx.ty3 aq Z) ?_;refine Fa Fx.fld92_0 Z au ?_;refine Fa Fx.fld26_0 Z Z ?_;refine Ld (.int .i64 d) Z Z (Rd.one Fx.ty3 (ab.keep ao Z) Z) ?_;refine Pl Z (ok_call3 Tryd.func46 Fx.call46 Z Z Z ((inside_spec ((cs.getD k Count.z).day) 0 d ).mono fun _ _ bd=>?_));obtain ⟨rfl,rfl⟩:=bd;refine Pl Z (ok_notp (p:=0≤((cs.getD k Count.z).day)∧((cs.getD k Count.z).day)≤d) Z ?_);refine Mv (.bool (decide (¬(0≤((cs.getD k Count.z).day)∧((cs.getD k Count.z).day)≤d)))) Z Z ?_;refine trL_case (p:=¬(0≤((cs.getD k Count.z).day)∧((cs.getD k Count.z).day)≤d)) ?_ ?_
     ·intro aa;refine Gs 7 32 (bool_t Z aa) Z ?_;refine Gs 7 32 (bool_t Z aa) Z ?_;refine Gs 7 32 (bool_t Z aa) Z ?_;refine Gs 7 32 (bool_t Z aa) Z ?_;refine Pk true (.bool true) Z (bool_t Z aa) Z ?_;refine As (.bool true) Z Z ?_;refine Nl ?_;exact ⟨Z,Lr,au,Z,a2,a3,av,Z,Z,Z,Z,Z,Z,Z,Z,Z,Et (b:=(.bool true:Value)) Z (congrArg Value.bool (by grind:true=decide ((¬(0≤((cs.getD k Count.z).day)∧((cs.getD k Count.z).day)≤d))∨(¬((0≤((cs.getD k Count.z).low)∧((cs.getD k Count.z).low)≤((cs.getD k Count.z).high))∧((cs.getD k Count.z).high)≤999))))),Z,Z,Z,Z,Z,Et (b:=(.bool true:Value)) Z (congrArg Value.bool (by grind:true=decide ((¬(0≤((cs.getD k Count.z).day)∧((cs.getD k Count.z).day)≤d))∨(¬((0≤((cs.getD k Count.z).low)∧((cs.getD k Count.z).low)≤((cs.getD k Count.z).high))∧((cs.getD k Count.z).high)≤999)))))⟩
     ·intro aa;refine Gg 7 32 (bool_f Z aa) Z (ok_fieldAddr Fx.fld71_2 Z ?_);refine Gg 7 32 (bool_f Z aa) Z (ok_load (v:=.agg #[.int .i64 ((cs.getD k Count.z).low),.int .i64 ((cs.getD k Count.z).high)]) Z (rd_agg (o:=2) (ws:=#[.int .i64 ((cs.getD k Count.z).low),.int .i64 ((cs.getD k Count.z).high)]) Fx.ty39 (Bx aq Z) (Nb Z) Z) ?_);refine Gg 7 32 (bool_f Z aa) Z (ok_call3 Tryd.func140 Fx.call140 Z Z Z ((spans_spec ((cs.getD k Count.z).low) ((cs.getD k Count.z).high) 0 999 ).mono fun _ _ be=>?_));obtain ⟨rfl,ar⟩:=be;refine Gg 7 32 (bool_f Z aa) Z (ok_notp (p:=(0≤((cs.getD k Count.z).low)∧((cs.getD k Count.z).low)≤((cs.getD k Count.z).high))∧((cs.getD k Count.z).high)≤999) Z ?_);refine Pk false (.bool (decide (¬((0≤((cs.getD k Count.z).low)∧((cs.getD k Count.z).low)≤((cs.getD k Count.z).high))∧((cs.getD k Count.z).high)≤999)))) Z (bool_f Z aa) Z ?_;refine As (.bool (decide (¬((0≤((cs.getD k Count.z).low)∧((cs.getD k Count.z).low)≤((cs.getD k Count.z).high))∧((cs.getD k Count.z).high)≤999)))) Z Z ?_;refine Nl ?_;exact ⟨Z,ar,au,Z,a2,a3,av,Z,Z,Z,Z,Z,Z,Z,Z,Z,Et (b:=(.bool (decide (¬((0≤((cs.getD k Count.z).low)∧((cs.getD k Count.z).low)≤((cs.getD k Count.z).high))∧((cs.getD k Count.z).high)≤999))):Value)) Z (congrArg Value.bool (by grind:decide (¬((0≤((cs.getD k Count.z).low)∧((cs.getD k Count.z).low)≤((cs.getD k Count.z).high))∧((cs.getD k Count.z).high)≤999))=decide ((¬(0≤((cs.getD k Count.z).day)∧((cs.getD k Count.z).day)≤d))∨(¬((0≤((cs.getD k Count.z).low)∧((cs.getD k Count.z).low)≤((cs.getD k Count.z).high))∧((cs.getD k Count.z).high)≤999))))),Z,Z,Z,Z,Z,Et (b:=(.bool (decide (¬((0≤((cs.getD k Count.z).low)∧((cs.getD k Count.z).low)≤((cs.getD k Count.z).high))∧((cs.getD k Count.z).high)≤999))):Value)) Z (congrArg Value.bool (by grind:decide (¬((0≤((cs.getD k Count.z).low)∧((cs.getD k Count.z).low)≤((cs.getD k Count.z).high))∧((cs.getD k Count.z).high)≤999))=decide ((¬(0≤((cs.getD k Count.z).day)∧((cs.getD k Count.z).day)≤d))∨(¬((0≤((cs.getD k Count.z).low)∧((cs.getD k Count.z).low)≤((cs.getD k Count.z).high))∧((cs.getD k Count.z).high)≤999)))))⟩
    ·rintro _ _ _ ⟨bf,ag,bg,bq,bh,bi,bj,br,bs,bt,bu,bv,bw,bx,bz,b0,bk,b1,b2,b3,b4,b5,b6⟩;subst bf;refine tr_if (p:=(¬(0≤((cs.getD k Count.z).day)∧((cs.getD k Count.z).day)≤d))∨(¬((0≤((cs.getD k Count.z).low)∧((cs.getD k Count.z).low)≤((cs.getD k Count.z).high))∧((cs.getD k Count.z).high)≤999))) bk (fun bl=>?_) (fun bl=>?_)
     ·refine Sq (Rg ?_);refine As (.int .i64 1) Z Z ?_;refine Nl (Rt ?_);refine ⟨.inr Z,outs1 Z (v:=.int .i64 1) Z ?_⟩;exact ⟨(by (symm;congr 1;rw [countsBell,if_neg ‹_›];exact firstB_hit0 (k:=k) hs (by omega) (by unfold countAt;(clear hs;simp_all;done)) (by decide))),((ad.trans ab).trans ag)⟩
     ·refine Sk (Rg ?_);refine Ad (k:Int) 1 Z bj Z (by omega) ?_;refine Mv (.int .i64 ((k:Int)+1)) Z Z ?_;refine Nl ?_;have bm:=(((al.trans ac).upd (Ln al ai) aj).trans ab).trans ag;exact ⟨_,by omega,k+1,Z,(by omega),(by exact allB_next hs (by unfold countAt;(clear hs;simp_all;done))),Z,bm,bg,bh,bi,Z⟩
  ·refine Xt (Sq (Rg ?_));refine As (.int .i64 0) Z Z ?_;refine Nl (Rt ?_);refine ⟨.inr Z,outs1 Z (v:=.int .i64 0) Z ?_⟩;exact ⟨(by (symm;congr 1;rw [countsBell,if_neg ‹_›];exact firstB_miss0 (k:=k) hs (by omega))),(ae.trans al)⟩
theorem isName_spec {W:Wk Tryd.prog} {h:GH} (s:ByteArray) (hsz:s.size≤1000):CallK W 136 #[.string s] h (fun v h'=>v=(.bool (nameOK s):Value)∧h.Le h'):=by
 have hbl:=bytesOf_length s;refine call_of_tr Tryd.func136 Z (Nb Z) ?_;refine Sq (Rg ?_);refine As (.bool false) Z Z ?_;refine Nl (Sq (Sq (Rg ?_)));refine Mv (.string s) Z Z ?_;refine Pl Z (ok_convS Fx.s2b9_50 Z (by omega) fun a1 h2 ae a2=>?_);refine Pl Z (ok_lenSl Fx.sl50 a2 Z ?_);refine Mv (.int .i64 0) Z Z ?_;refine Nl (Bk ?_);refine tr_loop (fun nn σ' ds' h'=>∃(k:Nat),nn=(bytesOf s).length-k∧(k≤(bytesOf s).length)∧(∀j,j<k→nameAt s j=0)∧ds'=[]∧GH.Le h2 h'∧σ' 0=.string s∧σ' 6=a1∧σ' 7=.int .i64 ((bytesOf s).length:Int)∧σ' 8=.int .i64 (k:Int)) ⟨0,Z,(by omega),(by (intro j hj;omega)),Z,Lr,Z,Z,Z,Z⟩ (fun nn _ _ h7 a4=>?_);obtain ⟨k,rfl,hk,hs,x9,ag,ah,ai,aj,ad⟩:=a4;subst x9;have hby:=bytesOf_range s k;refine Sq (Rg ?_);refine Pl Z (ok_lss (a:=(k:Int)) (b:=((bytesOf s).length:Int)) ad aj ?_);refine Nl (Sq ?_);refine tr_if (p:=(k:Int)<((bytesOf s).length:Int)) Z (fun ak=>?_) (fun ak=>?_)
 ·refine Sk (Sq (Bk (Sq (Rg ?_))));refine Mv (.int .i64 (k:Int)) Z ad ?_;have al:(0:Int)≤(k:Int):=by omega
  have am:(k:Int)<(((bytesOf s).length:Nat):Int):=by omega
  refine Pl Z (ok_indexS0 Fx.esz50 a2 ai ad al am fun a3 ac an=>?_);have ao:Elem _ a3 ac 1 (eB ((bytesOf s).getD k 0)):=Elem.getD 0 an;refine Ld (.int .u8 ((bytesOf s).getD k 0)) Z Z (rd_one0 Fx.ty5 (ao.le ag) Z) ?_;refine As (.int .i64 (k:Int)) Z Z ?_;refine As (.int .u8 ((bytesOf s).getD k 0)) Z Z ?_;refine Nl ?_;refine tr_seq_mid (fun σ' ds' h'=>ds'=[]∧h7=h'∧σ' 0=.string s∧σ' 3=.int .i64 (k:Int)∧σ' 4=.int .u8 ((bytesOf s).getD k 0)∧σ' 6=a1∧σ' 7=.int .i64 ((bytesOf s).length:Int)∧σ' 8=.int .i64 (k:Int)∧σ' 9=.bool (decide ((k:Int)<((bytesOf s).length:Int)))∧σ' 10=.int .i64 (k:Int)∧σ' 11=.pointer (some ⟨a3,ac,none⟩)∧σ' 12=.int .u8 ((bytesOf s).getD k 0)∧σ' 13=.int .u8 ((bytesOf s).getD k 0)∧σ' 14=.int .i64 ((bytesOf s).getD k 0)∧σ' 15=.bool (decide (97≤((bytesOf s).getD k 0)∧((bytesOf s).getD k 0)≤122))∧σ' 16=.bool (decide (¬(97≤((bytesOf s).getD k 0)∧((bytesOf s).getD k 0)≤122)))∧σ' 17=.bool (decide (¬(97≤((bytesOf s).getD k 0)∧((bytesOf s).getD k 0)≤122)))∧σ' 26=.bool (decide ((¬(97≤((bytesOf s).getD k 0)∧((bytesOf s).getD k 0)≤122))∧(((k:Int)=0)∨(¬(48≤((bytesOf s).getD k 0)∧((bytesOf s).getD k 0)≤57)))))) ?_ ?_
  ·refine Rg ?_;refine Mv (.int .u8 ((bytesOf s).getD k 0)) Z Z ?_;refine Pl Z (ok_convInt (r:=(bytesOf s).getD k 0) Fx.und5 Fx.kind3 Z (by rw [IntWalk.i64_in _ (by omega)]) ?_);refine Pl Z (ok_call3 Tryd.func46 Fx.call46 Z Z Z ((inside_spec ((bytesOf s).getD k 0) 97 122 ).mono fun _ _ ap=>?_));obtain ⟨rfl,rfl⟩:=ap;refine Pl Z (ok_notp (p:=97≤((bytesOf s).getD k 0)∧((bytesOf s).getD k 0)≤122) Z ?_);refine Mv (.bool (decide (¬(97≤((bytesOf s).getD k 0)∧((bytesOf s).getD k 0)≤122)))) Z Z ?_;refine trL_case (p:=¬(97≤((bytesOf s).getD k 0)∧((bytesOf s).getD k 0)≤122)) ?_ ?_
   ·intro aa;refine Gg 4 17 (bool_t Z aa) Z (ok_move (v:=.int .i64 (k:Int)) Z ?_);refine Gg 4 17 (bool_t Z aa) Z (ok_eql (a:=(k:Int)) (b:=0) Z Z ?_);refine Gg 4 17 (bool_t Z aa) Z (ok_move (v:=.bool (decide ((k:Int)=0))) Z ?_);refine trL_case (p:=(k:Int)=0) ?_ ?_
    ·intro ab;refine Gs 7 20 (bool_t Z ab) Z ?_;refine Gs 7 20 (bool_t Z ab) Z ?_;refine Gs 7 20 (bool_t Z ab) Z ?_;refine Gs 7 20 (bool_t Z ab) Z ?_;refine Gg 4 17 (bool_t Z aa) Z (ok_pick (t:=true) (v:=.bool true) (bool_t Z ab) Z ?_);refine Pk true (.bool true) Z (bool_t Z aa) Z ?_;refine Nl ?_;exact ⟨Z,Z,ah,Z,Z,ai,aj,ad,Z,Z,Z,Z,Z,Z,Z,Z,Z,Et (b:=(.bool true:Value)) Z (congrArg Value.bool (by grind:true=decide ((¬(97≤((bytesOf s).getD k 0)∧((bytesOf s).getD k 0)≤122))∧(((k:Int)=0)∨(¬(48≤((bytesOf s).getD k 0)∧((bytesOf s).getD k 0)≤57))))))⟩
    ·intro ab;refine Gg 7 20 (bool_f Z ab) Z (ok_move (v:=.int .u8 ((bytesOf s).getD k 0)) Z ?_);refine Gg 7 20 (bool_f Z ab) Z (ok_convInt (r:=(bytesOf s).getD k 0) Fx.und5 Fx.kind3 Z (by rw [IntWalk.i64_in _ (by omega)]) ?_);refine Gg 7 20 (bool_f Z ab) Z (ok_call3 Tryd.func46 Fx.call46 Z Z Z ((inside_spec ((bytesOf s).getD k 0) 48 57 ).mono fun _ _ aq=>?_));obtain ⟨rfl,rfl⟩:=aq;refine Gg 7 20 (bool_f Z ab) Z (ok_notp (p:=48≤((bytesOf s).getD k 0)∧((bytesOf s).getD k 0)≤57) Z ?_);refine Gg 4 17 (bool_t Z aa) Z (ok_pick (t:=false) (v:=.bool (decide (¬(48≤((bytesOf s).getD k 0)∧((bytesOf s).getD k 0)≤57)))) (bool_f Z ab) Z ?_);refine Pk true (.bool (decide (¬(48≤((bytesOf s).getD k 0)∧((bytesOf s).getD k 0)≤57)))) Z (bool_t Z aa) Z ?_;refine Nl ?_;exact ⟨Z,Z,ah,Z,Z,ai,aj,ad,Z,Z,Z,Z,Z,Z,Z,Z,Z,Et (b:=(.bool (decide (¬(48≤((bytesOf s).getD k 0)∧((bytesOf s).getD k 0)≤57))):Value)) Z (congrArg Value.bool (by grind:decide (¬(48≤((bytesOf s).getD k 0)∧((bytesOf s).getD k 0)≤57))=decide ((¬(97≤((bytesOf s).getD k 0)∧((bytesOf s).getD k 0)≤122))∧(((k:Int)=0)∨(¬(48≤((bytesOf s).getD k 0)∧((bytesOf s).getD k 0)≤57))))))⟩
   ·intro aa;refine Gs 4 17 (bool_f Z aa) Z ?_;refine Gs 4 17 (bool_f Z aa) Z ?_;refine Gs 4 17 (bool_f Z aa) Z ?_;refine trL_skip_undef (j:=7) (d:=20) Z Z Z Z Z Z ?_;refine trL_skip_undef (j:=7) (d:=20) Z Z Z Z Z Z ?_;refine trL_skip_undef (j:=7) (d:=20) Z Z Z Z Z Z ?_;refine trL_skip_undef (j:=7) (d:=20) Z Z Z Z Z Z ?_;refine Gs 4 17 (bool_f Z aa) Z ?_;refine Pk false (.bool false) Z (bool_f Z aa) Z ?_;refine Nl ?_;exact ⟨Z,Z,ah,Z,Z,ai,aj,ad,Z,Z,Z,Z,Z,Z,Z,Z,Z,Et (b:=(.bool false:Value)) Z (congrArg Value.bool (by grind:false=decide ((¬(97≤((bytesOf s).getD k 0)∧((bytesOf s).getD k 0)≤122))∧(((k:Int)=0)∨(¬(48≤((bytesOf s).getD k 0)∧((bytesOf s).getD k 0)≤57))))))⟩
  ·rintro _ _ _ ⟨ar,af,au,a5,a6,av,aw,ax,a7,a8,a9,ba,bb,bc,bd,be,bf,ay⟩;subst ar;subst af;refine tr_if (p:=(¬(97≤((bytesOf s).getD k 0)∧((bytesOf s).getD k 0)≤122))∧(((k:Int)=0)∨(¬(48≤((bytesOf s).getD k 0)∧((bytesOf s).getD k 0)≤57)))) ay (fun az=>?_) (fun az=>?_)
   ·refine Sq (Rg ?_);refine As (.bool false) Z Z ?_;refine Nl (Rt ?_);refine ⟨.inr Z,outs1 Z (v:=.bool false) Z ?_⟩;exact ⟨(by (symm;congr 1;exact nameOK_bad hs (by omega) (by unfold nameAt;simp only [isLetter,isDigit, *,not_true_eq_false,not_false_eq_true,if_true,if_false,or_self,or_true,true_or,and_self,and_true,true_and];simp_all;done))),(ae.trans ag)⟩
   ·refine Sk (Rg ?_);refine Ad (k:Int) 1 Z ax Z (by omega) ?_;refine Mv (.int .i64 ((k:Int)+1)) Z Z ?_;refine Nl ?_;exact ⟨_,by omega,k+1,Z,(by omega),(by exact allB_next hs (by unfold nameAt;simp only [isLetter,isDigit];simp_all;done)),Z,ag,au,av,aw,Z⟩
 ·refine Xt (Sq (Rg ?_));refine Mv (.string s) Z ah ?_;refine Pl Z (ok_lenS Fx.str9 Z ?_);refine Pl Z (ok_call3 Tryd.func46 Fx.call46 Z Z Z ((inside_spec (s.size:Int) 1 10 ).mono fun _ _ a0=>?_));obtain ⟨rfl,rfl⟩:=a0;refine As (.bool (decide (1≤(s.size:Int)∧(s.size:Int)≤10))) Z Z ?_;refine Nl (Rt ?_);refine ⟨.inr Z,outs1 Z (v:=.bool (decide (1≤(s.size:Int)∧(s.size:Int)≤10))) Z ?_⟩;exact ⟨(by (symm;congr 1;exact nameOK_end hs (by omega))),(ae.trans ag)⟩
theorem goods1_spec {W:Wk Tryd.prog} {h:GH} (o:Good) (x:Good) (rx:Nat) (hrx:Elem h rx 0 5 #[.string x.name,.int .i64 x.cost,.int .i64 x.pack,.int .i64 x.low,.int .i64 x.high]):CallK W 138 #[.agg #[.string o.name,.int .i64 o.cost,.int .i64 o.pack,.int .i64 o.low,.int .i64 o.high],.pointer (some ⟨rx,0,none⟩)] h (fun v h'=>v=(.bool ((o.name).toList==(x.name).toList):Value)∧h.Le h'):=by
 refine call_of_tr Tryd.func138 Z (Nb Z) ?_;refine Sq (Rg ?_);refine Pl Z (ok_box' (v:=.agg #[.string o.name,.int .i64 o.cost,.int .i64 o.pack,.int .i64 o.low,.int .i64 o.high]) (c:=#[.string o.name,.int .i64 o.cost,.int .i64 o.pack,.int .i64 o.low,.int .i64 o.high]) Z Z fun _ _ _ aa ab _=>?_);refine As (.bool false) Z Z ?_;refine Nl (Sq (Rg ?_));refine Fa Fx.fld57_0 Z Z ?_;refine Ld (.string o.name) Z Z (Rd.one Fx.ty9 ab Z) ?_;refine Fa Fx.fld57_0 Z Z ?_;refine Ld (.string x.name) Z Z (rd_one (o:=0) Fx.ty9 (hrx.le aa) Z) ?_;refine Pl Z (ok_eqlS (a:=o.name) (b:=x.name) Z Z ?_);refine As (.bool ((o.name).toList==(x.name).toList)) Z Z ?_;refine Nl (Rt ?_);refine ⟨.inr Z,outs1 Z (v:=.bool ((o.name).toList==(x.name).toList)) Z ?_⟩;exact ⟨Z,aa⟩
theorem goods_spec {W:Wk Tryd.prog} {h:GH} (d:Int) (m:Int) (gs:List Good) (gsv:Value) (ms:List Move) (msv:Value) (cs:List Count) (csv:Value) (hgs:SlIs h gsv 5 eGood gs) (hms:SlIs h msv 5 eMove ms) (hcs:SlIs h csv 4 eCount cs) (hnm:∀k,(gs.getD k Good.z).name.size≤1000):CallK W 133 #[.agg #[.int .i64 d,.int .i64 m,gsv,msv,csv]] h (fun v h'=>v=(.int .i64 (goodsBell gs):Value)∧h.Le h'):=by
 have a5:=hgs.len;have a6:=hms.len;have a7:=hcs.len;refine call_of_tr Tryd.func133 Z (Nb Z) ?_;refine Sq (Rg ?_);refine Pl Z (ok_box' (v:=.agg #[.int .i64 d,.int .i64 m,gsv,msv,csv]) (c:=#[.int .i64 d,.int .i64 m,gsv,msv,csv]) Z Z fun r4 h5 _ ag a8 _=>?_);refine As (.int .i64 0) Z Z ?_;refine Nl (Sq (Sq (Rg ?_)));refine Fa Fx.fld92_0 Z Z ?_;refine Fa Fx.fld26_2 Z Z ?_;refine Ld gsv Z Z (Rd.one Fx.ty22 a8 Z) ?_;have au:=hgs.le ag;refine Pl Z (ok_lenSl Fx.sl22 au Z ?_);refine Pl Z (ok_call3 Tryd.func46 Fx.call46 Z Z Z ((inside_spec (gs.length:Int) 1 3 ).mono fun _ _ a9=>?_));obtain ⟨rfl,rfl⟩:=a9;refine Pl Z (ok_notp (p:=1≤(gs.length:Int)∧(gs.length:Int)≤3) Z ?_);refine Nl ?_;refine tr_if (p:=¬(1≤(gs.length:Int)∧(gs.length:Int)≤3)) Z (fun av=>?_) (fun av=>?_)
 ·refine Sq (Rg ?_);refine As (.int .i64 2) Z Z ?_;refine Nl (Rt ?_);refine ⟨.inr Z,outs1 Z (v:=.int .i64 2) Z ?_⟩;exact ⟨(by (symm;congr 1;rw [goodsBell,if_pos ‹_›];done)),ag⟩
 ·have hc16_:=Dn av;refine Sk (Sq (Sq (Rg ?_)));refine Fa Fx.fld92_0 Z Z ?_;refine Fa Fx.fld26_2 Z Z ?_;refine Ld gsv Z Z (Rd.one Fx.ty22 a8 Z) ?_;refine Pl Z (ok_lenSl Fx.sl22 au Z ?_);refine Mv (.int .i64 0) Z Z ?_;refine Nl (Bk ?_);refine tr_loop (fun nn σ' ds' h'=>∃(k:Nat),nn=gs.length-k∧(k≤gs.length)∧(∀j,j<k→goodAt gs j=0)∧ds'=[]∧GH.Le h5 h'∧σ' 1=.pointer (some ⟨r4,0,none⟩)∧σ' 13=gsv∧σ' 14=.int .i64 (gs.length:Int)∧σ' 15=.int .i64 (k:Int)) ⟨0,Z,(by omega),(by (intro j hj;omega)),Z,Lr,Z,Z,Z,Z⟩ (fun nn _ _ _ ba=>?_);obtain ⟨k,rfl,hk,hs,ch,aw,a2,a3,a4,ar⟩:=ba;subst ch;have hnk:=hnm k;refine Sq (Rg ?_);refine Pl Z (ok_lss (a:=(k:Int)) (b:=(gs.length:Int)) ar a4 ?_);refine Nl (Sq ?_);refine tr_if (p:=(k:Int)<(gs.length:Int)) Z (fun bb=>?_) (fun bb=>?_)
  ·refine Sk (Sq (Bk (Sq (Rg ?_))));refine Mv (.int .i64 (k:Int)) Z ar ?_;have bc:(0:Int)≤(k:Int):=by omega
   have bd:(k:Int)<((gs.length:Nat):Int):=by omega
   refine Pl Z (ok_indexS0 Fx.esz22 hgs a3 ar bc bd fun bw aj be=>?_);have bf:Elem _ bw aj 5 (eGood (gs.getD k Good.z)):=Elem.getD Good.z be;have af:=ag.trans aw;refine Ld (.agg #[.string ((gs.getD k Good.z).name),.int .i64 ((gs.getD k Good.z).cost),.int .i64 ((gs.getD k Good.z).pack),.int .i64 ((gs.getD k Good.z).low),.int .i64 ((gs.getD k Good.z).high)]) Z Z (rd_agg0 Fx.ty57 (bf.le af)) ?_;have ax:=aw.keep a8 Z;refine Pl Z (ok_alloc' Fx.zero57 fun al _ ah ad bg _=>?_);have bh:r4≠al:=Ne' ax ah;refine As (.int .i64 (k:Int)) Z Z ?_;refine Pl Z (ok_store' (v:=.agg #[.string ((gs.getD k Good.z).name),.int .i64 ((gs.getD k Good.z).cost),.int .i64 ((gs.getD k Good.z).pack),.int .i64 ((gs.getD k Good.z).low),.int .i64 ((gs.getD k Good.z).high)]) (c':=#[.string ((gs.getD k Good.z).name),.int .i64 ((gs.getD k Good.z).cost),.int .i64 ((gs.getD k Good.z).pack),.int .i64 ((gs.getD k Good.z).low),.int .i64 ((gs.getD k Good.z).high)]) Fx.ty57 Z Z bg Z Z (by simp) Z fun _ am ai=>?_);refine Nl (Bk (Sq (Rg ?_)));refine Fa Fx.fld57_0 Z Z ?_;refine Ld (.string ((gs.getD k Good.z).name)) Z Z (Rd.one Fx.ty9 am Z) ?_;refine Pl Z (ok_call1 Tryd.func136 Fx.call136 Z ((isName_spec ((gs.getD k Good.z).name) (by omega)).mono fun _ bx bi=>?_));obtain ⟨rfl,ac⟩:=bi;refine Pl Z (ok_not (b:=nameOK ((gs.getD k Good.z).name)) Z ?_);refine As (.bool (!(nameOK ((gs.getD k Good.z).name)))) Z Z ?_;refine Nl ?_;refine tr_ifb (t:= !(nameOK ((gs.getD k Good.z).name))) Z (fun an=>?_) (fun an=>?_)
   ·have hc51_:(nameOK ((gs.getD k Good.z).name))=false:=by simpa using an
    refine Sq (Rg ?_);refine As (.int .i64 4) Z Z ?_;refine Nl (Rt ?_);refine ⟨.inr Z,outs1 Z (v:=.int .i64 4) Z ?_⟩;exact ⟨(by (symm;congr 1;rw [goodsBell,if_neg ‹_›];exact firstB_hit0 (k:=k) hs (by omega) (by unfold goodAt;(simp only [*,not_true_eq_false,not_false_eq_true,if_true,if_false,true_or,or_true,reduceCtorEq,Bool.false_eq_true];done)) (by decide))),(((af.trans ad).upd (Ln af ah) ai).trans ac)⟩
   ·have hc51_:(nameOK ((gs.getD k Good.z).name))=true:=by simpa using an
    refine Sq (Rg ?_);refine Fa Fx.fld92_0 Z a2 ?_;refine Fa Fx.fld26_2 Z Z ?_;refine Ld gsv Z Z (Rd.one Fx.ty22 (ac.keep ((ai _ bh).trans (ad.keep ax Z)) Z) Z) ?_;refine Mv (.int .i64 (k:Int)) Z Z ?_;have ao:=((af.trans ad).upd (Ln af ah) ai).trans ac;refine Pl Z (ok_slice (0) k Fx.esz22 (hgs.le ao) Z Z (⟨_,Z⟩) (by omega) (by omega) fun ap bj=>?_);have bk:SlIs bx ap 5 eGood (gs.take k):=by simpa using bj
    refine Pl Z (ok_makeFunc1 Z ?_);have bl:∀x ∈ (gs.take k),∀h1,GH.Le bx h1→ValK W (.func (.func 138) #[] #[.pointer (some ⟨al,0,none⟩)]) #[.agg #[.string x.name,.int .i64 x.cost,.int .i64 x.pack,.int .i64 x.low,.int .i64 x.high]] h1 fun v h2=>v=.bool ((fun x=>(x.name).toList==((gs.getD k Good.z).name).toList) x)∧h1.Le h2:=by
     intro x hx h1 l1;exact valK_func Tryd.func138 Fx.call138 Z ((goods1_spec x (gs.getD k Good.z) al (Bx (l1.keep (ac.keep am Z) Z) Z) ).mono fun v h2 hp=>⟨hp.1,hp.2⟩)
    refine Pl Z (ok_call2 Tryd.func137 Fx.call137 Z Z ((containsGood_spec (gs.take k) ap (.func (.func 138) #[] #[.pointer (some ⟨al,0,none⟩)]) (fun x=>(x.name).toList==((gs.getD k Good.z).name).toList) bk bl).mono fun _ ci bm=>?_));obtain ⟨rfl,ae⟩:=bm;refine As (.bool ((gs.take k).any (fun x=>(x.name).toList==((gs.getD k Good.z).name).toList))) Z Z ?_;refine Nl ?_;refine tr_ifb (t:=(gs.take k).any (fun x=>(x.name).toList==((gs.getD k Good.z).name).toList)) Z (fun bn=>?_) (fun bn=>?_)
    ·refine Sq (Rg ?_);refine As (.int .i64 5) Z Z ?_;refine Nl (Rt ?_);refine ⟨.inr Z,outs1 Z (v:=.int .i64 5) Z ?_⟩;exact ⟨(by (symm;congr 1;rw [goodsBell,if_neg ‹_›];exact firstB_hit0 (k:=k) hs (by omega) (by unfold goodAt;(simp only [*,not_true_eq_false,not_false_eq_true,if_true,if_false,true_or,or_true,reduceCtorEq,Bool.false_eq_true];done)) (by decide))),(ao.trans ae)⟩
    ·refine tr_seq_mid (fun σ' ds' h'=>ds'=[]∧GH.Le ci h'∧σ' 1=.pointer (some ⟨r4,0,none⟩)∧σ' 3=.int .i64 (k:Int)∧σ' 4=.pointer (some ⟨al,0,none⟩)∧σ' 13=gsv∧σ' 14=.int .i64 (gs.length:Int)∧σ' 15=.int .i64 (k:Int)∧σ' 16=.bool (decide ((k:Int)<(gs.length:Int)))∧σ' 17=.int .i64 (k:Int)∧σ' 18=.pointer (some ⟨bw,aj,none⟩)∧σ' 19=.agg #[.string ((gs.getD k Good.z).name),.int .i64 ((gs.getD k Good.z).cost),.int .i64 ((gs.getD k Good.z).pack),.int .i64 ((gs.getD k Good.z).low),.int .i64 ((gs.getD k Good.z).high)]∧σ' 20=.bool (!(nameOK ((gs.getD k Good.z).name)))∧σ' 21=.pointer (some ⟨al,0,none⟩)∧σ' 22=.string ((gs.getD k Good.z).name)∧σ' 23=.bool (nameOK ((gs.getD k Good.z).name))∧σ' 24=.bool (!(nameOK ((gs.getD k Good.z).name)))∧σ' 25=.bool ((gs.take k).any (fun x=>(x.name).toList==((gs.getD k Good.z).name).toList))∧σ' 26=.pointer (some ⟨r4,0,none⟩)∧σ' 27=.pointer (some ⟨r4,2,none⟩)∧σ' 28=gsv∧σ' 29=.int .i64 (k:Int)∧σ' 30=ap∧σ' 31=.func (.func 138) #[] #[.pointer (some ⟨al,0,none⟩)]∧σ' 32=.bool ((gs.take k).any (fun x=>(x.name).toList==((gs.getD k Good.z).name).toList))∧σ' 33=.bool (decide (((¬(0≤((gs.getD k Good.z).cost)∧((gs.getD k Good.z).cost)≤999))∨(¬(1≤((gs.getD k Good.z).pack)∧((gs.getD k Good.z).pack)≤20)))∨(¬(isFew ((gs.getD k Good.z).low) ((gs.getD k Good.z).high)))))∧σ' 35=.int .i64 ((gs.getD k Good.z).cost)∧σ' 36=.bool (decide (0≤((gs.getD k Good.z).cost)∧((gs.getD k Good.z).cost)≤999))∧σ' 37=.bool (decide (¬(0≤((gs.getD k Good.z).cost)∧((gs.getD k Good.z).cost)≤999)))∧σ' 38=.bool (decide (¬(0≤((gs.getD k Good.z).cost)∧((gs.getD k Good.z).cost)≤999)))∧σ' 43=.bool (decide ((¬(0≤((gs.getD k Good.z).cost)∧((gs.getD k Good.z).cost)≤999))∨(¬(1≤((gs.getD k Good.z).pack)∧((gs.getD k Good.z).pack)≤20))))∧σ' 44=.bool (decide ((¬(0≤((gs.getD k Good.z).cost)∧((gs.getD k Good.z).cost)≤999))∨(¬(1≤((gs.getD k Good.z).pack)∧((gs.getD k Good.z).pack)≤20))))∧σ' 49=.bool (decide (((¬(0≤((gs.getD k Good.z).cost)∧((gs.getD k Good.z).cost)≤999))∨(¬(1≤((gs.getD k Good.z).pack)∧((gs.getD k Good.z).pack)≤20)))∨(¬(isFew ((gs.getD k Good.z).low) ((gs.getD k Good.z).high)))))) ?_ ?_
     ·refine Rg ?_;refine Fa Fx.fld57_1 Z Z ?_;have aq:=ae.keep (ac.keep am Z) Z;refine Ld (.int .i64 ((gs.getD k Good.z).cost)) Z Z (Rd.one Fx.ty3 aq Z) ?_;refine Pl Z (ok_call3 Tryd.func46 Fx.call46 Z Z Z ((inside_spec ((gs.getD k Good.z).cost) 0 999 ).mono fun _ _ bo=>?_));obtain ⟨rfl,rfl⟩:=bo;refine Pl Z (ok_notp (p:=0≤((gs.getD k Good.z).cost)∧((gs.getD k Good.z).cost)≤999) Z ?_);refine Mv (.bool (decide (¬(0≤((gs.getD k Good.z).cost)∧((gs.getD k Good.z).cost)≤999)))) Z Z ?_;refine trL_case (p:=¬(0≤((gs.getD k Good.z).cost)∧((gs.getD k Good.z).cost)≤999)) ?_ ?_
      ·intro aa;refine Gs 4 38 (bool_t Z aa) Z ?_;refine Gs 4 38 (bool_t Z aa) Z ?_;refine Gs 4 38 (bool_t Z aa) Z ?_;refine Gs 4 38 (bool_t Z aa) Z ?_;refine Pk true (.bool true) Z (bool_t Z aa) Z ?_;refine Mv (.bool true) Z Z ?_;refine Gs 10 44 Z Z ?_;refine Gs 10 44 Z Z ?_;refine Gs 10 44 Z Z ?_;refine Gs 10 44 Z Z ?_;refine Pk true (.bool true) Z Z Z ?_;refine As (.bool true) Z Z ?_;refine Nl ?_;exact ⟨Z,Lr,a2,Z,Z,a3,a4,ar,Z,Z,Z,Z,Z,Z,Z,Z,Z,Z,Z,Z,Z,Z,Z,Z,Z,Et (b:=(.bool true:Value)) Z (congrArg Value.bool (by grind:true=decide (((¬(0≤((gs.getD k Good.z).cost)∧((gs.getD k Good.z).cost)≤999))∨(¬(1≤((gs.getD k Good.z).pack)∧((gs.getD k Good.z).pack)≤20)))∨(¬(isFew ((gs.getD k Good.z).low) ((gs.getD k Good.z).high)))))),Z,Z,Z,Z,Et (b:=(.bool true:Value)) Z (congrArg Value.bool (by grind:true=decide ((¬(0≤((gs.getD k Good.z).cost)∧((gs.getD k Good.z).cost)≤999))∨(¬(1≤((gs.getD k Good.z).pack)∧((gs.getD k Good.z).pack)≤20))))),Et (b:=(.bool true:Value)) Z (congrArg Value.bool (by grind:true=decide ((¬(0≤((gs.getD k Good.z).cost)∧((gs.getD k Good.z).cost)≤999))∨(¬(1≤((gs.getD k Good.z).pack)∧((gs.getD k Good.z).pack)≤20))))),Et (b:=(.bool true:Value)) Z (congrArg Value.bool (by grind:true=decide (((¬(0≤((gs.getD k Good.z).cost)∧((gs.getD k Good.z).cost)≤999))∨(¬(1≤((gs.getD k Good.z).pack)∧((gs.getD k Good.z).pack)≤20)))∨(¬(isFew ((gs.getD k Good.z).low) ((gs.getD k Good.z).high))))))⟩
      ·intro aa;refine Gg 4 38 (bool_f Z aa) Z (ok_fieldAddr Fx.fld57_2 Z ?_);refine Gg 4 38 (bool_f Z aa) Z (ok_load (v:=.int .i64 ((gs.getD k Good.z).pack)) Z (Rd.one Fx.ty3 aq Z) ?_);refine Gg 4 38 (bool_f Z aa) Z (ok_call3 Tryd.func46 Fx.call46 Z Z Z ((inside_spec ((gs.getD k Good.z).pack) 1 20 ).mono fun _ _ bp=>?_));obtain ⟨rfl,rfl⟩:=bp;refine Gg 4 38 (bool_f Z aa) Z (ok_notp (p:=1≤((gs.getD k Good.z).pack)∧((gs.getD k Good.z).pack)≤20) Z ?_);refine Pk false (.bool (decide (¬(1≤((gs.getD k Good.z).pack)∧((gs.getD k Good.z).pack)≤20)))) Z (bool_f Z aa) Z ?_;refine Mv (.bool (decide (¬(1≤((gs.getD k Good.z).pack)∧((gs.getD k Good.z).pack)≤20)))) Z Z ?_;refine trL_case (p:=¬(1≤((gs.getD k Good.z).pack)∧((gs.getD k Good.z).pack)≤20)) ?_ ?_
       ·intro ab;refine Gs 10 44 (bool_t Z ab) Z ?_;refine Gs 10 44 (bool_t Z ab) Z ?_;refine Gs 10 44 (bool_t Z ab) Z ?_;refine Gs 10 44 (bool_t Z ab) Z ?_;refine Pk true (.bool true) Z (bool_t Z ab) Z ?_;refine As (.bool true) Z Z ?_;refine Nl ?_;exact ⟨Z,Lr,a2,Z,Z,a3,a4,ar,Z,Z,Z,Z,Z,Z,Z,Z,Z,Z,Z,Z,Z,Z,Z,Z,Z,Et (b:=(.bool true:Value)) Z (congrArg Value.bool (by grind:true=decide (((¬(0≤((gs.getD k Good.z).cost)∧((gs.getD k Good.z).cost)≤999))∨(¬(1≤((gs.getD k Good.z).pack)∧((gs.getD k Good.z).pack)≤20)))∨(¬(isFew ((gs.getD k Good.z).low) ((gs.getD k Good.z).high)))))),Z,Z,Z,Z,Et (b:=(.bool (decide (¬(1≤((gs.getD k Good.z).pack)∧((gs.getD k Good.z).pack)≤20))):Value)) Z (congrArg Value.bool (by grind:decide (¬(1≤((gs.getD k Good.z).pack)∧((gs.getD k Good.z).pack)≤20))=decide ((¬(0≤((gs.getD k Good.z).cost)∧((gs.getD k Good.z).cost)≤999))∨(¬(1≤((gs.getD k Good.z).pack)∧((gs.getD k Good.z).pack)≤20))))),Et (b:=(.bool (decide (¬(1≤((gs.getD k Good.z).pack)∧((gs.getD k Good.z).pack)≤20))):Value)) Z (congrArg Value.bool (by grind:decide (¬(1≤((gs.getD k Good.z).pack)∧((gs.getD k Good.z).pack)≤20))=decide ((¬(0≤((gs.getD k Good.z).cost)∧((gs.getD k Good.z).cost)≤999))∨(¬(1≤((gs.getD k Good.z).pack)∧((gs.getD k Good.z).pack)≤20))))),Et (b:=(.bool true:Value)) Z (congrArg Value.bool (by grind:true=decide (((¬(0≤((gs.getD k Good.z).cost)∧((gs.getD k Good.z).cost)≤999))∨(¬(1≤((gs.getD k Good.z).pack)∧((gs.getD k Good.z).pack)≤20)))∨(¬(isFew ((gs.getD k Good.z).low) ((gs.getD k Good.z).high))))))⟩
       ·intro ab;refine Gg 10 44 (bool_f Z ab) Z (ok_fieldAddr Fx.fld57_3 Z ?_);refine Gg 10 44 (bool_f Z ab) Z (ok_load (v:=.agg #[.int .i64 ((gs.getD k Good.z).low),.int .i64 ((gs.getD k Good.z).high)]) Z (rd_agg (o:=3) (ws:=#[.int .i64 ((gs.getD k Good.z).low),.int .i64 ((gs.getD k Good.z).high)]) Fx.ty39 (Bx aq Z) (Nb Z) Z) ?_);refine Gg 10 44 (bool_f Z ab) Z (ok_call1 Tryd.func139 Fx.call139 Z ((few_spec ((gs.getD k Good.z).low) ((gs.getD k Good.z).high) ).mono fun _ _ bq=>?_));obtain ⟨rfl,ay⟩:=bq;refine Gg 10 44 (bool_f Z ab) Z (ok_notp (p:=isFew ((gs.getD k Good.z).low) ((gs.getD k Good.z).high)) Z ?_);refine Pk false (.bool (decide (¬(isFew ((gs.getD k Good.z).low) ((gs.getD k Good.z).high))))) Z (bool_f Z ab) Z ?_;refine As (.bool (decide (¬(isFew ((gs.getD k Good.z).low) ((gs.getD k Good.z).high))))) Z Z ?_;refine Nl ?_;exact ⟨Z,ay,a2,Z,Z,a3,a4,ar,Z,Z,Z,Z,Z,Z,Z,Z,Z,Z,Z,Z,Z,Z,Z,Z,Z,Et (b:=(.bool (decide (¬(isFew ((gs.getD k Good.z).low) ((gs.getD k Good.z).high)))):Value)) Z (congrArg Value.bool (by grind:decide (¬(isFew ((gs.getD k Good.z).low) ((gs.getD k Good.z).high)))=decide (((¬(0≤((gs.getD k Good.z).cost)∧((gs.getD k Good.z).cost)≤999))∨(¬(1≤((gs.getD k Good.z).pack)∧((gs.getD k Good.z).pack)≤20)))∨(¬(isFew ((gs.getD k Good.z).low) ((gs.getD k Good.z).high)))))),Z,Z,Z,Z,Et (b:=(.bool (decide (¬(1≤((gs.getD k Good.z).pack)∧((gs.getD k Good.z).pack)≤20))):Value)) Z (congrArg Value.bool (by grind:decide (¬(1≤((gs.getD k Good.z).pack)∧((gs.getD k Good.z).pack)≤20))=decide ((¬(0≤((gs.getD k Good.z).cost)∧((gs.getD k Good.z).cost)≤999))∨(¬(1≤((gs.getD k Good.z).pack)∧((gs.getD k Good.z).pack)≤20))))),Et (b:=(.bool (decide (¬(1≤((gs.getD k Good.z).pack)∧((gs.getD k Good.z).pack)≤20))):Value)) Z (congrArg Value.bool (by grind:decide (¬(1≤((gs.getD k Good.z).pack)∧((gs.getD k Good.z).pack)≤20))=decide ((¬(0≤((gs.getD k Good.z).cost)∧((gs.getD k Good.z).cost)≤999))∨(¬(1≤((gs.getD k Good.z).pack)∧((gs.getD k Good.z).pack)≤20))))),Et (b:=(.bool (decide (¬(isFew ((gs.getD k Good.z).low) ((gs.getD k Good.z).high)))):Value)) Z (congrArg Value.bool (by grind:decide (¬(isFew ((gs.getD k Good.z).low) ((gs.getD k Good.z).high)))=decide (((¬(0≤((gs.getD k Good.z).cost)∧((gs.getD k Good.z).cost)≤999))∨(¬(1≤((gs.getD k Good.z).pack)∧((gs.getD k Good.z).pack)≤20)))∨(¬(isFew ((gs.getD k Good.z).low) ((gs.getD k Good.z).high))))))⟩
     ·rintro _ _ _ ⟨br,ak,bs,cj,ck,bt,bu,bv,cl,cm,cn,co,cp,cq,bz,b0,b1,b2,b3,b4,b5,b6,b7,b8,b9,az,ca,cb,cc,cd,ce,cf,cg⟩;subst br;refine tr_if (p:=((¬(0≤((gs.getD k Good.z).cost)∧((gs.getD k Good.z).cost)≤999))∨(¬(1≤((gs.getD k Good.z).pack)∧((gs.getD k Good.z).pack)≤20)))∨(¬(isFew ((gs.getD k Good.z).low) ((gs.getD k Good.z).high)))) az (fun a0=>?_) (fun a0=>?_)
      ·refine Sq (Rg ?_);refine As (.int .i64 1) Z Z ?_;refine Nl (Rt ?_);refine ⟨.inr Z,outs1 Z (v:=.int .i64 1) Z ?_⟩;exact ⟨(by (symm;congr 1;rw [goodsBell,if_neg ‹_›];exact firstB_hit0 (k:=k) hs (by omega) (by unfold goodAt;(simp only [*,not_true_eq_false,not_false_eq_true,if_true,if_false,true_or,or_true,reduceCtorEq,Bool.false_eq_true];done)) (by decide))),((ao.trans ae).trans ak)⟩
      ·refine Sk (Rg ?_);refine Ad (k:Int) 1 Z bv Z (by omega) ?_;refine Mv (.int .i64 ((k:Int)+1)) Z Z ?_;refine Nl ?_;have a1:=((((aw.trans ad).upd (Ln aw ah) ai).trans ac).trans ae).trans ak;exact ⟨_,by omega,k+1,Z,(by omega),(by exact allB_next hs (by unfold goodAt;(simp only [*,not_true_eq_false,not_false_eq_true,if_true,if_false,or_self,reduceCtorEq,Bool.false_eq_true];done))),Z,a1,bs,bt,bu,Z⟩
  ·refine Xt (Sq (Rg ?_));refine As (.int .i64 0) Z Z ?_;refine Nl (Rt ?_);refine ⟨.inr Z,outs1 Z (v:=.int .i64 0) Z ?_⟩;exact ⟨(by (symm;congr 1;rw [goodsBell,if_neg ‹_›];exact firstB_miss0 (k:=k) hs (by omega))),(ag.trans aw)⟩
end Go.Ns
namespace Go.Ns
open Go.Conc Go.Proofs
attribute [local irreducible] OpK TrL Tr CallK ValK RoundK
def gChecks:Array Value:=#[.func (.func 132) #[] #[],.func (.func 133) #[] #[],.func (.func 134) #[] #[],.func (.func 135) #[] #[]]
def gKinds:Array Value:=#[.string ⟨#[99,97,109,101]⟩,.func (.func 130) #[] #[],.string ⟨#[115,111,108,100]⟩,.func (.func 131) #[] #[],.string ⟨#[108,111,115,116]⟩,.func (.func 131) #[] #[],.string ⟨#[103,105,118,101,110]⟩,.func (.func 131) #[] #[],.string ⟨#[98,97,99,107]⟩,.func (.func 130) #[] #[]]
def Glob (h:GH):Prop:=Elem h 1 0 4 gChecks∧Elem h 0 0 10 gKinds
theorem Glob.le {h h':GH} (g:Glob h) (l:h.Le h'):Glob h':=⟨g.1.le l,g.2.le l⟩
def checkFn (k:Nat):Value:=gChecks.getD k undef
def kindFn (k:Nat):Value:=gKinds.getD (k*2+1) undef
theorem checkFn_at {k:Nat} (h:k<4):(if false=true then some (Value.agg ((#[.func (.func 132) #[] #[],.func (.func 133) #[] #[],.func (.func 134) #[] #[],.func (.func 135) #[] #[]]:Array Value).extract (k*1) (k*1+1))) else (#[.func (.func 132) #[] #[],.func (.func 133) #[] #[],.func (.func 134) #[] #[],.func (.func 135) #[] #[]]:Array Value)[k*1]?)=some (checkFn k):=by
 match k,h with
 | 0,_=>rfl
 | 1,_=>rfl
 | 2,_=>rfl
 | 3,_=>rfl
theorem kindFn_at {k:Nat} (h:k<5):gKinds[0+k*2+1]? =some (kindFn k):=by
 match k,h with
 | 0,_=>rfl
 | 1,_=>rfl
 | 2,_=>rfl
 | 3,_=>rfl
 | 4,_=>rfl
theorem checkFn_spec {W:Wk Tryd.prog} {h:GH} (d m:Int) (gs:List Good) (gsv:Value) (ms:List Move) (msv:Value) (cs:List Count) (csv:Value) (hgs:SlIs h gsv 5 eGood gs) (hms:SlIs h msv 5 eMove ms) (hcs:SlIs h csv 4 eCount cs) (hnm:∀k,(gs.getD k Good.z).name.size≤1000) {k:Nat} (hk:k<4) :
  ValK W (checkFn k) #[.agg #[.int .i64 d,.int .i64 m,gsv,msv,csv]] h fun v h'=>v=.int .i64 (checkBell d m gs ms cs k)∧h.Le h':=by
 match k,hk with
 | 0,_=>exact valK_func (first:=#[]) (cap:=#[]) Tryd.func132 Fx.call132 rfl (head_spec (W:=W) (h:=h) d m gs gsv ms msv cs csv hgs hms hcs)
 | 1,_=>exact valK_func (first:=#[]) (cap:=#[]) Tryd.func133 Fx.call133 rfl (goods_spec (W:=W) (h:=h) d m gs gsv ms msv cs csv hgs hms hcs hnm)
 | 2,_=>exact valK_func (first:=#[]) (cap:=#[]) Tryd.func134 Fx.call134 rfl (moves_spec (W:=W) (h:=h) d m gs gsv ms msv cs csv hgs hms hcs)
 | 3,_=>exact valK_func (first:=#[]) (cap:=#[]) Tryd.func135 Fx.call135 rfl (counts_spec (W:=W) (h:=h) d m gs gsv ms msv cs csv hgs hms hcs)
theorem more_spec {W:Wk Tryd.prog} {h:GH} (n:Int):CallK W 130 #[.int .i64 n] h (fun v h'=>v=(.int .i64 n:Value)∧h=h'):=by
 refine call_of_tr Tryd.func130 Z (Nb Z) ?_;refine Sq (Rg ?_);refine As (.int .i64 0) Z Z ?_;refine Nl (Sq (Rg ?_));refine Mv (.int .i64 n) Z Z ?_;refine As (.int .i64 n) Z Z ?_;refine Nl (Rt ?_);refine ⟨.inr Z,outs1 Z (v:=.int .i64 n) Z ?_⟩;exact ⟨Z,Z⟩
theorem less_spec {W:Wk Tryd.prog} {h:GH} (n:Int) (hn:0≤n∧n≤99):CallK W 131 #[.int .i64 n] h (fun v h'=>v=(.int .i64 (-n):Value)∧h=h'):=by
 refine call_of_tr Tryd.func131 Z (Nb Z) ?_;refine Sq (Rg ?_);refine As (.int .i64 0) Z Z ?_;refine Nl (Sq (Rg ?_));refine Mv (.int .i64 n) Z Z ?_;refine Pl Z (ok_neg (a:=n) Z (by omega) ?_);refine As (.int .i64 (-n)) Z Z ?_;refine Nl (Rt ?_);refine ⟨.inr Z,outs1 Z (v:=.int .i64 (-n)) Z ?_⟩;exact ⟨Z,Z⟩
theorem checkBook_spec {W:Wk Tryd.prog} {h:GH} (d:Int) (m:Int) (gs:List Good) (gsv:Value) (ms:List Move) (msv:Value) (cs:List Count) (csv:Value) (hgs:SlIs h gsv 5 eGood gs) (hms:SlIs h msv 5 eMove ms) (hcs:SlIs h csv 4 eCount cs) (hG:Glob h) (hnm:∀k,(gs.getD k Good.z).name.size≤1000):CallK W 56 #[.agg #[.int .i64 d,.int .i64 m,gsv,msv,csv]] h (fun v h'=>v=(.int .i64 (bookBell d m gs ms cs):Value)∧h.Le h'):=by
 have ae:=hgs.len;have af:=hms.len;have ag:=hcs.len;refine call_of_tr Tryd.func56 Z (Nb Z) ?_;refine Sq (Rg ?_);refine Pl Z (ok_box' (v:=.agg #[.int .i64 d,.int .i64 m,gsv,msv,csv]) (c:=#[.int .i64 d,.int .i64 m,gsv,msv,csv]) Z Z fun r4 h5 _ ac aq _=>?_);refine As (.int .i64 0) Z Z ?_;refine Nl (Sq (Sq (Rg ?_)));refine Ld (.agg #[.func (.func 132) #[] #[],.func (.func 133) #[] #[],.func (.func 134) #[] #[],.func (.func 135) #[] #[]]) Z Z (rd_agg0 Fx.ty130 (hG.le ac).1) ?_;refine Mv (.int .i64 0) Z Z ?_;refine Nl (Bk ?_);refine tr_loop (fun nn σ' ds' h'=>∃(k:Nat),nn=4-k∧(k≤4)∧(∀j,j<k→checkBell d m gs ms cs j=0)∧ds'=[]∧GH.Le h5 h'∧σ' 1=.pointer (some ⟨r4,0,none⟩)∧σ' 6=.agg #[.func (.func 132) #[] #[],.func (.func 133) #[] #[],.func (.func 134) #[] #[],.func (.func 135) #[] #[]]∧σ' 7=.int .i64 (k:Int)) ⟨0,Z,(by omega),(by (intro j hj;omega)),Z,Lr,Z,Z,Z⟩ (fun nn _ _ _ ah=>?_);obtain ⟨k,rfl,hk,hs,ar,ad,ao,ap,ai⟩:=ah;subst ar;refine Sq (Rg ?_);refine Pl Z (ok_lss (a:=(k:Int)) (b:=4) ai Z ?_);refine Nl (Sq ?_);refine tr_if (p:=(k:Int)<4) Z (fun aj=>?_) (fun aj=>?_)
 ·refine Sk (Sq (Bk (Sq (Rg ?_))));have ak:(0:Int)≤(k:Int):=by omega
  have al:(k:Int)<((4:Nat):Int):=by omega
  refine Pl Z (ok_indexA Fx.arr130 ap ai ak al (checkFn_at (by omega)) ?_);refine As (checkFn k) Z Z ?_;refine Nl (Sq (Rg ?_));refine Mv (checkFn k) Z Z ?_;refine Ld (.agg #[.int .i64 d,.int .i64 m,gsv,msv,csv]) Z ao (rd_agg0 Fx.ty26 (Bx (ad.keep aq Z) Z)) ?_;refine Pl Z (ok_build (cells:=#[.int .i64 d,.int .i64 m,gsv,msv,csv]) Fx.pl92 Fx.zero92 (by kernel_rfl) ?_);have aa:=ac.trans ad;refine Pl Z (ok_callVal1 Z Z ((checkFn_spec d m gs gsv ms msv cs csv (hgs.le aa) (hms.le aa) (hcs.le aa) hnm (k:=k) (by omega)).mono fun _ _ am=>?_));obtain ⟨rfl,ab⟩:=am;refine As (.int .i64 (checkBell d m gs ms cs k)) Z Z ?_;refine Nl (Sq (Rg ?_));refine Mv (.int .i64 (checkBell d m gs ms cs k)) Z Z ?_;refine Pl Z (ok_neq (a:=checkBell d m gs ms cs k) (b:=0) Z Z ?_);refine Nl ?_;refine tr_if (p:=¬(checkBell d m gs ms cs k)=0) Z (fun an=>?_) (fun an=>?_)
  ·refine Sq (Rg ?_);refine Mv (.int .i64 (checkBell d m gs ms cs k)) Z Z ?_;refine As (.int .i64 (checkBell d m gs ms cs k)) Z Z ?_;refine Nl (Rt ?_);refine ⟨.inr Z,outs1 Z (v:=.int .i64 (checkBell d m gs ms cs k)) Z ?_⟩;exact ⟨(by (symm;congr 1;exact firstB_hit0 (k:=k) hs (by omega) Z ‹_›)),(aa.trans ab)⟩
  ·refine Sk (Rg ?_);refine Ad (k:Int) 1 Z ai Z (by omega) ?_;refine Mv (.int .i64 ((k:Int)+1)) Z Z ?_;refine Nl ?_;exact ⟨_,by omega,k+1,Z,(by omega),(by exact allB_next hs (Dn ‹_›)),Z,(ad.trans ab),ao,ap,Z⟩
 ·refine Xt (Sq (Rg ?_));refine As (.int .i64 0) Z Z ?_;refine Nl (Rt ?_);refine ⟨.inr Z,outs1 Z (v:=.int .i64 0) Z ?_⟩;exact ⟨(by (symm;congr 1;exact firstB_miss0 (k:=k) hs (by omega))),(ac.trans ad)⟩
end Go.Ns
namespace Go.Ns
open Go.Conc Go.Proofs
attribute [local irreducible] OpK TrL Tr CallK ValK RoundK
theorem kindFn_spec {W:Wk Tryd.prog} {h:GH} (n:Int) (hn:0≤n∧n≤99) {k:Nat} (hk:k<5):ValK W (kindFn k) #[.int .i64 n] h fun v h'=>v=.int .i64 (signed k n)∧h.Le h':=by
 match k,hk with
 | 0,_=>exact valK_func (first:=#[]) (cap:=#[]) Tryd.func130 Fx.call130 rfl ((more_spec (W:=W) (h:=h) n).mono fun v h' hp=>⟨hp.1,by rw [←hp.2];exact GH.Le.refl _⟩)
 | 1,_=>exact valK_func (first:=#[]) (cap:=#[]) Tryd.func131 Fx.call131 rfl ((less_spec (W:=W) (h:=h) n hn).mono fun v h' hp=>⟨hp.1,by rw [←hp.2];exact GH.Le.refl _⟩)
 | 2,_=>exact valK_func (first:=#[]) (cap:=#[]) Tryd.func131 Fx.call131 rfl ((less_spec (W:=W) (h:=h) n hn).mono fun v h' hp=>⟨hp.1,by rw [←hp.2];exact GH.Le.refl _⟩)
 | 3,_=>exact valK_func (first:=#[]) (cap:=#[]) Tryd.func131 Fx.call131 rfl ((less_spec (W:=W) (h:=h) n hn).mono fun v h' hp=>⟨hp.1,by rw [←hp.2];exact GH.Le.refl _⟩)
 | 4,_=>exact valK_func (first:=#[]) (cap:=#[]) Tryd.func130 Fx.call130 rfl ((more_spec (W:=W) (h:=h) n).mono fun v h' hp=>⟨hp.1,by rw [←hp.2];exact GH.Le.refl _⟩)
theorem stock_spec {W:Wk Tryd.prog} {h:GH} (d:Int) (m:Int) (gs:List Good) (gsv:Value) (ms:List Move) (msv:Value) (cs:List Count) (csv:Value) (p:Past) (g:Int) (dy:Int) (hgs:SlIs h gsv 5 eGood gs) (hms:SlIs h msv 5 eMove ms) (hcs:SlIs h csv 4 eCount cs) (hG:Glob h) (hg0:0≤g) (hg1:g<3) (hp:PastOK p) (hml:ms.length≤6) (hkind:∀k,0≤(ms.getD k Move.z).kind∧(ms.getD k Move.z).kind≤4):CallK W 40 #[.agg #[.int .i64 d,.int .i64 m,gsv,msv,csv],.agg (ePast p),.int .i64 g,.int .i64 dy] h (fun v h'=>v=(.tuple #[.int .i64 ((stockOf ms p g dy).1),.int .i64 ((stockOf ms p g dy).2)]:Value)∧h.Le h'):=by
 have hpf:=hp.1 g.toNat;have fh:=hgs.len;have fi:=hms.len;have fj:=hcs.len;refine call_of_tr Tryd.func40 Z (Nb Z) ?_;refine Sq (Rg ?_);refine Pl Z (ok_box' (v:=.agg #[.int .i64 d,.int .i64 m,gsv,msv,csv]) (c:=#[.int .i64 d,.int .i64 m,gsv,msv,csv]) Z Z fun r4 _ _ fk iu _=>?_);refine Pl Z (ok_box' (v:=.agg (ePast p)) (c:=ePast p) Z Z fun ik iv _ a2 bv _=>?_);refine As (.int .i64 0) Z Z ?_;refine As (.int .i64 0) Z Z ?_;refine Nl (Sq (Rg ?_));refine Mv (.int .i64 g) Z Z ?_;refine Fa Fx.fld87_0 Z Z ?_;have fl:(0:Int)≤g:=by omega
 have fm:g<((3:Nat):Int):=by omega
 refine Pl Z (ok_indexArr Fx.asz83 Z Z fl fm ?_);refine Ld (.int .i64 (p.first (g.toNat))) Z Z (Rd.one Fx.ty3 bv (ePast_first0 (i:=g.toNat) (by omega))) ?_;refine As (.int .i64 (p.first (g.toNat))) Z Z ?_;refine Nl (Sq (Rg ?_));refine Mv (.int .i64 (p.first (g.toNat))) Z Z ?_;refine As (.int .i64 (p.first (g.toNat))) Z Z ?_;refine Nl (Sq (Sq (Rg ?_)));refine Fa Fx.fld92_0 Z Z ?_;refine Fa Fx.fld26_3 Z Z ?_;have bw:=a2.keep iu Z;refine Ld msv Z Z (Rd.one Fx.ty23 bw Z) ?_;have a7:=fk.trans a2;refine Pl Z (ok_lenSl Fx.sl23 (hms.le a7) Z ?_);refine Mv (.int .i64 0) Z Z ?_;refine Nl (Bk ?_);refine tr_loop (fun nn σ' ds' h'=>∃(k:Nat) (n:Int) (low:Int),nn=ms.length-k∧(k≤ms.length)∧(-99*((k:Int)+1)≤n∧n≤99*((k:Int)+1))∧(stockRun ms p g dy (ms.length-k) k n low=stockRun ms p g dy ms.length 0 (p.first g.toNat) (p.first g.toNat))∧ds'=[]∧GH.Le iv h'∧σ' 2=.int .i64 g∧σ' 3=.int .i64 dy∧σ' 4=.pointer (some ⟨r4,0,none⟩)∧σ' 5=.pointer (some ⟨ik,0,none⟩)∧σ' 19=msv∧σ' 20=.int .i64 (ms.length:Int)∧σ' 8=.int .i64 n∧σ' 9=.int .i64 low∧σ' 21=.int .i64 (k:Int)) ⟨0,p.first g.toNat,p.first g.toNat,Z,(by omega),(by omega),(by rfl),Z,Lr,Z,Z,Z,Z,Z,Z,Z,Z,Z⟩ (fun nn _ _ _ fn=>?_);obtain ⟨k,n,low,rfl,hk,hn,hrun,iw,aq,a8,a9,az,ba,bb,bc,a3,a4,a0⟩:=fn;subst iw;have hkd:=hkind k;have hre:=realOf_range hp k;have hsg:=signed_range (k:=(ms.getD k Move.z).kind.toNat) hre;refine Sq (Rg ?_);refine Pl Z (ok_lss (a:=(k:Int)) (b:=(ms.length:Int)) a0 bc ?_);refine Nl (Sq ?_);refine tr_if (p:=(k:Int)<(ms.length:Int)) Z (fun fo=>?_) (fun fo=>?_)
 ·refine Sk (Sq (Bk (Sq (Rg ?_))));refine Mv (.int .i64 (k:Int)) Z a0 ?_;have fp:(0:Int)≤(k:Int):=by omega
  have fq:(k:Int)<((ms.length:Nat):Int):=by omega
  refine Pl Z (ok_indexS0 Fx.esz23 hms bb a0 fp fq fun ix bx fr=>?_);have fs:Elem _ ix bx 5 (eMove (ms.getD k Move.z)):=Elem.getD Move.z fr;have al:=a7.trans aq;refine Ld (.agg #[.int .i64 ((ms.getD k Move.z).kind),.int .i64 ((ms.getD k Move.z).good),.int .i64 ((ms.getD k Move.z).day),.int .i64 ((ms.getD k Move.z).low),.int .i64 ((ms.getD k Move.z).high)]) Z Z (rd_agg0 Fx.ty41 (fs.le al)) ?_;have av:=aq.keep bw Z;have bz:=aq.keep bv Z;refine Pl Z (ok_alloc' Fx.zero41 fun b0 _ ai ad ft _=>?_);have a1:r4≠b0:=Ne' av ai;have fu:ik≠b0:=Ne' bz ai;refine As (.int .i64 (k:Int)) Z Z ?_;refine Pl Z (ok_store' (v:=.agg #[.int .i64 ((ms.getD k Move.z).kind),.int .i64 ((ms.getD k Move.z).good),.int .i64 ((ms.getD k Move.z).day),.int .i64 ((ms.getD k Move.z).low),.int .i64 ((ms.getD k Move.z).high)]) (c':=#[.int .i64 ((ms.getD k Move.z).kind),.int .i64 ((ms.getD k Move.z).good),.int .i64 ((ms.getD k Move.z).day),.int .i64 ((ms.getD k Move.z).low),.int .i64 ((ms.getD k Move.z).high)]) Fx.ty41 Z Z ft Z Z (by simp) Z fun _ aw ag=>?_);refine Nl (Sq (Sq (Rg ?_)));refine Fa Fx.fld41_2 Z Z ?_;refine Ld (.int .i64 ((ms.getD k Move.z).day)) Z Z (Rd.one Fx.ty3 aw Z) ?_;refine Mv (.int .i64 dy) Z a9 ?_;refine Pl Z (ok_gtr (a:=(ms.getD k Move.z).day) (b:=dy) Z Z ?_);refine Nl ?_;refine tr_if (p:=dy<((ms.getD k Move.z).day)) Z (fun fv=>?_) (fun fv=>?_)
  ·refine Xt (Sq (Rg ?_));refine Mv (.int .i64 n) Z a3 ?_;refine Mv (.int .i64 low) Z a4 ?_;refine As (.int .i64 n) Z Z ?_;refine As (.int .i64 low) Z Z ?_;refine Nl (Rt ?_);have fw:=(al.trans ad).upd (Ln al ai) ag;refine ⟨.inr Z,outs2 Z (v:=.int .i64 n) (v':=.int .i64 low) Z Z ?_⟩;exact ⟨(by (rw [stockOf,←hrun,stockRun_stop (ms:=ms) (k:=k) (dy:=dy) (by omega) ‹_›])),fw⟩
  ·refine Sk (Sq (Sq (Rg ?_)));refine Fa Fx.fld41_1 Z Z ?_;refine Ld (.int .i64 ((ms.getD k Move.z).good)) Z Z (Rd.one Fx.ty3 aw Z) ?_;refine Mv (.int .i64 g) Z a8 ?_;refine Pl Z (ok_eql (a:=(ms.getD k Move.z).good) (b:=g) Z Z ?_);refine Nl ?_;refine tr_if (p:=((ms.getD k Move.z).good)=g) Z (fun fx=>?_) (fun fx=>?_)
   ·refine tr_drawnLe 10 [[],[],[1],[1,2],[1,2,3],[1,2,3,4],[],[],[6,7],[1,2,3,4,5,6,7,8]] [(lF (.int .i64 n)),(lF (.pointer (some ⟨b0,0,none⟩))),(lF (.int .i64 ((ms.getD k Move.z).kind))),(lF (.pointer (some ⟨0,0+((ms.getD k Move.z).kind).toNat * 2,none⟩))),(lF (.pointer (some ⟨0,0+((ms.getD k Move.z).kind).toNat * 2+1,none⟩))),(lF (kindFn (((ms.getD k Move.z).kind).toNat))),(lF (.agg (ePast p))),(lF (.int .i64 (k:Int))),(lF (.int .i64 (realOf p k))),(lF (.int .i64 (signed (((ms.getD k Move.z).kind).toNat) (realOf p k))))] Fx.mixed (by kernel_rfl) (K8 (K2 trivial)) ⟨?_,?_,?_,?_,?_,?_,?_,?_,?_,?_,?_⟩
    ·intro _ _ _ fy _ _;refine (ok_move (v:=.int .i64 n) (Et (fy 8 Z) a3) ?_);exact fL Z
    ·intro _ _ _ fz _ _;refine (ok_fieldAddr Fx.fld41_0 (Et (fz 11 Z) Z) ?_);exact fL Z
    ·intro _ _ b1 _ f1 _;obtain ⟨iy,_⟩:=f1;refine (ok_load (v:=.int .i64 ((ms.getD k Move.z).kind)) (iy trivial) (Rd.one Fx.ty37 (b1.keep aw Z) Z) ?_);exact fL Z
    ·intro _ _ _ _ f2 _;obtain ⟨_,iz,_⟩:=f2;have f3:(0:Int)≤(ms.getD k Move.z).kind:=by omega
     have f4:(ms.getD k Move.z).kind<((5:Nat):Int):=by omega
     refine (ok_indexArr Fx.asz121 Z (iz trivial) f3 f4 ?_);exact fL Z
    ·intro _ _ _ _ f5 _;obtain ⟨_,_,f6,_⟩:=f5;refine (ok_fieldAddr Fx.fld120_1 (f6 trivial) ?_);exact fL Z
    ·intro _ _ bd _ b2 _;obtain ⟨_,_,_,f7,_⟩:=b2;have b3:=hG.le (((al.trans ad).upd (Ln al ai) ag).trans bd);refine (ok_load (v:=kindFn (((ms.getD k Move.z).kind).toNat)) (f7 trivial) (rd_at0 Fx.ty104 b3.2 (kindFn_at (by omega))) ?_);exact fL Z
    ·intro _ _ be b4 _ _;refine (ok_load (v:=.agg (ePast p)) (Et (b4 5 Z) ba) (rd_agg0 Fx.ty87 (Bx (be.keep ((ag _ fu).trans (ad.keep bz Z)) Z) Z)) ?_);exact fL Z
    ·intro _ _ _ b5 _ _;refine (ok_move (v:=.int .i64 (k:Int)) (Et (b5 10 Z) Z) ?_);exact fL Z
    ·intro _ _ _ _ b6 _;obtain ⟨f8,f9,_⟩:=b6;refine (ok_call2 Tryd.func50 Fx.call50 (f8 trivial) (f9 trivial) ((real_spec p (k:Int) (by omega) (by omega)).mono fun _ _ b7=>?_));obtain ⟨rfl,bf⟩:=b7;exact ⟨Z,bf,_,Z,Z⟩
    ·intro _ _ _ _ b8 _;obtain ⟨_,_,_,_,ga,_,_,gb,_⟩:=b8;refine (ok_callVal1 (ga trivial) (gb trivial) ((kindFn_spec (realOf p k) (by omega) (k:=(((ms.getD k Move.z).kind).toNat)) (by omega)).mono fun _ _ b9=>?_));obtain ⟨rfl,bg⟩:=b9;exact ⟨Z,bg,_,Z,Z⟩
    ·intro _ _ ah aa ca;obtain ⟨gc,_,_,_,_,_,_,_,_,gd,_⟩:=ca;refine Ad n (signed (((ms.getD k Move.z).kind).toNat) (realOf p k)) Z (gc trivial) (gd trivial) (by omega) ?_;refine As (.int .i64 (n+(signed (((ms.getD k Move.z).kind).toNat) (realOf p k)))) Z Z ?_;refine Nl (Sq ?_);refine tr_drawnLe 18 [[],[0],[],[2],[2,3],[2,3,4],[0,1,2,3,4,5],[0,1,2,3,4,5,6],[0,1,2,3,4,5,6,7],[0,1,2,3,4,5,6,7,8],[0,1,2,3,4,5,6,7,8,9],[0,1,2,3,4,5,6,7],[0,1,2,3,4,5,6,7,11],[0,1,2,3,4,5,6,7,8,9,10,11,12],[0,1,2,3,4,5,6,7,8,9,10,11,12,13],[0,1,2,3,4,5,6,7,8,9,10,11,12,13,14],[0,1,2,3,4,5,6,7],[0,1,2,3,4,5,6,7,16]] [(lF (.int .i64 (k:Int))),(lF (.int .i64 ((k:Int)+1))),(lF (.pointer (some ⟨r4,0,none⟩))),(lF (.pointer (some ⟨r4,3,none⟩))),(lF msv),(lF (.int .i64 (ms.length:Int))),(lF (.bool (decide (((k:Int)+1)=(ms.length:Int))))),(lF (.bool (decide (((k:Int)+1)=(ms.length:Int))))),(lF (.pointer (some ⟨r4,0,none⟩))),(lF (.pointer (some ⟨r4,3,none⟩))),(lF msv),(lF (.int .i64 (k:Int))),(lF (.int .i64 ((k:Int)+1))),(fun v h=>∃(am:Nat) (ae:Nat),v=(.pointer (some ⟨am,ae,none⟩):Value)∧Elem h am ae 5 #[.int .i64 ((ms.getD (k+1) Move.z).kind),.int .i64 ((ms.getD (k+1) Move.z).good),.int .i64 ((ms.getD (k+1) Move.z).day),.int .i64 ((ms.getD (k+1) Move.z).low),.int .i64 ((ms.getD (k+1) Move.z).high)]),(fun v h=>∃(am:Nat) (ae:Nat),v=(.pointer (some ⟨am,ae+2,none⟩):Value)∧Elem h am ae 5 #[.int .i64 ((ms.getD (k+1) Move.z).kind),.int .i64 ((ms.getD (k+1) Move.z).good),.int .i64 ((ms.getD (k+1) Move.z).day),.int .i64 ((ms.getD (k+1) Move.z).low),.int .i64 ((ms.getD (k+1) Move.z).high)]),(lF (.int .i64 ((ms.getD (k+1) Move.z).day))),(lF (.pointer (some ⟨b0,2,none⟩))),(lF (.int .i64 ((ms.getD k Move.z).day)))] Fx.mixed (by kernel_rfl) (K8 (K4 (K1 ⟨(fun _ _ _ l ⟨am,ae,e,f0⟩=>⟨am,ae,e,f0.le l⟩),(fun _ _ _ l ⟨am,ae,e,f0⟩=>⟨am,ae,e,f0.le l⟩),K2 (K1 trivial)⟩))) ⟨?_,?_,?_,?_,?_,?_,?_,?_,?_,?_,?_,?_,?_,?_,?_,?_,?_,?_,?_⟩
     ·intro _ _ _ cb _ _;refine (ok_move (v:=.int .i64 (k:Int)) (Et (cb 10 Z) (Et (aa 10 Z) Z)) ?_);exact fL Z
     ·intro _ _ _ _ cc _;obtain ⟨ge,_⟩:=cc;refine (ok_add (a:=(k:Int)) (b:=1) (ge trivial) Z (by omega) ?_);exact fL Z
     ·intro _ _ _ cd _ _;refine (ok_fieldAddr Fx.fld92_0 (Et (cd 4 Z) (Et (aa 4 Z) az)) ?_);exact fL Z
     ·intro _ _ _ _ ce _;obtain ⟨gf,_⟩:=ce;refine (ok_fieldAddr Fx.fld26_3 (gf trivial) ?_);exact fL Z
     ·intro _ _ bh _ cf _;obtain ⟨_,gg,_⟩:=cf;have cg:=(bh.keep (ah.keep ((ag _ a1).trans (ad.keep av Z)) Z) Z);refine (ok_load (v:=msv) (gg trivial) (Rd.one Fx.ty23 cg Z) ?_);exact fL Z
     ·intro _ _ bi _ ch _;obtain ⟨_,_,gi,_⟩:=ch;have ci:=(((al.trans ad).upd (Ln al ai) ag).trans ah).trans bi;refine (ok_lenSl Fx.sl23 (hms.le ci) (gi trivial) ?_);exact fL Z
     ·intro _ _ _ _ cj _;obtain ⟨_,gj,_,_,_,gk,_⟩:=cj;refine (ok_eql (a:=(k:Int)+1) (b:=(ms.length:Int)) (gj trivial) (gk trivial) ?_);exact fL Z
     ·intro _ _ _ _ ck _;obtain ⟨_,_,_,_,_,_,gl,_⟩:=ck;refine (ok_move (v:=.bool (decide (((k:Int)+1)=(ms.length:Int)))) (gl trivial) ?_);exact fL Z
     ·intro _ _ _ cl cm cn;obtain ⟨_,_,_,_,_,_,_,gm,_⟩:=cm;have il:=bool_np (gm trivial) cn;refine (ok_fieldAddr Fx.fld92_0 (Et (cl 4 Z) (Et (aa 4 Z) az)) ?_);exact fL Z
     ·intro _ _ _ _ co cp;obtain ⟨_,_,_,_,_,_,_,gn,gp,_⟩:=co;have cq:=gn trivial;have cr:=bool_np cq cp;refine (ok_fieldAddr Fx.fld26_3 (gp (bool_f cq cr)) ?_);exact fL Z
     ·intro _ _ bj _ ct cu;obtain ⟨_,_,_,_,_,_,_,gq,_,gr,_⟩:=ct;have cv:=gq trivial;have cw:=bool_np cv cu;have cx:=(bj.keep (ah.keep ((ag _ a1).trans (ad.keep av Z)) Z) Z);refine (ok_load (v:=msv) (gr (bool_f cv cw)) (Rd.one Fx.ty23 cx Z) ?_);exact fL Z
     ·intro _ _ _ cy cz c0;obtain ⟨_,_,_,_,_,_,_,gt,_⟩:=cz;have im:=bool_np (gt trivial) c0;refine (ok_move (v:=.int .i64 (k:Int)) (Et (cy 10 Z) (Et (aa 10 Z) Z)) ?_);exact fL Z
     ·intro _ _ _ _ c1 c2;obtain ⟨_,_,_,_,_,_,_,gu,gv,_⟩:=c1;have c3:=gu trivial;have c4:=bool_np c3 c2;refine (ok_add (a:=(k:Int)) (b:=1) (gv (bool_f c3 c4)) Z (by omega) ?_);exact fL Z
     ·intro _ _ bk _ c5 c6;obtain ⟨_,_,_,_,_,_,_,gw,_,_,gx,_,gy,_⟩:=c5;have bl:=gw trivial;have a5:=bool_np bl c6;have c7:(0:Int)≤(k:Int)+1:=by omega
      have c8:(k:Int)+1<((ms.length:Nat):Int):=by omega
      refine (ok_indexS0 Fx.esz23 hms (gx (bool_f bl a5)) (gy (bool_f bl a5)) c7 c8 fun c9 ax da=>?_);have db:Elem _ c9 ax 5 (eMove (ms.getD (k+1) Move.z)):=Elem.getD Move.z da;have dc:=(((al.trans ad).upd (Ln al ai) ag).trans ah).trans bk;exact fL ⟨c9,ax,Z,(db.le dc)⟩
     ·intro _ _ _ _ dd de;obtain ⟨_,_,_,_,_,_,_,gz,_,_,_,_,_,g0,_⟩:=dd;have df:=gz trivial;have dg:=bool_np df de;obtain ⟨g1,bm,g2,g3⟩:=g0 (bool_f df dg);refine (ok_fieldAddr Fx.fld41_2 g2 ?_);exact fL ⟨g1,bm,Z,g3⟩
     ·intro _ _ _ _ dh di;obtain ⟨_,_,_,_,_,_,_,g4,_,_,_,_,_,_,g5,_⟩:=dh;have dj:=g4 trivial;have dk:=bool_np dj di;obtain ⟨_,_,g6,g7⟩:=g5 (bool_f dj dk);refine (ok_load (v:=.int .i64 ((ms.getD (k+1) Move.z).day)) g6 (rd_one (o:=2) Fx.ty3 g7 Z) ?_);exact fL Z
     ·intro _ _ _ dl dm dn;obtain ⟨_,_,_,_,_,_,_,g8,_⟩:=dm;have io:=bool_np (g8 trivial) dn;refine (ok_fieldAddr Fx.fld41_2 (Et (dl 11 Z) (Et (aa 11 Z) Z)) ?_);exact fL Z
     ·intro _ _ bn _ dp dq;obtain ⟨_,_,_,_,_,_,_,g9,ha,_⟩:=dp;have dr:=g9 trivial;have ds:=bool_np dr dq;refine (ok_load (v:=.int .i64 ((ms.getD k Move.z).day)) (ha (bool_f dr ds)) (Rd.one Fx.ty3 (bn.keep (ah.keep aw Z) Z) Z) ?_);exact fL Z
     ·intro _ _ ar ab dt;obtain ⟨_,_,_,_,_,_,_,hb,_,_,_,_,_,hc,hd,he,_,hf,_⟩:=dt;have ao:=hb trivial;refine trL_case (p:=((k:Int)+1)=(ms.length:Int)) ?_ ?_
      ·intro aj;refine Gs 7 52 (bool_t ao aj) Z ?_;refine Pk true (.bool true) Z (bool_t ao aj) Z ?_;refine Nl ?_;refine tr_true Z ?_;refine Rg ?_;refine Mv (.int .i64 low) Z (Et (ab 9 Z) (Et (aa 9 Z) a4)) ?_;refine Mv (.int .i64 (n+(signed (((ms.getD k Move.z).kind).toNat) (realOf p k)))) Z (Et (ab 8 Z) Z) ?_;refine Pl Z (ok_min (a:=low) (b:=n+(signed (((ms.getD k Move.z).kind).toNat) (realOf p k))) Z Z ?_);refine As (.int .i64 (min low (n+(signed (((ms.getD k Move.z).kind).toNat) (realOf p k))))) Z Z ?_;refine Nl (Rg ?_);refine Ad (k:Int) 1 Z (Et (ab 21 Z) (Et (aa 21 Z) a0)) Z (by omega) ?_;refine Mv (.int .i64 ((k:Int)+1)) Z Z ?_;refine Nl ?_;have du:=(((aq.trans ad).upd (Ln aq ai) ag).trans ah).trans ar;exact ⟨_,by omega,k+1,n+(signed (((ms.getD k Move.z).kind).toNat) (realOf p k)),min low (n+(signed (((ms.getD k Move.z).kind).toNat) (realOf p k))),Z,(by omega),(by omega),(by rw [←hrun,stockRun_next (ms:=ms) (k:=k) (dy:=dy) (by omega) ‹_›];unfold nNext lowNext;repeat (first | rw [if_pos ‹_›] | rw [if_pos (.inl ‹_›)])),Z,du,(Et (ab 2 Z) (Et (aa 2 Z) a8)),(Et (ab 3 Z) (Et (aa 3 Z) a9)),(Et (ab 4 Z) (Et (aa 4 Z) az)),(Et (ab 5 Z) (Et (aa 5 Z) ba)),(Et (ab 19 Z) (Et (aa 19 Z) bb)),(Et (ab 20 Z) (Et (aa 20 Z) bc)),(Et (ab 8 Z) Z),Z,Z⟩
      ·intro aj;obtain ⟨_,_⟩:=hc (bool_f ao aj);obtain ⟨_,_⟩:=hd (bool_f ao aj);refine Gg 7 52 (bool_f ao aj) Z (ok_gtr (a:=(ms.getD (k+1) Move.z).day) (b:=(ms.getD k Move.z).day) (he (bool_f ao aj)) (hf (bool_f ao aj)) ?_);refine Pk false (.bool (decide (((ms.getD k Move.z).day)<((ms.getD (k+1) Move.z).day)))) Z (bool_f ao aj) Z ?_;refine Nl ?_;refine tr_if (p:=((ms.getD k Move.z).day)<((ms.getD (k+1) Move.z).day)) Z (fun dv=>?_) (fun dv=>?_)
       ·refine Rg ?_;refine Mv (.int .i64 low) Z (Et (ab 9 Z) (Et (aa 9 Z) a4)) ?_;refine Mv (.int .i64 (n+(signed (((ms.getD k Move.z).kind).toNat) (realOf p k)))) Z (Et (ab 8 Z) Z) ?_;refine Pl Z (ok_min (a:=low) (b:=n+(signed (((ms.getD k Move.z).kind).toNat) (realOf p k))) Z Z ?_);refine As (.int .i64 (min low (n+(signed (((ms.getD k Move.z).kind).toNat) (realOf p k))))) Z Z ?_;refine Nl (Rg ?_);refine Ad (k:Int) 1 Z (Et (ab 21 Z) (Et (aa 21 Z) a0)) Z (by omega) ?_;refine Mv (.int .i64 ((k:Int)+1)) Z Z ?_;refine Nl ?_;have dw:=(((aq.trans ad).upd (Ln aq ai) ag).trans ah).trans ar;exact ⟨_,by omega,k+1,n+(signed (((ms.getD k Move.z).kind).toNat) (realOf p k)),min low (n+(signed (((ms.getD k Move.z).kind).toNat) (realOf p k))),Z,(by omega),(by omega),(by rw [←hrun,stockRun_next (ms:=ms) (k:=k) (dy:=dy) (by omega) ‹_›];unfold nNext lowNext;repeat (first | rw [if_pos ‹_›] | rw [if_pos (.inr ‹_›)])),Z,dw,(Et (ab 2 Z) (Et (aa 2 Z) a8)),(Et (ab 3 Z) (Et (aa 3 Z) a9)),(Et (ab 4 Z) (Et (aa 4 Z) az)),(Et (ab 5 Z) (Et (aa 5 Z) ba)),(Et (ab 19 Z) (Et (aa 19 Z) bb)),(Et (ab 20 Z) (Et (aa 20 Z) bc)),(Et (ab 8 Z) Z),Z,Z⟩
       ·refine Sk (Rg ?_);refine Ad (k:Int) 1 Z (Et (ab 21 Z) (Et (aa 21 Z) a0)) Z (by omega) ?_;refine Mv (.int .i64 ((k:Int)+1)) Z Z ?_;refine Nl ?_;have dx:=(((aq.trans ad).upd (Ln aq ai) ag).trans ah).trans ar;exact ⟨_,by omega,k+1,n+(signed (((ms.getD k Move.z).kind).toNat) (realOf p k)),low,rfl,(by omega),(by omega),(by rw [←hrun,stockRun_next (ms:=ms) (k:=k) (dy:=dy) (by omega) ‹_›];unfold nNext lowNext;repeat (first | rw [if_pos ‹_›] | rw [if_neg (by rintro (q | q) <;> contradiction)])),rfl,dx,(Et (ab 2 rfl) (Et (aa 2 rfl) a8)),(Et (ab 3 rfl) (Et (aa 3 rfl) a9)),(Et (ab 4 rfl) (Et (aa 4 rfl) az)),(Et (ab 5 rfl) (Et (aa 5 rfl) ba)),(Et (ab 19 rfl) (Et (aa 19 rfl) bb)),(Et (ab 20 rfl) (Et (aa 20 rfl) bc)),(Et (ab 8 rfl) rfl),(Et (ab 9 rfl) (Et (aa 9 rfl) a4)),(Et (b:=(.int .i64 ((k:Int)+1):Value)) rfl (by rfl))⟩
   ·refine Sk (Sq ?_);refine tr_drawnLe 18 [[],[0],[],[2],[2,3],[2,3,4],[0,1,2,3,4,5],[0,1,2,3,4,5,6],[0,1,2,3,4,5,6,7],[0,1,2,3,4,5,6,7,8],[0,1,2,3,4,5,6,7,8,9],[0,1,2,3,4,5,6,7],[0,1,2,3,4,5,6,7,11],[0,1,2,3,4,5,6,7,8,9,10,11,12],[0,1,2,3,4,5,6,7,8,9,10,11,12,13],[0,1,2,3,4,5,6,7,8,9,10,11,12,13,14],[0,1,2,3,4,5,6,7],[0,1,2,3,4,5,6,7,16]] [(lF (.int .i64 (k:Int))),(lF (.int .i64 ((k:Int)+1))),(lF (.pointer (some ⟨r4,0,none⟩))),(lF (.pointer (some ⟨r4,3,none⟩))),(lF msv),(lF (.int .i64 (ms.length:Int))),(lF (.bool (decide (((k:Int)+1)=(ms.length:Int))))),(lF (.bool (decide (((k:Int)+1)=(ms.length:Int))))),(lF (.pointer (some ⟨r4,0,none⟩))),(lF (.pointer (some ⟨r4,3,none⟩))),(lF msv),(lF (.int .i64 (k:Int))),(lF (.int .i64 ((k:Int)+1))),(fun v h=>∃(an:Nat) (af:Nat),v=(.pointer (some ⟨an,af,none⟩):Value)∧Elem h an af 5 #[.int .i64 ((ms.getD (k+1) Move.z).kind),.int .i64 ((ms.getD (k+1) Move.z).good),.int .i64 ((ms.getD (k+1) Move.z).day),.int .i64 ((ms.getD (k+1) Move.z).low),.int .i64 ((ms.getD (k+1) Move.z).high)]),(fun v h=>∃(an:Nat) (af:Nat),v=(.pointer (some ⟨an,af+2,none⟩):Value)∧Elem h an af 5 #[.int .i64 ((ms.getD (k+1) Move.z).kind),.int .i64 ((ms.getD (k+1) Move.z).good),.int .i64 ((ms.getD (k+1) Move.z).day),.int .i64 ((ms.getD (k+1) Move.z).low),.int .i64 ((ms.getD (k+1) Move.z).high)]),(lF (.int .i64 ((ms.getD (k+1) Move.z).day))),(lF (.pointer (some ⟨b0,2,none⟩))),(lF (.int .i64 ((ms.getD k Move.z).day)))] Fx.mixed (by kernel_rfl) (K8 (K4 (K1 ⟨(fun _ _ _ l ⟨an,af,e,f0⟩=>⟨an,af,e,f0.le l⟩),(fun _ _ _ l ⟨an,af,e,f0⟩=>⟨an,af,e,f0.le l⟩),K2 (K1 trivial)⟩))) ⟨?_,?_,?_,?_,?_,?_,?_,?_,?_,?_,?_,?_,?_,?_,?_,?_,?_,?_,?_⟩
    ·intro _ _ _ dz _ _;refine (ok_move (v:=.int .i64 (k:Int)) (Et (dz 10 Z) Z) ?_);exact fL Z
    ·intro _ _ _ _ d0 _;obtain ⟨hg,_⟩:=d0;refine (ok_add (a:=(k:Int)) (b:=1) (hg trivial) Z (by omega) ?_);exact fL Z
    ·intro _ _ _ d1 _ _;refine (ok_fieldAddr Fx.fld92_0 (Et (d1 4 Z) az) ?_);exact fL Z
    ·intro _ _ _ _ d2 _;obtain ⟨hh,_⟩:=d2;refine (ok_fieldAddr Fx.fld26_3 (hh trivial) ?_);exact fL Z
    ·intro _ _ bo _ d3 _;obtain ⟨_,hi,_⟩:=d3;refine (ok_load (v:=msv) (hi trivial) (Rd.one Fx.ty23 (bo.keep ((ag _ a1).trans (ad.keep av Z)) Z) Z) ?_);exact fL Z
    ·intro _ _ bp _ d4 _;obtain ⟨_,_,hj,_⟩:=d4;have d5:=hms.le (((al.trans ad).upd (Ln al ai) ag).trans bp);refine (ok_lenSl Fx.sl23 d5 (hj trivial) ?_);exact fL Z
    ·intro _ _ _ _ d6 _;obtain ⟨_,hl,_,_,_,hm,_⟩:=d6;refine (ok_eql (a:=(k:Int)+1) (b:=(ms.length:Int)) (hl trivial) (hm trivial) ?_);exact fL Z
    ·intro _ _ _ _ d7 _;obtain ⟨_,_,_,_,_,_,ho,_⟩:=d7;refine (ok_move (v:=.bool (decide (((k:Int)+1)=(ms.length:Int)))) (ho trivial) ?_);exact fL Z
    ·intro _ _ _ d8 d9 ea;obtain ⟨_,_,_,_,_,_,_,hq,_⟩:=d9;have ip:=bool_np (hq trivial) ea;refine (ok_fieldAddr Fx.fld92_0 (Et (d8 4 Z) az) ?_);exact fL Z
    ·intro _ _ _ _ eb ec;obtain ⟨_,_,_,_,_,_,_,hr,hs,_⟩:=eb;have ed:=hr trivial;have ee:=bool_np ed ec;refine (ok_fieldAddr Fx.fld26_3 (hs (bool_f ed ee)) ?_);exact fL Z
    ·intro _ _ bq _ ef eg;obtain ⟨_,_,_,_,_,_,_,ht,_,hu,_⟩:=ef;have eh:=ht trivial;have ei:=bool_np eh eg;refine (ok_load (v:=msv) (hu (bool_f eh ei)) (Rd.one Fx.ty23 (bq.keep ((ag _ a1).trans (ad.keep av Z)) Z) Z) ?_);exact fL Z
    ·intro _ _ _ ej ek el;obtain ⟨_,_,_,_,_,_,_,hv,_⟩:=ek;have iq:=bool_np (hv trivial) el;refine (ok_move (v:=.int .i64 (k:Int)) (Et (ej 10 Z) Z) ?_);exact fL Z
    ·intro _ _ _ _ em en;obtain ⟨_,_,_,_,_,_,_,hw,hx,_⟩:=em;have eo:=hw trivial;have ep:=bool_np eo en;refine (ok_add (a:=(k:Int)) (b:=1) (hx (bool_f eo ep)) Z (by omega) ?_);exact fL Z
    ·intro _ _ br _ eq er;obtain ⟨_,_,_,_,_,_,_,hy,_,_,hz,_,h0,_⟩:=eq;have bs:=hy trivial;have a6:=bool_np bs er;have es:(0:Int)≤(k:Int)+1:=by omega
     have et:(k:Int)+1<((ms.length:Nat):Int):=by omega
     refine (ok_indexS0 Fx.esz23 hms (hz (bool_f bs a6)) (h0 (bool_f bs a6)) es et fun eu ay ev=>?_);have ew:Elem _ eu ay 5 (eMove (ms.getD (k+1) Move.z)):=Elem.getD Move.z ev;have ex:=ew.le (((al.trans ad).upd (Ln al ai) ag).trans br);exact fL ⟨eu,ay,Z,ex⟩
    ·intro _ _ _ _ ey ez;obtain ⟨_,_,_,_,_,_,_,h1,_,_,_,_,_,h2,_⟩:=ey;have e0:=h1 trivial;have e1:=bool_np e0 ez;obtain ⟨h3,bt,h4,h5⟩:=h2 (bool_f e0 e1);refine (ok_fieldAddr Fx.fld41_2 h4 ?_);exact fL ⟨h3,bt,Z,h5⟩
    ·intro _ _ _ _ e2 e3;obtain ⟨_,_,_,_,_,_,_,h6,_,_,_,_,_,_,h7,_⟩:=e2;have e4:=h6 trivial;have e5:=bool_np e4 e3;obtain ⟨_,_,h8,h9⟩:=h7 (bool_f e4 e5);refine (ok_load (v:=.int .i64 ((ms.getD (k+1) Move.z).day)) h8 (rd_one (o:=2) Fx.ty3 h9 Z) ?_);exact fL Z
    ·intro _ _ _ e6 e7 e8;obtain ⟨_,_,_,_,_,_,_,ia,_⟩:=e7;have ir:=bool_np (ia trivial) e8;refine (ok_fieldAddr Fx.fld41_2 (Et (e6 11 Z) Z) ?_);exact fL Z
    ·intro _ _ bu _ e9 fa;obtain ⟨_,_,_,_,_,_,_,ib,ic,_⟩:=e9;have fb:=ib trivial;have fc:=bool_np fb fa;refine (ok_load (v:=.int .i64 ((ms.getD k Move.z).day)) (ic (bool_f fb fc)) (Rd.one Fx.ty3 (bu.keep aw Z) Z) ?_);exact fL Z
    ·intro _ _ au ac fd;obtain ⟨_,_,_,_,_,_,_,ie,_,_,_,_,_,ig,ih,ii,_,ij,_⟩:=fd;have ap:=ie trivial;refine trL_case (p:=((k:Int)+1)=(ms.length:Int)) ?_ ?_
     ·intro ak;refine Gs 7 52 (bool_t ap ak) Z ?_;refine Pk true (.bool true) Z (bool_t ap ak) Z ?_;refine Nl ?_;refine tr_true Z ?_;refine Rg ?_;refine Mv (.int .i64 low) Z (Et (ac 9 Z) a4) ?_;refine Mv (.int .i64 n) Z (Et (ac 8 Z) a3) ?_;refine Pl Z (ok_min (a:=low) (b:=n) Z Z ?_);refine As (.int .i64 (min low n)) Z Z ?_;refine Nl (Rg ?_);refine Ad (k:Int) 1 Z (Et (ac 21 Z) a0) Z (by omega) ?_;refine Mv (.int .i64 ((k:Int)+1)) Z Z ?_;refine Nl ?_;have fe:=((aq.trans ad).upd (Ln aq ai) ag).trans au;exact ⟨_,by omega,k+1,n,min low n,Z,(by omega),(by omega),(by rw [←hrun,stockRun_next (ms:=ms) (k:=k) (dy:=dy) (by omega) ‹_›];unfold nNext lowNext;repeat (first | rw [if_neg ‹_›] | rw [if_pos (.inl ‹_›)])),Z,fe,(Et (ac 2 Z) a8),(Et (ac 3 Z) a9),(Et (ac 4 Z) az),(Et (ac 5 Z) ba),(Et (ac 19 Z) bb),(Et (ac 20 Z) bc),(Et (ac 8 Z) a3),Z,Z⟩
     ·intro ak;obtain ⟨_,_⟩:=ig (bool_f ap ak);obtain ⟨_,_⟩:=ih (bool_f ap ak);refine Gg 7 52 (bool_f ap ak) Z (ok_gtr (a:=(ms.getD (k+1) Move.z).day) (b:=(ms.getD k Move.z).day) (ii (bool_f ap ak)) (ij (bool_f ap ak)) ?_);refine Pk false (.bool (decide (((ms.getD k Move.z).day)<((ms.getD (k+1) Move.z).day)))) Z (bool_f ap ak) Z ?_;refine Nl ?_;refine tr_if (p:=((ms.getD k Move.z).day)<((ms.getD (k+1) Move.z).day)) Z (fun ff=>?_) (fun ff=>?_)
      ·refine Rg ?_;refine Mv (.int .i64 low) Z (Et (ac 9 Z) a4) ?_;refine Mv (.int .i64 n) Z (Et (ac 8 Z) a3) ?_;refine Pl Z (ok_min (a:=low) (b:=n) Z Z ?_);refine As (.int .i64 (min low n)) Z Z ?_;refine Nl (Rg ?_);refine Ad (k:Int) 1 Z (Et (ac 21 Z) a0) Z (by omega) ?_;refine Mv (.int .i64 ((k:Int)+1)) Z Z ?_;refine Nl ?_;have fg:=((aq.trans ad).upd (Ln aq ai) ag).trans au;exact ⟨_,by omega,k+1,n,min low n,Z,(by omega),(by omega),(by rw [←hrun,stockRun_next (ms:=ms) (k:=k) (dy:=dy) (by omega) ‹_›];unfold nNext lowNext;repeat (first | rw [if_neg ‹_›] | rw [if_pos (.inr ‹_›)])),Z,fg,(Et (ac 2 Z) a8),(Et (ac 3 Z) a9),(Et (ac 4 Z) az),(Et (ac 5 Z) ba),(Et (ac 19 Z) bb),(Et (ac 20 Z) bc),(Et (ac 8 Z) a3),Z,Z⟩
      ·refine Sk (Rg ?_);refine Ad (k:Int) 1 Z (Et (ac 21 Z) a0) Z (by omega) ?_;refine Mv (.int .i64 ((k:Int)+1)) Z Z ?_;refine Nl ?_;exact ⟨_,by omega,k+1,n,low,rfl,(by omega),(by omega),(by rw [←hrun,stockRun_next (ms:=ms) (k:=k) (dy:=dy) (by omega) ‹_›];unfold nNext lowNext;repeat (first | rw [if_neg ‹_›] | rw [if_neg (by rintro (q | q) <;> contradiction)])),rfl,(((aq.trans ad).upd (Ln aq ai) ag).trans au),(Et (ac 2 rfl) a8),(Et (ac 3 rfl) a9),(Et (ac 4 rfl) az),(Et (ac 5 rfl) ba),(Et (ac 19 rfl) bb),(Et (ac 20 rfl) bc),(Et (ac 8 rfl) a3),(Et (ac 9 rfl) a4),(Et (b:=(.int .i64 ((k:Int)+1):Value)) rfl (by rfl))⟩
 ·refine Xt (Sq (Rg ?_));refine Mv (.int .i64 n) Z a3 ?_;refine Mv (.int .i64 low) Z a4 ?_;refine As (.int .i64 n) Z Z ?_;refine As (.int .i64 low) Z Z ?_;refine Nl (Rt ?_);refine ⟨.inr Z,outs2 Z (v:=.int .i64 n) (v':=.int .i64 low) Z Z ?_⟩;exact ⟨(by (rw [stockOf,←hrun,stockRun_end (ms:=ms) (k:=k) ‹_›];done)),(a7.trans aq)⟩
end Go.Ns
namespace Go.Ns
open Go.Conc Go.Proofs
attribute [local irreducible] OpK TrL Tr CallK ValK RoundK
theorem agrees1_spec {W:Wk Tryd.prog} {h:GH} (c:Count) (d:Int) (m:Int) (gs:List Good) (gsv:Value) (ms:List Move) (msv:Value) (cs:List Count) (csv:Value) (r:Nat) (p:Past) (rp:Nat) (hgs:SlIs h gsv 5 eGood gs) (hms:SlIs h msv 5 eMove ms) (hcs:SlIs h csv 4 eCount cs) (hr:Elem h r 0 5 #[.int .i64 d,.int .i64 m,gsv,msv,csv]) (hrp:Elem h rp 0 15 (ePast p)) (hG:Glob h) (hc0:0≤c.good) (hc1:c.good<3) (hp:PastOK p) (hml:ms.length≤6) (hkind:∀k,0≤(ms.getD k Move.z).kind∧(ms.getD k Move.z).kind≤4):CallK W 91 #[.agg #[.int .i64 c.good,.int .i64 c.day,.int .i64 c.low,.int .i64 c.high],.pointer (some ⟨r,0,none⟩),.pointer (some ⟨rp,0,none⟩)] h (fun v h'=>v=(.bool (decide (¬(c.low≤(stockOf ms p c.good c.day).1∧(stockOf ms p c.good c.day).1≤c.high))):Value)∧h.Le h'):=by
 have ad:=hgs.len;have ae:=hms.len;have af:=hcs.len;refine call_of_tr Tryd.func91 Z (Nb Z) ?_;refine Sq (Rg ?_);refine Pl Z (ok_box' (v:=.agg #[.int .i64 c.good,.int .i64 c.day,.int .i64 c.low,.int .i64 c.high]) (c:=#[.int .i64 c.good,.int .i64 c.day,.int .i64 c.low,.int .i64 c.high]) Z Z fun _ _ _ aa ag _=>?_);refine As (.bool false) Z Z ?_;refine Nl (Sq (Rg ?_));refine Ld (.agg #[.int .i64 d,.int .i64 m,gsv,msv,csv]) Z Z (rd_agg0 Fx.ty92 (hr.le aa)) ?_;refine Ld (.agg (ePast p)) Z Z (rd_agg0 Fx.ty87 (hrp.le aa)) ?_;refine Fa Fx.fld71_0 Z Z ?_;refine Ld (.int .i64 c.good) Z Z (Rd.one Fx.ty3 ag Z) ?_;refine Fa Fx.fld71_1 Z Z ?_;refine Ld (.int .i64 c.day) Z Z (Rd.one Fx.ty3 ag Z) ?_;refine Pl Z (ok_call4 Tryd.func40 Fx.call40 Z Z Z Z ((stock_spec d m gs gsv ms msv cs csv p c.good c.day (hgs.le aa) (hms.le aa) (hcs.le aa) (hG.le aa) (by omega) (by omega) (by omega) (by omega) (by omega)).mono fun _ _ ah=>?_));obtain ⟨rfl,ab⟩:=ah;refine Mv (.tuple #[.int .i64 ((stockOf ms p c.good c.day).1),.int .i64 ((stockOf ms p c.good c.day).2)]) Z Z ?_;refine Pl Z (ok_extract (vs:=#[.int .i64 ((stockOf ms p c.good c.day).1),.int .i64 ((stockOf ms p c.good c.day).2)]) (v:=.int .i64 ((stockOf ms p c.good c.day).1)) Z Z ?_);refine Pl Z (ok_extract (vs:=#[.int .i64 ((stockOf ms p c.good c.day).1),.int .i64 ((stockOf ms p c.good c.day).2)]) (v:=.int .i64 ((stockOf ms p c.good c.day).2)) Z Z ?_);refine As (.int .i64 ((stockOf ms p c.good c.day).1)) Z Z ?_;refine As (.int .i64 ((stockOf ms p c.good c.day).2)) Z Z ?_;refine Nl (Sq (Rg ?_));refine Mv (.int .i64 ((stockOf ms p c.good c.day).1)) Z Z ?_;refine Fa Fx.fld71_2 Z Z ?_;refine Fa Fx.fld39_0 Z Z ?_;have ac:=ab.keep ag Z;refine Ld (.int .i64 c.low) Z Z (Rd.one Fx.ty3 ac Z) ?_;refine Fa Fx.fld71_2 Z Z ?_;refine Fa Fx.fld39_1 Z Z ?_;refine Ld (.int .i64 c.high) Z Z (Rd.one Fx.ty3 ac Z) ?_;refine Pl Z (ok_call3 Tryd.func46 Fx.call46 Z Z Z ((inside_spec ((stockOf ms p c.good c.day).1) c.low c.high ).mono fun _ _ ai=>?_));obtain ⟨rfl,rfl⟩:=ai;refine Pl Z (ok_notp (p:=c.low≤((stockOf ms p c.good c.day).1)∧((stockOf ms p c.good c.day).1)≤c.high) Z ?_);refine As (.bool (decide (¬(c.low≤((stockOf ms p c.good c.day).1)∧((stockOf ms p c.good c.day).1)≤c.high)))) Z Z ?_;refine Nl (Rt ?_);refine ⟨.inr Z,outs1 Z (v:=.bool (decide (¬(c.low≤((stockOf ms p c.good c.day).1)∧((stockOf ms p c.good c.day).1)≤c.high)))) Z ?_⟩;exact ⟨(by rfl),(aa.trans ab)⟩
theorem agrees_spec {W:Wk Tryd.prog} {h:GH} (d:Int) (m:Int) (gs:List Good) (gsv:Value) (ms:List Move) (msv:Value) (cs:List Count) (csv:Value) (p:Past) (hgs:SlIs h gsv 5 eGood gs) (hms:SlIs h msv 5 eMove ms) (hcs:SlIs h csv 4 eCount cs) (hG:Glob h) (hp:PastOK p) (hml:ms.length≤6) (hkind:∀k,0≤(ms.getD k Move.z).kind∧(ms.getD k Move.z).kind≤4) (hgl:gs.length≤3) (hcg:∀x ∈ cs,0≤x.good∧x.good<3):CallK W 81 #[.agg #[.int .i64 d,.int .i64 m,gsv,msv,csv],.agg (ePast p)] h (fun v h'=>v=(.bool (agreesB d gs.length ms cs p):Value)∧h.Le h'):=by
 have ao:=hgs.len;have ap:=hms.len;have aq:=hcs.len;refine call_of_tr Tryd.func81 Z (Nb Z) ?_;refine Sq (Rg ?_);refine Pl Z (ok_box' (v:=.agg #[.int .i64 d,.int .i64 m,gsv,msv,csv]) (c:=#[.int .i64 d,.int .i64 m,gsv,msv,csv]) Z Z fun r4 _ _ ar a3 _=>?_);refine Pl Z (ok_box' (v:=.agg (ePast p)) (c:=ePast p) Z Z fun an a4 _ ac ai _=>?_);refine As (.bool false) Z Z ?_;refine Nl (Sq (Sq (Rg ?_)));refine Fa Fx.fld92_0 Z Z ?_;refine Fa Fx.fld26_2 Z Z ?_;have ae:=ac.keep a3 Z;refine Ld gsv Z Z (Rd.one Fx.ty22 ae Z) ?_;have af:=ar.trans ac;refine Pl Z (ok_lenSl Fx.sl22 (hgs.le af) Z ?_);refine Mv (.int .i64 0) Z Z ?_;refine Nl (Bk ?_);refine tr_loop (fun nn σ' ds' h'=>∃(k:Nat),nn=gs.length-k∧(k≤gs.length)∧(∀j,j<k→¬(stockOf ms p (j:Int) d).2<0)∧ds'=[]∧GH.Le a4 h'∧σ' 2=.pointer (some ⟨r4,0,none⟩)∧σ' 3=.pointer (some ⟨an,0,none⟩)∧σ' 11=.int .i64 (gs.length:Int)∧σ' 12=.int .i64 (k:Int)) ⟨0,Z,(by omega),(by (intro j hj;omega)),Z,Lr,Z,Z,Z,Z⟩ (fun nn _ _ a5 au=>?_);obtain ⟨k,rfl,hk,hs,a6,ag,aj,av,a2,aw⟩:=au;subst a6;refine Sq (Rg ?_);refine Pl Z (ok_lss (a:=(k:Int)) (b:=(gs.length:Int)) aw a2 ?_);refine Nl (Sq ?_);refine tr_if (p:=(k:Int)<(gs.length:Int)) Z (fun ax=>?_) (fun ax=>?_)
 ·refine Sk (Sq (Bk (Sq (Rg ?_))));refine Mv (.int .i64 (k:Int)) Z aw ?_;refine As (.int .i64 (k:Int)) Z Z ?_;refine Nl (Sq (Rg ?_));have ak:=ag.keep ae Z;refine Ld (.agg #[.int .i64 d,.int .i64 m,gsv,msv,csv]) Z aj (rd_agg0 Fx.ty92 (Bx ak Z)) ?_;refine Ld (.agg (ePast p)) Z av (rd_agg0 Fx.ty87 (Bx (ag.keep ai Z) Z)) ?_;refine Mv (.int .i64 (k:Int)) Z Z ?_;refine Fa Fx.fld92_0 Z aj ?_;refine Fa Fx.fld26_0 Z Z ?_;refine Ld (.int .i64 d) Z Z (Rd.one Fx.ty3 ak Z) ?_;have aa:=af.trans ag;refine Pl Z (ok_call4 Tryd.func40 Fx.call40 Z Z Z Z ((stock_spec d m gs gsv ms msv cs csv p (k:Int) d (hgs.le aa) (hms.le aa) (hcs.le aa) (hG.le aa) (by omega) (by omega) (by omega) (by omega) (by omega)).mono fun _ _ ay=>?_));obtain ⟨rfl,ad⟩:=ay;refine Mv (.tuple #[.int .i64 ((stockOf ms p (k:Int) d).1),.int .i64 ((stockOf ms p (k:Int) d).2)]) Z Z ?_;refine Pl Z (ok_extract (vs:=#[.int .i64 ((stockOf ms p (k:Int) d).1),.int .i64 ((stockOf ms p (k:Int) d).2)]) (v:=.int .i64 ((stockOf ms p (k:Int) d).1)) Z Z ?_);refine Pl Z (ok_extract (vs:=#[.int .i64 ((stockOf ms p (k:Int) d).1),.int .i64 ((stockOf ms p (k:Int) d).2)]) (v:=.int .i64 ((stockOf ms p (k:Int) d).2)) Z Z ?_);refine As (.int .i64 ((stockOf ms p (k:Int) d).1)) Z Z ?_;refine As (.int .i64 ((stockOf ms p (k:Int) d).2)) Z Z ?_;refine Nl (Sq (Rg ?_));refine Mv (.int .i64 ((stockOf ms p (k:Int) d).2)) Z Z ?_;refine Pl Z (ok_lss (a:=(stockOf ms p (k:Int) d).2) (b:=0) Z Z ?_);refine Nl ?_;refine tr_if (p:=((stockOf ms p (k:Int) d).2)<0) Z (fun az=>?_) (fun az=>?_)
  ·refine Sq (Rg ?_);refine As (.bool false) Z Z ?_;refine Nl (Rt ?_);refine ⟨.inr Z,outs1 Z (v:=.bool false) Z ?_⟩;exact ⟨(by (symm;congr 1;exact agreesB_no (k:=k) (by omega) ‹_›)),(aa.trans ad)⟩
  ·refine Sk (Rg ?_);refine Ad (k:Int) 1 Z aw Z (by omega) ?_;refine Mv (.int .i64 ((k:Int)+1)) Z Z ?_;refine Nl ?_;exact ⟨_,by omega,k+1,Z,(by omega),(by exact allP_next hs ‹_›),Z,(ag.trans ad),aj,av,a2,Z⟩
 ·refine Xt (Sq (Rg ?_));refine Fa Fx.fld92_0 Z aj ?_;refine Fa Fx.fld26_4 Z Z ?_;have al:=ag.keep ae Z;refine Ld csv Z Z (Rd.one Fx.ty24 al Z) ?_;refine Pl Z (ok_makeFunc2 aj av ?_);have ah:=af.trans ag;have a0:∀x ∈ cs,∀h1,GH.Le a5 h1→ValK W (.func (.func 91) #[] #[.pointer (some ⟨r4,0,none⟩),.pointer (some ⟨an,0,none⟩)]) #[.agg #[.int .i64 x.good,.int .i64 x.day,.int .i64 x.low,.int .i64 x.high]] h1 fun v h2=>v=.bool ((fun x=>decide (¬(x.low≤(stockOf ms p x.good x.day).1∧(stockOf ms p x.good x.day).1≤x.high))) x)∧h1.Le h2:=by
   intro x hx h1 l1;have hcx:=hcg x hx;have ab:=ah.trans l1;exact valK_func Tryd.func91 Fx.call91 Z ((agrees1_spec x d m gs gsv ms msv cs csv r4 p an (hgs.le ab) (hms.le ab) (hcs.le ab) (Bx (l1.keep al Z) Z) (Bx (l1.keep (ag.keep ai Z) Z) Z) (hG.le ab) (by omega) (by omega) (by omega) (by omega) (by omega)).mono fun v h2 hp=>⟨hp.1,hp.2⟩)
  refine Pl Z (ok_call2 Tryd.func90 Fx.call90 Z Z ((containsCount_spec cs csv (.func (.func 91) #[] #[.pointer (some ⟨r4,0,none⟩),.pointer (some ⟨an,0,none⟩)]) (fun x=>decide (¬(x.low≤(stockOf ms p x.good x.day).1∧(stockOf ms p x.good x.day).1≤x.high))) (hcs.le ah) a0).mono fun _ _ a1=>?_));obtain ⟨rfl,am⟩:=a1;refine Pl Z (ok_not (b:=cs.any (fun x=>decide (¬(x.low≤(stockOf ms p x.good x.day).1∧(stockOf ms p x.good x.day).1≤x.high)))) Z ?_);refine As (.bool (!(cs.any (fun x=>decide (¬(x.low≤(stockOf ms p x.good x.day).1∧(stockOf ms p x.good x.day).1≤x.high)))))) Z Z ?_;refine Nl (Rt ?_);refine ⟨.inr Z,outs1 Z (v:=.bool (!(cs.any (fun x=>decide (¬(x.low≤(stockOf ms p x.good x.day).1∧(stockOf ms p x.good x.day).1≤x.high)))))) Z ?_⟩;exact ⟨(by (symm;congr 1;exact agreesB_end (k:=k) (by omega) hs)),(ah.trans am)⟩
end Go.Ns
namespace Go.Ns
open Go.Conc Go.Proofs
attribute [local irreducible] OpK TrL Tr CallK ValK RoundK
theorem handed_spec {W:Wk Tryd.prog} {h:GH} (d:Int) (m:Int) (gs:List Good) (gsv:Value) (ms:List Move) (msv:Value) (cs:List Count) (csv:Value) (f:List Int) (fv:Value) (y:List Int) (yv:Value) (l:List Int) (lv:Value) (hgs:SlIs h gsv 5 eGood gs) (hms:SlIs h msv 5 eMove ms) (hcs:SlIs h csv 4 eCount cs) (hf:SlIs h fv 1 eI f) (hy:SlIs h yv 1 eI y) (hl:SlIs h lv 1 eI l) (hG:Glob h) (hnm:∀k,(gs.getD k Good.z).name.size≤1000):CallK W 39 #[.agg #[.int .i64 d,.int .i64 m,gsv,msv,csv],fv,yv,lv] h (fun v h'=>v=(.tuple #[.agg (ePast (handedP d m gs ms cs f y l)),.int .i64 (handedBell d m gs ms cs f y l)]:Value)∧h.Le h'):=by
 have br:=hgs.len;have bs:=hms.len;have bt:=hcs.len;have bu:=hf.len;have bv:=hy.len;have bw:=hl.len;refine call_of_tr Tryd.func39 Z (Nb Z) ?_;refine Sq (Rg ?_);refine Pl Z (ok_box' (v:=.agg #[.int .i64 d,.int .i64 m,gsv,msv,csv]) (c:=#[.int .i64 d,.int .i64 m,gsv,msv,csv]) Z Z fun r7 _ _ aa bx _=>?_);refine Pl Z (ok_alloc' Fx.zero87 fun ck cm ah ag bz _=>?_);have al:cm ck=some (true,.cells (ePast Past.zero) 87 (0,0)):=bz;refine As (.int .i64 0) Z Z ?_;refine Nl (Sq (Sq (Rg ?_)));have aw:=ag.keep bx Z;refine Ld (.agg #[.int .i64 d,.int .i64 m,gsv,msv,csv]) Z Z (rd_agg0 Fx.ty26 (Bx aw Z)) ?_;have ai:=aa.trans ag;refine Pl Z (ok_call1 Tryd.func56 Fx.call56 Z ((checkBook_spec d m gs gsv ms msv cs csv (hgs.le ai) (hms.le ai) (hcs.le ai) (hG.le ai) (by omega)).mono fun _ _ b0=>?_));obtain ⟨rfl,ab⟩:=b0;refine As (.int .i64 (bookBell d m gs ms cs)) Z Z ?_;refine Nl (Sq (Rg ?_));refine Mv (.int .i64 (bookBell d m gs ms cs)) Z Z ?_;refine Pl Z (ok_neq (a:=bookBell d m gs ms cs) (b:=0) Z Z ?_);refine Nl ?_;refine tr_if (p:=¬(bookBell d m gs ms cs)=0) Z (fun ax=>?_) (fun ax=>?_)
 ·refine Sq (Rg ?_);refine Pl Z (ok_build (cells:=#[.int .i64 0,.int .i64 0,.int .i64 0,.int .i64 0,.int .i64 0,.int .i64 0,.int .i64 0,.int .i64 0,.int .i64 0,.bool false,.bool false,.bool false,.bool false,.bool false,.bool false]) Fx.pl87 Fx.zero87 (by kernel_rfl) ?_);refine Mv (.int .i64 (bookBell d m gs ms cs)) Z Z ?_;refine Pl Z (ok_store' (v:=.agg #[.int .i64 0,.int .i64 0,.int .i64 0,.int .i64 0,.int .i64 0,.int .i64 0,.int .i64 0,.int .i64 0,.int .i64 0,.bool false,.bool false,.bool false,.bool false,.bool false,.bool false]) (c':=ePast Past.zero) Fx.ty87 Z Z (ab.keep al Z) Z Z (Nb Z) Z fun _ b1 b2=>?_);refine As (.int .i64 (bookBell d m gs ms cs)) Z Z ?_;refine Nl (Rt ?_);refine ⟨.inr Z,outsC2 Z (v:=.agg (ePast Past.zero)) (v':=.int .i64 (bookBell d m gs ms cs)) Z (rd_agg0 Fx.ty87 (Bx b1 Z)) Z ?_⟩;exact ⟨(by exact handed_bad (handedBell_1 ‹_›) ‹_›),((ai.trans ab).upd (Ln aa ah) b2)⟩
 ·have hbk:=bookOK (Dn ax);have hgl:=hbk.glen;have hml:=hbk.mlen;have hcl:=hbk.clen;have hdy:=hbk.days;have hmo:=hbk.most;have hkind:=hbk.kind;refine Sk (Sq (Sq (Rg ?_)));refine Mv fv Z Z ?_;refine Fa Fx.fld26_2 Z Z ?_;have ay:=ab.keep aw Z;refine Ld gsv Z Z (Rd.one Fx.ty22 ay Z) ?_;have am:=ai.trans ab;refine Pl Z (ok_lenSl Fx.sl22 (hgs.le am) Z ?_);refine Pl Z (ok_call2 Tryd.func73 Fx.call73 Z Z ((numbers_spec f fv (gs.length:Int) (hf.le am) ).mono fun _ _ b3=>?_));obtain ⟨rfl,ae⟩:=b3;refine As (.int .i64 (numsBell f (gs.length:Int))) Z Z ?_;refine Nl (Sq (Rg ?_));refine Mv (.int .i64 (numsBell f (gs.length:Int))) Z Z ?_;refine Pl Z (ok_neq (a:=numsBell f (gs.length:Int)) (b:=0) Z Z ?_);refine Nl ?_;refine tr_if (p:=¬(numsBell f (gs.length:Int))=0) Z (fun az=>?_) (fun az=>?_)
  ·refine Sq (Rg ?_);refine Pl Z (ok_build (cells:=#[.int .i64 0,.int .i64 0,.int .i64 0,.int .i64 0,.int .i64 0,.int .i64 0,.int .i64 0,.int .i64 0,.int .i64 0,.bool false,.bool false,.bool false,.bool false,.bool false,.bool false]) Fx.pl87 Fx.zero87 (by kernel_rfl) ?_);refine Mv (.int .i64 (numsBell f (gs.length:Int))) Z Z ?_;refine Pl Z (ok_store' (v:=.agg #[.int .i64 0,.int .i64 0,.int .i64 0,.int .i64 0,.int .i64 0,.int .i64 0,.int .i64 0,.int .i64 0,.int .i64 0,.bool false,.bool false,.bool false,.bool false,.bool false,.bool false]) (c':=ePast Past.zero) Fx.ty87 Z Z (ae.keep (ab.keep al Z) Z) Z Z (Nb Z) Z fun _ b4 b5=>?_);refine As (.int .i64 (numsBell f (gs.length:Int))) Z Z ?_;refine Nl (Rt ?_);refine ⟨.inr Z,outsC2 Z (v:=.agg (ePast Past.zero)) (v':=.int .i64 (numsBell f (gs.length:Int))) Z (rd_agg0 Fx.ty87 (Bx b4 Z)) Z ?_⟩;exact ⟨(by exact handed_bad (handedBell_2 ‹_› ‹_›) ‹_›),((am.trans ae).upd (Ln aa ah) b5)⟩
  ·obtain ⟨_,hnb51_⟩:=numsBell_ok (Dn az);refine Sk (Sq (Sq (Rg ?_)));refine Mv yv Z Z ?_;refine Fa Fx.fld26_3 Z Z ?_;have a0:=ae.keep ay Z;refine Ld msv Z Z (Rd.one Fx.ty23 a0 Z) ?_;have aj:=am.trans ae;refine Pl Z (ok_lenSl Fx.sl23 (hms.le aj) Z ?_);refine Pl Z (ok_call2 Tryd.func73 Fx.call73 Z Z ((numbers_spec y yv (ms.length:Int) (hy.le aj) ).mono fun _ cn b6=>?_));obtain ⟨rfl,ac⟩:=b6;refine As (.int .i64 (numsBell y (ms.length:Int))) Z Z ?_;refine Nl (Sq (Rg ?_));refine Mv (.int .i64 (numsBell y (ms.length:Int))) Z Z ?_;refine Pl Z (ok_neq (a:=numsBell y (ms.length:Int)) (b:=0) Z Z ?_);refine Nl ?_;refine tr_if (p:=¬(numsBell y (ms.length:Int))=0) Z (fun a1=>?_) (fun a1=>?_)
   ·refine Sq (Rg ?_);refine Pl Z (ok_build (cells:=#[.int .i64 0,.int .i64 0,.int .i64 0,.int .i64 0,.int .i64 0,.int .i64 0,.int .i64 0,.int .i64 0,.int .i64 0,.bool false,.bool false,.bool false,.bool false,.bool false,.bool false]) Fx.pl87 Fx.zero87 (by kernel_rfl) ?_);refine Mv (.int .i64 (numsBell y (ms.length:Int))) Z Z ?_;refine Pl Z (ok_store' (v:=.agg #[.int .i64 0,.int .i64 0,.int .i64 0,.int .i64 0,.int .i64 0,.int .i64 0,.int .i64 0,.int .i64 0,.int .i64 0,.bool false,.bool false,.bool false,.bool false,.bool false,.bool false]) (c':=ePast Past.zero) Fx.ty87 Z Z (ac.keep (ae.keep (ab.keep al Z) Z) Z) Z Z (Nb Z) Z fun _ b7 b8=>?_);refine As (.int .i64 (numsBell y (ms.length:Int))) Z Z ?_;refine Nl (Rt ?_);refine ⟨.inr Z,outsC2 Z (v:=.agg (ePast Past.zero)) (v':=.int .i64 (numsBell y (ms.length:Int))) Z (rd_agg0 Fx.ty87 (Bx b7 Z)) Z ?_⟩;exact ⟨(by exact handed_bad (handedBell_3 ‹_› ‹_› ‹_›) ‹_›),((aj.trans ac).upd (Ln aa ah) b8)⟩
   ·obtain ⟨_,hnb66_⟩:=numsBell_ok (Dn a1);refine Sk (Sq (Rg ?_));have ap:=(ac.keep (ae.keep (ab.keep al Z) Z) Z);refine Pl Z (ok_alloc' Fx.zero87 fun b9 co ak an ca _=>?_);have cb:co b9=some (true,.cells (ePast Past.zero) 87 (0,0)):=ca;refine Nl (Sq (Rg ?_));refine Fa Fx.fld87_0 Z Z ?_;refine Pl Z (ok_sliceArr Fx.asz83 Z ?_);refine Mv fv Z Z ?_;have a2:=(aj.trans ac).trans an;refine Pl Z (ok_copy' (enc:=eI) (ys:=f) (c':=ePast (Past.zero.setFirsts f)) Fx.esz30 Z Z cb (Nb Z) (hf.le a2) (by omega) (by intro y hy;rfl) (by intro y hy;rfl) (ePast_setFirsts (by omega)) fun _ cc a3=>?_);refine Nl (Sq (Rg ?_));refine Fa Fx.fld87_1 Z Z ?_;refine Pl Z (ok_sliceArr Fx.asz84 Z ?_);refine Mv yv Z Z ?_;have a4:=a2.upd (Ln ((((aa.trans ag).trans ab).trans ae).trans ac) ak) a3;refine Pl Z (ok_copy' (enc:=eI) (ys:=y) (c':=ePast ((Past.zero.setFirsts f).setManys y)) Fx.esz30 Z Z cc (Nb Z) (hy.le a4) (by omega) (by intro y hy;rfl) (by intro y hy;rfl) (ePast_setManys (by omega)) fun _ cd a5=>?_);refine Nl (Sq (Rg ?_));refine As (.int .i64 (-1)) Z Z ?_;refine Nl (Sq (Sq (Rg ?_)));refine Mv lv Z Z ?_;have ce:=a4.upd (Ln ((((aa.trans ag).trans ab).trans ae).trans ac) ak) a5;refine Pl Z (ok_lenSl Fx.sl30 (hl.le ce) Z ?_);refine Mv (.int .i64 0) Z Z ?_;refine Nl (Bk ?_);have cf:=(an.upd (Ln Lr ak) a3).upd (Ln Lr ak) a5;refine tr_loop (fun nn σ' ds' h'=>∃(k:Nat),nn=l.length-k∧(k≤l.length)∧(∀j,j<k→lieAt ms l j=0)∧ds'=[]∧GH.Le cn h'∧σ' 4=.pointer (some ⟨r7,0,none⟩)∧σ' 8=.pointer (some ⟨ck,0,none⟩)∧σ' 13=.pointer (some ⟨b9,0,none⟩)∧σ' 49=lv∧σ' 50=.int .i64 (l.length:Int)∧σ' 14=.int .i64 (lastLie l k)∧σ' 51=.int .i64 (k:Int)∧h' b9=some (true,.cells (ePast (liesTo ((Past.zero.setFirsts f).setManys y) l k)) 87 (0,0))) ⟨0,Z,(by omega),(by (intro j hj;omega)),Z,cf,Z,Z,Z,Z,Z,Z,Z,(by have e:(ePast (liesTo ((Past.zero.setFirsts f).setManys y) l 0):Array Value)=ePast ((Past.zero.setFirsts f).setManys y):=(by rfl);rw [e];exact cd)⟩ (fun nn _ _ _ cg=>?_);obtain ⟨k,rfl,hk,hs,cp,aq,cl,ar,ch,a6,a7,ci,au,a8⟩:=cg;subst cp;refine Sq (Rg ?_);refine Pl Z (ok_lss (a:=(k:Int)) (b:=(l.length:Int)) au a7 ?_);refine Nl (Sq ?_);refine tr_if (p:=(k:Int)<(l.length:Int)) Z (fun a9=>?_) (fun a9=>?_)
    ·refine Sk (Sq (Bk (Sq (Rg ?_))));have ba:(0:Int)≤(k:Int):=by omega
     have bb:(k:Int)<((l.length:Nat):Int):=by omega
     refine Pl Z (ok_indexS0 Fx.esz30 hl a6 au ba bb fun cj av bc=>?_);have bd:Elem _ cj av 1 (eI (l.getD k 0)):=Elem.getD 0 bc;have af:=(aj.trans ac).trans aq;refine Ld (.int .i64 (l.getD k 0)) Z Z (rd_one0 Fx.ty3 (bd.le af) Z) ?_;refine As (.int .i64 (l.getD k 0)) Z Z ?_;refine Nl (Sq (Bk (Sq (Rg ?_))));refine Ld (.agg #[.int .i64 d,.int .i64 m,gsv,msv,csv]) Z cl (rd_agg0 Fx.ty26 (Bx (aq.keep (ac.keep a0 Z) Z) Z)) ?_;refine Pl Z (ok_build (cells:=#[.int .i64 d,.int .i64 m,gsv,msv,csv]) Fx.pl92 Fx.zero92 (by kernel_rfl) ?_);refine Mv (.int .i64 (l.getD k 0)) Z Z ?_;refine Pl Z (ok_call2 Tryd.func57 Fx.call57 Z Z ((isNote_spec d m gs gsv ms msv cs csv (l.getD k 0) (hgs.le af) (hms.le af) (hcs.le af) ).mono fun _ _ be=>?_));obtain ⟨rfl,ad⟩:=be;refine Pl Z (ok_notp (p:=(0≤(l.getD k 0)∧(l.getD k 0)≤(ms.length:Int)-1)∧(ms.getD ((l.getD k 0)).toNat Move.z).kind=0) Z ?_);refine As (.bool (decide (¬((0≤(l.getD k 0)∧(l.getD k 0)≤(ms.length:Int)-1)∧(ms.getD ((l.getD k 0)).toNat Move.z).kind=0)))) Z Z ?_;refine Nl ?_;refine tr_if (p:=¬((0≤(l.getD k 0)∧(l.getD k 0)≤(ms.length:Int)-1)∧(ms.getD ((l.getD k 0)).toNat Move.z).kind=0)) Z (fun ao=>?_) (fun ao=>?_)
     ·refine Sq (Rg ?_);refine Pl Z (ok_build (cells:=#[.int .i64 0,.int .i64 0,.int .i64 0,.int .i64 0,.int .i64 0,.int .i64 0,.int .i64 0,.int .i64 0,.int .i64 0,.bool false,.bool false,.bool false,.bool false,.bool false,.bool false]) Fx.pl87 Fx.zero87 (by kernel_rfl) ?_);refine Pl Z (ok_store' (v:=.agg #[.int .i64 0,.int .i64 0,.int .i64 0,.int .i64 0,.int .i64 0,.int .i64 0,.int .i64 0,.int .i64 0,.int .i64 0,.bool false,.bool false,.bool false,.bool false,.bool false,.bool false]) (c':=ePast Past.zero) Fx.ty87 ar Z (ad.keep (aq.keep ap Z) Z) Z Z (Nb Z) Z fun _ bf bg=>?_);refine As (.int .i64 6) Z Z ?_;refine Nl (Rt ?_);refine ⟨.inr Z,outsC2 Z (v:=.agg (ePast Past.zero)) (v':=.int .i64 6) ar (rd_agg0 Fx.ty87 (Bx bf Z)) Z ?_⟩;exact ⟨(by exact handed_bad (handedBell_4 ‹_› ‹_› ‹_› (firstB_hit0 (k:=k) hs (by omega) (lieAt_6 ‹_›) (by decide))) (by decide)),((af.trans ad).upd (Ln aa ah) bg)⟩
     ·have hc122_:=Dn ao;refine Sq (Rg ?_);refine Mv (.int .i64 (l.getD k 0)) Z Z ?_;refine Mv (.int .i64 (lastLie l k)) Z ci ?_;refine Pl Z (ok_leq (a:=l.getD k 0) (b:=lastLie l k) Z Z ?_);refine As (.bool (decide ((l.getD k 0)≤(lastLie l k)))) Z Z ?_;refine Nl ?_;refine tr_if (p:=(l.getD k 0)≤(lastLie l k)) Z (fun bh=>?_) (fun bh=>?_)
      ·refine Sq (Rg ?_);refine Pl Z (ok_build (cells:=#[.int .i64 0,.int .i64 0,.int .i64 0,.int .i64 0,.int .i64 0,.int .i64 0,.int .i64 0,.int .i64 0,.int .i64 0,.bool false,.bool false,.bool false,.bool false,.bool false,.bool false]) Fx.pl87 Fx.zero87 (by kernel_rfl) ?_);refine Pl Z (ok_store' (v:=.agg #[.int .i64 0,.int .i64 0,.int .i64 0,.int .i64 0,.int .i64 0,.int .i64 0,.int .i64 0,.int .i64 0,.int .i64 0,.bool false,.bool false,.bool false,.bool false,.bool false,.bool false]) (c':=ePast Past.zero) Fx.ty87 ar Z (ad.keep (aq.keep ap Z) Z) Z Z (Nb Z) Z fun _ bi bj=>?_);refine As (.int .i64 7) Z Z ?_;refine Nl (Rt ?_);refine ⟨.inr Z,outsC2 Z (v:=.agg (ePast Past.zero)) (v':=.int .i64 7) ar (rd_agg0 Fx.ty87 (Bx bi Z)) Z ?_⟩;exact ⟨(by exact handed_bad (handedBell_4 ‹_› ‹_› ‹_› (firstB_hit0 (k:=k) hs (by omega) (lieAt_7 ‹_› ‹_›) (by decide))) (by decide)),((af.trans ad).upd (Ln aa ah) bj)⟩
      ·refine Sk (Rg ?_);refine Mv (.int .i64 (l.getD k 0)) Z Z ?_;refine Mv (.int .i64 (l.getD k 0)) Z Z ?_;refine Fa Fx.fld87_2 Z ch ?_;have bk:(0:Int)≤l.getD k 0:=by omega
       have bl:l.getD k 0<((6:Nat):Int):=by omega
       refine Pl Z (ok_indexArr Fx.asz85 Z Z bk bl ?_);refine Pl Z (ok_store' (v:=.bool true) (c':=ePast ((liesTo ((Past.zero.setFirsts f).setManys y) l k).setLie ((l.getD k 0).toNat) true)) Fx.ty4 Z Z (ad.keep a8 Z) Z Z (by show _≤15;omega) (ePast_setLie (i:=(l.getD k 0).toNat) (by omega)) fun _ bm bn=>?_);refine As (.int .i64 (l.getD k 0)) Z Z ?_;refine Nl (Rg ?_);refine Ad (k:Int) 1 Z au Z (by omega) ?_;refine Mv (.int .i64 ((k:Int)+1)) Z Z ?_;refine Nl ?_;exact ⟨_,by omega,k+1,Z,(by omega),(by exact allB_next hs (lieAt_0 ‹_› ‹_›)),Z,((aq.trans ad).upd (Ln Lr ak) bn),cl,ar,ch,a6,a7,Z,Z,(by have e:(ePast (liesTo ((Past.zero.setFirsts f).setManys y) l (k+1)):Array Value)=ePast ((liesTo ((Past.zero.setFirsts f).setManys y) l k).setLie ((l.getD k 0).toNat) true):=(by rw [liesTo_succ (by omega)]);rw [e];exact bm)⟩
    ·refine Xt (Sq (Rg ?_));refine Ld (.agg (ePast (liesTo ((Past.zero.setFirsts f).setManys y) l k))) Z ch (rd_agg0 Fx.ty87 (Bx a8 Z)) ?_;refine Pl Z (ok_store' (v:=.agg (ePast (liesTo ((Past.zero.setFirsts f).setManys y) l k))) (c':=ePast (liesTo ((Past.zero.setFirsts f).setManys y) l k)) Fx.ty87 ar Z (aq.keep ap Z) (ePast_size _) (ePast_fine _) (ePast_all _) (ePast_put _ _) fun _ bo bp=>?_);refine As (.int .i64 0) Z Z ?_;refine Nl (Rt ?_);have bq:=((aj.trans ac).trans aq).upd (Ln aa ah) bp;refine ⟨.inr Z,outsC2 Z (v:=.agg (ePast (liesTo ((Past.zero.setFirsts f).setManys y) l k))) (v':=.int .i64 0) ar (rd_agg0 Fx.ty87 (Bx bo Z)) Z ?_⟩;exact ⟨(by exact handed_good (handedBell_4 ‹_› ‹_› ‹_› (firstB_miss0 (k:=k) hs (by omega))) ‹_› hk),bq⟩
theorem play_spec {W:Wk Tryd.prog} {h:GH} (d:Int) (m:Int) (gs:List Good) (gsv:Value) (ms:List Move) (msv:Value) (cs:List Count) (csv:Value) (f:List Int) (fv:Value) (y:List Int) (yv:Value) (l:List Int) (lv:Value) (hgs:SlIs h gsv 5 eGood gs) (hms:SlIs h msv 5 eMove ms) (hcs:SlIs h csv 4 eCount cs) (hf:SlIs h fv 1 eI f) (hy:SlIs h yv 1 eI y) (hl:SlIs h lv 1 eI l) (hG:Glob h) (hnm:∀k,(gs.getD k Good.z).name.size≤1000):CallK W 13 #[.agg #[.int .i64 d,.int .i64 m,gsv,msv,csv],fv,yv,lv] h (fun v h'=>∃(w1:Value) (w2:Value),v=(.tuple #[w1,w2,.int .i64 (handedBell d m gs ms cs f y l)]:Value)∧SlIs h' w1 1 eI (playLeft d m gs ms cs f y l)∧SlIs h' w2 1 eI (playLow d m gs ms cs f y l)∧h.Le h'):=by
 have ba:=hgs.len;have bb:=hms.len;have bc:=hcs.len;have bd:=hf.len;have be:=hy.len;have bf:=hl.len;refine call_of_tr Tryd.func13 Z (Nb Z) ?_;refine Sq (Rg ?_);refine Pl Z (ok_box' (v:=.agg #[.int .i64 d,.int .i64 m,gsv,msv,csv]) (c:=#[.int .i64 d,.int .i64 m,gsv,msv,csv]) Z Z fun r7 _ _ aa ar _=>?_);refine As (.slice none 0 0) Z Z ?_;refine As (.slice none 0 0) Z Z ?_;refine As (.int .i64 0) Z Z ?_;refine Nl (Sq (Rg ?_));refine Ld (.agg #[.int .i64 d,.int .i64 m,gsv,msv,csv]) Z Z (rd_agg0 Fx.ty26 (Bx ar Z)) ?_;refine Mv fv Z Z ?_;refine Mv yv Z Z ?_;refine Mv lv Z Z ?_;refine Pl Z (ok_call4 Tryd.func39 Fx.call39 Z Z Z Z ((handed_spec d m gs gsv ms msv cs csv f fv y yv l lv (hgs.le aa) (hms.le aa) (hcs.le aa) (hf.le aa) (hy.le aa) (hl.le aa) (hG.le aa) (by omega)).mono fun _ _ bg=>?_));obtain ⟨rfl,ab⟩:=bg;refine Mv (.tuple #[.agg (ePast (handedP d m gs ms cs f y l)),.int .i64 (handedBell d m gs ms cs f y l)]) Z Z ?_;refine Pl Z (ok_extract (vs:=#[.agg (ePast (handedP d m gs ms cs f y l)),.int .i64 (handedBell d m gs ms cs f y l)]) (v:=.agg (ePast (handedP d m gs ms cs f y l))) Z Z ?_);refine Pl Z (ok_extract (vs:=#[.agg (ePast (handedP d m gs ms cs f y l)),.int .i64 (handedBell d m gs ms cs f y l)]) (v:=.int .i64 (handedBell d m gs ms cs f y l)) Z Z ?_);have au:=ab.keep ar Z;refine Pl Z (ok_alloc' Fx.zero87 fun bh b4 am ad bi _=>?_);have bj:b4 bh=some (true,.cells (ePast Past.zero) 87 (0,0)):=bi;have bk:r7≠bh:=Ne' au am;refine Pl Z (ok_store' (v:=.agg (ePast (handedP d m gs ms cs f y l))) (c':=ePast (handedP d m gs ms cs f y l)) Fx.ty87 Z Z bj (ePast_size _) (ePast_fine _) (ePast_all _) (ePast_put _ _) fun av bl an=>?_);refine As (.int .i64 (handedBell d m gs ms cs f y l)) Z Z ?_;refine Nl (Sq (Sq (Rg ?_)));refine Mv (.int .i64 (handedBell d m gs ms cs f y l)) Z Z ?_;refine Pl Z (ok_neq (a:=handedBell d m gs ms cs f y l) (b:=0) Z Z ?_);refine Nl ?_;refine tr_if (p:=¬(handedBell d m gs ms cs f y l)=0) Z (fun aw=>?_) (fun aw=>?_)
 ·refine Sq (Rg ?_);refine Mv (.int .i64 (handedBell d m gs ms cs f y l)) Z Z ?_;refine As (.slice none 0 0) Z Z ?_;refine As (.slice none 0 0) Z Z ?_;refine As (.int .i64 (handedBell d m gs ms cs f y l)) Z Z ?_;refine Nl (Rt ?_);have bm:=((aa.trans ab).trans ad).upd (Ln (aa.trans ab) am) an;refine ⟨.inr Z,outs3 Z (v:=.slice none 0 0) (v':=.slice none 0 0) (v2:=.int .i64 (handedBell d m gs ms cs f y l)) Z Z Z ?_⟩;exact ⟨.slice none 0 0,.slice none 0 0,(by rfl),(by have e:playLeft d m gs ms cs f y l=[]:=(by exact playLeft_bad ‹_›);rw [e];exact SlIs.nil _ _ _),(by have e:playLow d m gs ms cs f y l=[]:=(by exact playLow_bad ‹_›);rw [e];exact SlIs.nil _ _ _),bm⟩
 ·obtain ⟨hbk,hpo⟩:=handed_ok (Dn aw);have hgl:=hbk.glen;have hml:=hbk.mlen;have hdy:=hbk.days;have hkind:=hbk.kind;refine Sk (Sq (Sq (Rg ?_)));refine Fa Fx.fld26_2 Z Z ?_;have ax:=(an _ bk).trans (ad.keep au Z);refine Ld gsv Z Z (Rd.one Fx.ty22 ax Z) ?_;have ao:=((aa.trans ab).trans ad).upd (Ln (aa.trans ab) am) an;refine Pl Z (ok_lenSl Fx.sl22 (hgs.le ao) Z ?_);refine Mv (.int .i64 0) Z Z ?_;refine Nl (Bk ?_);refine tr_loop (fun nn σ' ds' h'=>∃(k:Nat) (w8:Value) (w9:Value),nn=gs.length-k∧(k≤gs.length)∧ds'=[]∧GH.Le av h'∧σ' 4=.pointer (some ⟨r7,0,none⟩)∧σ' 10=.int .i64 0∧σ' 11=.pointer (some ⟨bh,0,none⟩)∧σ' 29=.int .i64 (gs.length:Int)∧σ' 30=.int .i64 (k:Int)∧σ' 8=w8∧σ' 9=w9∧OwnSl av h' w8 3 1 eI ((List.range k).map (fun (i:Nat)=>(stockOf ms (handedP d m gs ms cs f y l) (i:Int) d).1))∧OwnSl av h' w9 3 1 eI ((List.range k).map (fun (i:Nat)=>(stockOf ms (handedP d m gs ms cs f y l) (i:Int) d).2))∧Apart w9 w8) ⟨0,.slice none 0 0,.slice none 0 0,Z,(by omega),Z,Lr,Z,Z,Z,Z,Z,Z,Z,(by have e:(List.range 0).map (fun (i:Nat)=>(stockOf ms (handedP d m gs ms cs f y l) (i:Int) d).1)=[]:=(by rfl);rw [e];exact OwnSl.nil _ _ _ _ _),(by have e:(List.range 0).map (fun (i:Nat)=>(stockOf ms (handedP d m gs ms cs f y l) (i:Int) d).2)=[]:=(by rfl);rw [e];exact OwnSl.nil _ _ _ _ _),Apart.nil⟩ (fun nn _ _ _ bn=>?_);obtain ⟨k,w8,w9,rfl,hk,b5,ay,bo,b6,bw,bx,bp,bz,b0,b1,b2,b3⟩:=bn;subst b5;refine Sq (Rg ?_);refine Pl Z (ok_lss (a:=(k:Int)) (b:=(gs.length:Int)) bp bx ?_);refine Nl (Sq ?_);refine tr_if (p:=(k:Int)<(gs.length:Int)) Z (fun bq=>?_) (fun bq=>?_)
  ·refine Sk (Sq (Bk (Sq (Rg ?_))));refine Mv (.int .i64 (k:Int)) Z bp ?_;refine As (.int .i64 (k:Int)) Z Z ?_;refine Nl (Sq (Rg ?_));have az:=ay.keep ax Z;refine Ld (.agg #[.int .i64 d,.int .i64 m,gsv,msv,csv]) Z bo (rd_agg0 Fx.ty26 (Bx az Z)) ?_;refine Pl Z (ok_build (cells:=#[.int .i64 d,.int .i64 m,gsv,msv,csv]) Fx.pl92 Fx.zero92 (by kernel_rfl) ?_);refine Ld (.agg (ePast (handedP d m gs ms cs f y l))) Z bw (rd_agg0 Fx.ty87 (Bx (ay.keep bl Z) Z)) ?_;refine Mv (.int .i64 (k:Int)) Z Z ?_;refine Fa Fx.fld26_0 Z bo ?_;refine Ld (.int .i64 d) Z Z (Rd.one Fx.ty3 az Z) ?_;have ah:=ao.trans ay;refine Pl Z (ok_call4 Tryd.func40 Fx.call40 Z Z Z Z ((stock_spec d m gs gsv ms msv cs csv (handedP d m gs ms cs f y l) (k:Int) d (hgs.le ah) (hms.le ah) (hcs.le ah) (hG.le ah) (by omega) (by omega) (by omega) (by omega) (by omega)).mono fun _ _ br=>?_));obtain ⟨rfl,ae⟩:=br;refine Mv (.tuple #[.int .i64 ((stockOf ms (handedP d m gs ms cs f y l) (k:Int) d).1),.int .i64 ((stockOf ms (handedP d m gs ms cs f y l) (k:Int) d).2)]) Z Z ?_;refine Pl Z (ok_extract (vs:=#[.int .i64 ((stockOf ms (handedP d m gs ms cs f y l) (k:Int) d).1),.int .i64 ((stockOf ms (handedP d m gs ms cs f y l) (k:Int) d).2)]) (v:=.int .i64 ((stockOf ms (handedP d m gs ms cs f y l) (k:Int) d).1)) Z Z ?_);refine Pl Z (ok_extract (vs:=#[.int .i64 ((stockOf ms (handedP d m gs ms cs f y l) (k:Int) d).1),.int .i64 ((stockOf ms (handedP d m gs ms cs f y l) (k:Int) d).2)]) (v:=.int .i64 ((stockOf ms (handedP d m gs ms cs f y l) (k:Int) d).2)) Z Z ?_);refine As (.int .i64 ((stockOf ms (handedP d m gs ms cs f y l) (k:Int) d).1)) Z Z ?_;refine As (.int .i64 ((stockOf ms (handedP d m gs ms cs f y l) (k:Int) d).2)) Z Z ?_;refine Nl (Rg ?_);refine Mv w8 Z bz ?_;refine Mv (.int .i64 ((stockOf ms (handedP d m gs ms cs f y l) (k:Int) d).1)) Z Z ?_;refine Pl Z (ok_buildSlice' (cells:=#[.int .i64 ((stockOf ms (handedP d m gs ms cs f y l) (k:Int) d).1)]) Fx.sel30 (by decide) (by decide) (by kernel_rfl) fun _ _ bs af bt _=>?_);have bu:=OwnSl.built (enc:=eI) (xs:=[(stockOf ms (handedP d m gs ms cs f y l) (k:Int) d).1]) (n:=1) bs bt Z Z (by intro x hx;rfl) Z;have a0:=(b1.le ae).le af;have a1:=(ay.trans ae).trans af;have a2:=(b2.le ae).le af;refine Pl Z (ok_appendG (h0:=av) Fx.app30_30 Z Z a0 (bu.sl) (fun _ q=>Ln a1 q) (by simp <;> omega) (by intro y hy;rfl) fun a9 _ bv ap=>?_);have ai:Apart a9 w9:=Apart.grown ap a2 (Apart.symm b3);refine Mv w9 Z b0 ?_;refine Mv (.int .i64 ((stockOf ms (handedP d m gs ms cs f y l) (k:Int) d).2)) Z Z ?_;refine Pl Z (ok_buildSlice' (cells:=#[.int .i64 ((stockOf ms (handedP d m gs ms cs f y l) (k:Int) d).2)]) Fx.sel30 (by decide) (by decide) (by kernel_rfl) fun _ _ a3 ac a4 _=>?_);have a5:=OwnSl.built (enc:=eI) (xs:=[(stockOf ms (handedP d m gs ms cs f y l) (k:Int) d).2]) (n:=1) a3 a4 Z Z (by intro x hx;rfl) Z;have aj:=((OwnSl.grown ap a2 (Apart.symm b3)).le ac);have ak:=(GH.Le.grown ap a1 fun b e=>Ln Lr (a0.fresh b e)).trans ac;have al:=bv.le ac;refine Pl Z (ok_appendG (h0:=av) Fx.app30_30 Z Z aj (a5.sl) (fun _ q=>Ln ak q) (by simp <;> omega) (by intro y hy;rfl) fun aq _ a6 ag=>?_);have a7:Apart aq a9:=Apart.grown ag al (Apart.symm ai);refine As a9 Z Z ?_;refine As aq Z Z ?_;refine Nl (Rg ?_);refine Ad (k:Int) 1 Z bp Z (by omega) ?_;refine Mv (.int .i64 ((k:Int)+1)) Z Z ?_;refine Nl ?_;have a8:=GH.Le.grown ag ak fun b e=>Ln Lr (aj.fresh b e);exact ⟨_,by omega,k+1,a9,aq,Z,(by omega),Z,a8,bo,b6,bw,bx,Z,Z,Z,(by have e:(List.range (k+1)).map (fun (i:Nat)=>(stockOf ms (handedP d m gs ms cs f y l) (i:Int) d).1)=((List.range k).map (fun (i:Nat)=>(stockOf ms (handedP d m gs ms cs f y l) (i:Int) d).1))++[(stockOf ms (handedP d m gs ms cs f y l) (k:Int) d).1]:=(by exact range_map_succ _ _);rw [e];exact (OwnSl.grown ag al (Apart.symm ai))),(by have e:(List.range (k+1)).map (fun (i:Nat)=>(stockOf ms (handedP d m gs ms cs f y l) (i:Int) d).2)=((List.range k).map (fun (i:Nat)=>(stockOf ms (handedP d m gs ms cs f y l) (i:Int) d).2))++[(stockOf ms (handedP d m gs ms cs f y l) (k:Int) d).2]:=(by exact range_map_succ _ _);rw [e];exact a6),a7⟩
  ·refine Xt (Sq (Rg ?_));refine Mv w8 Z bz ?_;refine Mv w9 Z b0 ?_;refine As w8 Z Z ?_;refine As w9 Z Z ?_;refine As (.int .i64 0) Z Z ?_;refine Nl (Rt ?_);refine ⟨.inr Z,outs3 Z (v:=w8) (v':=w9) (v2:=.int .i64 0) Z Z Z ?_⟩;exact ⟨w8,w9,(by (rw [Dn (by assumption:¬¬handedBell d m gs ms cs f y l=0)])),(by have e:playLeft d m gs ms cs f y l=(List.range k).map (fun (i:Nat)=>(stockOf ms (handedP d m gs ms cs f y l) (i:Int) d).1):=(by exact playLeft_good ‹_› hk ‹_›);rw [e];exact b1.sl),(by have e:playLow d m gs ms cs f y l=(List.range k).map (fun (i:Nat)=>(stockOf ms (handedP d m gs ms cs f y l) (i:Int) d).2):=(by exact playLow_good ‹_› hk ‹_›);rw [e];exact b2.sl),(ao.trans ay)⟩
end Go.Ns
