/- The law holds at every input, on every schedule: it returns true, and what it was handed reads as it did. Conditions: those of the given statement alone. -/
import Derived.ProofKit
import Derived.SevenTiedAt
import Derived.Stop.Joined
import Derived.Test.YthccgklboafliaaDoorCards
import Derived.Test.YthccgklboafliaaDoorKlC
import Derived.Test.YthccgklboafliaaDoorKlE
import Derived.Test.YthccgklboafliaaDoorRows
import Derived.Test.YthccgklboafliaaDoorTie
set_option linter.unusedVariables false
set_option linter.unusedSimpArgs false
set_option linter.unnecessarySimpa false
set_option linter.unusedSectionVars false
namespace Go.Ns
open Go.Conc Go.Proofs Go.ChangeShapes Go.WideShapes Go.ChangeAt Go.RowKit
set_option maxRecDepth 100000
def structOf (P:Program) (t:TypeId):Option (List (TypeId×Nat)):=match P.underlying t with
 | some (.struct fs)=>some (fs.toList.map fun f=>(f.type,f.offset))
 | _=>none
theorem structOf_some {P:Program} {t:TypeId} {l:List (TypeId×Nat)} (h:structOf P t=some l):∃fs,P.underlying t=some (.struct fs)∧fs.toList.map (fun f=>(f.type,f.offset))=l:=by
 unfold structOf at h;split at h
 ·rename_i fs e;exact ⟨fs,e,Option.some.inj h⟩
 ·cases h
theorem trod_st {H:Type} {en:TypeId×Value→H} {P:Program} {W:World} {base:Nat} {sp:Nat→Bool} {held:Bool} {fuel:Nat} {t:TypeId} {cs:List Value} {x:DataW H×List MemPlace} {l:List (TypeId×Nat)} (hs:structOf P t=some l)
  (h:DataW.trod en P W base sp held fuel t cs=some x):∃(xs:List (DataW H×List MemPlace)) (n:Nat),x.1=.agg (xs.map (·.1))∧cs.length=P.cellsOf t∧xs.length=l.length∧
   ∀(i:Nat) (u:TypeId) (o:Nat),l[i]? =some (u,o)→∃y,xs[i]? =some y∧DataW.trod en P W base sp held n u ((cs.drop o).take (P.cellsOf u))=some y:=by
 obtain ⟨fs,hu,hl⟩:=structOf_some hs;obtain ⟨xs,n,rfl,hx,h1,h2,h3⟩:=DataW.trod_struct hu h;have hlen:l.length=fs.size:=by rw [←hl];simp
 refine ⟨xs,n,by rw [hx],h1,by omega,fun i u o hi=>?_⟩;rw [←hl,List.getElem?_map] at hi;obtain ⟨f,hf,e⟩:=Option.map_eq_some_iff.1 hi;cases e;have hf':fs[i]? =some f:=by rw [←Array.getElem?_toList];exact hf
 have hy:=h3 i f hf';have hlt:i<xs.length:=by rw [h2];exact (Array.getElem?_eq_some_iff.1 hf').1
 exact ⟨xs[i],List.getElem?_eq_getElem hlt,by rw [hy,List.getElem?_eq_getElem hlt]⟩
theorem trod_n {H:Type} {en:TypeId×Value→H} {P:Program} {W:World} {base:Nat} {sp:Nat→Bool} {held:Bool} {fuel:Nat} {t:TypeId} {k:IntKind} {v:Value} {x:DataW H×List MemPlace} (ht:P.underlying t=some (.int k)) (h:DataW.trod en P W base sp held fuel t [v]=some x):∃n,v=.int k n∧(Lit.int k n).wf=true:=by
 obtain ⟨n,e,_,w⟩:=DataW.trod_int ht h;exact ⟨n,by simpa using e,w⟩
theorem len2 {α:Type} {l:List α} (h:l.length=2):∃a b,l=[a,b]:=by match l,h with | [a,b],_=>exact ⟨a,b,rfl⟩
theorem len4 {α:Type} {l:List α} (h:l.length=4):∃a b c d,l=[a,b,c,d]:=by match l,h with | [a,b,c,d],_=>exact ⟨a,b,c,d,rfl⟩
theorem len5 {α:Type} {l:List α} (h:l.length=5):∃a b c d e,l=[a,b,c,d,e]:=by match l,h with | [a,b,c,d,e],_=>exact ⟨a,b,c,d,e,rfl⟩
theorem weightsEach_mem {H:Type} {P:Program} {x:Nat}:∀{ts:List TypeId} {ds:List (DataW H)} {i:Nat} {t:TypeId} {d:DataW H},ts[i]? =some t→ds[i]? =some d→x ∈ d.weights P t→x ∈ DataW.weightsEach P ts ds
 | [],_,_,_,_,h,_,_=>by simp at h
 | _ ::_,[],_,_,_,_,h,_=>by simp at h
 | t' ::ts,d' ::ds,0,t,d,h1,h2,h3=>by
  simp at h1 h2;subst h1 h2;unfold DataW.weightsEach;exact List.mem_append_left _ h3
 | t' ::ts,d' ::ds,i+1,t,d,h1,h2,h3=>by
  unfold DataW.weightsEach;exact List.mem_append_right _ (weightsEach_mem (i:=i) (by simpa using h1) (by simpa using h2) h3)
theorem weights_st {H:Type} {P:Program} {x:Nat} {t u:TypeId} {l:List (TypeId×Nat)} {i o:Nat} {parts:List (DataW H)} {d:DataW H} (hs:structOf P t=some l) (hi:l[i]? =some (u,o)) (hd:parts[i]? =some d) (h:x ∈ d.weights P u):x ∈ (DataW.agg parts).weights P t:=by
 obtain ⟨fs,hu,hl⟩:=structOf_some hs;unfold DataW.weights;rw [hu];refine weightsEach_mem (i:=i) (t:=u) ?_ hd h;rw [←hl,List.getElem?_map] at hi;obtain ⟨f,hf,e⟩:=Option.map_eq_some_iff.1 hi;cases e;rw [List.getElem?_map,hf];rfl
theorem weights_sl {H:Type} {P:Program} {t e:TypeId} {es rs:List (DataW H)} (ht:P.underlying t=some (.slice e)) (hb:1≤P.bytesOf e) (h:∀x ∈ (DataW.slice es rs).weights P t,x≤reachBytes):es.length≤140737488355328:=by
 have:=h ((es.length+rs.length)*P.bytesOf e) (by unfold DataW.weights;rw [ht];exact List.mem_cons_self ..)
 have h2:es.length+rs.length≤(es.length+rs.length)*P.bytesOf e:=Nat.le_mul_of_pos_right _ hb;unfold reachBytes at this;omega
theorem und_int:Tryd.prog.underlying 3=some (.int .i64):=by kernel_rfl
theorem und_kind:Tryd.prog.underlying 37=some (.int .i64):=by kernel_rfl
theorem und_u8:Tryd.prog.underlying 5=some (.int .u8):=by kernel_rfl
theorem und_u16:Tryd.prog.underlying 118=some (.int .u16):=by kernel_rfl
theorem und_str:Tryd.prog.underlying 9=some .string:=by kernel_rfl
theorem und_gs:Tryd.prog.underlying 22=some (.slice 57):=by kernel_rfl
theorem byt_good:(Nat.ble 1 (Tryd.prog.bytesOf 57))=true:=by kernel_rfl
theorem und_ms:Tryd.prog.underlying 23=some (.slice 41):=by kernel_rfl
theorem byt_move:(Nat.ble 1 (Tryd.prog.bytesOf 41))=true:=by kernel_rfl
theorem und_cs:Tryd.prog.underlying 24=some (.slice 71):=by kernel_rfl
theorem byt_count:(Nat.ble 1 (Tryd.prog.bytesOf 71))=true:=by kernel_rfl
theorem und_picks:Tryd.prog.underlying 27=some (.slice 118):=by kernel_rfl
theorem byt_u16:(Nat.ble 1 (Tryd.prog.bytesOf 118))=true:=by kernel_rfl
theorem st_book:structOf Tryd.prog 26=some [(3,0),(3,1),(22,2),(23,3),(24,4)]:=by kernel_rfl
theorem st_good:structOf Tryd.prog 57=some [(9,0),(3,1),(3,2),(39,3)]:=by kernel_rfl
theorem st_move:structOf Tryd.prog 41=some [(37,0),(3,1),(3,2),(39,3)]:=by kernel_rfl
theorem st_count:structOf Tryd.prog 71=some [(3,0),(3,1),(39,2)]:=by kernel_rfl
theorem st_span:structOf Tryd.prog 39=some [(3,0),(3,1)]:=by kernel_rfl
theorem cel_book:Tryd.prog.cellsOf 26=5:=by kernel_rfl
theorem cel_good:Tryd.prog.cellsOf 57=5:=by kernel_rfl
theorem cel_move:Tryd.prog.cellsOf 41=5:=by kernel_rfl
theorem cel_count:Tryd.prog.cellsOf 71=4:=by kernel_rfl
theorem cel_span:Tryd.prog.cellsOf 39=2:=by kernel_rfl
theorem cel_kind:Tryd.prog.cellsOf 37=1:=by kernel_rfl
theorem cel_int:Tryd.prog.cellsOf 3=1:=by kernel_rfl
theorem cel_str:Tryd.prog.cellsOf 9=1:=by kernel_rfl
theorem cel_u8:Tryd.prog.cellsOf 5=1:=by kernel_rfl
theorem cel_u16:Tryd.prog.cellsOf 118=1:=by kernel_rfl
theorem cel_gs:Tryd.prog.cellsOf 22=1:=by kernel_rfl
theorem cel_ms:Tryd.prog.cellsOf 23=1:=by kernel_rfl
theorem cel_cs:Tryd.prog.cellsOf 24=1:=by kernel_rfl
theorem cel_picks:Tryd.prog.cellsOf 27=1:=by kernel_rfl
theorem opens_good:Opens Tryd.prog 57 eGood (fun _=>True):=by
 intro H en W base sp held fuel cs x h;obtain ⟨xs,n,_,hl,_,hel⟩:=trod_st st_good h;rw [cel_good] at hl;obtain ⟨c0,c1,c2,c3,c4,rfl⟩:=len5 hl;obtain ⟨y0,_,t0⟩:=hel 0 _ _ rfl;rw [cel_str] at t0;obtain ⟨s0,es0,_,_⟩:=DataW.trod_string und_str (show DataW.trod en Tryd.prog W base sp held n 9 [c0]=some y0 from t0);obtain rfl:c0=.string s0:=by simpa using es0
 obtain ⟨y1,_,t1⟩:=hel 1 _ _ rfl;rw [cel_int] at t1;obtain ⟨n1,rfl,_⟩:=trod_n und_int (show DataW.trod en Tryd.prog W base sp held n 3 [c1]=some y1 from t1);obtain ⟨y2,_,t2⟩:=hel 2 _ _ rfl;rw [cel_int] at t2;obtain ⟨n2,rfl,_⟩:=trod_n und_int (show DataW.trod en Tryd.prog W base sp held n 3 [c2]=some y2 from t2);obtain ⟨y3,_,t3⟩:=hel 3 _ _ rfl;rw [cel_span] at t3;obtain ⟨zs,m,_,_,_,hez⟩:=trod_st st_span (show DataW.trod en Tryd.prog W base sp held n 39 [c3,c4]=some y3 from t3);obtain ⟨z0,_,w0⟩:=hez 0 _ _ rfl;rw [cel_int] at w0;obtain ⟨p0,rfl,_⟩:=trod_n und_int (show DataW.trod en Tryd.prog W base sp held m 3 [c3]=some z0 from w0);obtain ⟨z1,_,w1⟩:=hez 1 _ _ rfl;rw [cel_int] at w1;obtain ⟨p1,rfl,_⟩:=trod_n und_int (show DataW.trod en Tryd.prog W base sp held m 3 [c4]=some z1 from w1);exact ⟨⟨s0,n1,n2,p0,p1⟩,rfl,trivial⟩
theorem opens_move:Opens Tryd.prog 41 eMove (fun _=>True):=by
 intro H en W base sp held fuel cs x h;obtain ⟨xs,n,_,hl,_,hel⟩:=trod_st st_move h;rw [cel_move] at hl;obtain ⟨c0,c1,c2,c3,c4,rfl⟩:=len5 hl;obtain ⟨y0,_,t0⟩:=hel 0 _ _ rfl;rw [cel_kind] at t0;obtain ⟨n0,rfl,_⟩:=trod_n und_kind (show DataW.trod en Tryd.prog W base sp held n 37 [c0]=some y0 from t0);obtain ⟨y1,_,t1⟩:=hel 1 _ _ rfl;rw [cel_int] at t1;obtain ⟨n1,rfl,_⟩:=trod_n und_int (show DataW.trod en Tryd.prog W base sp held n 3 [c1]=some y1 from t1);obtain ⟨y2,_,t2⟩:=hel 2 _ _ rfl;rw [cel_int] at t2;obtain ⟨n2,rfl,_⟩:=trod_n und_int (show DataW.trod en Tryd.prog W base sp held n 3 [c2]=some y2 from t2);obtain ⟨y3,_,t3⟩:=hel 3 _ _ rfl;rw [cel_span] at t3;obtain ⟨zs,m,_,_,_,hez⟩:=trod_st st_span (show DataW.trod en Tryd.prog W base sp held n 39 [c3,c4]=some y3 from t3);obtain ⟨z0,_,w0⟩:=hez 0 _ _ rfl;rw [cel_int] at w0;obtain ⟨p0,rfl,_⟩:=trod_n und_int (show DataW.trod en Tryd.prog W base sp held m 3 [c3]=some z0 from w0);obtain ⟨z1,_,w1⟩:=hez 1 _ _ rfl;rw [cel_int] at w1;obtain ⟨p1,rfl,_⟩:=trod_n und_int (show DataW.trod en Tryd.prog W base sp held m 3 [c4]=some z1 from w1);exact ⟨⟨n0,n1,n2,p0,p1⟩,rfl,trivial⟩
theorem opens_count:Opens Tryd.prog 71 eCount (fun _=>True):=by
 intro H en W base sp held fuel cs x h;obtain ⟨xs,n,_,hl,_,hel⟩:=trod_st st_count h;rw [cel_count] at hl;obtain ⟨c0,c1,c2,c3,rfl⟩:=len4 hl;obtain ⟨y0,_,t0⟩:=hel 0 _ _ rfl;rw [cel_int] at t0;obtain ⟨n0,rfl,_⟩:=trod_n und_int (show DataW.trod en Tryd.prog W base sp held n 3 [c0]=some y0 from t0);obtain ⟨y1,_,t1⟩:=hel 1 _ _ rfl;rw [cel_int] at t1;obtain ⟨n1,rfl,_⟩:=trod_n und_int (show DataW.trod en Tryd.prog W base sp held n 3 [c1]=some y1 from t1);obtain ⟨y2,_,t2⟩:=hel 2 _ _ rfl;rw [cel_span] at t2;obtain ⟨zs,m,_,_,_,hez⟩:=trod_st st_span (show DataW.trod en Tryd.prog W base sp held n 39 [c2,c3]=some y2 from t2);obtain ⟨z0,_,w0⟩:=hez 0 _ _ rfl;rw [cel_int] at w0;obtain ⟨p0,rfl,_⟩:=trod_n und_int (show DataW.trod en Tryd.prog W base sp held m 3 [c2]=some z0 from w0);obtain ⟨z1,_,w1⟩:=hez 1 _ _ rfl;rw [cel_int] at w1;obtain ⟨p1,rfl,_⟩:=trod_n und_int (show DataW.trod en Tryd.prog W base sp held m 3 [c3]=some z1 from w1);exact ⟨⟨n0,n1,p0,p1⟩,rfl,trivial⟩
theorem opens_u16:Opens Tryd.prog 118 eH (fun n=>0≤n∧n≤65535):=by
 intro H en W base sp held fuel cs x h;obtain ⟨n,rfl,_,w⟩:=DataW.trod_int und_u16 h;refine ⟨n,rfl,?_⟩;simp [Lit.wf,IntKind.min,IntKind.max,IntKind.signed,IntKind.bits] at w;omega
theorem u8_range {n:Int} (w:(Lit.int .u8 n).wf=true):0≤n∧n≤255:=by
 simp [Lit.wf,IntKind.min,IntKind.max,IntKind.signed,IntKind.bits] at w;omega
theorem getD_all {l:List Int} {lo hi:Int} (h:∀x ∈ l,lo≤x∧x≤hi) (h0:lo≤0∧0≤hi) (i:Nat):lo≤l.getD i 0∧l.getD i 0≤hi:=by
 by_cases hi':i<l.length
 ·exact h _ (getD_mem hi')
 ·rw [getD_out (by omega)];exact h0
theorem open_book {H:Type} {en:TypeId×Value→H} {W:World} {base:Nat} {sp:Nat→Bool} {held:Bool} {v:Value} {d:DataW H} {ps:List MemPlace} (hv:Value.okWide Tryd.prog W .any base 26 v) (h:DataW.Trod en Tryd.prog W 0 sp held 26 v d ps) (hw:∀x ∈ d.weights Tryd.prog 26,x≤reachBytes) :
  ∃(dy m:Int) (gs:List Good) (ms:List Move) (cs:List Count) (gsv msv csv:Value),v=.agg #[.int .i64 dy,.int .i64 m,gsv,msv,csv]∧SlIs (GH.of W) gsv 5 eGood gs∧SlIs (GH.of W) msv 5 eMove ms∧SlIs (GH.of W) csv 4 eCount cs:=by
 obtain ⟨fs,hu,_⟩:=structOf_some st_book;obtain ⟨cells,rfl,_,_⟩:∃cs,v=.agg cs∧cs.size=Tryd.prog.cellsOf 26∧Row.okWide Tryd.prog W .any base 26 cs:=by
  unfold Value.okWide at hv;rw [hu] at hv;exact hv
 obtain ⟨fuel,hf⟩:=h;obtain ⟨xs,n,hd,hl,_,hel⟩:=trod_st st_book (show DataW.trod en Tryd.prog W 0 sp held fuel 26 cells.toList=some (d,ps) from hf);rw [cel_book] at hl;obtain ⟨c0,c1,c2,c3,c4,hc⟩:=len5 hl;rw [hc] at hel;obtain ⟨y0,_,t0⟩:=hel 0 _ _ rfl;obtain ⟨y1,_,t1⟩:=hel 1 _ _ rfl;obtain ⟨⟨d2,p2⟩,e2,t2⟩:=hel 2 _ _ rfl;obtain ⟨⟨d3,p3⟩,e3,t3⟩:=hel 3 _ _ rfl;obtain ⟨⟨d4,p4⟩,e4,t4⟩:=hel 4 _ _ rfl;rw [cel_int] at t0 t1;rw [cel_gs] at t2;rw [cel_ms] at t3;rw [cel_cs] at t4;obtain ⟨dy,rfl,_⟩:=trod_n und_int (show DataW.trod en Tryd.prog W 0 sp held n 3 [c0]=some y0 from t0);obtain ⟨m,rfl,_⟩:=trod_n und_int (show DataW.trod en Tryd.prog W 0 sp held n 3 [c1]=some y1 from t1);have hwt:∀(i:Nat) (u:TypeId) (o:Nat) (d':DataW H),[(3,0),(3,1),(22,2),(23,3),(24,4)][i]? =some (u,o)→(xs.map (·.1))[i]? =some d'→∀x ∈ d'.weights Tryd.prog u,x≤reachBytes:=fun i u o d' hi hd' x hx=>hw x (by
  have hd1:d=.agg (xs.map (·.1)):=hd;rw [hd1];exact weights_st st_book hi hd' hx)
 obtain ⟨gs,g1,_⟩:=open_sl und_gs cel_good (by decide) opens_good (show DataW.trod en Tryd.prog W 0 sp held n 22 [c2]=some (d2,p2) from t2) fun es rs e=>weights_sl und_gs (Nat.le_of_ble_eq_true byt_good) (e▸hwt 2 _ _ d2 rfl (by rw [List.getElem?_map,e2];rfl));obtain ⟨ms,g2,_⟩:=open_sl und_ms cel_move (by decide) opens_move (show DataW.trod en Tryd.prog W 0 sp held n 23 [c3]=some (d3,p3) from t3) fun es rs e=>weights_sl und_ms (Nat.le_of_ble_eq_true byt_move) (e▸hwt 3 _ _ d3 rfl (by rw [List.getElem?_map,e3];rfl));obtain ⟨cs,g3,_⟩:=open_sl und_cs cel_count (by decide) opens_count (show DataW.trod en Tryd.prog W 0 sp held n 24 [c4]=some (d4,p4) from t4) fun es rs e=>weights_sl und_cs (Nat.le_of_ble_eq_true byt_count) (e▸hwt 4 _ _ d4 rfl (by rw [List.getElem?_map,e4];rfl));refine ⟨dy,m,gs,ms,cs,c2,c3,c4,?_,g1,g2,g3⟩;congr 1;exact Array.toList_inj.1 (by rw [hc])
theorem g_kinds:Tryd.prog.globalNamed "nosale/stock.moveKinds" =some 0:=by kernel_rfl
theorem g_checks:Tryd.prog.globalNamed "nosale/stock.checks" =some 1:=by kernel_rfl
theorem gt_kinds:(Tryd.prog.globals[0]?).map (·.type)=some 121:=by kernel_rfl
theorem gt_checks:(Tryd.prog.globals[1]?).map (·.type)=some 130:=by kernel_rfl
theorem arr_kinds:Tryd.prog.underlying 121=some (.array 5 120):=by kernel_rfl
theorem arr_checks:Tryd.prog.underlying 130=some (.array 4 129):=by kernel_rfl
theorem cel_kinds:Tryd.prog.cellsOf 121=10:=by kernel_rfl
theorem cel_checks:Tryd.prog.cellsOf 130=4:=by kernel_rfl
theorem cel_kindrow:Tryd.prog.cellsOf 120=2:=by kernel_rfl
theorem cel_fk:Tryd.prog.cellsOf 104=1:=by kernel_rfl
theorem cel_fc:Tryd.prog.cellsOf 129=1:=by kernel_rfl
theorem st_kindrow:structOf Tryd.prog 120=some [(9,0),(104,1)]:=by kernel_rfl
def funcOf (P:Program) (t:TypeId):Bool:=match P.underlying t with
 | some (.func ..)=>true
 | _=>false
theorem funcOf_some {P:Program} {t:TypeId} (h:funcOf P t=true):∃ps rs va,P.underlying t=some (.func ps rs va):=by
 unfold funcOf at h;split at h
 ·rename_i ps rs va e;exact ⟨ps,rs,va,e⟩
 ·cases h
theorem fn_k:funcOf Tryd.prog 104=true:=by kernel_rfl
theorem fn_c:funcOf Tryd.prog 129=true:=by kernel_rfl
theorem one_135:((List.range Tryd.prog.funcs.size).filter fun f=>(Tryd.prog.funcs[f]?).any (·.name.toUTF8.data.toList==[40,110,111,115,97,108,101,47,115,116,111,99,107,46,98,111,111,107,41,46,99,111,117,110,116,115]))=[135]:=by kernel_rfl
theorem one_133:((List.range Tryd.prog.funcs.size).filter fun f=>(Tryd.prog.funcs[f]?).any (·.name.toUTF8.data.toList==[40,110,111,115,97,108,101,47,115,116,111,99,107,46,98,111,111,107,41,46,103,111,111,100,115]))=[133]:=by kernel_rfl
theorem one_132:((List.range Tryd.prog.funcs.size).filter fun f=>(Tryd.prog.funcs[f]?).any (·.name.toUTF8.data.toList==[40,110,111,115,97,108,101,47,115,116,111,99,107,46,98,111,111,107,41,46,104,101,97,100]))=[132]:=by kernel_rfl
theorem one_134:((List.range Tryd.prog.funcs.size).filter fun f=>(Tryd.prog.funcs[f]?).any (·.name.toUTF8.data.toList==[40,110,111,115,97,108,101,47,115,116,111,99,107,46,98,111,111,107,41,46,109,111,118,101,115]))=[134]:=by kernel_rfl
theorem one_131:((List.range Tryd.prog.funcs.size).filter fun f=>(Tryd.prog.funcs[f]?).any (·.name.toUTF8.data.toList==[110,111,115,97,108,101,47,115,116,111,99,107,46,108,101,115,115]))=[131]:=by kernel_rfl
theorem one_130:((List.range Tryd.prog.funcs.size).filter fun f=>(Tryd.prog.funcs[f]?).any (·.name.toUTF8.data.toList==[110,111,115,97,108,101,47,115,116,111,99,107,46,109,111,114,101]))=[130]:=by kernel_rfl
theorem len10 {α:Type} {l:List α} (h:l.length=10):∃a0 a1 a2 a3 a4 a5 a6 a7 a8 a9,l=[a0,a1,a2,a3,a4,a5,a6,a7,a8,a9]:=by match l,h with | [a0,a1,a2,a3,a4,a5,a6,a7,a8,a9],_=>exact ⟨a0,a1,a2,a3,a4,a5,a6,a7,a8,a9,rfl⟩
theorem var_elem {P:Program} {W:World} {nm:String} {g:Nat} {cs:Array Value} {n:Nat} (hg:P.globalNamed nm=some g) (h:W.var? P nm=some cs) (hn:cs.size=n):Elem (GH.of W) g 0 n cs:=by
 simp only [World.var?,hg,Option.bind_some] at h;split at h
 ·rename_i c t f e
  cases h;exact Elem.box (GH.of_some e) hn
 ·cases h
theorem held_eq {H:Type} {a b:DataW H} (h:a=b):a=b:=h
theorem glob_of {W:World} (h:laidMetH Tryd.prog [("nosale/stock.moveKinds",YthccgklboafliaaDoor.Rows.laid_nosale_stock_moveKinds),("nosale/stock.checks",YthccgklboafliaaDoor.Rows.laid_nosale_stock_checks)] W):Glob (GH.of W):=by
 constructor
 ·obtain ⟨g,t,cs,fuel,p,hg,ht,hv,hd⟩:=h.funcs (n:= "nosale/stock.checks") (List.mem_cons_of_mem _ (List.mem_cons_self ..));obtain rfl:=Option.some.inj (g_checks.symm.trans hg);obtain rfl:=Option.some.inj (gt_checks.symm.trans ht);obtain ⟨xs,m,rfl,hx,hl,hxl,hel⟩:=DataW.trod_array arr_checks hd;rw [cel_checks] at hl;rw [cel_fc] at hel;refine (?_:cs=gChecks)▸var_elem hg hv (by simpa using hl);obtain ⟨c0,c1,c2,c3,hc⟩:=len4 hl;rw [hc] at hel;obtain ⟨x0,x1,x2,x3,rfl⟩:=len4 hxl;obtain ⟨ps,rs,va,hf⟩:=funcOf_some fn_c;have hx1:=(Prod.mk.inj hx).1;simp only [List.map_cons,List.map_nil] at hx1;have q0:DataW.trod (funcToken Tryd.prog) Tryd.prog W 0 (fun _=>true) true m 129 [c0]=some x0:=hel 0 (by decide);have q1:DataW.trod (funcToken Tryd.prog) Tryd.prog W 0 (fun _=>true) true m 129 [c1]=some x1:=hel 1 (by decide);have q2:DataW.trod (funcToken Tryd.prog) Tryd.prog W 0 (fun _=>true) true m 129 [c2]=some x2:=hel 2 (by decide);have q3:DataW.trod (funcToken Tryd.prog) Tryd.prog W 0 (fun _=>true) true m 129 [c3]=some x3:=hel 3 (by decide);have hy:[x0.1,x1.1,x2.1,x3.1]=[.held [40,110,111,115,97,108,101,47,115,116,111,99,107,46,98,111,111,107,41,46,104,101,97,100],.held [40,110,111,115,97,108,101,47,115,116,111,99,107,46,98,111,111,107,41,46,103,111,111,100,115],.held [40,110,111,115,97,108,101,47,115,116,111,99,107,46,98,111,111,107,41,46,109,111,118,101,115],.held [40,110,111,115,97,108,101,47,115,116,111,99,107,46,98,111,111,107,41,46,99,111,117,110,116,115]]:=DataW.agg.inj hx1.symm;simp only [List.cons.injEq,and_true] at hy;obtain ⟨k0,k1,k2,k3⟩:=hy;obtain rfl:=func_of_trod (q:=x0.2) hf one_132 (by rw [q0,←k0]);obtain rfl:=func_of_trod (q:=x1.2) hf one_133 (by rw [q1,←k1]);obtain rfl:=func_of_trod (q:=x2.2) hf one_134 (by rw [q2,←k2]);obtain rfl:=func_of_trod (q:=x3.2) hf one_135 (by rw [q3,←k3]);exact Array.toList_inj.1 (by rw [hc];rfl)
 ·obtain ⟨g,t,cs,fuel,p,hg,ht,hv,hd⟩:=h.funcs (n:= "nosale/stock.moveKinds") (List.mem_cons_self ..);obtain rfl:=Option.some.inj (g_kinds.symm.trans hg);obtain rfl:=Option.some.inj (gt_kinds.symm.trans ht);obtain ⟨xs,m,rfl,hx,hl,hxl,hel⟩:=DataW.trod_array arr_kinds hd;rw [cel_kinds] at hl;rw [cel_kindrow] at hel;refine (?_:cs=gKinds)▸var_elem hg hv (by simpa using hl);obtain ⟨c0,c1,c2,c3,c4,c5,c6,c7,c8,c9,hc⟩:=len10 hl;rw [hc] at hel;obtain ⟨x0,x1,x2,x3,x4,rfl⟩:=len5 hxl;obtain ⟨ps,rs,va,hf⟩:=funcOf_some fn_k;have hx1:=(Prod.mk.inj hx).1;simp only [List.map_cons,List.map_nil] at hx1;have hy:[x0.1,x1.1,x2.1,x3.1,x4.1]=[.agg [.lit (.string [99,97,109,101]),.held [110,111,115,97,108,101,47,115,116,111,99,107,46,109,111,114,101]],.agg [.lit (.string [115,111,108,100]),.held [110,111,115,97,108,101,47,115,116,111,99,107,46,108,101,115,115]],.agg [.lit (.string [108,111,115,116]),.held [110,111,115,97,108,101,47,115,116,111,99,107,46,108,101,115,115]],.agg [.lit (.string [103,105,118,101,110]),.held [110,111,115,97,108,101,47,115,116,111,99,107,46,108,101,115,115]],.agg [.lit (.string [98,97,99,107]),.held [110,111,115,97,108,101,47,115,116,111,99,107,46,109,111,114,101]]]:=DataW.agg.inj hx1.symm;simp only [List.cons.injEq,and_true] at hy;obtain ⟨k0,k1,k2,k3,k4⟩:=hy;have r0:c0=.string ⟨#[99,97,109,101]⟩∧c1=.func (.func 130) #[] #[]:=by
   have q:DataW.trod (funcToken Tryd.prog) Tryd.prog W 0 (fun _=>true) true m 120 [c0,c1]=some x0:=hel 0 (by decide);obtain ⟨zs,n,hz,_,hzl,hez⟩:=trod_st st_kindrow q;obtain ⟨z0,z1,rfl⟩:=len2 hzl;obtain ⟨y0,e0,t0⟩:=hez 0 _ _ rfl;obtain ⟨y1,e1,t1⟩:=hez 1 _ _ rfl;cases e0;cases e1;rw [cel_str] at t0;rw [cel_fk] at t1;rw [hz] at k0;have hk:=DataW.agg.inj k0;simp only [List.map_cons,List.map_nil,List.cons.injEq,and_true] at hk;obtain ⟨s,es,ys,_⟩:=DataW.trod_string und_str (show DataW.trod _ Tryd.prog W 0 _ true n 9 [c0]=some z0 from t0);have hs:s.data.toList=[99,97,109,101]:=by have:=hk.1;rw [ys] at this;simpa using this
   refine ⟨?_,func_of_trod (q:=z1.2) hf one_130 (by rw [show DataW.trod (funcToken Tryd.prog) Tryd.prog W 0 (fun _=>true) true n 104 [c1]=some z1 from t1,←hk.2])⟩;have e3:c0=.string s:=by simpa using es
   rw [e3];congr 1;obtain ⟨⟨sl⟩⟩:=s
   have:sl=[99,97,109,101]:=hs
   rw [this]
  have r1:c2=.string ⟨#[115,111,108,100]⟩∧c3=.func (.func 131) #[] #[]:=by
   have q:DataW.trod (funcToken Tryd.prog) Tryd.prog W 0 (fun _=>true) true m 120 [c2,c3]=some x1:=hel 1 (by decide);obtain ⟨zs,n,hz,_,hzl,hez⟩:=trod_st st_kindrow q;obtain ⟨z0,z1,rfl⟩:=len2 hzl;obtain ⟨y0,e0,t0⟩:=hez 0 _ _ rfl;obtain ⟨y1,e1,t1⟩:=hez 1 _ _ rfl;cases e0;cases e1;rw [cel_str] at t0;rw [cel_fk] at t1;rw [hz] at k1;have hk:=DataW.agg.inj k1;simp only [List.map_cons,List.map_nil,List.cons.injEq,and_true] at hk;obtain ⟨s,es,ys,_⟩:=DataW.trod_string und_str (show DataW.trod _ Tryd.prog W 0 _ true n 9 [c2]=some z0 from t0);have hs:s.data.toList=[115,111,108,100]:=by have:=hk.1;rw [ys] at this;simpa using this
   refine ⟨?_,func_of_trod (q:=z1.2) hf one_131 (by rw [show DataW.trod (funcToken Tryd.prog) Tryd.prog W 0 (fun _=>true) true n 104 [c3]=some z1 from t1,←hk.2])⟩;have e3:c2=.string s:=by simpa using es
   rw [e3];congr 1;obtain ⟨⟨sl⟩⟩:=s
   have:sl=[115,111,108,100]:=hs
   rw [this]
  have r2:c4=.string ⟨#[108,111,115,116]⟩∧c5=.func (.func 131) #[] #[]:=by
   have q:DataW.trod (funcToken Tryd.prog) Tryd.prog W 0 (fun _=>true) true m 120 [c4,c5]=some x2:=hel 2 (by decide);obtain ⟨zs,n,hz,_,hzl,hez⟩:=trod_st st_kindrow q;obtain ⟨z0,z1,rfl⟩:=len2 hzl;obtain ⟨y0,e0,t0⟩:=hez 0 _ _ rfl;obtain ⟨y1,e1,t1⟩:=hez 1 _ _ rfl;cases e0;cases e1;rw [cel_str] at t0;rw [cel_fk] at t1;rw [hz] at k2;have hk:=DataW.agg.inj k2;simp only [List.map_cons,List.map_nil,List.cons.injEq,and_true] at hk;obtain ⟨s,es,ys,_⟩:=DataW.trod_string und_str (show DataW.trod _ Tryd.prog W 0 _ true n 9 [c4]=some z0 from t0);have hs:s.data.toList=[108,111,115,116]:=by have:=hk.1;rw [ys] at this;simpa using this
   refine ⟨?_,func_of_trod (q:=z1.2) hf one_131 (by rw [show DataW.trod (funcToken Tryd.prog) Tryd.prog W 0 (fun _=>true) true n 104 [c5]=some z1 from t1,←hk.2])⟩;have e3:c4=.string s:=by simpa using es
   rw [e3];congr 1;obtain ⟨⟨sl⟩⟩:=s
   have:sl=[108,111,115,116]:=hs
   rw [this]
  have r3:c6=.string ⟨#[103,105,118,101,110]⟩∧c7=.func (.func 131) #[] #[]:=by
   have q:DataW.trod (funcToken Tryd.prog) Tryd.prog W 0 (fun _=>true) true m 120 [c6,c7]=some x3:=hel 3 (by decide);obtain ⟨zs,n,hz,_,hzl,hez⟩:=trod_st st_kindrow q;obtain ⟨z0,z1,rfl⟩:=len2 hzl;obtain ⟨y0,e0,t0⟩:=hez 0 _ _ rfl;obtain ⟨y1,e1,t1⟩:=hez 1 _ _ rfl;cases e0;cases e1;rw [cel_str] at t0;rw [cel_fk] at t1;rw [hz] at k3;have hk:=DataW.agg.inj k3;simp only [List.map_cons,List.map_nil,List.cons.injEq,and_true] at hk;obtain ⟨s,es,ys,_⟩:=DataW.trod_string und_str (show DataW.trod _ Tryd.prog W 0 _ true n 9 [c6]=some z0 from t0);have hs:s.data.toList=[103,105,118,101,110]:=by have:=hk.1;rw [ys] at this;simpa using this
   refine ⟨?_,func_of_trod (q:=z1.2) hf one_131 (by rw [show DataW.trod (funcToken Tryd.prog) Tryd.prog W 0 (fun _=>true) true n 104 [c7]=some z1 from t1,←hk.2])⟩;have e3:c6=.string s:=by simpa using es
   rw [e3];congr 1;obtain ⟨⟨sl⟩⟩:=s
   have:sl=[103,105,118,101,110]:=hs
   rw [this]
  have r4:c8=.string ⟨#[98,97,99,107]⟩∧c9=.func (.func 130) #[] #[]:=by
   have q:DataW.trod (funcToken Tryd.prog) Tryd.prog W 0 (fun _=>true) true m 120 [c8,c9]=some x4:=hel 4 (by decide);obtain ⟨zs,n,hz,_,hzl,hez⟩:=trod_st st_kindrow q;obtain ⟨z0,z1,rfl⟩:=len2 hzl;obtain ⟨y0,e0,t0⟩:=hez 0 _ _ rfl;obtain ⟨y1,e1,t1⟩:=hez 1 _ _ rfl;cases e0;cases e1;rw [cel_str] at t0;rw [cel_fk] at t1;rw [hz] at k4;have hk:=DataW.agg.inj k4;simp only [List.map_cons,List.map_nil,List.cons.injEq,and_true] at hk;obtain ⟨s,es,ys,_⟩:=DataW.trod_string und_str (show DataW.trod _ Tryd.prog W 0 _ true n 9 [c8]=some z0 from t0);have hs:s.data.toList=[98,97,99,107]:=by have:=hk.1;rw [ys] at this;simpa using this
   refine ⟨?_,func_of_trod (q:=z1.2) hf one_130 (by rw [show DataW.trod (funcToken Tryd.prog) Tryd.prog W 0 (fun _=>true) true n 104 [c9]=some z1 from t1,←hk.2])⟩;have e3:c8=.string s:=by simpa using es
   rw [e3];congr 1;obtain ⟨⟨sl⟩⟩:=s
   have:sl=[98,97,99,107]:=hs
   rw [this]
  obtain ⟨rfl,rfl⟩:=r0;obtain ⟨rfl,rfl⟩:=r1;obtain ⟨rfl,rfl⟩:=r2;obtain ⟨rfl,rfl⟩:=r3;obtain ⟨rfl,rfl⟩:=r4;exact Array.toList_inj.1 (by rw [hc];rfl)
end Go.Ns
namespace Go.Proofs.YthccgklboafliaaDoor
open Go Go.Ns Go.Conc Go.ChangeShapes Go.WideShapes Go.ChangeAt Go.RowKit
set_option maxRecDepth 100000
theorem ownLClash:ownKnob Tryd.prog.godebug=Option.none:=by kernel_rfl
theorem laidOutLClash:laidOutB Tryd.prog=true:=by kernel_rfl
theorem paramsLClash:Tryd.f8.params=#[26,5]:=by kernel_rfl
theorem boolLClash:Tryd.prog.underlying 4=some .bool:=by kernel_rfl
theorem door_metLClash (os:Os) (args:Array Value):laidMetH Tryd.prog [("nosale/stock.moveKinds",Rows.laid_nosale_stock_moveKinds),("nosale/stock.checks",Rows.laid_nosale_stock_checks)] ((World.doorLaid Tryd.prog 600 os).forCall (fun _ _=>0) ⟨#[],args,[]⟩).memory:=
 laidMetH_of_parts3 (fuel:=8) (laidMet_of_run' 8 (by kernel_rfl) (by kernel_rfl)) (by kernel_rfl) (by kernel_rfl)
theorem liftedLClash (os:Os) (started:os.Started) (H:Type) (enc:TypeId×Value→H) :
  ReturnsInLeavingWide {} Tryd.checked os 8 .any (fun w args=>(Rows.stockClashesSpec.pre enc Tryd.prog Tryd.f8 [] false w args∧laidMetH Tryd.prog [("nosale/stock.moveKinds",Rows.laid_nosale_stock_moveKinds),("nosale/stock.checks",Rows.laid_nosale_stock_checks)] w)∧sizedMet enc Tryd.prog Tryd.f8 (OpenSpec.ofChange Rows.stockClashesSpec) false w args)
   (Rows.stockClashesSpec.post enc Tryd.prog Tryd.f8 false true false false):=by
 refine returnsInLeavingWide_of_good (C:=Tryd.checked) ownLClash started
  (ChangeSpec.witness_shaped (enc:=enc) (C:=Tryd.checked) (os:=os) (X:=fun w _=>laidMetH Tryd.prog [("nosale/stock.moveKinds",Rows.laid_nosale_stock_moveKinds),("nosale/stock.checks",Rows.laid_nosale_stock_checks)] w) false (World.doorLaid Tryd.prog 600 os) #[.agg #[.int .i64 0,.int .i64 0,.slice none 0 0,.slice none 0 0,.slice none 0 0],.int .u8 0] 8 rfl (World.shaped_of_RefB (by kernel_rfl) (by kernel_rfl)) (by kernel_rfl) (by kernel_rfl) (by kernel_rfl) (door_metLClash os _)) ?_
 intro w tape i _ _ _ hok hpre _;generalize hWd:w.forCall tape i=W at hok hpre ⊢;obtain ⟨_,_,_,fn',hfn',_,_,_,_,hval0⟩:=hok;obtain rfl:fn'=Tryd.f8:=Option.some.inj (hfn'.symm.trans Tryd.func8);obtain ⟨⟨⟨ds,gs,before,hw,_⟩,hx⟩,hz⟩:=hpre;have hW:=DataW.Whole.of_heap (w':=W) (by rfl) hw;have hlaid:laidMetH Tryd.prog [("nosale/stock.moveKinds",Rows.laid_nosale_stock_moveKinds),("nosale/stock.checks",Rows.laid_nosale_stock_checks)] W:=laidMetH.of_heap (by rfl) hx;have hsz:=hz.weights hw;have hW':=hW;obtain ⟨p,q,hA0,hV,rfl,_,_⟩:=hW;have hA:DataW.TrodAll enc Tryd.prog W 0 (fun _=>true) true Tryd.f8.params.toList i.args.toList ds p:=hA0;have hval:∀(j:Nat) t v,Tryd.f8.params[j]? =some t→i.args[j]? =some v→Value.okWide Tryd.prog W .any w.heap.size t v:=hval0;rw [paramsLClash] at hA hval hsz;obtain ⟨rfl,rfl⟩:=trodVars_none hV;obtain ⟨v0,v1,d0,d1,p0,p1,hargs,rfl,rfl,h0,h1⟩:=trodAll_two hA;rw [hargs] at hval hW' ⊢;have hsz2:(DataW.weightsEach Tryd.prog [26,5] [d0,d1]).all (·≤reachBytes)=true:=hsz;simp only [List.append_nil] at hW';have hwt:∀x ∈ DataW.weightsEach Tryd.prog [26,5] [d0,d1],x≤reachBytes:=fun x hx=>by simpa using List.all_eq_true.1 hsz2 x hx
 obtain ⟨dy,mo,gs,ms,cs,gsv,msv,csv,rfl,hgs,hms,hcs⟩:=open_book (hval 0 26 _ rfl rfl) h0 (fun x hx=>hwt x (weightsEach_mem (i:=0) rfl rfl hx));have hk1:=h1;obtain ⟨n1,rfl,hd1,hp1,wf1⟩:=open_int und_u8 (hval 1 5 _ rfl rfl) h1;have hr1:=u8_range wf1;have hmain:=clashes_spec (Post:=fun v w'=>v=.bool true∧∀(b:Nat) (o:Obj),W.heap[b]? =some o→w'.heap[b]? =some o) (h:=GH.of W) (fun h' l w' fw=>⟨rfl,fun b o hb=>kept_of l fw hb⟩) dy mo gs gsv ms msv cs csv n1 hgs hms hcs (glob_of hlaid) hr1;obtain ⟨N,last,o,w',t',r1,r2,r3,r4⟩:=start_runs hmain;refine ⟨N,last,o,w',t',r1,r2,r3,r4.mono fun v hp=>ChangeSpec.post_blind ?_⟩;obtain ⟨⟨rfl,hkeep⟩,hos,hout⟩:=hp;have hlt:∀x ∈ p0++p1,x.block<W.heap.size:=fun x hx=>hW'.lt x hx;refine ⟨_,_,_,[],p0++p1,[],hW',?_,?_,rfl,kept_but hkeep hos hout _,fun h=>by cases h⟩
 ·exact trodAll_mk1 (shut_bool boolLClash true)
 ·exact trodAll_mk2 (trod_kept laidOutLClash (by kernel_rfl) (of_decide_eq_true (by kernel_rfl)) h0 hkeep fun x hx=>hlt x (List.mem_append_left _ (hx))) (trod_kept laidOutLClash (by kernel_rfl) (of_decide_eq_true (by kernel_rfl)) h1 hkeep fun x hx=>hlt x (List.mem_append_right _ hx))
theorem stockClashes_row:Rows.StockClashesSaid:=
 OpenClaim.holds_of_wide_leaving 8 Tryd.f8 rfl rfl rfl rfl rfl rfl rfl ⟨rfl,rfl,rfl,rfl,rfl⟩ rfl rfl rfl rfl rfl (by kernel_rfl) Tryd.func8 (by kernel_rfl)
  (of_decide_eq_true (by kernel_rfl)) (by unfold Func.isWrapper;first | (rw [if_pos (by decide +kernel)];kernel_rfl) | (rw [if_neg (by decide +kernel)];exact ⟨rfl,rfl⟩))
  (fun os started H enc _=>liftedLClash os started H enc)
theorem goesLClash:true=Rows.stockClashesRow.goesBy Tryd.pinned.checked.prog:=by kernel_rfl
theorem holds_tied_goesLClash {p:Pinned} {s:OpenSpec} {c:OpenClaim} (kinds:List LaidKind) (tests:Bool) (har:Bool×String) (lk:Bool) (hc:c.holds p s) (hw:c.wfByText s=true) (htie:c.laidByTextAt .later p kinds tests)
  (hst:c.start=.entering) (hnb:c.noBlocks=false∧c.again=false) (hm:p.checked.prog.mainIs=some (har.1,har.2.toList)) (hn:(!har.1 && har.2.isEmpty && !lk)=false)
  (hl:∀f fn,p.checked.prog.funcNamed c.func=some f→p.checked.prog.funcs[f]? =some fn→lk=p.checked.prog.looks []∧∀(j:Nat) t,fn.params[j]? =some t→p.checked.prog.wantsStandIn t=false) (hg:true=c.goesBy p.checked.prog) :
  Claim7.holds p (.plain s) { stood:={ row:=c,standIns:=[],harness:=har,looks:=lk },kinds:=[],alts:=[],goes:=true,laidByText:=true,laidKinds:=kinds,laidTests:=tests,laidLooks:=.later }:=by
 have h6:∀r:OpenClaim,Claim7.isSixth { stood:={ row:=r,standIns:=[],harness:=har,looks:=lk },kinds:=[] }=false:=fun r=>by simpa [Claim7.isSixth] using hn
 exact ⟨Claim7.tied_new_at .later kinds tests (Claim7.new_of_sixth hc har lk hst hnb hm (h6 c) hl) hw,(fun D hD=>by cases hD),htie,(fun h=>by cases h),hg⟩
theorem stockClashes_holds:Rows.StockClashesCardSaid:=
 holds_tied_goesLClash [.funcsDeep,.funcs] true (true, "2679a0b9bce6ef538562287a8594fd4b318eeb980ce1f7352083c62956201a52") false stockClashes_row (by kernel_rfl) stockClashes_row_tie rfl ⟨rfl,rfl⟩ (by kernel_rfl) rfl
  (fun f fn hf hfn=>by
   obtain rfl:f=8:=Option.some.inj ((show Tryd.prog.funcNamed "nosale/nosalelaw08.StockClashes" =some 8 by kernel_rfl).symm.trans hf) |>.symm;obtain rfl:fn=Tryd.f8:=(Option.some.inj (Tryd.func8.symm.trans hfn)).symm;exact ⟨by kernel_rfl,fun j t ht=>by
    rw [paramsLClash] at ht;have hm:t ∈ [26,5]:=by simpa using Array.mem_of_getElem? ht
    have hall:([26,5].all fun u=> !Tryd.prog.wantsStandIn u)=true:=by kernel_rfl
    exact (show Tryd.prog.wantsStandIn t=false by simpa using List.all_eq_true.1 hall t hm)⟩)
  goesLClash
end Go.Proofs.YthccgklboafliaaDoor
