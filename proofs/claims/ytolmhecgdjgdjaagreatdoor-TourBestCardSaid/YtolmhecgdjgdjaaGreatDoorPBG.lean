/- The law holds at every input, on every schedule: it returns true, and what it was handed reads as it did. Conditions: those of the given statement alone. -/
import Derived.ProofKit
import Derived.SevenTiedAt
import Derived.Stop.Joined
import Derived.Test.YtolmhecgdjgdjaaGreatDoorCards
import Derived.Test.YtolmhecgdjgdjaaGreatDoorPBC
import Derived.Test.YtolmhecgdjgdjaaGreatDoorPBD
import Derived.Test.YtolmhecgdjgdjaaGreatDoorPBF
import Derived.Test.YtolmhecgdjgdjaaGreatDoorRows
import Derived.Test.YtolmhecgdjgdjaaGreatDoorTie
set_option linter.unusedVariables false
set_option linter.unusedSimpArgs false
set_option linter.unnecessarySimpa false
set_option linter.unusedSectionVars false
namespace Go.Ns
open Go.Conc Go.Proofs Go.ChangeShapes Go.WideShapes Go.ChangeAt Go.RowKit
set_option maxRecDepth 100000
def GJ(P:Program)(t:TypeId):Option (List<|TypeId×Nat):=match P.underlying t with
 | some (.struct fs)=>some<|fs.toList.map λf=>(f.type,f.offset)
 | _=>none
theorem Ib{P:Program}{t:TypeId}{l:List (TypeId×Nat)}(h:GJ P t=some l):∃fs,P.underlying t=some (.struct fs)/\fs.toList.map (λf=>(f.type,f.offset))=l:=by
 unfold GJ at h;split at h
 ·rename_i fs e;exact ⟨fs,e,Option.some.inj h⟩
 ·cases h
theorem Ja{H:Type}{en:TypeId×Value->H}{P:Program}{W:World}{base:Nat}{sp:Nat->Bool}{held:Bool}{fuel:Nat}{t:TypeId}{cs:List Value}{x:DataW H×List MemPlace}{l:List (TypeId×Nat)}(hs:GJ P t=some l)
  (h:DataW.trod en P W base sp held fuel t cs=some x):∃(xs:List (DataW H×List MemPlace))(n:Nat),x.1=.agg (xs.map (·.1))/\cs.length=P.cellsOf t/\xs.length=l.length/\
   ∀(i:Nat)(u:TypeId)(o:Nat),l[i]? =some (u,o)->∃y,xs[i]? =some y/\DataW.trod en P W base sp held n u ((cs.drop o).take (P.cellsOf u))=some y:=by
 obtain ⟨fs,hu,hl⟩:=Ib hs;obtain ⟨xs,n,rfl,hx,h1,h2,h3⟩:=DataW.trod_struct hu h;have hlen:l.length=fs.size:=by rw [<-hl];simp
 refine ⟨xs,n,by rw [hx],h1,aA,λi u o hi=>?_⟩;rw [<-hl,List.getElem?_map] at hi;obtain ⟨f,hf,e⟩:=Option.map_eq_some_iff.1 hi;cases e;have hf':fs[i]? =some f:=by rw [<-Array.getElem?_toList];exact hf
 have hy:=h3 i f hf';have hlt:i<xs.length:=by rw [h2];exact (Array.getElem?_eq_some_iff.1 hf').1
 exact ⟨xs[i],List.getElem?_eq_getElem hlt,by rw [hy,List.getElem?_eq_getElem hlt]⟩
theorem HD{H:Type}{en:TypeId×Value->H}{P:Program}{W:World}{base:Nat}{sp:Nat->Bool}{held:Bool}{fuel:Nat}{t:TypeId}{k:IntKind}{v:Value}{x:DataW H×List MemPlace}(ht:P.underlying t=some (.int k))(h:DataW.trod en P W base sp held fuel t [v]=some x):∃n,v=.int k n/\(Lit.int k n).wf=true:=by
 obtain ⟨n,e,_,w⟩:=DataW.trod_int ht h;exact ⟨n,by simpa using e,w⟩
theorem len4{V:Type}{l:List V}(h:l.length=4):∃a b c d,l=[a,b,c,d]:=by match l,h with | [a,b,c,d],_=>exact ⟨a,b,c,d,rfl⟩
theorem len5{V:Type}{l:List V}(h:l.length=5):∃a b c d e,l=[a,b,c,d,e]:=by match l,h with | [a,b,c,d,e],_=>exact ⟨a,b,c,d,e,rfl⟩
theorem HE{H:Type}{P:Program}{x:Nat}:∀{ts:List TypeId}{ds:List (DataW H)}{i:Nat}{t:TypeId}{d:DataW H},ts[i]? =some t->ds[i]? =some d->x ∈ d.weights P t->x ∈ DataW.weightsEach P ts ds
 | [],_,_,_,_,h,_,_=>by simp at h
 | _ ::_,[],_,_,_,_,h,_=>by simp at h
 | t' ::ts,d' ::ds,0,t,d,h1,h2,h3=>by
  simp at h1 h2;subst h1 h2;unfold DataW.weightsEach;exact List.mem_append_left _ h3
 | t' ::ts,d' ::ds,i+1,t,d,h1,h2,h3=>by
  unfold DataW.weightsEach;exact List.mem_append_right _<|HE (i:=i) (by simpa using h1) (by simpa using h2) h3
theorem LH{H:Type}{P:Program}{x:Nat}{t u:TypeId}{l:List (TypeId×Nat)}{i o:Nat}{parts:List (DataW H)}{d:DataW H}(hs:GJ P t=some l)(hi:l[i]? =some (u,o))(hd:parts[i]? =some d)(h:x ∈ d.weights P u):x ∈ (DataW.agg parts).weights P t:=by
 obtain ⟨fs,hu,hl⟩:=Ib hs;unfold DataW.weights;rw [hu];refine HE (i:=i) (t:=u) ?_ hd h;rw [<-hl,List.getElem?_map] at hi;obtain ⟨f,hf,e⟩:=Option.map_eq_some_iff.1 hi;cases e;rw [List.getElem?_map,hf];rfl
theorem len3{V:Type}{l:List V}(h:l.length=3):∃a b c,l=[a,b,c]:=by match l,h with | [a,b,c],_=>exact ⟨a,b,c,rfl⟩
theorem len6{V:Type}{l:List V}(h:l.length=6):∃a b c d e f,l=[a,b,c,d,e,f]:=by match l,h with | [a,b,c,d,e,f],_=>exact ⟨a,b,c,d,e,f,rfl⟩
theorem FH:Tryz.prog.underlying 3=some (.int .i64):=aB
theorem und_str:Tryz.prog.underlying 9=some .string:=aB
theorem und_ps:Tryz.prog.underlying 22=some (.slice 9):=aB
theorem byt_str:(Nat.ble 1<|Tryz.prog.bytesOf 9)=true:=aB
theorem und_ws:Tryz.prog.underlying 23=some (.slice 39):=aB
theorem byt_way:(Nat.ble 1<|Tryz.prog.bytesOf 39)=true:=aB
theorem und_js:Tryz.prog.underlying 24=some (.slice 54):=aB
theorem byt_job:(Nat.ble 1<|Tryz.prog.bytesOf 54)=true:=aB
theorem und_ns:Tryz.prog.underlying 25=some (.slice 83):=aB
theorem byt_note:(Nat.ble 1<|Tryz.prog.bytesOf 83)=true:=aB
theorem und_is:Tryz.prog.underlying 42=some (.slice 3):=aB
theorem Yf:(Nat.ble 1<|Tryz.prog.bytesOf 3)=true:=aB
theorem Tu:GJ Tryz.prog 27=some [(3,0),(3,1),(22,2),(23,3),(24,4),(25,5)]:=aB
theorem st_way:GJ Tryz.prog 39=some [(3,0),(3,1),(31,2)]:=aB
theorem st_job:GJ Tryz.prog 54=some [(3,0),(31,1),(3,3),(42,4)]:=aB
theorem Yg:GJ Tryz.prog 83=some [(42,0),(31,1)]:=aB
theorem Tv:GJ Tryz.prog 31=some [(3,0),(3,1)]:=aB
theorem cel_book:Tryz.prog.cellsOf 27=6:=aB
theorem Yh:Tryz.prog.cellsOf 39=4:=aB
theorem Yi:Tryz.prog.cellsOf 54=5:=aB
theorem Ve:Tryz.prog.cellsOf 83=3:=aB
theorem QW:Tryz.prog.cellsOf 31=2:=aB
theorem FI:Tryz.prog.cellsOf 3=1:=aB
theorem cel_str:Tryz.prog.cellsOf 9=1:=aB
theorem cel_ps:Tryz.prog.cellsOf 22=1:=aB
theorem cel_ws:Tryz.prog.cellsOf 23=1:=aB
theorem cel_js:Tryz.prog.cellsOf 24=1:=aB
theorem cel_ns:Tryz.prog.cellsOf 25=1:=aB
theorem cel_is:Tryz.prog.cellsOf 42=1:=aB
theorem Sb{W:World}:Ml Tryz.prog W 3 eI (λ_=>True):=by
 intro H en sp held fuel cs x h hw;obtain ⟨n,rfl,_,_⟩:=DataW.trod_int FH h;exact ⟨n,rfl,trivial⟩
theorem AAz{W:World}:Ml Tryz.prog W 9 Bw (λ_=>True):=by
 intro H en sp held fuel cs x h hw;obtain ⟨s,rfl,_,_⟩:=DataW.trod_string und_str h;exact ⟨s,rfl,trivial⟩
theorem AA0{W:World}:Ml Tryz.prog W 39 BF (λx=>True):=by
 intro H en sp held fuel cs x h hw;obtain ⟨xs,n,hx1,hl,_,hel⟩:=Ja st_way h;rw [Yh] at hl;obtain ⟨c0,c1,c2,c3,rfl⟩:=len4 hl;obtain ⟨⟨y0,q0⟩,f0,t0⟩:=hel 0 _ _ rfl;rw [FI] at t0;obtain ⟨n0,rfl,_⟩:=HD FH<|show DataW.trod en Tryz.prog W 0 sp held n 3 [c0]=some (y0,q0) from t0;obtain ⟨⟨y1,q1⟩,f1,t1⟩:=hel 1 _ _ rfl;rw [FI] at t1;obtain ⟨n1,rfl,_⟩:=HD FH<|show DataW.trod en Tryz.prog W 0 sp held n 3 [c1]=some (y1,q1) from t1;obtain ⟨⟨y2,q2⟩,f2,t2⟩:=hel 2 _ _ rfl;rw [QW] at t2;obtain ⟨zs,m,_,_,_,hez⟩:=Ja Tv<|show DataW.trod en Tryz.prog W 0 sp held n 31 [c2,c3]=some (y2,q2) from t2;obtain ⟨z0,_,w0⟩:=hez 0 _ _ rfl;rw [FI] at w0;obtain ⟨p0,rfl,_⟩:=HD FH<|show DataW.trod en Tryz.prog W 0 sp held m 3 [c2]=some z0 from w0;obtain ⟨z1,_,w1⟩:=hez 1 _ _ rfl;rw [FI] at w1;obtain ⟨p1,rfl,_⟩:=HD FH<|show DataW.trod en Tryz.prog W 0 sp held m 3 [c3]=some z1 from w1;exact ⟨⟨n0,n1,p0,p1⟩,rfl,trivial⟩
theorem AA1{W:World}:Ml Tryz.prog W 54 BC (λx=>AD (GH.of W) x.pv 1 eI x.parts):=by
 intro H en sp held fuel cs x h hw;obtain ⟨xs,n,hx1,hl,_,hel⟩:=Ja st_job h;rw [Yi] at hl;obtain ⟨c0,c1,c2,c3,c4,rfl⟩:=len5 hl;obtain ⟨⟨y0,q0⟩,f0,t0⟩:=hel 0 _ _ rfl;rw [FI] at t0;obtain ⟨n0,rfl,_⟩:=HD FH<|show DataW.trod en Tryz.prog W 0 sp held n 3 [c0]=some (y0,q0) from t0;obtain ⟨⟨y1,q1⟩,f1,t1⟩:=hel 1 _ _ rfl;rw [QW] at t1;obtain ⟨zs,m,_,_,_,hez⟩:=Ja Tv<|show DataW.trod en Tryz.prog W 0 sp held n 31 [c1,c2]=some (y1,q1) from t1;obtain ⟨z0,_,w0⟩:=hez 0 _ _ rfl;rw [FI] at w0;obtain ⟨p0,rfl,_⟩:=HD FH<|show DataW.trod en Tryz.prog W 0 sp held m 3 [c1]=some z0 from w0;obtain ⟨z1,_,w1⟩:=hez 1 _ _ rfl;rw [FI] at w1;obtain ⟨p1,rfl,_⟩:=HD FH<|show DataW.trod en Tryz.prog W 0 sp held m 3 [c2]=some z1 from w1;obtain ⟨⟨y2,q2⟩,f2,t2⟩:=hel 2 _ _ rfl;rw [FI] at t2;obtain ⟨n2,rfl,_⟩:=HD FH<|show DataW.trod en Tryz.prog W 0 sp held n 3 [c3]=some (y2,q2) from t2;obtain ⟨⟨y3,q3⟩,f3,t3⟩:=hel 3 _ _ rfl;rw [cel_is] at t3;obtain ⟨l3,g3,_⟩:=Im und_is FI aC (Nat.le_of_ble_eq_true Yf) Sb (show DataW.trod en Tryz.prog W 0 sp held n 42 [c4]=some (y3,q3) from t3) λz hz=>hw z (by rw [hx1];exact LH st_job (i:=3) rfl (by rw [List.getElem?_map,f3];rfl) hz);exact ⟨⟨n0,p0,p1,n2,c4,l3⟩,rfl,g3⟩
theorem Xw{W:World}:Ml Tryz.prog W 83 Ap (λx=>AD (GH.of W) x.wv 1 eI x.ways):=by
 intro H en sp held fuel cs x h hw;obtain ⟨xs,n,hx1,hl,_,hel⟩:=Ja Yg h;rw [Ve] at hl;obtain ⟨c0,c1,c2,rfl⟩:=len3 hl;obtain ⟨⟨y0,q0⟩,f0,t0⟩:=hel 0 _ _ rfl;rw [cel_is] at t0;obtain ⟨l0,g0,_⟩:=Im und_is FI aC (Nat.le_of_ble_eq_true Yf) Sb (show DataW.trod en Tryz.prog W 0 sp held n 42 [c0]=some (y0,q0) from t0) λz hz=>hw z (by rw [hx1];exact LH Yg (i:=0) rfl (by rw [List.getElem?_map,f0];rfl) hz);obtain ⟨⟨y1,q1⟩,f1,t1⟩:=hel 1 _ _ rfl;rw [QW] at t1;obtain ⟨zs,m,_,_,_,hez⟩:=Ja Tv<|show DataW.trod en Tryz.prog W 0 sp held n 31 [c1,c2]=some (y1,q1) from t1;obtain ⟨z0,_,w0⟩:=hez 0 _ _ rfl;rw [FI] at w0;obtain ⟨p0,rfl,_⟩:=HD FH<|show DataW.trod en Tryz.prog W 0 sp held m 3 [c1]=some z0 from w0;obtain ⟨z1,_,w1⟩:=hez 1 _ _ rfl;rw [FI] at w1;obtain ⟨p1,rfl,_⟩:=HD FH<|show DataW.trod en Tryz.prog W 0 sp held m 3 [c2]=some z1 from w1;exact ⟨⟨c0,l0,p0,p1⟩,rfl,g0⟩
theorem AA2{H:Type}{en:TypeId×Value->H}{W:World}{base:Nat}{sp:Nat->Bool}{held:Bool}{v:Value}{d:DataW H}{q:List MemPlace}(hv:Value.okWide Tryz.prog W .any base 27 v)(h:DataW.Trod en Tryz.prog W 0 sp held 27 v d q)(hw:∀x ∈ d.weights Tryz.prog 27,x<=reachBytes) :
  ∃(bag kinds:Int)(ps:List ByteArray)(ws:List AE)(js:List AO)(ns:List AJ)(psv wsv jsv nsv:Value),v=.agg #[.int .i64 bag,.int .i64 kinds,psv,wsv,jsv,nsv]/\AD (GH.of W) psv 1 Bw ps/\AD (GH.of W) wsv 4 BF ws/\AD (GH.of W) jsv 5 BC js/\Ar (GH.of W) js/\AD (GH.of W) nsv 3 Ap ns/\AY (GH.of W) ns:=by
 obtain ⟨fs,hu,_⟩:=Ib Tu;obtain ⟨cells,rfl,_,_⟩:∃cs,v=.agg cs/\cs.size=Tryz.prog.cellsOf 27/\Row.okWide Tryz.prog W .any base 27 cs:=by
  unfold Value.okWide at hv;rw [hu] at hv;exact hv
 obtain ⟨fuel,hf⟩:=h;obtain ⟨xs,n,hd,hl,_,hel⟩:=Ja Tu<|show DataW.trod en Tryz.prog W 0 sp held fuel 27 cells.toList=some (d,q) from hf;rw [cel_book] at hl;obtain ⟨c0,c1,c2,c3,c4,c5,hc⟩:=len6 hl;rw [hc] at hel;obtain ⟨y0,_,t0⟩:=hel 0 _ _ rfl;obtain ⟨y1,_,t1⟩:=hel 1 _ _ rfl;obtain ⟨⟨d2,p2⟩,e2,t2⟩:=hel 2 _ _ rfl;obtain ⟨⟨d3,p3⟩,e3,t3⟩:=hel 3 _ _ rfl;obtain ⟨⟨d4,p4⟩,e4,t4⟩:=hel 4 _ _ rfl;obtain ⟨⟨d5,p5⟩,e5,t5⟩:=hel 5 _ _ rfl;rw [FI] at t0 t1;rw [cel_ps] at t2;rw [cel_ws] at t3;rw [cel_js] at t4;rw [cel_ns] at t5;obtain ⟨bag,rfl,_⟩:=HD FH<|show DataW.trod en Tryz.prog W 0 sp held n 3 [c0]=some y0 from t0;obtain ⟨kinds,rfl,_⟩:=HD FH<|show DataW.trod en Tryz.prog W 0 sp held n 3 [c1]=some y1 from t1;have hwt:∀(i:Nat)(u:TypeId)(o:Nat)(d':DataW H),[(3,0),(3,1),(22,2),(23,3),(24,4),(25,5)][i]? =some (u,o)->(xs.map (·.1))[i]? =some d'->∀x ∈ d'.weights Tryz.prog u,x<=reachBytes:=λi u o d' hi hd' x hx=>hw x (by
  have hd1:d=.agg (xs.map (·.1)):=hd;rw [hd1];exact LH Tu hi hd' hx)
 obtain ⟨ps,g2,_⟩:=Im und_ps cel_str aC (Nat.le_of_ble_eq_true byt_str) AAz (show DataW.trod en Tryz.prog W 0 sp held n 22 [c2]=some (d2,p2) from t2) (hwt 2 _ _ d2 rfl<|by rw [List.getElem?_map,e2];rfl);obtain ⟨ws,g3,_⟩:=Im und_ws Yh aC (Nat.le_of_ble_eq_true byt_way) AA0 (show DataW.trod en Tryz.prog W 0 sp held n 23 [c3]=some (d3,p3) from t3) (hwt 3 _ _ d3 rfl<|by rw [List.getElem?_map,e3];rfl);obtain ⟨js,g4,gj⟩:=Im und_js Yi aC (Nat.le_of_ble_eq_true byt_job) AA1 (show DataW.trod en Tryz.prog W 0 sp held n 24 [c4]=some (d4,p4) from t4) (hwt 4 _ _ d4 rfl<|by rw [List.getElem?_map,e4];rfl);obtain ⟨ns,g5,gn⟩:=Im und_ns Ve aC (Nat.le_of_ble_eq_true byt_note) Xw (show DataW.trod en Tryz.prog W 0 sp held n 25 [c5]=some (d5,p5) from t5) (hwt 5 _ _ d5 rfl<|by rw [List.getElem?_map,e5];rfl);refine ⟨bag,kinds,ps,ws,js,ns,c2,c3,c4,c5,?_,g2,g3,g4,λk=>?_,g5,λk=>?_⟩
 ·congr 1;exact Array.toList_inj.1 (by rw [hc])
 ·by_cases hk:k<js.length
  ·exact gj _ (BQ hk)
  ·rw [CI aA];exact AD.nil _ _ _
 ·by_cases hk:k<ns.length
  ·exact gn _ (BQ hk)
  ·rw [CI aA];exact AD.nil _ _ _
theorem g_checks:Tryz.prog.globalNamed "nosale/tour.checks" =some 0:=aB
theorem AA3:(Tryz.prog.globals[0]?).map (·.type)=some 136:=aB
theorem Xx:Tryz.prog.underlying 136=some (.array 5 96):=aB
theorem Xy:Tryz.prog.cellsOf 136=5:=aB
theorem cel_fc:Tryz.prog.cellsOf 96=1:=aB
def Xz(P:Program)(t:TypeId):Bool:=match P.underlying t with
 | some (.func ..)=>true
 | _=>false
theorem Vf{P:Program}{t:TypeId}(h:Xz P t=true):∃ps rs va,P.underlying t=some (.func ps rs va):=by
 unfold Xz at h;split at h
 ·rename_i ps rs va e;exact ⟨ps,rs,va,e⟩
 ·cases h
theorem fn_c:Xz Tryz.prog 96=true:=aB
theorem one_153:((List.range Tryz.prog.funcs.size).filter λf=>(Tryz.prog.funcs[f]?).any (·.name.toUTF8.data.toList==[40,110,111,115,97,108,101,47,116,111,117,114,46,98,111,111,107,41,46,98,111,117,110,100,115]))=[153]:=aB
theorem one_154:((List.range Tryz.prog.funcs.size).filter λf=>(Tryz.prog.funcs[f]?).any (·.name.toUTF8.data.toList==[40,110,111,115,97,108,101,47,116,111,117,114,46,98,111,111,107,41,46,112,108,97,99,101,115]))=[154]:=aB
theorem one_155:((List.range Tryz.prog.funcs.size).filter λf=>(Tryz.prog.funcs[f]?).any (·.name.toUTF8.data.toList==[40,110,111,115,97,108,101,47,116,111,117,114,46,98,111,111,107,41,46,119,97,121,115]))=[155]:=aB
theorem one_156:((List.range Tryz.prog.funcs.size).filter λf=>(Tryz.prog.funcs[f]?).any (·.name.toUTF8.data.toList==[40,110,111,115,97,108,101,47,116,111,117,114,46,98,111,111,107,41,46,106,111,98,115]))=[156]:=aB
theorem one_157:((List.range Tryz.prog.funcs.size).filter λf=>(Tryz.prog.funcs[f]?).any (·.name.toUTF8.data.toList==[40,110,111,115,97,108,101,47,116,111,117,114,46,98,111,111,107,41,46,110,111,116,101,115]))=[157]:=aB
theorem var_elem{P:Program}{W:World}{nm:String}{g:Nat}{cs:Array Value}{n:Nat}(hg:P.globalNamed nm=some g)(h:W.var? P nm=some cs)(hn:cs.size=n):Ab (GH.of W) g 0 n cs:=by
 simp only [World.var?,hg,Option.bind_some] at h;split at h
 ·rename_i c t f e
  cases h;exact Ab.box (GH.of_some e) hn
 ·cases h
theorem glob_of{W:World} (h:laidMetH Tryz.prog [("nosale/tour.checks",YtolmhecgdjgdjaaGreatDoor.Rows.laid_nosale_tour_checks)] W):GN (GH.of W):=by
 obtain ⟨g,t,cs,fuel,p,hg,ht,hv,hd⟩:=h.funcs (n:= "nosale/tour.checks")<|List.mem_cons_self ..;obtain rfl:=Option.some.inj<|g_checks.symm.trans hg;obtain rfl:=Option.some.inj<|AA3.symm.trans ht;obtain ⟨xs,m,rfl,hx,hl,hxl,hel⟩:=DataW.trod_array Xx hd;rw [Xy] at hl;rw [cel_fc] at hel;show Ab (GH.of W) 0 0 5 OQ
 suffices e:cs=OQ by
  rw [<-e];exact var_elem hg hv (by simpa using hl)
 obtain ⟨c0,c1,c2,c3,c4,hc⟩:=len5 hl;rw [hc] at hel;obtain ⟨x0,x1,x2,x3,x4,rfl⟩:=len5 hxl;obtain ⟨ps,rs,va,hf⟩:=Vf fn_c;have hx1:=(Prod.mk.inj hx).1;simp only [List.map_cons,List.map_nil] at hx1;have q0:DataW.trod (funcToken Tryz.prog) Tryz.prog W 0 (λ_=>true) true m 96 [c0]=some x0:=hel 0 aC;have q1:DataW.trod (funcToken Tryz.prog) Tryz.prog W 0 (λ_=>true) true m 96 [c1]=some x1:=hel 1 aC;have q2:DataW.trod (funcToken Tryz.prog) Tryz.prog W 0 (λ_=>true) true m 96 [c2]=some x2:=hel 2 aC;have q3:DataW.trod (funcToken Tryz.prog) Tryz.prog W 0 (λ_=>true) true m 96 [c3]=some x3:=hel 3 aC;have q4:DataW.trod (funcToken Tryz.prog) Tryz.prog W 0 (λ_=>true) true m 96 [c4]=some x4:=hel 4 aC;have hy:[x0.1,x1.1,x2.1,x3.1,x4.1]=[.held [40,110,111,115,97,108,101,47,116,111,117,114,46,98,111,111,107,41,46,98,111,117,110,100,115],.held [40,110,111,115,97,108,101,47,116,111,117,114,46,98,111,111,107,41,46,112,108,97,99,101,115],.held [40,110,111,115,97,108,101,47,116,111,117,114,46,98,111,111,107,41,46,119,97,121,115],.held [40,110,111,115,97,108,101,47,116,111,117,114,46,98,111,111,107,41,46,106,111,98,115],.held [40,110,111,115,97,108,101,47,116,111,117,114,46,98,111,111,107,41,46,110,111,116,101,115]]:=DataW.agg.inj hx1.symm;simp only [List.cons.injEq,and_true] at hy;obtain ⟨k0,k1,k2,k3,k4⟩:=hy;obtain rfl:=func_of_trod (q:=x0.2) hf one_153 (by rw [q0,<-k0]);obtain rfl:=func_of_trod (q:=x1.2) hf one_154 (by rw [q1,<-k1]);obtain rfl:=func_of_trod (q:=x2.2) hf one_155 (by rw [q2,<-k2]);obtain rfl:=func_of_trod (q:=x3.2) hf one_156 (by rw [q3,<-k3]);obtain rfl:=func_of_trod (q:=x4.2) hf one_157 (by rw [q4,<-k4]);exact Array.toList_inj.1 (by rw [hc];rfl)
end Go.Ns
namespace Go.Proofs.YtolmhecgdjgdjaaGreatDoor
open Go Go.Ns Go.Conc Go.ChangeShapes Go.WideShapes Go.ChangeAt Go.RowKit
set_option maxRecDepth 100000
theorem ownLB:ownKnob Tryz.prog.godebug=Option.none:=aB
theorem Sd:laidOutB Tryz.prog=true:=aB
theorem Vg:Tryz.f5.params=#[27,41]:=aB
theorem boolLB:Tryz.prog.underlying 4=some .bool:=aB
theorem X3(os:Os)(args:Array Value):laidMetH Tryz.prog [("nosale/tour.checks",Rows.laid_nosale_tour_checks)] ((World.doorLaid Tryz.prog 600 os).forCall (λ_ _=>0) ⟨#[],args,[]⟩).memory:=
 laidMetH_of_parts3 (fuel:=8) (laidMet_of_run' 8 aB<|aB) aB aB
theorem und_u16:Tryz.prog.underlying 41=some (.int .u16):=aB
theorem AA4{n:Int}(w:(Lit.int .u16 n).wf=true):0<=n/\n<=65535:=by
 simp [Lit.wf,IntKind.min,IntKind.max,IntKind.signed,IntKind.bits] at w;omega
theorem liftedLB(os:Os)(started:os.Started)(H:Type)(enc:TypeId×Value->H) :
  ReturnsInLeavingWide {} Tryz.checked os 5 .any (λw args=>(Rows.tourBestSpec.pre enc Tryz.prog Tryz.f5 [] false w args/\laidMetH Tryz.prog [("nosale/tour.checks",Rows.laid_nosale_tour_checks)] w)/\sizedMet enc Tryz.prog Tryz.f5 (OpenSpec.ofChange Rows.tourBestSpec) false w args)
   (Rows.tourBestSpec.post enc Tryz.prog Tryz.f5 false true false false):=by
 refine returnsInLeavingWide_of_good (C:=Tryz.checked) ownLB started
  (ChangeSpec.witness_shaped (enc:=enc) (C:=Tryz.checked) (os:=os) (X:=λw _=>laidMetH Tryz.prog [("nosale/tour.checks",Rows.laid_nosale_tour_checks)] w) false (World.doorLaid Tryz.prog 600 os) #[.agg #[.int .i64 0,.int .i64 0,.slice none 0 0,.slice none 0 0,.slice none 0 0,.slice none 0 0],.int .u16 0] 8 rfl (World.shaped_of_RefB aB<|aB) aB aB aB (X3 os _)) ?_
 intro w tape i _ _ _ hok hpre _;generalize hWd:w.forCall tape i=W at hok hpre ⊢;obtain ⟨_,_,_,fn',hfn',_,_,_,_,hval0⟩:=hok;obtain rfl:fn'=Tryz.f5:=Option.some.inj<|hfn'.symm.trans Tryz.func5;obtain ⟨⟨⟨ds,gs,before,hw,_⟩,hx⟩,hz⟩:=hpre;have hW:=DataW.Whole.of_heap (w':=W) (by rfl) hw;have hlaid:laidMetH Tryz.prog [("nosale/tour.checks",Rows.laid_nosale_tour_checks)] W:=laidMetH.of_heap (by rfl) hx;have hsz:=hz.weights hw;have hW':=hW;obtain ⟨p,q,hA0,hV,rfl,_,_⟩:=hW;have hA:DataW.TrodAll enc Tryz.prog W 0 (λ_=>true) true Tryz.f5.params.toList i.args.toList ds p:=hA0;have hval:∀(j:Nat) t v,Tryz.f5.params[j]? =some t->i.args[j]? =some v->Value.okWide Tryz.prog W .any w.heap.size t v:=hval0;rw [Vg] at hA hval hsz;obtain ⟨rfl,rfl⟩:=trodVars_none hV;obtain ⟨v0,v1,d0,d1,p0,p1,hargs,rfl,rfl,h0,h1⟩:=trodAll_two hA;rw [hargs] at hval hW' ⊢;have hsz2:(DataW.weightsEach Tryz.prog [27,41] [d0,d1]).all (·<=reachBytes)=true:=hsz;simp only [List.append_nil] at hW';have hwt:∀x ∈ DataW.weightsEach Tryz.prog [27,41] [d0,d1],x<=reachBytes:=λx hx=>by simpa using List.all_eq_true.1 hsz2 x hx
 obtain ⟨bag,kinds,ps,ws,js,ns,psv,wsv,jsv,nsv,rfl,hps,hws,hjs,hijs,hns,hins⟩:=AA2 (hval 0 27 _ rfl rfl) h0<|λx hx=>hwt x<|HE (i:=0) rfl rfl hx;have hk1:=h1;obtain ⟨n1,rfl,hd1,hp1,wf1⟩:=open_int und_u16 (hval 1 41 _ rfl rfl) h1;have hr1:=AA4 wf1;have hmain:=RD (Post:=λv w'=>v=.bool true/\∀(b:Nat)(o:Obj),W.heap[b]? =some o->w'.heap[b]? =some o) (h:=GH.of W) (λh' l w' fw=>⟨rfl,λb o hb=>kept_of l fw hb⟩) bag kinds ps psv ws wsv js jsv ns nsv n1 hps hws hjs hijs hns hins (glob_of hlaid) hr1;obtain ⟨N,last,o,w',t',r1,r2,r3,r4⟩:=Wj hmain;refine ⟨N,last,o,w',t',r1,r2,r3,r4.mono λv hp=>ChangeSpec.post_blind ?_⟩;obtain ⟨⟨rfl,hkeep⟩,hos,hout⟩:=hp;have hlt:∀x ∈ p0++p1,x.block<W.heap.size:=λx hx=>hW'.lt x hx;refine ⟨_,_,_,[],p0++p1,[],hW',?_,?_,rfl,kept_but hkeep hos hout _,λh=>by cases h⟩
 ·exact trodAll_mk1 (shut_bool boolLB true)
 ·exact trodAll_mk2 (R4 Sd aB (of_decide_eq_true<|aB) h0 hkeep λx hx=>hlt x<|List.mem_append_left _ (hx)) (R4 Sd aB (of_decide_eq_true<|aB) h1 hkeep λx hx=>hlt x<|List.mem_append_right _ hx)
theorem Tw:Rows.TourBestSaid:=
 OpenClaim.holds_of_wide_leaving 5 Tryz.f5 rfl rfl rfl rfl rfl rfl rfl ⟨rfl,rfl,rfl,rfl,rfl⟩ rfl rfl rfl rfl rfl aB Tryz.func5 aB
  (of_decide_eq_true<|aB) (by unfold Func.isWrapper;first | (rw [if_pos (by decide +kernel)];kernel_rfl) | (rw [if_neg (by decide +kernel)];exact ⟨rfl,rfl⟩))
  (λos started H enc _=>liftedLB os started H enc)
theorem goesLB:true=Rows.tourBestRow.goesBy Tryz.pinned.checked.prog:=aB
theorem MG{p:Pinned}{s:OpenSpec}{c:OpenClaim}(kinds:List LaidKind)(tests:Bool)(har:Bool×String)(lk:Bool)(hc:c.holds p s)(hw:c.wfByText s=true)(htie:c.laidByTextAt .later p kinds tests)
  (hst:c.start=.entering) (hnb:c.noBlocks=false/\c.again=false) (hm:p.checked.prog.mainIs=some (har.1,har.2.toList)) (hn:(!har.1 && har.2.isEmpty && !lk)=false)
  (hl:∀f fn,p.checked.prog.funcNamed c.func=some f->p.checked.prog.funcs[f]? =some fn->lk=p.checked.prog.looks []/\∀(j:Nat) t,fn.params[j]? =some t->p.checked.prog.wantsStandIn t=false) (hg:true=c.goesBy p.checked.prog) :
  Claim7.holds p (.plain s) { stood:={ row:=c,standIns:=[],harness:=har,looks:=lk },kinds:=[],alts:=[],goes:=true,laidByText:=true,laidKinds:=kinds,laidTests:=tests,laidLooks:=.later }:=by
 have h6:∀r:OpenClaim,Claim7.isSixth { stood:={ row:=r,standIns:=[],harness:=har,looks:=lk },kinds:=[] }=false:=λr=>by simpa [Claim7.isSixth] using hn
 exact ⟨Claim7.tied_new_at .later kinds tests (Claim7.new_of_sixth hc har lk hst hnb hm (h6 c) hl) hw,(λD hD=>by cases hD),htie,(λh=>by cases h),hg⟩
theorem tourBest_holds:Rows.TourBestCardSaid:=
 MG [.funcs] true (true, "fadb5f2c76f57f2b4dcec62321bc75cd54904853a79f0ea8de21afe0aabae1fe") false Tw aB tourBest_row_tie rfl ⟨rfl,rfl⟩ aB rfl
  (λf fn hf hfn=>by
   obtain rfl:f=5:=Option.some.inj ((show Tryz.prog.funcNamed "nosale/nosalelaw09.TourBest" =some 5 by kernel_rfl).symm.trans hf) |>.symm;obtain rfl:fn=Tryz.f5:=(Option.some.inj<|Tryz.func5.symm.trans hfn).symm;exact ⟨aB,λj t ht=>by
    rw [Vg] at ht;have hm:t ∈ [27,41]:=by simpa using Array.mem_of_getElem? ht
    have hall:([27,41].all λu=> !Tryz.prog.wantsStandIn u)=true:=aB
    exact (show Tryz.prog.wantsStandIn t=false by simpa using List.all_eq_true.1 hall t hm)⟩)
  goesLB
end Go.Proofs.YtolmhecgdjgdjaaGreatDoor
