import Derived.Test.YtppbogklbhfboaaT1
import Derived.Test.YtppbogklbhfboaaTab1
import Derived.Test.YtppbogklbhfboaaE2
set_option linter.unusedVariables false
set_option linter.unusedSimpArgs false
namespace Go.Proofs.Ytppbogklbhfboaa.AE
open Go Go.AE Go.Proofs Go.RowKit Go.Maps
set_option linter.unusedVariables false
set_option maxHeartbeats 4000000
set_option maxRecDepth 100000
noncomputable section
theorem aX.T {F:Nat} {aa:Sl} {H:Hp} {v:AV} {H':Hp} (h:aX.tw F aa H = some (v,H')):Go.AE.T Try.prog 105 [(.sl aa)] H v H':=
 Go.AE.T.of (Y:=tabs) (C:=mkOrc (aX.cs F)) (PN:=aX.pn) (LH:=aX.lh F) (F:=F) (TB:=aX.tb) (fn:=Try.f105) (code:=aX.code) mixed tabs_ok (mkOrc_ok (aX.cs_ok F)) Try.func105 (by kernel_rfl) (by kernel_rfl) aX.ok (Nat.le_of_ble_eq_true (by kernel_rfl)) (aX.loops F) (Eq.trans (aX.eqX F aa H) h)
theorem aX.mk_T {F:Nat} {args:List AV} {H:Hp} {v:AV} {H':Hp} (h:aX.mk (aX.tw F) args H = some (v,H')):Go.AE.T Try.prog 105 args H v H':=by
 unfold aX.mk at h
 split at h
 ·exact aX.T h
 ·cases h
def bj.twX (F:Nat) (ly:Sl→Hp→OA) (aa:Sl) (H:Hp):OA:=(bif ((aa.n:Int) == 0) then (some ((.int .i64 0),H)) else ((ly aa H).bind fun r2=>((r2.1).asI .i64).bind fun n3=>some ((.int .i64 (IntKind.i64.wrap (n3 + 1))),r2.2)))
def bj.tw (F:Nat) (aa:Sl) (H:Hp):OA:=bj.twX F (aX.tw F) aa H
def bj.code:Go.Code:=(Try.f69.body).getD .skip
def bj.lh (F:Nat) (ly:Sl→Hp→OA) (p:Nat) (ks:List Nat) (n:Nat) (tm:Tm) (H:Hp):OA:=none
def bj.pn:Nat→List Nat:=fun i=>(([]:List (Nat×List Nat)).lookup i).getD []
def bj.tb:Nat→List (List Nat):=fun i=>(([]:List (Nat×List (List Nat))).lookup i).getD []
def bj.mk (g:Sl→Hp→OA) (args:List AV) (H:Hp):OA:=match args with
 | [(.sl aa)]=>g aa H
 | _=>none
def bj.cs (F:Nat) (ly:Sl→Hp→OA):List (FuncId×(List AV→Hp→OA)):=[(105,aX.mk ly)]
theorem bj.loops (F:Nat) (ly:Sl→Hp→OA):LoopsOk tabs (mkOrc (bj.cs F ly)) bj.pn (bj.lh F ly) F [] 1 bj.code (fun tm H=>aresults tabs.ty H tm Try.f69.results.toList fun v=>some (v,H)) (fun _ _ _=>none) (fun tm H=>aresults tabs.ty H tm Try.f69.results.toList fun v=>some (v,H)):=by
 exact loops_none (by kernel_rfl)
theorem bj.eqX (F:Nat) (ly:Sl→Hp→OA) (aa:Sl) (H:Hp):aCode tabs (mkOrc (bj.cs F ly)) bj.pn (bj.lh F ly) F [] 1 bj.code (argTm [(.sl aa)]) H (fun tm H=>aresults tabs.ty H tm Try.f69.results.toList fun v=>some (v,H)) (fun _ _ _=>none) (fun tm H=>aresults tabs.ty H tm Try.f69.results.toList fun v=>some (v,H)) = bj.twX F ly aa H:=by kernel_rfl
theorem bj.cs_ok (F:Nat):∀ p ∈ bj.cs F (aX.tw F),∀ args H v H',p.2 args H = some (v,H')→Go.AE.T Try.prog p.1 args H v H':=by
 intro p hp
 simp only [bj.cs,List.mem_cons,List.not_mem_nil,or_false] at hp
 subst hp
 exact fun args H v H' h=>aX.mk_T h
theorem bj.ok:codeOk bj.pn Try.f69.ntmps bj.tb bj.code = true:=by kernel_rfl
theorem bj.T {F:Nat} {aa:Sl} {H:Hp} {v:AV} {H':Hp} (h:bj.tw F aa H = some (v,H')):Go.AE.T Try.prog 69 [(.sl aa)] H v H':=
 Go.AE.T.of (Y:=tabs) (C:=mkOrc (bj.cs F (aX.tw F))) (PN:=bj.pn) (LH:=bj.lh F (aX.tw F)) (F:=F) (TB:=bj.tb) (fn:=Try.f69) (code:=bj.code) mixed tabs_ok (mkOrc_ok (bj.cs_ok F)) Try.func69 (by kernel_rfl) (by kernel_rfl) bj.ok (Nat.le_of_ble_eq_true (by kernel_rfl)) (bj.loops F (aX.tw F)) (Eq.trans (bj.eqX F (aX.tw F) aa H) h)
theorem bj.mk_T {F:Nat} {args:List AV} {H:Hp} {v:AV} {H':Hp} (h:bj.mk (bj.tw F) args H = some (v,H')):Go.AE.T Try.prog 69 args H v H':=by
 unfold bj.mk at h
 split at h
 ·exact bj.T h
 ·cases h
def bv.twX (F:Nat) (db:Sl→Hp→OA) (fo:Int→Int→Int→Hp→OA) (lz:Sl→Hp→OA) (lA:Sl→Int→Hp→OA) (aO:Sl→Int→Sl→Sl→Hp→OA) (lB:Sl→Hp→OA) (bq:Sl→Int→Sl→Sl→Hp→OA) (br:Sl→Hp→OA) (aa:Sl) (ab:Int) (H:Hp):OA:=(Hp.new H [(.sl aa),(.int .i64 ab)]).bind fun H3=>(Hp.new H3 [.sl ⟨none,0,.ex 0⟩,.sl ⟨none,0,.ex 0⟩]).bind fun H4=>(Hp.ldSl H4 H.length 0).bind fun s5=>(db s5 H4).bind fun r6=>((r6.1).asI .i64).bind fun n7=>(bif (decide (n7 > 10)) then ((Hp.st r6.2 H3.length 0 (.sl (⟨none,0,.ex 0⟩:Sl))).bind fun H8=>(Hp.st H8 H3.length (0 + 1) (.sl (⟨none,0,.ex 0⟩:Sl))).bind fun H9=>(Hp.ldSl H9 H3.length 0).bind fun s10=>(Hp.ldSl H9 H3.length (0 + 1)).bind fun s11=>some ((.tup [(.agg [(.sl s10),(.sl s11)]),(.bool false)]),H9)) else ((Hp.ldI r6.2 .i64 H.length 1).bind fun n12=>(fo n12 0 8 r6.2).bind fun r13=>((r13.1).asB).bind fun b14=>(bif (!b14) then ((Hp.st r13.2 H3.length 0 (.sl (⟨none,0,.ex 0⟩:Sl))).bind fun H15=>(Hp.st H15 H3.length (0 + 1) (.sl (⟨none,0,.ex 0⟩:Sl))).bind fun H16=>(Hp.ldSl H16 H3.length 0).bind fun s17=>(Hp.ldSl H16 H3.length (0 + 1)).bind fun s18=>some ((.tup [(.agg [(.sl s17),(.sl s18)]),(.bool false)]),H16)) else ((Hp.ldSl r13.2 H.length 0).bind fun s19=>(lz s19 r13.2).bind fun r20=>((r20.1).asB).bind fun b21=>(bif b21 then ((Hp.st r20.2 H3.length 0 (.sl (⟨none,0,.ex 0⟩:Sl))).bind fun H22=>(Hp.st H22 H3.length (0 + 1) (.sl (⟨none,0,.ex 0⟩:Sl))).bind fun H23=>(Hp.ldSl H23 H3.length 0).bind fun s24=>(Hp.ldSl H23 H3.length (0 + 1)).bind fun s25=>some ((.tup [(.agg [(.sl s24),(.sl s25)]),(.bool false)]),H23)) else ((Hp.ldSl r20.2 H.length 0).bind fun s26=>(Hp.ldI r20.2 .i64 H.length (0 + 1)).bind fun n27=>(lA s26 n27 r20.2).bind fun r28=>((r28.1).asTup 2).bind fun l29=>(l29[0]?).bind fun v30=>((v30).asAgg 2).bind fun l31=>(l31[0]?).bind fun v32=>((v32).asSl).bind fun s33=>(l31[1]?).bind fun v34=>((v34).asSl).bind fun s35=>(l29[1]?).bind fun v36=>((v36).asB).bind fun b37=>(Hp.new r28.2 [.sl ⟨none,0,.ex 0⟩,.sl ⟨none,0,.ex 0⟩]).bind fun H38=>(Hp.st H38 r28.2.length 0 (.sl s33)).bind fun H39=>(Hp.st H39 r28.2.length (0 + 1) (.sl s35)).bind fun H40=>(bif (!b37) then ((Hp.st H40 H3.length 0 (.sl (⟨none,0,.ex 0⟩:Sl))).bind fun H41=>(Hp.st H41 H3.length (0 + 1) (.sl (⟨none,0,.ex 0⟩:Sl))).bind fun H42=>(Hp.ldSl H42 H3.length 0).bind fun s43=>(Hp.ldSl H42 H3.length (0 + 1)).bind fun s44=>some ((.tup [(.agg [(.sl s43),(.sl s44)]),(.bool false)]),H42)) else ((Hp.ldSl H40 H.length 0).bind fun s45=>(Hp.ldI H40 .i64 H.length (0 + 1)).bind fun n46=>(Hp.ldSl H40 r28.2.length 0).bind fun s47=>(Hp.ldSl H40 r28.2.length (0 + 1)).bind fun s48=>(aO s45 n46 s47 s48 H40).bind fun r49=>((r49.1).asSl).bind fun s50=>(if Cons H40 r49.2 then ((lB s50 r49.2).bind fun r51=>((r51.1).asI .i64).bind fun n52=>(if Cons r49.2 r51.2 then ((Hp.ldSl r51.2 H.length 0).bind fun s53=>(Hp.ldI r51.2 .i64 H.length (0 + 1)).bind fun n54=>(Hp.ldSl r51.2 r28.2.length 0).bind fun s55=>(Hp.ldSl r51.2 r28.2.length (0 + 1)).bind fun s56=>(bq s53 n54 s55 s56 r51.2).bind fun r57=>((r57.1).asSl).bind fun s58=>(br s58 r57.2).bind fun r59=>((r59.1).asI .i64).bind fun n60=>(bif (n52 != (IntKind.i64.wrap (n7 + (IntKind.i64.wrap (2 * n60))))) then ((Hp.st r59.2 H3.length 0 (.sl (⟨none,0,.ex 0⟩:Sl))).bind fun H61=>(Hp.st H61 H3.length (0 + 1) (.sl (⟨none,0,.ex 0⟩:Sl))).bind fun H62=>(Hp.ldSl H62 H3.length 0).bind fun s63=>(Hp.ldSl H62 H3.length (0 + 1)).bind fun s64=>some ((.tup [(.agg [(.sl s63),(.sl s64)]),(.bool false)]),H62)) else ((Hp.ldSl r59.2 r28.2.length 0).bind fun s65=>(Hp.ldSl r59.2 r28.2.length (0 + 1)).bind fun s66=>(Hp.st r59.2 H3.length 0 (.sl s65)).bind fun H67=>(Hp.st H67 H3.length (0 + 1) (.sl s66)).bind fun H68=>(Hp.ldSl H68 H3.length 0).bind fun s69=>(Hp.ldSl H68 H3.length (0 + 1)).bind fun s70=>some ((.tup [(.agg [(.sl s69),(.sl s70)]),(.bool true)]),H68)))) else none)) else none)))))))))
def bv.tw (F:Nat) (aa:Sl) (ab:Int) (H:Hp):OA:=bv.twX F (bx.tw F) (bD.tw F) (bY.tw F) (aI.tw F) (aq.tw F) (cp.tw F) (aK.tw F) (bj.tw F) aa ab H
def bv.code:Go.Code:=(Try.f33.body).getD .skip
def bv.lh (F:Nat) (db:Sl→Hp→OA) (fo:Int→Int→Int→Hp→OA) (lz:Sl→Hp→OA) (lA:Sl→Int→Hp→OA) (aO:Sl→Int→Sl→Sl→Hp→OA) (lB:Sl→Hp→OA) (bq:Sl→Int→Sl→Sl→Hp→OA) (br:Sl→Hp→OA) (p:Nat) (ks:List Nat) (n:Nat) (tm:Tm) (H:Hp):OA:=none
def bv.pn:Nat→List Nat:=fun i=>(([(5,[10,11])]:List (Nat×List Nat)).lookup i).getD []
def bv.tb:Nat→List (List Nat):=fun i=>(([(5,[[],[0],[0,1],[0,1,2],[0,1,2],[0,1,2,3,4],[0,1,2,3,4,5],[0,1,2],[0,1,2],[0,1,2],[0,1,2,3,4,5,6,8,9],[0,1,2,3,4,5,6,8,9,10],[0,1,2,3,4,5,6,8,9,10,11],[0,1,2,3,4,5,6,7,8,9,10,11,12],[0,1,2,3,4,5,6,7,8,9,10,11,12,13],[0,1,2,3,4,5,6,7,8,9,10,11,12,13,14]])]:List (Nat×List (List Nat))).lookup i).getD []
def bv.mk (g:Sl→Int→Hp→OA) (args:List AV) (H:Hp):OA:=match args with
 | [(.agg [(.sl aa),(.int .i64 ab)])]=>g aa ab H
 | _=>none
def bv.cs (F:Nat) (db:Sl→Hp→OA) (fo:Int→Int→Int→Hp→OA) (lz:Sl→Hp→OA) (lA:Sl→Int→Hp→OA) (aO:Sl→Int→Sl→Sl→Hp→OA) (lB:Sl→Hp→OA) (bq:Sl→Int→Sl→Sl→Hp→OA) (br:Sl→Hp→OA):List (FuncId×(List AV→Hp→OA)):=[(62,bx.mk db),(63,bD.mk fo),(64,bY.mk lz),(66,aI.mk lA),(68,aq.mk aO),(67,cp.mk lB),(70,aK.mk bq),(69,bj.mk br)]
theorem bv.loops (F:Nat) (db:Sl→Hp→OA) (fo:Int→Int→Int→Hp→OA) (lz:Sl→Hp→OA) (lA:Sl→Int→Hp→OA) (aO:Sl→Int→Sl→Sl→Hp→OA) (lB:Sl→Hp→OA) (bq:Sl→Int→Sl→Sl→Hp→OA) (br:Sl→Hp→OA):LoopsOk tabs (mkOrc (bv.cs F db fo lz lA aO lB bq br)) bv.pn (bv.lh F db fo lz lA aO lB bq br) F [] 1 bv.code (fun tm H=>aresults tabs.ty H tm Try.f33.results.toList fun v=>some (v,H)) (fun _ _ _=>none) (fun tm H=>aresults tabs.ty H tm Try.f33.results.toList fun v=>some (v,H)):=by
 exact loops_none (by kernel_rfl)
theorem bv.eqX (F:Nat) (db:Sl→Hp→OA) (fo:Int→Int→Int→Hp→OA) (lz:Sl→Hp→OA) (lA:Sl→Int→Hp→OA) (aO:Sl→Int→Sl→Sl→Hp→OA) (lB:Sl→Hp→OA) (bq:Sl→Int→Sl→Sl→Hp→OA) (br:Sl→Hp→OA) (aa:Sl) (ab:Int) (H:Hp):aCode tabs (mkOrc (bv.cs F db fo lz lA aO lB bq br)) bv.pn (bv.lh F db fo lz lA aO lB bq br) F [] 1 bv.code (argTm [(.agg [(.sl aa),(.int .i64 ab)])]) H (fun tm H=>aresults tabs.ty H tm Try.f33.results.toList fun v=>some (v,H)) (fun _ _ _=>none) (fun tm H=>aresults tabs.ty H tm Try.f33.results.toList fun v=>some (v,H)) = bv.twX F db fo lz lA aO lB bq br aa ab H:=by kernel_rfl
theorem bv.cs_ok (F:Nat):∀ p ∈ bv.cs F (bx.tw F) (bD.tw F) (bY.tw F) (aI.tw F) (aq.tw F) (cp.tw F) (aK.tw F) (bj.tw F),∀ args H v H',p.2 args H = some (v,H')→Go.AE.T Try.prog p.1 args H v H':=by
 intro p hp
 simp only [bv.cs,List.mem_cons,List.not_mem_nil,or_false] at hp
 rcases hp with rfl | rfl | rfl | rfl | rfl | rfl | rfl | rfl
 ·exact fun args H v H' h=>bx.mk_T h
 ·exact fun args H v H' h=>bD.mk_T h
 ·exact fun args H v H' h=>bY.mk_T h
 ·exact fun args H v H' h=>aI.mk_T h
 ·exact fun args H v H' h=>aq.mk_T h
 ·exact fun args H v H' h=>cp.mk_T h
 ·exact fun args H v H' h=>aK.mk_T h
 ·exact fun args H v H' h=>bj.mk_T h
theorem bv.ok:codeOk bv.pn Try.f33.ntmps bv.tb bv.code = true:=by kernel_rfl
theorem bv.T {F:Nat} {aa:Sl} {ab:Int} {H:Hp} {v:AV} {H':Hp} (h:bv.tw F aa ab H = some (v,H')):Go.AE.T Try.prog 33 [(.agg [(.sl aa),(.int .i64 ab)])] H v H':=
 Go.AE.T.of (Y:=tabs) (C:=mkOrc (bv.cs F (bx.tw F) (bD.tw F) (bY.tw F) (aI.tw F) (aq.tw F) (cp.tw F) (aK.tw F) (bj.tw F))) (PN:=bv.pn) (LH:=bv.lh F (bx.tw F) (bD.tw F) (bY.tw F) (aI.tw F) (aq.tw F) (cp.tw F) (aK.tw F) (bj.tw F)) (F:=F) (TB:=bv.tb) (fn:=Try.f33) (code:=bv.code) mixed tabs_ok (mkOrc_ok (bv.cs_ok F)) Try.func33 (by kernel_rfl) (by kernel_rfl) bv.ok (Nat.le_of_ble_eq_true (by kernel_rfl)) (bv.loops F (bx.tw F) (bD.tw F) (bY.tw F) (aI.tw F) (aq.tw F) (cp.tw F) (aK.tw F) (bj.tw F)) (Eq.trans (bv.eqX F (bx.tw F) (bD.tw F) (bY.tw F) (aI.tw F) (aq.tw F) (cp.tw F) (aK.tw F) (bj.tw F) aa ab H) h)
theorem bv.mk_T {F:Nat} {args:List AV} {H:Hp} {v:AV} {H':Hp} (h:bv.mk (bv.tw F) args H = some (v,H')):Go.AE.T Try.prog 33 args H v H':=by
 unfold bv.mk at h
 split at h
 ·exact bv.T h
 ·cases h
def bW.twX (F:Nat) (fu:Sl→Int→Hp→OA) (aa:Sl) (ab:Int) (H:Hp):OA:=(Hp.new H [(.sl aa),(.int .i64 ab)]).bind fun H3=>(Hp.ldSl H3 H.length 0).bind fun s4=>(Hp.ldI H3 .i64 H.length (0 + 1)).bind fun n5=>(fu s4 n5 H3).bind fun r6=>((r6.1).asTup 2).bind fun l7=>(l7[0]?).bind fun v8=>((v8).asAgg 2).bind fun l9=>(l9[0]?).bind fun v10=>((v10).asSl).bind fun s11=>(l9[1]?).bind fun v12=>((v12).asSl).bind fun s13=>(l7[1]?).bind fun v14=>((v14).asB).bind fun b15=>(Hp.new r6.2 [.sl ⟨none,0,.ex 0⟩,.sl ⟨none,0,.ex 0⟩]).bind fun H16=>(Hp.st H16 r6.2.length 0 (.sl s11)).bind fun H17=>(Hp.st H17 r6.2.length (0 + 1) (.sl s13)).bind fun H18=>some ((.bool b15),H18)
def bW.tw (F:Nat) (aa:Sl) (ab:Int) (H:Hp):OA:=bW.twX F (bv.tw F) aa ab H
def bW.code:Go.Code:=(Try.f60.body).getD .skip
def bW.lh (F:Nat) (fu:Sl→Int→Hp→OA) (p:Nat) (ks:List Nat) (n:Nat) (tm:Tm) (H:Hp):OA:=none
def bW.pn:Nat→List Nat:=fun i=>(([]:List (Nat×List Nat)).lookup i).getD []
def bW.tb:Nat→List (List Nat):=fun i=>(([]:List (Nat×List (List Nat))).lookup i).getD []
def bW.mk (g:Sl→Int→Hp→OA) (args:List AV) (H:Hp):OA:=match args with
 | [(.agg [(.sl aa),(.int .i64 ab)])]=>g aa ab H
 | _=>none
def bW.cs (F:Nat) (fu:Sl→Int→Hp→OA):List (FuncId×(List AV→Hp→OA)):=[(33,bv.mk fu)]
theorem bW.loops (F:Nat) (fu:Sl→Int→Hp→OA):LoopsOk tabs (mkOrc (bW.cs F fu)) bW.pn (bW.lh F fu) F [] 1 bW.code (fun tm H=>aresults tabs.ty H tm Try.f60.results.toList fun v=>some (v,H)) (fun _ _ _=>none) (fun tm H=>aresults tabs.ty H tm Try.f60.results.toList fun v=>some (v,H)):=by
 exact loops_none (by kernel_rfl)
theorem bW.eqX (F:Nat) (fu:Sl→Int→Hp→OA) (aa:Sl) (ab:Int) (H:Hp):aCode tabs (mkOrc (bW.cs F fu)) bW.pn (bW.lh F fu) F [] 1 bW.code (argTm [(.agg [(.sl aa),(.int .i64 ab)])]) H (fun tm H=>aresults tabs.ty H tm Try.f60.results.toList fun v=>some (v,H)) (fun _ _ _=>none) (fun tm H=>aresults tabs.ty H tm Try.f60.results.toList fun v=>some (v,H)) = bW.twX F fu aa ab H:=by kernel_rfl
theorem bW.cs_ok (F:Nat):∀ p ∈ bW.cs F (bv.tw F),∀ args H v H',p.2 args H = some (v,H')→Go.AE.T Try.prog p.1 args H v H':=by
 intro p hp
 simp only [bW.cs,List.mem_cons,List.not_mem_nil,or_false] at hp
 subst hp
 exact fun args H v H' h=>bv.mk_T h
theorem bW.ok:codeOk bW.pn Try.f60.ntmps bW.tb bW.code = true:=by kernel_rfl
theorem bW.T {F:Nat} {aa:Sl} {ab:Int} {H:Hp} {v:AV} {H':Hp} (h:bW.tw F aa ab H = some (v,H')):Go.AE.T Try.prog 60 [(.agg [(.sl aa),(.int .i64 ab)])] H v H':=
 Go.AE.T.of (Y:=tabs) (C:=mkOrc (bW.cs F (bv.tw F))) (PN:=bW.pn) (LH:=bW.lh F (bv.tw F)) (F:=F) (TB:=bW.tb) (fn:=Try.f60) (code:=bW.code) mixed tabs_ok (mkOrc_ok (bW.cs_ok F)) Try.func60 (by kernel_rfl) (by kernel_rfl) bW.ok (Nat.le_of_ble_eq_true (by kernel_rfl)) (bW.loops F (bv.tw F)) (Eq.trans (bW.eqX F (bv.tw F) aa ab H) h)
theorem bW.mk_T {F:Nat} {args:List AV} {H:Hp} {v:AV} {H':Hp} (h:bW.mk (bW.tw F) args H = some (v,H')):Go.AE.T Try.prog 60 args H v H':=by
 unfold bW.mk at h
 split at h
 ·exact bW.T h
 ·cases h
def cq.twX (F:Nat) (aa:Sl) (ab:Int) (H:Hp):OA:=(Hp.new H [(.sl aa),(.int .i64 ab)]).bind fun H3=>(Hp.ldSl H3 H.length 0).bind fun s4=>(bif ((s4.n:Int) == 0) then ((Hp.ldI H3 .i64 H.length 1).bind fun n5=>some ((.bool (n5 == 0)),H3)) else (some ((.bool false),H3)))
def cq.tw (F:Nat) (aa:Sl) (ab:Int) (H:Hp):OA:=cq.twX F aa ab H
def cq.code:Go.Code:=(Try.f61.body).getD .skip
def cq.lh (F:Nat) (p:Nat) (ks:List Nat) (n:Nat) (tm:Tm) (H:Hp):OA:=none
def cq.pn:Nat→List Nat:=fun i=>(([]:List (Nat×List Nat)).lookup i).getD []
def cq.tb:Nat→List (List Nat):=fun i=>(([]:List (Nat×List (List Nat))).lookup i).getD []
def cq.mk (g:Sl→Int→Hp→OA) (args:List AV) (H:Hp):OA:=match args with
 | [(.agg [(.sl aa),(.int .i64 ab)])]=>g aa ab H
 | _=>none
def cq.cs (F:Nat):List (FuncId×(List AV→Hp→OA)):=[]
theorem cq.loops (F:Nat):LoopsOk tabs (mkOrc (cq.cs F)) cq.pn (cq.lh F) F [] 1 cq.code (fun tm H=>aresults tabs.ty H tm Try.f61.results.toList fun v=>some (v,H)) (fun _ _ _=>none) (fun tm H=>aresults tabs.ty H tm Try.f61.results.toList fun v=>some (v,H)):=by
 exact loops_none (by kernel_rfl)
theorem cq.eqX (F:Nat) (aa:Sl) (ab:Int) (H:Hp):aCode tabs (mkOrc (cq.cs F)) cq.pn (cq.lh F) F [] 1 cq.code (argTm [(.agg [(.sl aa),(.int .i64 ab)])]) H (fun tm H=>aresults tabs.ty H tm Try.f61.results.toList fun v=>some (v,H)) (fun _ _ _=>none) (fun tm H=>aresults tabs.ty H tm Try.f61.results.toList fun v=>some (v,H)) = cq.twX F aa ab H:=by kernel_rfl
theorem cq.cs_ok (F:Nat):∀ p ∈ cq.cs F,∀ args H v H',p.2 args H = some (v,H')→Go.AE.T Try.prog p.1 args H v H':=by
 intro p hp
 exact absurd (show p ∈ [] from hp) List.not_mem_nil
theorem cq.ok:codeOk cq.pn Try.f61.ntmps cq.tb cq.code = true:=by kernel_rfl
theorem cq.T {F:Nat} {aa:Sl} {ab:Int} {H:Hp} {v:AV} {H':Hp} (h:cq.tw F aa ab H = some (v,H')):Go.AE.T Try.prog 61 [(.agg [(.sl aa),(.int .i64 ab)])] H v H':=
 Go.AE.T.of (Y:=tabs) (C:=mkOrc (cq.cs F)) (PN:=cq.pn) (LH:=cq.lh F) (F:=F) (TB:=cq.tb) (fn:=Try.f61) (code:=cq.code) mixed tabs_ok (mkOrc_ok (cq.cs_ok F)) Try.func61 (by kernel_rfl) (by kernel_rfl) cq.ok (Nat.le_of_ble_eq_true (by kernel_rfl)) (cq.loops F) (Eq.trans (cq.eqX F aa ab H) h)
theorem cq.mk_T {F:Nat} {args:List AV} {H:Hp} {v:AV} {H':Hp} (h:cq.mk (cq.tw F) args H = some (v,H')):Go.AE.T Try.prog 61 args H v H':=by
 unfold cq.mk at h
 split at h
 ·exact cq.T h
 ·cases h
def cj.twX (F:Nat) (lC:Sl→Int→Hp→OA) (lD:Sl→Int→Hp→OA) (aa:Sl) (ab:Int) (H:Hp):OA:=(Hp.new H [(.sl aa),(.int .i64 ab)]).bind fun H3=>(Hp.ldSl H3 H.length 0).bind fun s4=>(Hp.ldI H3 .i64 H.length (0 + 1)).bind fun n5=>(lC s4 n5 H3).bind fun r6=>((r6.1).asB).bind fun b7=>(bif (!b7) then (some ((.int .i64 1),r6.2)) else ((Hp.ldSl r6.2 H.length 0).bind fun s8=>(Hp.ldI r6.2 .i64 H.length (0 + 1)).bind fun n9=>(lD s8 n9 r6.2).bind fun r10=>((r10.1).asB).bind fun b11=>(bif b11 then (some ((.int .i64 5),r10.2)) else (some ((.int .i64 0),r10.2)))))
def cj.tw (F:Nat) (aa:Sl) (ab:Int) (H:Hp):OA:=cj.twX F (bW.tw F) (cq.tw F) aa ab H
def cj.code:Go.Code:=(Try.f32.body).getD .skip
def cj.lh (F:Nat) (lC:Sl→Int→Hp→OA) (lD:Sl→Int→Hp→OA) (p:Nat) (ks:List Nat) (n:Nat) (tm:Tm) (H:Hp):OA:=none
def cj.pn:Nat→List Nat:=fun i=>(([]:List (Nat×List Nat)).lookup i).getD []
def cj.tb:Nat→List (List Nat):=fun i=>(([]:List (Nat×List (List Nat))).lookup i).getD []
def cj.mk (g:Sl→Int→Hp→OA) (args:List AV) (H:Hp):OA:=match args with
 | [(.agg [(.sl aa),(.int .i64 ab)])]=>g aa ab H
 | _=>none
def cj.cs (F:Nat) (lC:Sl→Int→Hp→OA) (lD:Sl→Int→Hp→OA):List (FuncId×(List AV→Hp→OA)):=[(60,bW.mk lC),(61,cq.mk lD)]
theorem cj.loops (F:Nat) (lC:Sl→Int→Hp→OA) (lD:Sl→Int→Hp→OA):LoopsOk tabs (mkOrc (cj.cs F lC lD)) cj.pn (cj.lh F lC lD) F [] 1 cj.code (fun tm H=>aresults tabs.ty H tm Try.f32.results.toList fun v=>some (v,H)) (fun _ _ _=>none) (fun tm H=>aresults tabs.ty H tm Try.f32.results.toList fun v=>some (v,H)):=by
 exact loops_none (by kernel_rfl)
theorem cj.eqX (F:Nat) (lC:Sl→Int→Hp→OA) (lD:Sl→Int→Hp→OA) (aa:Sl) (ab:Int) (H:Hp):aCode tabs (mkOrc (cj.cs F lC lD)) cj.pn (cj.lh F lC lD) F [] 1 cj.code (argTm [(.agg [(.sl aa),(.int .i64 ab)])]) H (fun tm H=>aresults tabs.ty H tm Try.f32.results.toList fun v=>some (v,H)) (fun _ _ _=>none) (fun tm H=>aresults tabs.ty H tm Try.f32.results.toList fun v=>some (v,H)) = cj.twX F lC lD aa ab H:=by kernel_rfl
theorem cj.cs_ok (F:Nat):∀ p ∈ cj.cs F (bW.tw F) (cq.tw F),∀ args H v H',p.2 args H = some (v,H')→Go.AE.T Try.prog p.1 args H v H':=by
 intro p hp
 simp only [cj.cs,List.mem_cons,List.not_mem_nil,or_false] at hp
 rcases hp with rfl | rfl
 ·exact fun args H v H' h=>bW.mk_T h
 ·exact fun args H v H' h=>cq.mk_T h
theorem cj.ok:codeOk cj.pn Try.f32.ntmps cj.tb cj.code = true:=by kernel_rfl
theorem cj.T {F:Nat} {aa:Sl} {ab:Int} {H:Hp} {v:AV} {H':Hp} (h:cj.tw F aa ab H = some (v,H')):Go.AE.T Try.prog 32 [(.agg [(.sl aa),(.int .i64 ab)])] H v H':=
 Go.AE.T.of (Y:=tabs) (C:=mkOrc (cj.cs F (bW.tw F) (cq.tw F))) (PN:=cj.pn) (LH:=cj.lh F (bW.tw F) (cq.tw F)) (F:=F) (TB:=cj.tb) (fn:=Try.f32) (code:=cj.code) mixed tabs_ok (mkOrc_ok (cj.cs_ok F)) Try.func32 (by kernel_rfl) (by kernel_rfl) cj.ok (Nat.le_of_ble_eq_true (by kernel_rfl)) (cj.loops F (bW.tw F) (cq.tw F)) (Eq.trans (cj.eqX F (bW.tw F) (cq.tw F) aa ab H) h)
theorem cj.mk_T {F:Nat} {args:List AV} {H:Hp} {v:AV} {H':Hp} (h:cj.mk (cj.tw F) args H = some (v,H')):Go.AE.T Try.prog 32 args H v H':=by
 unfold cj.mk at h
 split at h
 ·exact cj.T h
 ·cases h
def ck.twX (F:Nat) (bq:Sl→Int→Sl→Sl→Hp→OA) (br:Sl→Hp→OA) (aa:Sl) (ab:Int) (au:Sl) (aB:Sl) (H:Hp):OA:=(Hp.new H [(.sl aa),(.int .i64 ab)]).bind fun H5=>(Hp.new H5 [(.sl au),(.sl aB)]).bind fun H6=>(Hp.ldSl H6 H.length 0).bind fun s7=>(Hp.ldI H6 .i64 H.length (0 + 1)).bind fun n8=>(Hp.ldSl H6 H5.length 0).bind fun s9=>(Hp.ldSl H6 H5.length (0 + 1)).bind fun s10=>(bq s7 n8 s9 s10 H6).bind fun r11=>((r11.1).asSl).bind fun s12=>(br s12 r11.2).bind fun r13=>((r13.1).asI .i64).bind fun n14=>(bif (n14 == 1) then ((Hp.ldI r13.2 .i64 H.length 1).bind fun n15=>some ((.bool (n15 == 0)),r13.2)) else (some ((.bool false),r13.2)))
def ck.tw (F:Nat) (aa:Sl) (ab:Int) (au:Sl) (aB:Sl) (H:Hp):OA:=ck.twX F (aK.tw F) (bj.tw F) aa ab au aB H
def ck.code:Go.Code:=(Try.f34.body).getD .skip
def ck.lh (F:Nat) (bq:Sl→Int→Sl→Sl→Hp→OA) (br:Sl→Hp→OA) (p:Nat) (ks:List Nat) (n:Nat) (tm:Tm) (H:Hp):OA:=none
def ck.pn:Nat→List Nat:=fun i=>(([]:List (Nat×List Nat)).lookup i).getD []
def ck.tb:Nat→List (List Nat):=fun i=>(([]:List (Nat×List (List Nat))).lookup i).getD []
def ck.mk (g:Sl→Int→Sl→Sl→Hp→OA) (args:List AV) (H:Hp):OA:=match args with
 | [(.agg [(.sl aa),(.int .i64 ab)]),(.agg [(.sl au),(.sl aB)])]=>g aa ab au aB H
 | _=>none
def ck.cs (F:Nat) (bq:Sl→Int→Sl→Sl→Hp→OA) (br:Sl→Hp→OA):List (FuncId×(List AV→Hp→OA)):=[(70,aK.mk bq),(69,bj.mk br)]
theorem ck.loops (F:Nat) (bq:Sl→Int→Sl→Sl→Hp→OA) (br:Sl→Hp→OA):LoopsOk tabs (mkOrc (ck.cs F bq br)) ck.pn (ck.lh F bq br) F [] 1 ck.code (fun tm H=>aresults tabs.ty H tm Try.f34.results.toList fun v=>some (v,H)) (fun _ _ _=>none) (fun tm H=>aresults tabs.ty H tm Try.f34.results.toList fun v=>some (v,H)):=by
 exact loops_none (by kernel_rfl)
theorem ck.eqX (F:Nat) (bq:Sl→Int→Sl→Sl→Hp→OA) (br:Sl→Hp→OA) (aa:Sl) (ab:Int) (au:Sl) (aB:Sl) (H:Hp):aCode tabs (mkOrc (ck.cs F bq br)) ck.pn (ck.lh F bq br) F [] 1 ck.code (argTm [(.agg [(.sl aa),(.int .i64 ab)]),(.agg [(.sl au),(.sl aB)])]) H (fun tm H=>aresults tabs.ty H tm Try.f34.results.toList fun v=>some (v,H)) (fun _ _ _=>none) (fun tm H=>aresults tabs.ty H tm Try.f34.results.toList fun v=>some (v,H)) = ck.twX F bq br aa ab au aB H:=by kernel_rfl
theorem ck.cs_ok (F:Nat):∀ p ∈ ck.cs F (aK.tw F) (bj.tw F),∀ args H v H',p.2 args H = some (v,H')→Go.AE.T Try.prog p.1 args H v H':=by
 intro p hp
 simp only [ck.cs,List.mem_cons,List.not_mem_nil,or_false] at hp
 rcases hp with rfl | rfl
 ·exact fun args H v H' h=>aK.mk_T h
 ·exact fun args H v H' h=>bj.mk_T h
theorem ck.ok:codeOk ck.pn Try.f34.ntmps ck.tb ck.code = true:=by kernel_rfl
theorem ck.T {F:Nat} {aa:Sl} {ab:Int} {au:Sl} {aB:Sl} {H:Hp} {v:AV} {H':Hp} (h:ck.tw F aa ab au aB H = some (v,H')):Go.AE.T Try.prog 34 [(.agg [(.sl aa),(.int .i64 ab)]),(.agg [(.sl au),(.sl aB)])] H v H':=
 Go.AE.T.of (Y:=tabs) (C:=mkOrc (ck.cs F (aK.tw F) (bj.tw F))) (PN:=ck.pn) (LH:=ck.lh F (aK.tw F) (bj.tw F)) (F:=F) (TB:=ck.tb) (fn:=Try.f34) (code:=ck.code) mixed tabs_ok (mkOrc_ok (ck.cs_ok F)) Try.func34 (by kernel_rfl) (by kernel_rfl) ck.ok (Nat.le_of_ble_eq_true (by kernel_rfl)) (ck.loops F (aK.tw F) (bj.tw F)) (Eq.trans (ck.eqX F (aK.tw F) (bj.tw F) aa ab au aB H) h)
theorem ck.mk_T {F:Nat} {args:List AV} {H:Hp} {v:AV} {H':Hp} (h:ck.mk (ck.tw F) args H = some (v,H')):Go.AE.T Try.prog 34 args H v H':=by
 unfold ck.mk at h
 split at h
 ·exact ck.T h
 ·cases h
def av.j3 (F:Nat) (aO:Sl→Int→Sl→Sl→Hp→OA) (C29_:Sl→Sl→Int→Int→Hp→OA) (acL:Sl) (acM:Sl) (rR:Int) (rS:Int) (H168:Hp):OA:=C29_ acL acM rR (IntKind.i64.wrap (rS + 1)) H168
def av.j4 (F:Nat) (aO:Sl→Int→Sl→Sl→Hp→OA) (C29_:Sl→Sl→Int→Int→Hp→OA) (acN:Sl) (acO:Sl) (rT:Int) (rU:Int) (H147:Hp):OA:=av.j3 F aO C29_ acN acO rT rU H147
def av.l1883 (F:Nat) (aO:Sl→Int→Sl→Sl→Hp→OA) (C29_:Sl→Sl→Int→Int→Hp→OA):Nat→Sl→Sl→Int→Int→Int→Sl→Int→Int→Hp→OA
 | 0,_,_,_,_,_,_,_,_,_=>none
 | acP + 1,iI,jF,gc,gF,eS,kR,ic,g_,H122=>(bif (decide (g_ < ic)) then ((Sl.idx kR g_ 1).bind fun p169=>(Hp.ldI H122 .i64 p169.1 p169.2).bind fun n170=>(Sl.idx iI n170 1).bind fun p171=>(Hp.st H122 p171.1 p171.2 (.int .i64 eS)).bind fun H172=>av.l1883 F aO C29_ acP iI jF gc gF eS kR ic (IntKind.i64.wrap (g_ + 1)) H172) else (av.j4 F aO C29_ iI jF gc gF H122))
termination_by structural n=>n
def av.l29 (F:Nat) (aO:Sl→Int→Sl→Sl→Hp→OA) :Nat→Sl→Sl→Int→Int→Hp→OA
 | 0,_,_,_,_,_=>none
 | cB + 1,cJ,kS,ie,gd,H28=>(bif (decide (gd < ie)) then ((Sl.idx kS gd 1).bind fun p101=>(Hp.ldSl H28 p101.1 p101.2).bind fun s102=>av.l1883 F aO (av.l29 F aO cB) F cJ kS ie gd gd s102 (s102.n:Int) 0 H28) else (some ((.sl cJ),H28)))
termination_by structural n=>n
def av.twX (F:Nat) (aO:Sl→Int→Sl→Sl→Hp→OA) (aa:Sl) (ab:Int) (au:Sl) (aB:Sl) (H:Hp):OA:=(Hp.new H [(.sl aa),(.int .i64 ab)]).bind fun H5=>(Hp.new H5 [(.sl au),(.sl aB)]).bind fun H6=>(Hp.ldSl H6 H.length 0).bind fun s7=>(Hp.mk H6 [.int .i64 0] 8 (IntKind.i64.wrap (4 * (s7.n:Int))) (IntKind.i64.wrap (4 * (s7.n:Int)))).bind fun m8=>(Hp.ldSl m8.2 H.length 0).bind fun s9=>(Hp.ldI m8.2 .i64 H.length (0 + 1)).bind fun n10=>(Hp.ldSl m8.2 H5.length 0).bind fun s11=>(Hp.ldSl m8.2 H5.length (0 + 1)).bind fun s12=>(aO s9 n10 s11 s12 m8.2).bind fun r13=>((r13.1).asSl).bind fun s14=>av.l29 F aO F m8.1 s14 (s14.n:Int) 0 r13.2
def av.tw (F:Nat) (aa:Sl) (ab:Int) (au:Sl) (aB:Sl) (H:Hp):OA:=av.twX F (aq.tw F) aa ab au aB H
def av.code:Go.Code:=(Try.f72.body).getD .skip
def av.lh29 (F:Nat) (aO:Sl→Int→Sl→Sl→Hp→OA) (ks:List Nat) (n:Nat) (tm:Tm) (H:Hp):OA:=match ks,tm 5,tm 17,tm 18,tm 19 with
 | [],(.sl cJ),(.sl kS),(.int .i64 ie),(.int .i64 gd)=>av.l29 F aO n cJ kS ie gd H
 | _,_,_,_,_=>none
theorem av.lh29_inv {F:Nat} {aO:Sl→Int→Sl→Sl→Hp→OA} {ks:List Nat} {n:Nat} {tm:Tm} {H:Hp} {r:AV×Hp} (h:av.lh29 F aO ks n tm H = some r):∃ cJ:Sl,∃ kS:Sl,∃ ie:Int,∃ gd:Int,ks = []∧tm 5 = (.sl cJ)∧tm 17 = (.sl kS)∧tm 18 = (.int .i64 ie)∧tm 19 = (.int .i64 gd)∧av.l29 F aO n cJ kS ie gd H = some r:=by
 unfold av.lh29 at h
 split at h
 ·exact ⟨_,_,_,_,rfl,by assumption,by assumption,by assumption,by assumption,h⟩
 ·cases h
def av.lh1883 (F:Nat) (aO:Sl→Int→Sl→Sl→Hp→OA) (ks:List Nat) (n:Nat) (tm:Tm) (H:Hp):OA:=match ks,tm 5,tm 6,tm 17,tm 18,tm 19,tm 24,tm 25,tm 26 with
 | [cB],(.sl iI),(.int .i64 eS),(.sl jF),(.int .i64 gc),(.int .i64 gF),(.sl kR),(.int .i64 ic),(.int .i64 g_)=>av.l1883 F aO (av.l29 F aO cB) n iI jF gc gF eS kR ic g_ H
 | _,_,_,_,_,_,_,_,_=>none
theorem av.lh1883_inv {F:Nat} {aO:Sl→Int→Sl→Sl→Hp→OA} {ks:List Nat} {n:Nat} {tm:Tm} {H:Hp} {r:AV×Hp} (h:av.lh1883 F aO ks n tm H = some r):∃ cB:Nat,∃ iI:Sl,∃ eS:Int,∃ jF:Sl,∃ gc:Int,∃ gF:Int,∃ kR:Sl,∃ ic:Int,∃ g_:Int,ks = [cB]∧tm 5 = (.sl iI)∧tm 6 = (.int .i64 eS)∧tm 17 = (.sl jF)∧tm 18 = (.int .i64 gc)∧tm 19 = (.int .i64 gF)∧tm 24 = (.sl kR)∧tm 25 = (.int .i64 ic)∧tm 26 = (.int .i64 g_)∧av.l1883 F aO (av.l29 F aO cB) n iI jF gc gF eS kR ic g_ H = some r:=by
 unfold av.lh1883 at h
 split at h
 ·exact ⟨_,_,_,_,_,_,_,_,_,rfl,by assumption,by assumption,by assumption,by assumption,by assumption,by assumption,by assumption,by assumption,h⟩
 ·cases h
def av.lh (F:Nat) (aO:Sl→Int→Sl→Sl→Hp→OA) (p:Nat) (ks:List Nat) (n:Nat) (tm:Tm) (H:Hp):OA:=bif p.beq 1883 then av.lh1883 F aO ks n tm H else (bif p.beq 29 then av.lh29 F aO ks n tm H else (none))
def av.pn:Nat→List Nat:=fun i=>(([]:List (Nat×List Nat)).lookup i).getD []
def av.tb:Nat→List (List Nat):=fun i=>(([]:List (Nat×List (List Nat))).lookup i).getD []
def av.mk (g:Sl→Int→Sl→Sl→Hp→OA) (args:List AV) (H:Hp):OA:=match args with
 | [(.agg [(.sl aa),(.int .i64 ab)]),(.agg [(.sl au),(.sl aB)])]=>g aa ab au aB H
 | _=>none
def av.cs (F:Nat) (aO:Sl→Int→Sl→Sl→Hp→OA):List (FuncId×(List AV→Hp→OA)):=[(68,aq.mk aO)]
theorem av.loops (F:Nat) (aO:Sl→Int→Sl→Sl→Hp→OA):LoopsOk tabs (mkOrc (av.cs F aO)) av.pn (av.lh F aO) F [] 1 av.code (fun tm H=>aresults tabs.ty H tm Try.f72.results.toList fun v=>some (v,H)) (fun _ _ _=>none) (fun tm H=>aresults tabs.ty H tm Try.f72.results.toList fun v=>some (v,H)):=by
 refine LoopsOk.seq ?_ ?_
 ·exact loops_none (by kernel_rfl)
 ·refine LoopsOk.seq ?_ ?_
  ·exact loops_none (by kernel_rfl)
  ·refine LoopsOk.seq ?_ ?_
   ·refine LoopsOk.seq ?_ ?_
    ·exact loops_none (by kernel_rfl)
    ·refine LoopsOk.block ?_
     refine LoopsOk.loop (fun tm H=>?_) (fun k29 tm H r h0=>?_) (fun k29=>?_)
     ·refine none_of fun r h0=>?_
      obtain ⟨cJ,kS,ie,gd,hks,e5,e17,e18,e19,h⟩:=av.lh29_inv (show av.lh29 F aO [] 0 tm H = some r from h0)
      cases h
     ·obtain ⟨cJ,kS,ie,gd,hks,e5,e17,e18,e19,h⟩:=av.lh29_inv (show av.lh29 F aO [] (k29 + 1) tm H = some r from h0)
      have q0:(Tm.put tm 5 (.sl cJ)) = tm:=by exact Tm.put_same e5
      have q1:(Tm.put (Tm.put tm 5 (.sl cJ)) 17 (.sl kS)) = tm:=by rw [q0]; exact Tm.put_same e17
      have q2:(Tm.put (Tm.put (Tm.put tm 5 (.sl cJ)) 17 (.sl kS)) 18 (.int .i64 ie)) = tm:=by rw [q1]; exact Tm.put_same e18
      have q3:(Tm.put (Tm.put (Tm.put (Tm.put tm 5 (.sl cJ)) 17 (.sl kS)) 18 (.int .i64 ie)) 19 (.int .i64 gd)) = tm:=by rw [q2]; exact Tm.put_same e19
      rw [← q3]
      exact Eq.trans (by kernel_rfl) h
     ·refine LoopsOk.seq ?_ ?_
      ·exact loops_none (by kernel_rfl)
      ·refine LoopsOk.seq ?_ ?_
       ·exact loops_none (by kernel_rfl)
       ·refine LoopsOk.seq ?_ ?_
        ·refine LoopsOk.block ?_
         refine LoopsOk.seq ?_ ?_
         ·exact loops_none (by kernel_rfl)
         ·refine LoopsOk.seq ?_ ?_
          ·exact loops_none (by kernel_rfl)
          ·refine LoopsOk.block ?_
           refine LoopsOk.loop (fun tm H=>?_) (fun k1883 tm H r h0=>?_) (fun k1883=>?_)
           ·refine none_of fun r h0=>?_
            obtain ⟨cB,iI,eS,jF,gc,gF,kR,ic,g_,hks,e5,e6,e17,e18,e19,e24,e25,e26,h⟩:=av.lh1883_inv (show av.lh1883 F aO [k29] 0 tm H = some r from h0)
            cases h
           ·obtain ⟨cB,iI,eS,jF,gc,gF,kR,ic,g_,hks,e5,e6,e17,e18,e19,e24,e25,e26,h⟩:=av.lh1883_inv (show av.lh1883 F aO [k29] (k1883 + 1) tm H = some r from h0)
            obtain rfl:cB = k29:=by simpa [eq_comm] using hks
            have q0:(Tm.put tm 5 (.sl iI)) = tm:=by exact Tm.put_same e5
            have q1:(Tm.put (Tm.put tm 5 (.sl iI)) 6 (.int .i64 eS)) = tm:=by rw [q0]; exact Tm.put_same e6
            have q2:(Tm.put (Tm.put (Tm.put tm 5 (.sl iI)) 6 (.int .i64 eS)) 17 (.sl jF)) = tm:=by rw [q1]; exact Tm.put_same e17
            have q3:(Tm.put (Tm.put (Tm.put (Tm.put tm 5 (.sl iI)) 6 (.int .i64 eS)) 17 (.sl jF)) 18 (.int .i64 gc)) = tm:=by rw [q2]; exact Tm.put_same e18
            have q4:(Tm.put (Tm.put (Tm.put (Tm.put (Tm.put tm 5 (.sl iI)) 6 (.int .i64 eS)) 17 (.sl jF)) 18 (.int .i64 gc)) 19 (.int .i64 gF)) = tm:=by rw [q3]; exact Tm.put_same e19
            have q5:(Tm.put (Tm.put (Tm.put (Tm.put (Tm.put (Tm.put tm 5 (.sl iI)) 6 (.int .i64 eS)) 17 (.sl jF)) 18 (.int .i64 gc)) 19 (.int .i64 gF)) 24 (.sl kR)) = tm:=by rw [q4]; exact Tm.put_same e24
            have q6:(Tm.put (Tm.put (Tm.put (Tm.put (Tm.put (Tm.put (Tm.put tm 5 (.sl iI)) 6 (.int .i64 eS)) 17 (.sl jF)) 18 (.int .i64 gc)) 19 (.int .i64 gF)) 24 (.sl kR)) 25 (.int .i64 ic)) = tm:=by rw [q5]; exact Tm.put_same e25
            have q7:(Tm.put (Tm.put (Tm.put (Tm.put (Tm.put (Tm.put (Tm.put (Tm.put tm 5 (.sl iI)) 6 (.int .i64 eS)) 17 (.sl jF)) 18 (.int .i64 gc)) 19 (.int .i64 gF)) 24 (.sl kR)) 25 (.int .i64 ic)) 26 (.int .i64 g_)) = tm:=by rw [q6]; exact Tm.put_same e26
            rw [← q7]
            exact Eq.trans (by kernel_rfl) h
           ·exact loops_none (by kernel_rfl)
        ·exact loops_none (by kernel_rfl)
   ·exact loops_none (by kernel_rfl)
theorem av.eqX (F:Nat) (aO:Sl→Int→Sl→Sl→Hp→OA) (aa:Sl) (ab:Int) (au:Sl) (aB:Sl) (H:Hp):aCode tabs (mkOrc (av.cs F aO)) av.pn (av.lh F aO) F [] 1 av.code (argTm [(.agg [(.sl aa),(.int .i64 ab)]),(.agg [(.sl au),(.sl aB)])]) H (fun tm H=>aresults tabs.ty H tm Try.f72.results.toList fun v=>some (v,H)) (fun _ _ _=>none) (fun tm H=>aresults tabs.ty H tm Try.f72.results.toList fun v=>some (v,H)) = av.twX F aO aa ab au aB H:=by kernel_rfl
theorem av.cs_ok (F:Nat):∀ p ∈ av.cs F (aq.tw F),∀ args H v H',p.2 args H = some (v,H')→Go.AE.T Try.prog p.1 args H v H':=by
 intro p hp
 simp only [av.cs,List.mem_cons,List.not_mem_nil,or_false] at hp
 subst hp
 exact fun args H v H' h=>aq.mk_T h
theorem av.ok:codeOk av.pn Try.f72.ntmps av.tb av.code = true:=by kernel_rfl
theorem av.T {F:Nat} {aa:Sl} {ab:Int} {au:Sl} {aB:Sl} {H:Hp} {v:AV} {H':Hp} (h:av.tw F aa ab au aB H = some (v,H')):Go.AE.T Try.prog 72 [(.agg [(.sl aa),(.int .i64 ab)]),(.agg [(.sl au),(.sl aB)])] H v H':=
 Go.AE.T.of (Y:=tabs) (C:=mkOrc (av.cs F (aq.tw F))) (PN:=av.pn) (LH:=av.lh F (aq.tw F)) (F:=F) (TB:=av.tb) (fn:=Try.f72) (code:=av.code) mixed tabs_ok (mkOrc_ok (av.cs_ok F)) Try.func72 (by kernel_rfl) (by kernel_rfl) av.ok (Nat.le_of_ble_eq_true (by kernel_rfl)) (av.loops F (aq.tw F)) (Eq.trans (av.eqX F (aq.tw F) aa ab au aB H) h)
theorem av.mk_T {F:Nat} {args:List AV} {H:Hp} {v:AV} {H':Hp} (h:av.mk (av.tw F) args H = some (v,H')):Go.AE.T Try.prog 72 args H v H':=by
 unfold av.mk at h
 split at h
 ·exact av.T h
 ·cases h
def aR.l254 (F:Nat) (g_bits_Mul:Int→Int→Hp→OA) :Nat→Sl→Int→Hp→OA
 | 0,_,_,_=>none
 | Ih + 1,cK,cP,H33=>(bif (decide (cP < (cK.n:Int))) then ((Sl.cut cK 1 cP (cK.n:Int)).bind fun s37=>(Sl.cut cK 1 0 cP).bind fun s38=>(Hp.cpy H33 1 s37 s38).bind fun c39=>aR.l254 F g_bits_Mul Ih cK (IntKind.i64.wrap (cP + (c39.1:Int))) c39.2) else (some ((.sl cK),H33)))
termination_by structural n=>n
def aR.j1 (F:Nat) (g_bits_Mul:Int→Int→Hp→OA) (Ii:Sl) (jC:Int) (H21:Hp):OA:=(Hp.mk H21 [.int .i64 0] 8 (IntKind.i64.wrap jC) (IntKind.i64.wrap jC)).bind fun m22=>(Hp.cpy m22.2 1 m22.1 Ii).bind fun c23=>aR.l254 F g_bits_Mul F m22.1 (c23.1:Int) c23.2
def aR.j2 (F:Nat) (g_bits_Mul:Int→Int→Hp→OA) (uq:Sl) (kl:Int) (H7:Hp):OA:=(g_bits_Mul (IntKind.u64.wrap (uq.n:Int)) (IntKind.u64.wrap kl) H7).bind fun r8=>((r8.1).asTup 2).bind fun l9=>(l9[0]?).bind fun v10=>((v10).asI .u64).bind fun n11=>(l9[1]?).bind fun v12=>((v12).asI .u64).bind fun n13=>(bif (decide (n11 > 0)) then (none) else ((bif (decide (n13 > 9223372036854775807)) then (none) else (aR.j1 F g_bits_Mul uq n13 r8.2))))
def aR.twX (F:Nat) (g_bits_Mul:Int→Int→Hp→OA) (aa:Sl) (ak:Int) (H:Hp):OA:=(bif (decide (ak < 0)) then (none) else (aR.j2 F g_bits_Mul aa ak H))
def aR.tw (F:Nat) (aa:Sl) (ak:Int) (H:Hp):OA:=aR.twX F (bits_Mul.tw F) aa ak H
def aR.code:Go.Code:=(Try.f81.body).getD .skip
def aR.lh254 (F:Nat) (g_bits_Mul:Int→Int→Hp→OA) (ks:List Nat) (n:Nat) (tm:Tm) (H:Hp):OA:=match ks,tm 7,tm 8 with
 | [],(.sl cK),(.int .i64 cP)=>aR.l254 F g_bits_Mul n cK cP H
 | _,_,_=>none
theorem aR.lh254_inv {F:Nat} {g_bits_Mul:Int→Int→Hp→OA} {ks:List Nat} {n:Nat} {tm:Tm} {H:Hp} {r:AV×Hp} (h:aR.lh254 F g_bits_Mul ks n tm H = some r):∃ cK:Sl,∃ cP:Int,ks = []∧tm 7 = (.sl cK)∧tm 8 = (.int .i64 cP)∧aR.l254 F g_bits_Mul n cK cP H = some r:=by
 unfold aR.lh254 at h
 split at h
 ·exact ⟨_,_,rfl,by assumption,by assumption,h⟩
 ·cases h
def aR.lh (F:Nat) (g_bits_Mul:Int→Int→Hp→OA) (p:Nat) (ks:List Nat) (n:Nat) (tm:Tm) (H:Hp):OA:=bif p.beq 254 then aR.lh254 F g_bits_Mul ks n tm H else (none)
def aR.pn:Nat→List Nat:=fun i=>(([(9,[7])]:List (Nat×List Nat)).lookup i).getD []
def aR.tb:Nat→List (List Nat):=fun i=>(([(9,[[],[],[],[1,2],[],[],[4,5],[1,2,3,4,5,6],[0,1,2,3,4,5,6,7],[0,1,2,3,4,5,6,7,8]])]:List (Nat×List (List Nat))).lookup i).getD []
def aR.mk (g:Sl→Int→Hp→OA) (args:List AV) (H:Hp):OA:=match args with
 | [(.sl aa),(.int .i64 ak)]=>g aa ak H
 | _=>none
def aR.cs (F:Nat) (g_bits_Mul:Int→Int→Hp→OA):List (FuncId×(List AV→Hp→OA)):=[(112,bits_Mul.mk g_bits_Mul)]
theorem aR.loops (F:Nat) (g_bits_Mul:Int→Int→Hp→OA):LoopsOk tabs (mkOrc (aR.cs F g_bits_Mul)) aR.pn (aR.lh F g_bits_Mul) F [] 1 aR.code (fun tm H=>aresults tabs.ty H tm Try.f81.results.toList fun v=>some (v,H)) (fun _ _ _=>none) (fun tm H=>aresults tabs.ty H tm Try.f81.results.toList fun v=>some (v,H)):=by
 refine LoopsOk.seq ?_ ?_
 ·exact loops_none (by kernel_rfl)
 ·refine LoopsOk.seq ?_ ?_
  ·exact loops_none (by kernel_rfl)
  ·refine LoopsOk.seq ?_ ?_
   ·exact loops_none (by kernel_rfl)
   ·refine LoopsOk.seq ?_ ?_
    ·exact loops_none (by kernel_rfl)
    ·refine LoopsOk.seq ?_ ?_
     ·exact loops_none (by kernel_rfl)
     ·refine LoopsOk.seq ?_ ?_
      ·exact loops_none (by kernel_rfl)
      ·refine LoopsOk.seq ?_ ?_
       ·refine LoopsOk.block ?_
        refine LoopsOk.loop (fun tm H=>?_) (fun k254 tm H r h0=>?_) (fun k254=>?_)
        ·refine none_of fun r h0=>?_
         obtain ⟨cK,cP,hks,e7,e8,h⟩:=aR.lh254_inv (show aR.lh254 F g_bits_Mul [] 0 tm H = some r from h0)
         cases h
        ·obtain ⟨cK,cP,hks,e7,e8,h⟩:=aR.lh254_inv (show aR.lh254 F g_bits_Mul [] (k254 + 1) tm H = some r from h0)
         have q0:(Tm.put tm 7 (.sl cK)) = tm:=by exact Tm.put_same e7
         have q1:(Tm.put (Tm.put tm 7 (.sl cK)) 8 (.int .i64 cP)) = tm:=by rw [q0]; exact Tm.put_same e8
         rw [← q1]
         exact Eq.trans (by kernel_rfl) h
        ·exact loops_none (by kernel_rfl)
       ·exact loops_none (by kernel_rfl)
theorem aR.eqX (F:Nat) (g_bits_Mul:Int→Int→Hp→OA) (aa:Sl) (ak:Int) (H:Hp):aCode tabs (mkOrc (aR.cs F g_bits_Mul)) aR.pn (aR.lh F g_bits_Mul) F [] 1 aR.code (argTm [(.sl aa),(.int .i64 ak)]) H (fun tm H=>aresults tabs.ty H tm Try.f81.results.toList fun v=>some (v,H)) (fun _ _ _=>none) (fun tm H=>aresults tabs.ty H tm Try.f81.results.toList fun v=>some (v,H)) = aR.twX F g_bits_Mul aa ak H:=by kernel_rfl
theorem aR.cs_ok (F:Nat):∀ p ∈ aR.cs F (bits_Mul.tw F),∀ args H v H',p.2 args H = some (v,H')→Go.AE.T Try.prog p.1 args H v H':=by
 intro p hp
 simp only [aR.cs,List.mem_cons,List.not_mem_nil,or_false] at hp
 subst hp
 exact fun args H v H' h=>bits_Mul.mk_T h
theorem aR.ok:codeOk aR.pn Try.f81.ntmps aR.tb aR.code = true:=by kernel_rfl
theorem aR.T {F:Nat} {aa:Sl} {ak:Int} {H:Hp} {v:AV} {H':Hp} (h:aR.tw F aa ak H = some (v,H')):Go.AE.T Try.prog 81 [(.sl aa),(.int .i64 ak)] H v H':=
 Go.AE.T.of (Y:=tabs) (C:=mkOrc (aR.cs F (bits_Mul.tw F))) (PN:=aR.pn) (LH:=aR.lh F (bits_Mul.tw F)) (F:=F) (TB:=aR.tb) (fn:=Try.f81) (code:=aR.code) mixed tabs_ok (mkOrc_ok (aR.cs_ok F)) Try.func81 (by kernel_rfl) (by kernel_rfl) aR.ok (Nat.le_of_ble_eq_true (by kernel_rfl)) (aR.loops F (bits_Mul.tw F)) (Eq.trans (aR.eqX F (bits_Mul.tw F) aa ak H) h)
theorem aR.mk_T {F:Nat} {args:List AV} {H:Hp} {v:AV} {H':Hp} (h:aR.mk (aR.tw F) args H = some (v,H')):Go.AE.T Try.prog 81 args H v H':=by
 unfold aR.mk at h
 split at h
 ·exact aR.T h
 ·cases h
def aj.j7 (F:Nat) (aC:Sl→Int→Sl→Sl→Hp→OA) (bq:Sl→Int→Sl→Sl→Hp→OA) (aO:Sl→Int→Sl→Sl→Hp→OA) (ct:Sl→Int→Hp→OA) (br:Sl→Hp→OA) (C509_:Sl→Sl→Int→Int→Hp→OA) (acQ:Sl) (acR:Sl) (rV:Int) (rW:Int) (H363:Hp):OA:=C509_ acQ acR rV (IntKind.i64.wrap (rW + 1)) H363
def aj.j8 (F:Nat) (aC:Sl→Int→Sl→Sl→Hp→OA) (bq:Sl→Int→Sl→Sl→Hp→OA) (aO:Sl→Int→Sl→Sl→Hp→OA) (ct:Sl→Int→Hp→OA) (br:Sl→Hp→OA) (C509_:Sl→Sl→Int→Int→Hp→OA) (acS:Sl) (acT:Sl) (rX:Int) (rY:Int) (H339:Hp):OA:=aj.j7 F aC bq aO ct br C509_ acS acT rX rY H339
def aj.j9 (F:Nat) (aC:Sl→Int→Sl→Sl→Hp→OA) (bq:Sl→Int→Sl→Sl→Hp→OA) (aO:Sl→Int→Sl→Sl→Hp→OA) (ct:Sl→Int→Hp→OA) (br:Sl→Hp→OA) (C16301_:Sl→Sl→Int→Int→Int→Int→Hp→OA) (acU:Sl) (acV:Sl) (rZ:Int) (r_:Int) (sa:Int) (sd:Int) (H398:Hp):OA:=C16301_ acU acV rZ r_ sa (IntKind.i64.wrap (sd + 1)) H398
def aj.l16301 (F:Nat) (aC:Sl→Int→Sl→Sl→Hp→OA) (bq:Sl→Int→Sl→Sl→Hp→OA) (aO:Sl→Int→Sl→Sl→Hp→OA) (ct:Sl→Int→Hp→OA) (br:Sl→Hp→OA) (C509_:Sl→Sl→Int→Int→Hp→OA):Nat→Sl→Sl→Int→Int→Int→Int→Hp→OA
 | 0,_,_,_,_,_,_,_=>none
 | NI + 1,iJ,jb,fv,gf,gG,dL,H280=>(bif (decide (dL < gG)) then ((Sl.idx iJ dL 1).bind fun p364=>(Hp.ldI H280 .i64 p364.1 p364.2).bind fun n365=>(Sl.idx jb n365 1).bind fun p366=>(Hp.ldI H280 .i64 p366.1 p366.2).bind fun n367=>(bif (decide (n367 ≥ 0)) then ((Sl.idx iJ (IntKind.i64.wrap ((IntKind.i64.wrap (dL - (Int.tmod dL 4))) + (Int.tmod (IntKind.i64.wrap (dL + 1)) 4))) 1).bind fun p368=>(Hp.ldI H280 .i64 p368.1 p368.2).bind fun n369=>(Sl.idx jb n369 1).bind fun p370=>(Hp.st H280 p370.1 p370.2 (.int .i64 (IntKind.i64.wrap (1 - n367)))).bind fun H371=>aj.j9 F aC bq aO ct br (aj.l16301 F aC bq aO ct br C509_ NI) iJ jb fv gf gG dL H371) else (aj.j9 F aC bq aO ct br (aj.l16301 F aC bq aO ct br C509_ NI) iJ jb fv gf gG dL H280))) else (aj.j8 F aC bq aO ct br C509_ iJ jb fv gf H280))
termination_by structural n=>n
def aj.l509 (F:Nat) (aC:Sl→Int→Sl→Sl→Hp→OA) (bq:Sl→Int→Sl→Sl→Hp→OA) (aO:Sl→Int→Sl→Sl→Hp→OA) (ct:Sl→Int→Hp→OA) (br:Sl→Hp→OA) :Nat→Sl→Sl→Int→Int→Hp→OA
 | 0,_,_,_,_,_=>none
 | de + 1,kq,kT,ig,iK,H116=>(bif (decide (iK < ig)) then (aj.l16301 F aC bq aO ct br (aj.l509 F aC bq aO ct br de) F kq kT ig iK (kq.n:Int) 0 H116) else (some ((.sl kT),H116)))
termination_by structural n=>n
def aj.j10 (F:Nat) (aC:Sl→Int→Sl→Sl→Hp→OA) (bq:Sl→Int→Sl→Sl→Hp→OA) (aO:Sl→Int→Sl→Sl→Hp→OA) (ct:Sl→Int→Hp→OA) (br:Sl→Hp→OA) (acW:Sl) (NJ:Sl) (H96:Hp):OA:=aj.l509 F aC bq aO ct br F acW NJ (NJ.n:Int) 0 H96
def aj.j11 (F:Nat) (aC:Sl→Int→Sl→Sl→Hp→OA) (bq:Sl→Int→Sl→Sl→Hp→OA) (aO:Sl→Int→Sl→Sl→Hp→OA) (ct:Sl→Int→Hp→OA) (br:Sl→Hp→OA) (C253_:Sl→Sl→Sl→Sl→Int→Int→Hp→OA) (acX:Sl) (acY:Sl) (acZ:Sl) (ac0:Sl) (se:Int) (sf:Int) (H429:Hp):OA:=C253_ acX acY acZ ac0 se (IntKind.i64.wrap (sf + 1)) H429
def aj.l253 (F:Nat) (aC:Sl→Int→Sl→Sl→Hp→OA) (bq:Sl→Int→Sl→Sl→Hp→OA) (aO:Sl→Int→Sl→Sl→Hp→OA) (ct:Sl→Int→Hp→OA) (br:Sl→Hp→OA) :Nat→Sl→Sl→Sl→Sl→Int→Int→Hp→OA
 | 0,_,_,_,_,_,_,_=>none
 | ui + 1,jc,js,jG,kr,gH,eT,H47=>(bif (decide (eT < gH)) then ((Sl.idx kr eT 1).bind fun p399=>(Hp.ldI H47 .i64 p399.1 p399.2).bind fun n400=>(Sl.idx jG n400 1).bind fun p401=>(Hp.ldB H47 p401.1 p401.2).bind fun b402=>(bif (!b402) then ((Sl.idx jG n400 1).bind fun p403=>(Hp.st H47 p403.1 p403.2 (.bool true)).bind fun H404=>(Sl.idx jc (IntKind.i64.wrap (4 * eT)) 1).bind fun p405=>(Hp.ldI H404 .i64 p405.1 p405.2).bind fun n406=>(Sl.idx js n406 1).bind fun p407=>(Hp.st H404 p407.1 p407.2 (.int .i64 0)).bind fun H408=>aj.j11 F aC bq aO ct br (aj.l253 F aC bq aO ct br ui) jc js jG kr gH eT H408) else (aj.j11 F aC bq aO ct br (aj.l253 F aC bq aO ct br ui) jc js jG kr gH eT H47))) else (aj.j10 F aC bq aO ct br jc js H47))
termination_by structural n=>n
def aj.twX (F:Nat) (aC:Sl→Int→Sl→Sl→Hp→OA) (bq:Sl→Int→Sl→Sl→Hp→OA) (aO:Sl→Int→Sl→Sl→Hp→OA) (ct:Sl→Int→Hp→OA) (br:Sl→Hp→OA) (aa:Sl) (ab:Int) (au:Sl) (aB:Sl) (H:Hp):OA:=(Hp.new H [(.sl aa),(.int .i64 ab)]).bind fun H5=>(Hp.new H5 [(.sl au),(.sl aB)]).bind fun H6=>(Hp.ldSl H6 H.length 0).bind fun s7=>(Hp.ldI H6 .i64 H.length (0 + 1)).bind fun n8=>(Hp.ldSl H6 H5.length 0).bind fun s9=>(Hp.ldSl H6 H5.length (0 + 1)).bind fun s10=>(aC s7 n8 s9 s10 H6).bind fun r11=>((r11.1).asSl).bind fun s12=>(Hp.ldSl r11.2 H.length 0).bind fun s13=>(Hp.ldI r11.2 .i64 H.length (0 + 1)).bind fun n14=>(Hp.ldSl r11.2 H5.length 0).bind fun s15=>(Hp.ldSl r11.2 H5.length (0 + 1)).bind fun s16=>(bq s13 n14 s15 s16 r11.2).bind fun r17=>((r17.1).asSl).bind fun s18=>(Hp.new r17.2 [(.int .i64 (-1))]).bind fun H19=>(Hp.ldSl H19 H.length 0).bind fun s20=>(Hp.ldI H19 .i64 H.length (0 + 1)).bind fun n21=>(Hp.ldSl H19 H5.length 0).bind fun s22=>(Hp.ldSl H19 H5.length (0 + 1)).bind fun s23=>(aO s20 n21 s22 s23 H19).bind fun r24=>((r24.1).asSl).bind fun s25=>(ct (⟨some (r17.2.length,0),1,.ex 1⟩:Sl) (s25.n:Int) r24.2).bind fun r26=>((r26.1).asSl).bind fun s27=>(br s18 r26.2).bind fun r28=>((r28.1).asI .i64).bind fun n29=>(Hp.mk r28.2 [.bool false] 1 n29 n29).bind fun m30=>aj.l253 F aC bq aO ct br F s12 s27 m30.1 s18 (s18.n:Int) 0 m30.2
def aj.tw (F:Nat) (aa:Sl) (ab:Int) (au:Sl) (aB:Sl) (H:Hp):OA:=aj.twX F (av.tw F) (aK.tw F) (aq.tw F) (aR.tw F) (bj.tw F) aa ab au aB H
def aj.code:Go.Code:=(Try.f73.body).getD .skip
def aj.lh253 (F:Nat) (aC:Sl→Int→Sl→Sl→Hp→OA) (bq:Sl→Int→Sl→Sl→Hp→OA) (aO:Sl→Int→Sl→Sl→Hp→OA) (ct:Sl→Int→Hp→OA) (br:Sl→Hp→OA) (ks:List Nat) (n:Nat) (tm:Tm) (H:Hp):OA:=match ks,tm 5,tm 7,tm 8,tm 28,tm 29,tm 30 with
 | [],(.sl jc),(.sl js),(.sl jG),(.sl kr),(.int .i64 gH),(.int .i64 eT)=>aj.l253 F aC bq aO ct br n jc js jG kr gH eT H
 | _,_,_,_,_,_,_=>none
theorem aj.lh253_inv {F:Nat} {aC:Sl→Int→Sl→Sl→Hp→OA} {bq:Sl→Int→Sl→Sl→Hp→OA} {aO:Sl→Int→Sl→Sl→Hp→OA} {ct:Sl→Int→Hp→OA} {br:Sl→Hp→OA} {ks:List Nat} {n:Nat} {tm:Tm} {H:Hp} {r:AV×Hp} (h:aj.lh253 F aC bq aO ct br ks n tm H = some r):∃ jc:Sl,∃ js:Sl,∃ jG:Sl,∃ kr:Sl,∃ gH:Int,∃ eT:Int,ks = []∧tm 5 = (.sl jc)∧tm 7 = (.sl js)∧tm 8 = (.sl jG)∧tm 28 = (.sl kr)∧tm 29 = (.int .i64 gH)∧tm 30 = (.int .i64 eT)∧aj.l253 F aC bq aO ct br n jc js jG kr gH eT H = some r:=by
 unfold aj.lh253 at h
 split at h
 ·exact ⟨_,_,_,_,_,_,rfl,by assumption,by assumption,by assumption,by assumption,by assumption,by assumption,h⟩
 ·cases h
def aj.lh509 (F:Nat) (aC:Sl→Int→Sl→Sl→Hp→OA) (bq:Sl→Int→Sl→Sl→Hp→OA) (aO:Sl→Int→Sl→Sl→Hp→OA) (ct:Sl→Int→Hp→OA) (br:Sl→Hp→OA) (ks:List Nat) (n:Nat) (tm:Tm) (H:Hp):OA:=match ks,tm 5,tm 7,tm 52,tm 53 with
 | [],(.sl kq),(.sl kT),(.int .i64 ig),(.int .i64 iK)=>aj.l509 F aC bq aO ct br n kq kT ig iK H
 | _,_,_,_,_=>none
theorem aj.lh509_inv {F:Nat} {aC:Sl→Int→Sl→Sl→Hp→OA} {bq:Sl→Int→Sl→Sl→Hp→OA} {aO:Sl→Int→Sl→Sl→Hp→OA} {ct:Sl→Int→Hp→OA} {br:Sl→Hp→OA} {ks:List Nat} {n:Nat} {tm:Tm} {H:Hp} {r:AV×Hp} (h:aj.lh509 F aC bq aO ct br ks n tm H = some r):∃ kq:Sl,∃ kT:Sl,∃ ig:Int,∃ iK:Int,ks = []∧tm 5 = (.sl kq)∧tm 7 = (.sl kT)∧tm 52 = (.int .i64 ig)∧tm 53 = (.int .i64 iK)∧aj.l509 F aC bq aO ct br n kq kT ig iK H = some r:=by
 unfold aj.lh509 at h
 split at h
 ·exact ⟨_,_,_,_,rfl,by assumption,by assumption,by assumption,by assumption,h⟩
 ·cases h
def aj.lh16301 (F:Nat) (aC:Sl→Int→Sl→Sl→Hp→OA) (bq:Sl→Int→Sl→Sl→Hp→OA) (aO:Sl→Int→Sl→Sl→Hp→OA) (ct:Sl→Int→Hp→OA) (br:Sl→Hp→OA) (ks:List Nat) (n:Nat) (tm:Tm) (H:Hp):OA:=match ks,tm 5,tm 7,tm 52,tm 53,tm 56,tm 57 with
 | [de],(.sl iJ),(.sl jb),(.int .i64 fv),(.int .i64 gf),(.int .i64 gG),(.int .i64 dL)=>aj.l16301 F aC bq aO ct br (aj.l509 F aC bq aO ct br de) n iJ jb fv gf gG dL H
 | _,_,_,_,_,_,_=>none
theorem aj.lh16301_inv {F:Nat} {aC:Sl→Int→Sl→Sl→Hp→OA} {bq:Sl→Int→Sl→Sl→Hp→OA} {aO:Sl→Int→Sl→Sl→Hp→OA} {ct:Sl→Int→Hp→OA} {br:Sl→Hp→OA} {ks:List Nat} {n:Nat} {tm:Tm} {H:Hp} {r:AV×Hp} (h:aj.lh16301 F aC bq aO ct br ks n tm H = some r):∃ de:Nat,∃ iJ:Sl,∃ jb:Sl,∃ fv:Int,∃ gf:Int,∃ gG:Int,∃ dL:Int,ks = [de]∧tm 5 = (.sl iJ)∧tm 7 = (.sl jb)∧tm 52 = (.int .i64 fv)∧tm 53 = (.int .i64 gf)∧tm 56 = (.int .i64 gG)∧tm 57 = (.int .i64 dL)∧aj.l16301 F aC bq aO ct br (aj.l509 F aC bq aO ct br de) n iJ jb fv gf gG dL H = some r:=by
 unfold aj.lh16301 at h
 split at h
 ·exact ⟨_,_,_,_,_,_,_,rfl,by assumption,by assumption,by assumption,by assumption,by assumption,by assumption,h⟩
 ·cases h
def aj.lh (F:Nat) (aC:Sl→Int→Sl→Sl→Hp→OA) (bq:Sl→Int→Sl→Sl→Hp→OA) (aO:Sl→Int→Sl→Sl→Hp→OA) (ct:Sl→Int→Hp→OA) (br:Sl→Hp→OA) (p:Nat) (ks:List Nat) (n:Nat) (tm:Tm) (H:Hp):OA:=bif p.beq 16301 then aj.lh16301 F aC bq aO ct br ks n tm H else (bif p.beq 509 then aj.lh509 F aC bq aO ct br ks n tm H else (bif p.beq 253 then aj.lh253 F aC bq aO ct br ks n tm H else (none)))
def aj.pn:Nat→List Nat:=fun i=>(([]:List (Nat×List Nat)).lookup i).getD []
def aj.tb:Nat→List (List Nat):=fun i=>(([]:List (Nat×List (List Nat))).lookup i).getD []
def aj.mk (g:Sl→Int→Sl→Sl→Hp→OA) (args:List AV) (H:Hp):OA:=match args with
 | [(.agg [(.sl aa),(.int .i64 ab)]),(.agg [(.sl au),(.sl aB)])]=>g aa ab au aB H
 | _=>none
def aj.cs (F:Nat) (aC:Sl→Int→Sl→Sl→Hp→OA) (bq:Sl→Int→Sl→Sl→Hp→OA) (aO:Sl→Int→Sl→Sl→Hp→OA) (ct:Sl→Int→Hp→OA) (br:Sl→Hp→OA):List (FuncId×(List AV→Hp→OA)):=[(72,av.mk aC),(70,aK.mk bq),(68,aq.mk aO),(81,aR.mk ct),(69,bj.mk br)]
theorem aj.loops (F:Nat) (aC:Sl→Int→Sl→Sl→Hp→OA) (bq:Sl→Int→Sl→Sl→Hp→OA) (aO:Sl→Int→Sl→Sl→Hp→OA) (ct:Sl→Int→Hp→OA) (br:Sl→Hp→OA):LoopsOk tabs (mkOrc (aj.cs F aC bq aO ct br)) aj.pn (aj.lh F aC bq aO ct br) F [] 1 aj.code (fun tm H=>aresults tabs.ty H tm Try.f73.results.toList fun v=>some (v,H)) (fun _ _ _=>none) (fun tm H=>aresults tabs.ty H tm Try.f73.results.toList fun v=>some (v,H)):=by
 refine LoopsOk.seq ?_ ?_
 ·exact loops_none (by kernel_rfl)
 ·refine LoopsOk.seq ?_ ?_
  ·exact loops_none (by kernel_rfl)
  ·refine LoopsOk.seq ?_ ?_
   ·exact loops_none (by kernel_rfl)
   ·refine LoopsOk.seq ?_ ?_
    ·exact loops_none (by kernel_rfl)
    ·refine LoopsOk.seq ?_ ?_
     ·exact loops_none (by kernel_rfl)
     ·refine LoopsOk.seq ?_ ?_
      ·refine LoopsOk.seq ?_ ?_
       ·exact loops_none (by kernel_rfl)
       ·refine LoopsOk.block ?_
        refine LoopsOk.loop (fun tm H=>?_) (fun k253 tm H r h0=>?_) (fun k253=>?_)
        ·refine none_of fun r h0=>?_
         obtain ⟨jc,js,jG,kr,gH,eT,hks,e5,e7,e8,e28,e29,e30,h⟩:=aj.lh253_inv (show aj.lh253 F aC bq aO ct br [] 0 tm H = some r from h0)
         cases h
        ·obtain ⟨jc,js,jG,kr,gH,eT,hks,e5,e7,e8,e28,e29,e30,h⟩:=aj.lh253_inv (show aj.lh253 F aC bq aO ct br [] (k253 + 1) tm H = some r from h0)
         have q0:(Tm.put tm 5 (.sl jc)) = tm:=by exact Tm.put_same e5
         have q1:(Tm.put (Tm.put tm 5 (.sl jc)) 7 (.sl js)) = tm:=by rw [q0]; exact Tm.put_same e7
         have q2:(Tm.put (Tm.put (Tm.put tm 5 (.sl jc)) 7 (.sl js)) 8 (.sl jG)) = tm:=by rw [q1]; exact Tm.put_same e8
         have q3:(Tm.put (Tm.put (Tm.put (Tm.put tm 5 (.sl jc)) 7 (.sl js)) 8 (.sl jG)) 28 (.sl kr)) = tm:=by rw [q2]; exact Tm.put_same e28
         have q4:(Tm.put (Tm.put (Tm.put (Tm.put (Tm.put tm 5 (.sl jc)) 7 (.sl js)) 8 (.sl jG)) 28 (.sl kr)) 29 (.int .i64 gH)) = tm:=by rw [q3]; exact Tm.put_same e29
         have q5:(Tm.put (Tm.put (Tm.put (Tm.put (Tm.put (Tm.put tm 5 (.sl jc)) 7 (.sl js)) 8 (.sl jG)) 28 (.sl kr)) 29 (.int .i64 gH)) 30 (.int .i64 eT)) = tm:=by rw [q4]; exact Tm.put_same e30
         rw [← q5]
         exact Eq.trans (by kernel_rfl) h
        ·exact loops_none (by kernel_rfl)
      ·refine LoopsOk.seq ?_ ?_
       ·refine LoopsOk.seq ?_ ?_
        ·exact loops_none (by kernel_rfl)
        ·refine LoopsOk.block ?_
         refine LoopsOk.loop (fun tm H=>?_) (fun k509 tm H r h0=>?_) (fun k509=>?_)
         ·refine none_of fun r h0=>?_
          obtain ⟨kq,kT,ig,iK,hks,e5,e7,e52,e53,h⟩:=aj.lh509_inv (show aj.lh509 F aC bq aO ct br [] 0 tm H = some r from h0)
          cases h
         ·obtain ⟨kq,kT,ig,iK,hks,e5,e7,e52,e53,h⟩:=aj.lh509_inv (show aj.lh509 F aC bq aO ct br [] (k509 + 1) tm H = some r from h0)
          have q0:(Tm.put tm 5 (.sl kq)) = tm:=by exact Tm.put_same e5
          have q1:(Tm.put (Tm.put tm 5 (.sl kq)) 7 (.sl kT)) = tm:=by rw [q0]; exact Tm.put_same e7
          have q2:(Tm.put (Tm.put (Tm.put tm 5 (.sl kq)) 7 (.sl kT)) 52 (.int .i64 ig)) = tm:=by rw [q1]; exact Tm.put_same e52
          have q3:(Tm.put (Tm.put (Tm.put (Tm.put tm 5 (.sl kq)) 7 (.sl kT)) 52 (.int .i64 ig)) 53 (.int .i64 iK)) = tm:=by rw [q2]; exact Tm.put_same e53
          rw [← q3]
          exact Eq.trans (by kernel_rfl) h
         ·refine LoopsOk.seq ?_ ?_
          ·exact loops_none (by kernel_rfl)
          ·refine LoopsOk.seq ?_ ?_
           ·exact loops_none (by kernel_rfl)
           ·refine LoopsOk.seq ?_ ?_
            ·refine LoopsOk.block ?_
             refine LoopsOk.seq ?_ ?_
             ·exact loops_none (by kernel_rfl)
             ·refine LoopsOk.block ?_
              refine LoopsOk.loop (fun tm H=>?_) (fun k16301 tm H r h0=>?_) (fun k16301=>?_)
              ·refine none_of fun r h0=>?_
               obtain ⟨de,iJ,jb,fv,gf,gG,dL,hks,e5,e7,e52,e53,e56,e57,h⟩:=aj.lh16301_inv (show aj.lh16301 F aC bq aO ct br [k509] 0 tm H = some r from h0)
               cases h
              ·obtain ⟨de,iJ,jb,fv,gf,gG,dL,hks,e5,e7,e52,e53,e56,e57,h⟩:=aj.lh16301_inv (show aj.lh16301 F aC bq aO ct br [k509] (k16301 + 1) tm H = some r from h0)
               obtain rfl:de = k509:=by simpa [eq_comm] using hks
               have q0:(Tm.put tm 5 (.sl iJ)) = tm:=by exact Tm.put_same e5
               have q1:(Tm.put (Tm.put tm 5 (.sl iJ)) 7 (.sl jb)) = tm:=by rw [q0]; exact Tm.put_same e7
               have q2:(Tm.put (Tm.put (Tm.put tm 5 (.sl iJ)) 7 (.sl jb)) 52 (.int .i64 fv)) = tm:=by rw [q1]; exact Tm.put_same e52
               have q3:(Tm.put (Tm.put (Tm.put (Tm.put tm 5 (.sl iJ)) 7 (.sl jb)) 52 (.int .i64 fv)) 53 (.int .i64 gf)) = tm:=by rw [q2]; exact Tm.put_same e53
               have q4:(Tm.put (Tm.put (Tm.put (Tm.put (Tm.put tm 5 (.sl iJ)) 7 (.sl jb)) 52 (.int .i64 fv)) 53 (.int .i64 gf)) 56 (.int .i64 gG)) = tm:=by rw [q3]; exact Tm.put_same e56
               have q5:(Tm.put (Tm.put (Tm.put (Tm.put (Tm.put (Tm.put tm 5 (.sl iJ)) 7 (.sl jb)) 52 (.int .i64 fv)) 53 (.int .i64 gf)) 56 (.int .i64 gG)) 57 (.int .i64 dL)) = tm:=by rw [q4]; exact Tm.put_same e57
               rw [← q5]
               exact Eq.trans (by kernel_rfl) h
              ·exact loops_none (by kernel_rfl)
            ·exact loops_none (by kernel_rfl)
       ·exact loops_none (by kernel_rfl)
theorem aj.eqX (F:Nat) (aC:Sl→Int→Sl→Sl→Hp→OA) (bq:Sl→Int→Sl→Sl→Hp→OA) (aO:Sl→Int→Sl→Sl→Hp→OA) (ct:Sl→Int→Hp→OA) (br:Sl→Hp→OA) (aa:Sl) (ab:Int) (au:Sl) (aB:Sl) (H:Hp):aCode tabs (mkOrc (aj.cs F aC bq aO ct br)) aj.pn (aj.lh F aC bq aO ct br) F [] 1 aj.code (argTm [(.agg [(.sl aa),(.int .i64 ab)]),(.agg [(.sl au),(.sl aB)])]) H (fun tm H=>aresults tabs.ty H tm Try.f73.results.toList fun v=>some (v,H)) (fun _ _ _=>none) (fun tm H=>aresults tabs.ty H tm Try.f73.results.toList fun v=>some (v,H)) = aj.twX F aC bq aO ct br aa ab au aB H:=by kernel_rfl
theorem aj.cs_ok (F:Nat):∀ p ∈ aj.cs F (av.tw F) (aK.tw F) (aq.tw F) (aR.tw F) (bj.tw F),∀ args H v H',p.2 args H = some (v,H')→Go.AE.T Try.prog p.1 args H v H':=by
 intro p hp
 simp only [aj.cs,List.mem_cons,List.not_mem_nil,or_false] at hp
 rcases hp with rfl | rfl | rfl | rfl | rfl
 ·exact fun args H v H' h=>av.mk_T h
 ·exact fun args H v H' h=>aK.mk_T h
 ·exact fun args H v H' h=>aq.mk_T h
 ·exact fun args H v H' h=>aR.mk_T h
 ·exact fun args H v H' h=>bj.mk_T h
theorem aj.ok:codeOk aj.pn Try.f73.ntmps aj.tb aj.code = true:=by kernel_rfl
theorem aj.T {F:Nat} {aa:Sl} {ab:Int} {au:Sl} {aB:Sl} {H:Hp} {v:AV} {H':Hp} (h:aj.tw F aa ab au aB H = some (v,H')):Go.AE.T Try.prog 73 [(.agg [(.sl aa),(.int .i64 ab)]),(.agg [(.sl au),(.sl aB)])] H v H':=
 Go.AE.T.of (Y:=tabs) (C:=mkOrc (aj.cs F (av.tw F) (aK.tw F) (aq.tw F) (aR.tw F) (bj.tw F))) (PN:=aj.pn) (LH:=aj.lh F (av.tw F) (aK.tw F) (aq.tw F) (aR.tw F) (bj.tw F)) (F:=F) (TB:=aj.tb) (fn:=Try.f73) (code:=aj.code) mixed tabs_ok (mkOrc_ok (aj.cs_ok F)) Try.func73 (by kernel_rfl) (by kernel_rfl) aj.ok (Nat.le_of_ble_eq_true (by kernel_rfl)) (aj.loops F (av.tw F) (aK.tw F) (aq.tw F) (aR.tw F) (bj.tw F)) (Eq.trans (aj.eqX F (av.tw F) (aK.tw F) (aq.tw F) (aR.tw F) (bj.tw F) aa ab au aB H) h)
theorem aj.mk_T {F:Nat} {args:List AV} {H:Hp} {v:AV} {H':Hp} (h:aj.mk (aj.tw F) args H = some (v,H')):Go.AE.T Try.prog 73 args H v H':=by
 unfold aj.mk at h
 split at h
 ·exact aj.T h
 ·cases h
def bE.twX (F:Nat) (aa:Int) (ak:Int) (H:Hp):OA:=(Hp.new H [.int .i64 0,.int .i64 0,.sl ⟨none,0,.ex 0⟩]).bind fun H3=>(Hp.mk H3 [.int .i64 0] 8 (IntKind.i64.wrap (aa * ak)) (IntKind.i64.wrap (aa * ak))).bind fun m4=>(Hp.st m4.2 H.length 0 (.int .i64 aa)).bind fun H5=>(Hp.st H5 H.length (0 + 1) (.int .i64 ak)).bind fun H6=>(Hp.st H6 H.length (0 + 1 + 1) (.sl m4.1)).bind fun H7=>(Hp.ldI H7 .i64 H.length 0).bind fun n8=>(Hp.ldI H7 .i64 H.length (0 + 1)).bind fun n9=>(Hp.ldSl H7 H.length (0 + 2)).bind fun s10=>some ((.agg [(.int .i64 n8),(.int .i64 n9),(.sl s10)]),H7)
def bE.tw (F:Nat) (aa:Int) (ak:Int) (H:Hp):OA:=bE.twX F aa ak H
def bE.code:Go.Code:=(Try.f74.body).getD .skip
def bE.lh (F:Nat) (p:Nat) (ks:List Nat) (n:Nat) (tm:Tm) (H:Hp):OA:=none
def bE.pn:Nat→List Nat:=fun i=>(([]:List (Nat×List Nat)).lookup i).getD []
def bE.tb:Nat→List (List Nat):=fun i=>(([]:List (Nat×List (List Nat))).lookup i).getD []
def bE.mk (g:Int→Int→Hp→OA) (args:List AV) (H:Hp):OA:=match args with
 | [(.int .i64 aa),(.int .i64 ak)]=>g aa ak H
 | _=>none
def bE.cs (F:Nat):List (FuncId×(List AV→Hp→OA)):=[]
theorem bE.loops (F:Nat):LoopsOk tabs (mkOrc (bE.cs F)) bE.pn (bE.lh F) F [] 1 bE.code (fun tm H=>aresults tabs.ty H tm Try.f74.results.toList fun v=>some (v,H)) (fun _ _ _=>none) (fun tm H=>aresults tabs.ty H tm Try.f74.results.toList fun v=>some (v,H)):=by
 exact loops_none (by kernel_rfl)
theorem bE.eqX (F:Nat) (aa:Int) (ak:Int) (H:Hp):aCode tabs (mkOrc (bE.cs F)) bE.pn (bE.lh F) F [] 1 bE.code (argTm [(.int .i64 aa),(.int .i64 ak)]) H (fun tm H=>aresults tabs.ty H tm Try.f74.results.toList fun v=>some (v,H)) (fun _ _ _=>none) (fun tm H=>aresults tabs.ty H tm Try.f74.results.toList fun v=>some (v,H)) = bE.twX F aa ak H:=by kernel_rfl
theorem bE.cs_ok (F:Nat):∀ p ∈ bE.cs F,∀ args H v H',p.2 args H = some (v,H')→Go.AE.T Try.prog p.1 args H v H':=by
 intro p hp
 exact absurd (show p ∈ [] from hp) List.not_mem_nil
theorem bE.ok:codeOk bE.pn Try.f74.ntmps bE.tb bE.code = true:=by kernel_rfl
theorem bE.T {F:Nat} {aa:Int} {ak:Int} {H:Hp} {v:AV} {H':Hp} (h:bE.tw F aa ak H = some (v,H')):Go.AE.T Try.prog 74 [(.int .i64 aa),(.int .i64 ak)] H v H':=
 Go.AE.T.of (Y:=tabs) (C:=mkOrc (bE.cs F)) (PN:=bE.pn) (LH:=bE.lh F) (F:=F) (TB:=bE.tb) (fn:=Try.f74) (code:=bE.code) mixed tabs_ok (mkOrc_ok (bE.cs_ok F)) Try.func74 (by kernel_rfl) (by kernel_rfl) bE.ok (Nat.le_of_ble_eq_true (by kernel_rfl)) (bE.loops F) (Eq.trans (bE.eqX F aa ak H) h)
theorem bE.mk_T {F:Nat} {args:List AV} {H:Hp} {v:AV} {H':Hp} (h:bE.mk (bE.tw F) args H = some (v,H')):Go.AE.T Try.prog 74 args H v H':=by
 unfold bE.mk at h
 split at h
 ·exact bE.T h
 ·cases h
def cl.twX (F:Nat) (aa:Bool) (H:Hp):OA:=(bif aa then (some ((.int .i64 1),H)) else (some ((.int .i64 0),H)))
def cl.tw (F:Nat) (aa:Bool) (H:Hp):OA:=cl.twX F aa H
def cl.code:Go.Code:=(Try.f109.body).getD .skip
def cl.lh (F:Nat) (p:Nat) (ks:List Nat) (n:Nat) (tm:Tm) (H:Hp):OA:=none
def cl.pn:Nat→List Nat:=fun i=>(([]:List (Nat×List Nat)).lookup i).getD []
def cl.tb:Nat→List (List Nat):=fun i=>(([]:List (Nat×List (List Nat))).lookup i).getD []
def cl.mk (g:Bool→Hp→OA) (args:List AV) (H:Hp):OA:=match args with
 | [(.bool aa)]=>g aa H
 | _=>none
def cl.cs (F:Nat):List (FuncId×(List AV→Hp→OA)):=[]
theorem cl.loops (F:Nat):LoopsOk tabs (mkOrc (cl.cs F)) cl.pn (cl.lh F) F [] 1 cl.code (fun tm H=>aresults tabs.ty H tm Try.f109.results.toList fun v=>some (v,H)) (fun _ _ _=>none) (fun tm H=>aresults tabs.ty H tm Try.f109.results.toList fun v=>some (v,H)):=by
 exact loops_none (by kernel_rfl)
theorem cl.eqX (F:Nat) (aa:Bool) (H:Hp):aCode tabs (mkOrc (cl.cs F)) cl.pn (cl.lh F) F [] 1 cl.code (argTm [(.bool aa)]) H (fun tm H=>aresults tabs.ty H tm Try.f109.results.toList fun v=>some (v,H)) (fun _ _ _=>none) (fun tm H=>aresults tabs.ty H tm Try.f109.results.toList fun v=>some (v,H)) = cl.twX F aa H:=by kernel_rfl
theorem cl.cs_ok (F:Nat):∀ p ∈ cl.cs F,∀ args H v H',p.2 args H = some (v,H')→Go.AE.T Try.prog p.1 args H v H':=by
 intro p hp
 exact absurd (show p ∈ [] from hp) List.not_mem_nil
theorem cl.ok:codeOk cl.pn Try.f109.ntmps cl.tb cl.code = true:=by kernel_rfl
theorem cl.T {F:Nat} {aa:Bool} {H:Hp} {v:AV} {H':Hp} (h:cl.tw F aa H = some (v,H')):Go.AE.T Try.prog 109 [(.bool aa)] H v H':=
 Go.AE.T.of (Y:=tabs) (C:=mkOrc (cl.cs F)) (PN:=cl.pn) (LH:=cl.lh F) (F:=F) (TB:=cl.tb) (fn:=Try.f109) (code:=cl.code) mixed tabs_ok (mkOrc_ok (cl.cs_ok F)) Try.func109 (by kernel_rfl) (by kernel_rfl) cl.ok (Nat.le_of_ble_eq_true (by kernel_rfl)) (cl.loops F) (Eq.trans (cl.eqX F aa H) h)
theorem cl.mk_T {F:Nat} {args:List AV} {H:Hp} {v:AV} {H':Hp} (h:cl.mk (cl.tw F) args H = some (v,H')):Go.AE.T Try.prog 109 args H v H':=by
 unfold cl.mk at h
 split at h
 ·exact cl.T h
 ·cases h
def aW.l61 (F:Nat) (aC:Sl→Int→Sl→Sl→Hp→OA) (bc:Sl→Int→Sl→Sl→Hp→OA) (gh:Bool→Hp→OA) :Nat→Int→Sl→Sl→Sl→Int→Int→Hp→OA
 | 0,_,_,_,_,_,_,_=>none
 | bP + 1,fw,cK,cP,kU,ii,hB,H36=>(bif (decide (hB < ii)) then ((Sl.idx cK (IntKind.i64.wrap ((IntKind.i64.wrap (4 * hB)) + 1)) 1).bind fun p46=>(Hp.ldI H36 .i64 p46.1 p46.2).bind fun n47=>(Sl.idx cP n47 1).bind fun p48=>(Hp.ldI H36 .i64 p48.1 p48.2).bind fun n49=>(gh (n49 == fw) H36).bind fun r50=>((r50.1).asI .i64).bind fun n51=>(Hp.new r50.2 [(.int .i64 (IntKind.i64.wrap ((IntKind.i64.wrap (2 * n51)) - 1)))]).bind fun H52=>(Sl.row H52 (⟨some (r50.2.length,0),1,.ex 1⟩:Sl) 1).bind fun xs54=>(Hp.app H52 1 8 kU (⟨some (r50.2.length,0),1,.ex 1⟩:Sl).n xs54).bind fun a53=>aW.l61 F aC bc gh bP fw cK cP a53.1 ii (IntKind.i64.wrap (hB + 1)) a53.2) else (some ((.sl kU),H36)))
termination_by structural n=>n
def aW.twX (F:Nat) (aC:Sl→Int→Sl→Sl→Hp→OA) (bc:Sl→Int→Sl→Sl→Hp→OA) (gh:Bool→Hp→OA) (aa:Sl) (ab:Int) (au:Sl) (aB:Sl) (aV:Int) (H:Hp):OA:=(Hp.new H [(.sl aa),(.int .i64 ab)]).bind fun H6=>(Hp.new H6 [(.sl au),(.sl aB)]).bind fun H7=>(Hp.ldSl H7 H.length 0).bind fun s8=>(Hp.ldI H7 .i64 H.length (0 + 1)).bind fun n9=>(Hp.ldSl H7 H6.length 0).bind fun s10=>(Hp.ldSl H7 H6.length (0 + 1)).bind fun s11=>(aC s8 n9 s10 s11 H7).bind fun r12=>((r12.1).asSl).bind fun s13=>(if Cons H7 r12.2 then ((Hp.ldSl r12.2 H.length 0).bind fun s14=>(Hp.ldI r12.2 .i64 H.length (0 + 1)).bind fun n15=>(Hp.ldSl r12.2 H6.length 0).bind fun s16=>(Hp.ldSl r12.2 H6.length (0 + 1)).bind fun s17=>(bc s14 n15 s16 s17 r12.2).bind fun r18=>((r18.1).asSl).bind fun s19=>(Hp.ldSl r18.2 H.length 0).bind fun s20=>aW.l61 F aC bc gh F aV s13 s19 (⟨none,0,.ex 0⟩:Sl) (s20.n:Int) 0 r18.2) else none)
def aW.tw (F:Nat) (aa:Sl) (ab:Int) (au:Sl) (aB:Sl) (aV:Int) (H:Hp):OA:=aW.twX F (av.tw F) (aj.tw F) (cl.tw F) aa ab au aB aV H
def aW.code:Go.Code:=(Try.f75.body).getD .skip
def aW.lh61 (F:Nat) (aC:Sl→Int→Sl→Sl→Hp→OA) (bc:Sl→Int→Sl→Sl→Hp→OA) (gh:Bool→Hp→OA) (ks:List Nat) (n:Nat) (tm:Tm) (H:Hp):OA:=match ks,tm 2,tm 7,tm 8,tm 9,tm 19,tm 20 with
 | [],(.int .i64 fw),(.sl cK),(.sl cP),(.sl kU),(.int .i64 ii),(.int .i64 hB)=>aW.l61 F aC bc gh n fw cK cP kU ii hB H
 | _,_,_,_,_,_,_=>none
theorem aW.lh61_inv {F:Nat} {aC:Sl→Int→Sl→Sl→Hp→OA} {bc:Sl→Int→Sl→Sl→Hp→OA} {gh:Bool→Hp→OA} {ks:List Nat} {n:Nat} {tm:Tm} {H:Hp} {r:AV×Hp} (h:aW.lh61 F aC bc gh ks n tm H = some r):∃ fw:Int,∃ cK:Sl,∃ cP:Sl,∃ kU:Sl,∃ ii:Int,∃ hB:Int,ks = []∧tm 2 = (.int .i64 fw)∧tm 7 = (.sl cK)∧tm 8 = (.sl cP)∧tm 9 = (.sl kU)∧tm 19 = (.int .i64 ii)∧tm 20 = (.int .i64 hB)∧aW.l61 F aC bc gh n fw cK cP kU ii hB H = some r:=by
 unfold aW.lh61 at h
 split at h
 ·exact ⟨_,_,_,_,_,_,rfl,by assumption,by assumption,by assumption,by assumption,by assumption,by assumption,h⟩
 ·cases h
def aW.lh (F:Nat) (aC:Sl→Int→Sl→Sl→Hp→OA) (bc:Sl→Int→Sl→Sl→Hp→OA) (gh:Bool→Hp→OA) (p:Nat) (ks:List Nat) (n:Nat) (tm:Tm) (H:Hp):OA:=bif p.beq 61 then aW.lh61 F aC bc gh ks n tm H else (none)
def aW.pn:Nat→List Nat:=fun i=>(([(1,[5])]:List (Nat×List Nat)).lookup i).getD []
def aW.tb:Nat→List (List Nat):=fun i=>(([(1,[[],[],[0,1],[],[],[0,1,2,3,4],[0,1,2,3,4,5],[0,1,2,3,4,5,6]])]:List (Nat×List (List Nat))).lookup i).getD []
def aW.mk (g:Sl→Int→Sl→Sl→Int→Hp→OA) (args:List AV) (H:Hp):OA:=match args with
 | [(.agg [(.sl aa),(.int .i64 ab)]),(.agg [(.sl au),(.sl aB)]),(.int .i64 aV)]=>g aa ab au aB aV H
 | _=>none
def aW.cs (F:Nat) (aC:Sl→Int→Sl→Sl→Hp→OA) (bc:Sl→Int→Sl→Sl→Hp→OA) (gh:Bool→Hp→OA):List (FuncId×(List AV→Hp→OA)):=[(72,av.mk aC),(73,aj.mk bc),(109,cl.mk gh)]
theorem aW.loops (F:Nat) (aC:Sl→Int→Sl→Sl→Hp→OA) (bc:Sl→Int→Sl→Sl→Hp→OA) (gh:Bool→Hp→OA):LoopsOk tabs (mkOrc (aW.cs F aC bc gh)) aW.pn (aW.lh F aC bc gh) F [] 1 aW.code (fun tm H=>aresults tabs.ty H tm Try.f75.results.toList fun v=>some (v,H)) (fun _ _ _=>none) (fun tm H=>aresults tabs.ty H tm Try.f75.results.toList fun v=>some (v,H)):=by
 refine LoopsOk.seq ?_ ?_
 ·exact loops_none (by kernel_rfl)
 ·refine LoopsOk.seq ?_ ?_
  ·exact loops_none (by kernel_rfl)
  ·refine LoopsOk.seq ?_ ?_
   ·exact loops_none (by kernel_rfl)
   ·refine LoopsOk.seq ?_ ?_
    ·refine LoopsOk.seq ?_ ?_
     ·exact loops_none (by kernel_rfl)
     ·refine LoopsOk.block ?_
      refine LoopsOk.loop (fun tm H=>?_) (fun k61 tm H r h0=>?_) (fun k61=>?_)
      ·refine none_of fun r h0=>?_
       obtain ⟨fw,cK,cP,kU,ii,hB,hks,e2,e7,e8,e9,e19,e20,h⟩:=aW.lh61_inv (show aW.lh61 F aC bc gh [] 0 tm H = some r from h0)
       cases h
      ·obtain ⟨fw,cK,cP,kU,ii,hB,hks,e2,e7,e8,e9,e19,e20,h⟩:=aW.lh61_inv (show aW.lh61 F aC bc gh [] (k61 + 1) tm H = some r from h0)
       have q0:(Tm.put tm 2 (.int .i64 fw)) = tm:=by exact Tm.put_same e2
       have q1:(Tm.put (Tm.put tm 2 (.int .i64 fw)) 7 (.sl cK)) = tm:=by rw [q0]; exact Tm.put_same e7
       have q2:(Tm.put (Tm.put (Tm.put tm 2 (.int .i64 fw)) 7 (.sl cK)) 8 (.sl cP)) = tm:=by rw [q1]; exact Tm.put_same e8
       have q3:(Tm.put (Tm.put (Tm.put (Tm.put tm 2 (.int .i64 fw)) 7 (.sl cK)) 8 (.sl cP)) 9 (.sl kU)) = tm:=by rw [q2]; exact Tm.put_same e9
       have q4:(Tm.put (Tm.put (Tm.put (Tm.put (Tm.put tm 2 (.int .i64 fw)) 7 (.sl cK)) 8 (.sl cP)) 9 (.sl kU)) 19 (.int .i64 ii)) = tm:=by rw [q3]; exact Tm.put_same e19
       have q5:(Tm.put (Tm.put (Tm.put (Tm.put (Tm.put (Tm.put tm 2 (.int .i64 fw)) 7 (.sl cK)) 8 (.sl cP)) 9 (.sl kU)) 19 (.int .i64 ii)) 20 (.int .i64 hB)) = tm:=by rw [q4]; exact Tm.put_same e20
       rw [← q5]
       exact Eq.trans (by kernel_rfl) h
      ·exact loops_none (by kernel_rfl)
    ·exact loops_none (by kernel_rfl)
theorem aW.eqX (F:Nat) (aC:Sl→Int→Sl→Sl→Hp→OA) (bc:Sl→Int→Sl→Sl→Hp→OA) (gh:Bool→Hp→OA) (aa:Sl) (ab:Int) (au:Sl) (aB:Sl) (aV:Int) (H:Hp):aCode tabs (mkOrc (aW.cs F aC bc gh)) aW.pn (aW.lh F aC bc gh) F [] 1 aW.code (argTm [(.agg [(.sl aa),(.int .i64 ab)]),(.agg [(.sl au),(.sl aB)]),(.int .i64 aV)]) H (fun tm H=>aresults tabs.ty H tm Try.f75.results.toList fun v=>some (v,H)) (fun _ _ _=>none) (fun tm H=>aresults tabs.ty H tm Try.f75.results.toList fun v=>some (v,H)) = aW.twX F aC bc gh aa ab au aB aV H:=by kernel_rfl
theorem aW.cs_ok (F:Nat):∀ p ∈ aW.cs F (av.tw F) (aj.tw F) (cl.tw F),∀ args H v H',p.2 args H = some (v,H')→Go.AE.T Try.prog p.1 args H v H':=by
 intro p hp
 simp only [aW.cs,List.mem_cons,List.not_mem_nil,or_false] at hp
 rcases hp with rfl | rfl | rfl
 ·exact fun args H v H' h=>av.mk_T h
 ·exact fun args H v H' h=>aj.mk_T h
 ·exact fun args H v H' h=>cl.mk_T h
theorem aW.ok:codeOk aW.pn Try.f75.ntmps aW.tb aW.code = true:=by kernel_rfl
theorem aW.T {F:Nat} {aa:Sl} {ab:Int} {au:Sl} {aB:Sl} {aV:Int} {H:Hp} {v:AV} {H':Hp} (h:aW.tw F aa ab au aB aV H = some (v,H')):Go.AE.T Try.prog 75 [(.agg [(.sl aa),(.int .i64 ab)]),(.agg [(.sl au),(.sl aB)]),(.int .i64 aV)] H v H':=
 Go.AE.T.of (Y:=tabs) (C:=mkOrc (aW.cs F (av.tw F) (aj.tw F) (cl.tw F))) (PN:=aW.pn) (LH:=aW.lh F (av.tw F) (aj.tw F) (cl.tw F)) (F:=F) (TB:=aW.tb) (fn:=Try.f75) (code:=aW.code) mixed tabs_ok (mkOrc_ok (aW.cs_ok F)) Try.func75 (by kernel_rfl) (by kernel_rfl) aW.ok (Nat.le_of_ble_eq_true (by kernel_rfl)) (aW.loops F (av.tw F) (aj.tw F) (cl.tw F)) (Eq.trans (aW.eqX F (av.tw F) (aj.tw F) (cl.tw F) aa ab au aB aV H) h)
theorem aW.mk_T {F:Nat} {args:List AV} {H:Hp} {v:AV} {H':Hp} (h:aW.mk (aW.tw F) args H = some (v,H')):Go.AE.T Try.prog 75 args H v H':=by
 unfold aW.mk at h
 split at h
 ·exact aW.T h
 ·cases h
def ba.twX (F:Nat) (aa:Int) (ab:Int) (ax:Sl) (aB:Int) (aV:Int) (H:Hp):OA:=(Hp.new H [(.int .i64 aa),(.int .i64 ab),(.sl ax)]).bind fun H6=>(Hp.ldSl H6 H.length 2).bind fun s7=>(Hp.ldI H6 .i64 H.length 1).bind fun n8=>(Sl.idx s7 (IntKind.i64.wrap ((IntKind.i64.wrap (aB * n8)) + aV)) 1).bind fun p9=>some ((.ptr p9.1 p9.2),H6)
def ba.tw (F:Nat) (aa:Int) (ab:Int) (ax:Sl) (aB:Int) (aV:Int) (H:Hp):OA:=ba.twX F aa ab ax aB aV H
def ba.code:Go.Code:=(Try.f71.body).getD .skip
def ba.lh (F:Nat) (p:Nat) (ks:List Nat) (n:Nat) (tm:Tm) (H:Hp):OA:=none
def ba.pn:Nat→List Nat:=fun i=>(([]:List (Nat×List Nat)).lookup i).getD []
def ba.tb:Nat→List (List Nat):=fun i=>(([]:List (Nat×List (List Nat))).lookup i).getD []
def ba.mk (g:Int→Int→Sl→Int→Int→Hp→OA) (args:List AV) (H:Hp):OA:=match args with
 | [(.agg [(.int .i64 aa),(.int .i64 ab),(.sl ax)]),(.int .i64 aB),(.int .i64 aV)]=>g aa ab ax aB aV H
 | _=>none
def ba.cs (F:Nat):List (FuncId×(List AV→Hp→OA)):=[]
theorem ba.loops (F:Nat):LoopsOk tabs (mkOrc (ba.cs F)) ba.pn (ba.lh F) F [] 1 ba.code (fun tm H=>aresults tabs.ty H tm Try.f71.results.toList fun v=>some (v,H)) (fun _ _ _=>none) (fun tm H=>aresults tabs.ty H tm Try.f71.results.toList fun v=>some (v,H)):=by
 exact loops_none (by kernel_rfl)
theorem ba.eqX (F:Nat) (aa:Int) (ab:Int) (ax:Sl) (aB:Int) (aV:Int) (H:Hp):aCode tabs (mkOrc (ba.cs F)) ba.pn (ba.lh F) F [] 1 ba.code (argTm [(.agg [(.int .i64 aa),(.int .i64 ab),(.sl ax)]),(.int .i64 aB),(.int .i64 aV)]) H (fun tm H=>aresults tabs.ty H tm Try.f71.results.toList fun v=>some (v,H)) (fun _ _ _=>none) (fun tm H=>aresults tabs.ty H tm Try.f71.results.toList fun v=>some (v,H)) = ba.twX F aa ab ax aB aV H:=by kernel_rfl
theorem ba.cs_ok (F:Nat):∀ p ∈ ba.cs F,∀ args H v H',p.2 args H = some (v,H')→Go.AE.T Try.prog p.1 args H v H':=by
 intro p hp
 exact absurd (show p ∈ [] from hp) List.not_mem_nil
theorem ba.ok:codeOk ba.pn Try.f71.ntmps ba.tb ba.code = true:=by kernel_rfl
theorem ba.T {F:Nat} {aa:Int} {ab:Int} {ax:Sl} {aB:Int} {aV:Int} {H:Hp} {v:AV} {H':Hp} (h:ba.tw F aa ab ax aB aV H = some (v,H')):Go.AE.T Try.prog 71 [(.agg [(.int .i64 aa),(.int .i64 ab),(.sl ax)]),(.int .i64 aB),(.int .i64 aV)] H v H':=
 Go.AE.T.of (Y:=tabs) (C:=mkOrc (ba.cs F)) (PN:=ba.pn) (LH:=ba.lh F) (F:=F) (TB:=ba.tb) (fn:=Try.f71) (code:=ba.code) mixed tabs_ok (mkOrc_ok (ba.cs_ok F)) Try.func71 (by kernel_rfl) (by kernel_rfl) ba.ok (Nat.le_of_ble_eq_true (by kernel_rfl)) (ba.loops F) (Eq.trans (ba.eqX F aa ab ax aB aV H) h)
theorem ba.mk_T {F:Nat} {args:List AV} {H:Hp} {v:AV} {H':Hp} (h:ba.mk (ba.tw F) args H = some (v,H')):Go.AE.T Try.prog 71 args H v H':=by
 unfold ba.mk at h
 split at h
 ·exact ba.T h
 ·cases h
def ag.j9 (F:Nat) (aC:Sl→Int→Sl→Sl→Hp→OA) (bc:Sl→Int→Sl→Sl→Hp→OA) (bI:Int→Int→Hp→OA) (bJ:Sl→Int→Sl→Sl→Int→Hp→OA) (az:Int→Int→Sl→Int→Int→Hp→OA) (C509_:Nat→Nat→Sl→Sl→Nat→Nat→Sl→Int→Int→Hp→OA) (AC:Nat) (ac1:Nat) (ac2:Sl) (ac3:Sl) (AD:Nat) (ac4:Nat) (ac5:Sl) (sh:Int) (si:Int) (H561:Hp):OA:=C509_ AC ac1 ac2 ac3 AD ac4 ac5 sh (IntKind.i64.wrap (si + 1)) H561
def ag.j11 (F:Nat) (aC:Sl→Int→Sl→Sl→Hp→OA) (bc:Sl→Int→Sl→Sl→Hp→OA) (bI:Int→Int→Hp→OA) (bJ:Sl→Int→Sl→Sl→Int→Hp→OA) (az:Int→Int→Sl→Int→Int→Hp→OA) (C509_:Nat→Nat→Sl→Sl→Nat→Nat→Sl→Int→Int→Hp→OA) (AF:Nat) (ac6:Nat) (ac7:Sl) (ac8:Sl) (AG:Nat) (ac9:Nat) (ac_:Sl) (sj:Int) (sk:Int) (H781:Hp):OA:=C509_ AF ac6 ac7 ac8 AG ac9 ac_ sj (IntKind.i64.wrap (sk + 1)) H781
def ag.j12 (F:Nat) (aC:Sl→Int→Sl→Sl→Hp→OA) (bc:Sl→Int→Sl→Sl→Hp→OA) (bI:Int→Int→Hp→OA) (bJ:Sl→Int→Sl→Sl→Int→Hp→OA) (az:Int→Int→Sl→Int→Int→Hp→OA) (C509_:Nat→Nat→Sl→Sl→Nat→Nat→Sl→Int→Int→Hp→OA) (AH:Nat) (ada:Nat) (adb:Sl) (adc:Sl) (AI:Nat) (ade:Nat) (adf:Sl) (sm:Int) (sn:Int) (H743:Hp):OA:=ag.j11 F aC bc bI bJ az C509_ AH ada adb adc AI ade adf sm sn H743
def ag.j13 (F:Nat) (aC:Sl→Int→Sl→Sl→Hp→OA) (bc:Sl→Int→Sl→Sl→Hp→OA) (bI:Int→Int→Hp→OA) (bJ:Sl→Int→Sl→Sl→Int→Hp→OA) (az:Int→Int→Sl→Int→Int→Hp→OA) (C509_:Nat→Nat→Sl→Sl→Nat→Nat→Sl→Int→Int→Hp→OA) (sp:Nat) (Ij:Nat) (Ik:Sl) (Il:Sl) (kV:Nat) (mV:Nat) (oq:Int) (mC:Int) (mD:Int) (Im:Sl) (mE:Int) (mF:Int) (H691:Hp):OA:=(bif (decide (mC ≥ 0)) then ((bif (decide (mD ≥ 0)) then ((Hp.ldI H691 .i64 kV mV).bind fun n692=>(Hp.ldI H691 .i64 kV (mV + 1)).bind fun n693=>(Hp.ldSl H691 kV (mV + 2)).bind fun s694=>(az n692 n693 s694 mC mD H691).bind fun r695=>((r695.1).asP).bind fun p696=>(Hp.ldI r695.2 .i64 p696.1 p696.2).bind fun n697=>(Hp.st r695.2 p696.1 p696.2 (.int .i64 (IntKind.i64.wrap (n697 - oq)))).bind fun H698=>(Hp.ldI H698 .i64 kV mV).bind fun n699=>(Hp.ldI H698 .i64 kV (mV + 1)).bind fun n700=>(Hp.ldSl H698 kV (mV + 2)).bind fun s701=>(az n699 n700 s701 mD mC H698).bind fun r702=>((r702.1).asP).bind fun p703=>(Hp.ldI r702.2 .i64 p703.1 p703.2).bind fun n704=>(Hp.st r702.2 p703.1 p703.2 (.int .i64 (IntKind.i64.wrap (n704 - oq)))).bind fun H705=>ag.j12 F aC bc bI bJ az C509_ sp Ij Ik Il kV mV Im mE mF H705) else (ag.j12 F aC bc bI bJ az C509_ sp Ij Ik Il kV mV Im mE mF H691))) else (ag.j11 F aC bc bI bJ az C509_ sp Ij Ik Il kV mV Im mE mF H691))
def ag.j14 (F:Nat) (aC:Sl→Int→Sl→Sl→Hp→OA) (bc:Sl→Int→Sl→Sl→Hp→OA) (bI:Int→Int→Hp→OA) (bJ:Sl→Int→Sl→Sl→Int→Hp→OA) (az:Int→Int→Sl→Int→Int→Hp→OA) (C1043325_:Nat→Nat→Sl→Sl→Nat→Nat→Sl→Int→Int→Int→Int→Int→Sl→Int→Int→Hp→OA) (AJ:Nat) (adg:Nat) (adh:Sl) (adi:Sl) (AK:Nat) (adj:Nat) (sq:Int) (ss:Int) (su:Int) (adk:Sl) (sv:Int) (sw:Int) (adl:Sl) (sx:Int) (sy:Int) (H837:Hp):OA:=C1043325_ AJ adg adh adi AK adj adk sv sw sq ss su adl sx (IntKind.i64.wrap (sy + 1)) H837
def ag.l1043325 (F:Nat) (aC:Sl→Int→Sl→Sl→Hp→OA) (bc:Sl→Int→Sl→Sl→Hp→OA) (bI:Int→Int→Hp→OA) (bJ:Sl→Int→Sl→Sl→Int→Hp→OA) (az:Int→Int→Sl→Int→Int→Hp→OA) (C509_:Nat→Nat→Sl→Sl→Nat→Nat→Sl→Int→Int→Hp→OA):Nat→Nat→Nat→Sl→Sl→Nat→Nat→Sl→Int→Int→Int→Int→Int→Sl→Int→Int→Hp→OA
 | 0,_,_,_,_,_,_,_,_,_,_,_,_,_,_,_,_=>none
 | NK + 1,dM,fx,gi,gI,dN,fy,jt,eU,fz,dr,dW,ee,kt,gJ,gj,H598=>(bif (decide (gj < gJ)) then ((Sl.idx kt gj 2).bind fun p782=>(Hp.ldI H598 .i64 p782.1 p782.2).bind fun n783=>(Hp.ldI H598 .i64 p782.1 (p782.2 + 1)).bind fun n784=>(Hp.new H598 [.int .i64 0,.int .i64 0]).bind fun H785=>(Hp.st H785 H598.length 0 (.int .i64 n783)).bind fun H786=>(Hp.st H786 H598.length (0 + 1) (.int .i64 n784)).bind fun H787=>(Hp.ldI H787 .i64 H598.length 0).bind fun n788=>(bif (decide (n788 ≥ 0)) then ((Hp.ldI H787 .i64 dN fy).bind fun n789=>(Hp.ldI H787 .i64 dN (fy + 1)).bind fun n790=>(Hp.ldSl H787 dN (fy + 2)).bind fun s791=>(Hp.ldI H787 .i64 H598.length 0).bind fun n792=>(Hp.ldI H787 .i64 H598.length 1).bind fun n793=>(az n789 n790 s791 n792 n793 H787).bind fun r794=>((r794.1).asP).bind fun p795=>(Hp.ldI r794.2 .i64 p795.1 p795.2).bind fun n796=>(Hp.st r794.2 p795.1 p795.2 (.int .i64 (IntKind.i64.wrap (n796 + dr)))).bind fun H797=>ag.j14 F aC bc bI bJ az (ag.l1043325 F aC bc bI bJ az C509_ NK) dM fx gi gI dN fy dr dW ee jt eU fz kt gJ gj H797) else (ag.j14 F aC bc bI bJ az (ag.l1043325 F aC bc bI bJ az C509_ NK) dM fx gi gI dN fy dr dW ee jt eU fz kt gJ gj H787))) else (ag.j13 F aC bc bI bJ az C509_ dM fx gi gI dN fy dr dW ee jt eU fz H598))
termination_by structural n=>n
def ag.j15 (F:Nat) (aC:Sl→Int→Sl→Sl→Hp→OA) (bc:Sl→Int→Sl→Sl→Hp→OA) (bI:Int→Int→Hp→OA) (bJ:Sl→Int→Sl→Sl→Int→Hp→OA) (az:Int→Int→Sl→Int→Int→Hp→OA) (C509_:Nat→Nat→Sl→Sl→Nat→Nat→Sl→Int→Int→Hp→OA) (uu:Nat) (NL:Nat) (AL:Sl) (AM:Sl) (uv:Nat) (NM:Nat) (sB:Int) (ot:Int) (NN:Sl) (ou:Int) (ov:Int) (H520:Hp):OA:=(Sl.idx AL ot 1).bind fun p521=>(Hp.ldI H520 .i64 p521.1 p521.2).bind fun n522=>(Sl.idx AM n522 1).bind fun p523=>(Hp.ldI H520 .i64 p523.1 p523.2).bind fun n524=>(Sl.idx AL (IntKind.i64.wrap (ot + 2)) 1).bind fun p525=>(Hp.ldI H520 .i64 p525.1 p525.2).bind fun n526=>(Sl.idx AM n526 1).bind fun p527=>(Hp.ldI H520 .i64 p527.1 p527.2).bind fun n528=>(bif (n524 == n528) then (ag.j9 F aC bc bI bJ az C509_ uu NL AL AM uv NM NN ou ov H520) else ((Hp.new H520 [(.int .i64 n524),(.int .i64 n524),(.int .i64 n528),(.int .i64 n528)]).bind fun H562=>ag.l1043325 F aC bc bI bJ az C509_ F uu NL AL AM uv NM NN ou ov sB n524 n528 (⟨some (H520.length,0),2,.ex 2⟩:Sl) ((⟨some (H520.length,0),2,.ex 2⟩:Sl).n:Int) 0 H562))
def ag.l509 (F:Nat) (aC:Sl→Int→Sl→Sl→Hp→OA) (bc:Sl→Int→Sl→Sl→Hp→OA) (bI:Int→Int→Hp→OA) (bJ:Sl→Int→Sl→Sl→Int→Hp→OA) (az:Int→Int→Sl→Int→Int→Hp→OA) :Nat→Nat→Nat→Sl→Sl→Nat→Nat→Sl→Int→Int→Hp→OA
 | 0,_,_,_,_,_,_,_,_,_,_=>none
 | de + 1,dX,gl,jH,jY,gK,ju,ku,gL,ef,H130=>(bif (decide (ef < gL)) then ((Sl.idx ku ef 1).bind fun p489=>(Hp.ldI H130 .i64 p489.1 p489.2).bind fun n490=>(bif (decide (n490 < 0)) then (ag.j15 F aC bc bI bJ az (ag.l509 F aC bc bI bJ az de) dX gl jH jY gK ju n490 (IntKind.i64.wrap ((IntKind.i64.wrap (4 * ef)) + 1)) ku gL ef H130) else (ag.j15 F aC bc bI bJ az (ag.l509 F aC bc bI bJ az de) dX gl jH jY gK ju n490 (IntKind.i64.wrap (4 * ef)) ku gL ef H130))) else ((Hp.ldI H130 .i64 gK ju).bind fun n838=>(Hp.ldI H130 .i64 gK (ju + 1)).bind fun n839=>(Hp.ldSl H130 gK (ju + 2)).bind fun s840=>(Hp.st H130 dX gl (.int .i64 n838)).bind fun H841=>(Hp.st H841 dX (gl + 1) (.int .i64 n839)).bind fun H842=>(Hp.st H842 dX (gl + 1 + 1) (.sl s840)).bind fun H843=>(Hp.ldI H843 .i64 dX gl).bind fun n844=>(Hp.ldI H843 .i64 dX (gl + 1)).bind fun n845=>(Hp.ldSl H843 dX (gl + 2)).bind fun s846=>some ((.agg [(.int .i64 n844),(.int .i64 n845),(.sl s846)]),H843)))
termination_by structural n=>n
def ag.j16 (F:Nat) (aC:Sl→Int→Sl→Sl→Hp→OA) (bc:Sl→Int→Sl→Sl→Hp→OA) (bI:Int→Int→Hp→OA) (bJ:Sl→Int→Sl→Sl→Int→Hp→OA) (az:Int→Int→Sl→Int→Int→Hp→OA) (sC:Int) (uw:Nat) (NO:Nat) (ux:Nat) (NP:Nat) (AN:Nat) (adm:Nat) (adn:Sl) (ado:Sl) (ox:Int) (H87:Hp):OA:=(bI ox ox H87).bind fun r88=>((r88.1).asAgg 3).bind fun l89=>(l89[0]?).bind fun v90=>((v90).asI .i64).bind fun n91=>(l89[1]?).bind fun v92=>((v92).asI .i64).bind fun n93=>(l89[2]?).bind fun v94=>((v94).asSl).bind fun s95=>(Hp.new r88.2 [.int .i64 0,.int .i64 0,.sl ⟨none,0,.ex 0⟩]).bind fun H96=>(Hp.st H96 r88.2.length 0 (.int .i64 n91)).bind fun H97=>(Hp.st H97 r88.2.length (0 + 1) (.int .i64 n93)).bind fun H98=>(Hp.st H98 r88.2.length (0 + 1 + 1) (.sl s95)).bind fun H99=>(Hp.ldSl H99 uw NO).bind fun s100=>(Hp.ldI H99 .i64 uw (NO + 1)).bind fun n101=>(Hp.ldSl H99 ux NP).bind fun s102=>(Hp.ldSl H99 ux (NP + 1)).bind fun s103=>(bJ s100 n101 s102 s103 sC H99).bind fun r104=>((r104.1).asSl).bind fun s105=>ag.l509 F aC bc bI bJ az F AN adm adn ado r88.2.length 0 s105 (s105.n:Int) 0 r104.2
def ag.j17 (F:Nat) (aC:Sl→Int→Sl→Sl→Hp→OA) (bc:Sl→Int→Sl→Sl→Hp→OA) (bI:Int→Int→Hp→OA) (bJ:Sl→Int→Sl→Sl→Int→Hp→OA) (az:Int→Int→Sl→Int→Int→Hp→OA) (C125_:Int→Nat→Nat→Nat→Nat→Nat→Nat→Sl→Sl→Int→Sl→Int→Int→Hp→OA) (sD:Int) (AO:Nat) (adp:Nat) (AP:Nat) (adq:Nat) (AQ:Nat) (adr:Nat) (ads:Sl) (adt:Sl) (sE:Int) (adu:Sl) (sF:Int) (sG:Int) (H873:Hp):OA:=C125_ sD AO adp AP adq AQ adr ads adt sE adu sF (IntKind.i64.wrap (sG + 1)) H873
def ag.l125 (F:Nat) (aC:Sl→Int→Sl→Sl→Hp→OA) (bc:Sl→Int→Sl→Sl→Hp→OA) (bI:Int→Int→Hp→OA) (bJ:Sl→Int→Sl→Sl→Int→Hp→OA) (az:Int→Int→Sl→Int→Int→Hp→OA) :Nat→Int→Nat→Nat→Nat→Nat→Nat→Nat→Sl→Sl→Int→Sl→Int→Int→Hp→OA
 | 0,_,_,_,_,_,_,_,_,_,_,_,_,_,_=>none
 | cX + 1,dj,eV,ij,fA,iL,gm,jd,jv,jw,eB,kv,gM,eW,H40=>(bif (decide (eW < gM)) then ((Sl.idx kv eW 1).bind fun p847=>(Hp.ldI H40 .i64 p847.1 p847.2).bind fun n848=>(bif (n848 != dj) then ((Sl.idx jw eW 1).bind fun p849=>(Hp.st H40 p849.1 p849.2 (.int .i64 eB)).bind fun H850=>ag.j17 F aC bc bI bJ az (ag.l125 F aC bc bI bJ az cX) dj eV ij fA iL gm jd jv jw (IntKind.i64.wrap (eB + 1)) kv gM eW H850) else (ag.j17 F aC bc bI bJ az (ag.l125 F aC bc bI bJ az cX) dj eV ij fA iL gm jd jv jw eB kv gM eW H40))) else (ag.j16 F aC bc bI bJ az dj eV ij fA iL gm jd jv jw eB H40))
termination_by structural n=>n
def ag.twX (F:Nat) (aC:Sl→Int→Sl→Sl→Hp→OA) (bc:Sl→Int→Sl→Sl→Hp→OA) (bI:Int→Int→Hp→OA) (bJ:Sl→Int→Sl→Sl→Int→Hp→OA) (az:Int→Int→Sl→Int→Int→Hp→OA) (aa:Sl) (ab:Int) (au:Sl) (aB:Sl) (aV:Int) (H:Hp):OA:=(Hp.new H [(.sl aa),(.int .i64 ab)]).bind fun H6=>(Hp.new H6 [(.sl au),(.sl aB)]).bind fun H7=>(Hp.new H7 [.int .i64 0,.int .i64 0,.sl ⟨none,0,.ex 0⟩]).bind fun H8=>(Hp.ldSl H8 H.length 0).bind fun s9=>(Hp.ldI H8 .i64 H.length (0 + 1)).bind fun n10=>(Hp.ldSl H8 H6.length 0).bind fun s11=>(Hp.ldSl H8 H6.length (0 + 1)).bind fun s12=>(aC s9 n10 s11 s12 H8).bind fun r13=>((r13.1).asSl).bind fun s14=>(if Cons H8 r13.2 then ((Hp.ldSl r13.2 H.length 0).bind fun s15=>(Hp.ldI r13.2 .i64 H.length (0 + 1)).bind fun n16=>(Hp.ldSl r13.2 H6.length 0).bind fun s17=>(Hp.ldSl r13.2 H6.length (0 + 1)).bind fun s18=>(bc s15 n16 s17 s18 r13.2).bind fun r19=>((r19.1).asSl).bind fun s20=>(Hp.mk r19.2 [.int .i64 0] 8 (s20.n:Int) (s20.n:Int)).bind fun m21=>ag.l125 F aC bc bI bJ az F aV H.length 0 H6.length 0 H7.length 0 s14 m21.1 (-1) s20 (s20.n:Int) 0 m21.2) else none)
def ag.tw (F:Nat) (aa:Sl) (ab:Int) (au:Sl) (aB:Sl) (aV:Int) (H:Hp):OA:=ag.twX F (av.tw F) (aj.tw F) (bE.tw F) (aW.tw F) (ba.tw F) aa ab au aB aV H
def ag.code:Go.Code:=(Try.f37.body).getD .skip
def ag.lh125 (F:Nat) (aC:Sl→Int→Sl→Sl→Hp→OA) (bc:Sl→Int→Sl→Sl→Hp→OA) (bI:Int→Int→Hp→OA) (bJ:Sl→Int→Sl→Sl→Int→Hp→OA) (az:Int→Int→Sl→Int→Int→Hp→OA) (ks:List Nat) (n:Nat) (tm:Tm) (H:Hp):OA:=match ks,tm 2,tm 3,tm 4,tm 6,tm 7,tm 9,tm 10,tm 30,tm 31,tm 32 with
 | [],(.int .i64 dj),(.ptr eV ij),(.ptr fA iL),(.ptr gm jd),(.sl jv),(.sl jw),(.int .i64 eB),(.sl kv),(.int .i64 gM),(.int .i64 eW)=>ag.l125 F aC bc bI bJ az n dj eV ij fA iL gm jd jv jw eB kv gM eW H
 | _,_,_,_,_,_,_,_,_,_,_=>none
theorem ag.lh125_inv {F:Nat} {aC:Sl→Int→Sl→Sl→Hp→OA} {bc:Sl→Int→Sl→Sl→Hp→OA} {bI:Int→Int→Hp→OA} {bJ:Sl→Int→Sl→Sl→Int→Hp→OA} {az:Int→Int→Sl→Int→Int→Hp→OA} {ks:List Nat} {n:Nat} {tm:Tm} {H:Hp} {r:AV×Hp} (h:ag.lh125 F aC bc bI bJ az ks n tm H = some r):∃ dj:Int,∃ eV:Nat,∃ ij:Nat,∃ fA:Nat,∃ iL:Nat,∃ gm:Nat,∃ jd:Nat,∃ jv:Sl,∃ jw:Sl,∃ eB:Int,∃ kv:Sl,∃ gM:Int,∃ eW:Int,ks = []∧tm 2 = (.int .i64 dj)∧tm 3 = (.ptr eV ij)∧tm 4 = (.ptr fA iL)∧tm 6 = (.ptr gm jd)∧tm 7 = (.sl jv)∧tm 9 = (.sl jw)∧tm 10 = (.int .i64 eB)∧tm 30 = (.sl kv)∧tm 31 = (.int .i64 gM)∧tm 32 = (.int .i64 eW)∧ag.l125 F aC bc bI bJ az n dj eV ij fA iL gm jd jv jw eB kv gM eW H = some r:=by
 unfold ag.lh125 at h
 split at h
 ·exact ⟨_,_,_,_,_,_,_,_,_,_,_,_,_,rfl,by assumption,by assumption,by assumption,by assumption,by assumption,by assumption,by assumption,by assumption,by assumption,by assumption,h⟩
 ·cases h
def ag.lh509 (F:Nat) (aC:Sl→Int→Sl→Sl→Hp→OA) (bc:Sl→Int→Sl→Sl→Hp→OA) (bI:Int→Int→Hp→OA) (bJ:Sl→Int→Sl→Sl→Int→Hp→OA) (az:Int→Int→Sl→Int→Int→Hp→OA) (ks:List Nat) (n:Nat) (tm:Tm) (H:Hp):OA:=match ks,tm 6,tm 7,tm 9,tm 13,tm 53,tm 54,tm 55 with
 | [],(.ptr dX gl),(.sl jH),(.sl jY),(.ptr gK ju),(.sl ku),(.int .i64 gL),(.int .i64 ef)=>ag.l509 F aC bc bI bJ az n dX gl jH jY gK ju ku gL ef H
 | _,_,_,_,_,_,_,_=>none
theorem ag.lh509_inv {F:Nat} {aC:Sl→Int→Sl→Sl→Hp→OA} {bc:Sl→Int→Sl→Sl→Hp→OA} {bI:Int→Int→Hp→OA} {bJ:Sl→Int→Sl→Sl→Int→Hp→OA} {az:Int→Int→Sl→Int→Int→Hp→OA} {ks:List Nat} {n:Nat} {tm:Tm} {H:Hp} {r:AV×Hp} (h:ag.lh509 F aC bc bI bJ az ks n tm H = some r):∃ dX:Nat,∃ gl:Nat,∃ jH:Sl,∃ jY:Sl,∃ gK:Nat,∃ ju:Nat,∃ ku:Sl,∃ gL:Int,∃ ef:Int,ks = []∧tm 6 = (.ptr dX gl)∧tm 7 = (.sl jH)∧tm 9 = (.sl jY)∧tm 13 = (.ptr gK ju)∧tm 53 = (.sl ku)∧tm 54 = (.int .i64 gL)∧tm 55 = (.int .i64 ef)∧ag.l509 F aC bc bI bJ az n dX gl jH jY gK ju ku gL ef H = some r:=by
 unfold ag.lh509 at h
 split at h
 ·exact ⟨_,_,_,_,_,_,_,_,_,rfl,by assumption,by assumption,by assumption,by assumption,by assumption,by assumption,by assumption,h⟩
 ·cases h
def ag.lh1043325 (F:Nat) (aC:Sl→Int→Sl→Sl→Hp→OA) (bc:Sl→Int→Sl→Sl→Hp→OA) (bI:Int→Int→Hp→OA) (bJ:Sl→Int→Sl→Sl→Int→Hp→OA) (az:Int→Int→Sl→Int→Int→Hp→OA) (ks:List Nat) (n:Nat) (tm:Tm) (H:Hp):OA:=match ks,tm 6,tm 7,tm 9,tm 13,tm 15,tm 17,tm 18,tm 53,tm 54,tm 55,tm 90,tm 91,tm 92 with
 | [de],(.ptr dM fx),(.sl gi),(.sl gI),(.ptr dN fy),(.int .i64 dr),(.int .i64 dW),(.int .i64 ee),(.sl jt),(.int .i64 eU),(.int .i64 fz),(.sl kt),(.int .i64 gJ),(.int .i64 gj)=>ag.l1043325 F aC bc bI bJ az (ag.l509 F aC bc bI bJ az de) n dM fx gi gI dN fy jt eU fz dr dW ee kt gJ gj H
 | _,_,_,_,_,_,_,_,_,_,_,_,_,_=>none
theorem ag.lh1043325_inv {F:Nat} {aC:Sl→Int→Sl→Sl→Hp→OA} {bc:Sl→Int→Sl→Sl→Hp→OA} {bI:Int→Int→Hp→OA} {bJ:Sl→Int→Sl→Sl→Int→Hp→OA} {az:Int→Int→Sl→Int→Int→Hp→OA} {ks:List Nat} {n:Nat} {tm:Tm} {H:Hp} {r:AV×Hp} (h:ag.lh1043325 F aC bc bI bJ az ks n tm H = some r):∃ de:Nat,∃ dM:Nat,∃ fx:Nat,∃ gi:Sl,∃ gI:Sl,∃ dN:Nat,∃ fy:Nat,∃ dr:Int,∃ dW:Int,∃ ee:Int,∃ jt:Sl,∃ eU:Int,∃ fz:Int,∃ kt:Sl,∃ gJ:Int,∃ gj:Int,ks = [de]∧tm 6 = (.ptr dM fx)∧tm 7 = (.sl gi)∧tm 9 = (.sl gI)∧tm 13 = (.ptr dN fy)∧tm 15 = (.int .i64 dr)∧tm 17 = (.int .i64 dW)∧tm 18 = (.int .i64 ee)∧tm 53 = (.sl jt)∧tm 54 = (.int .i64 eU)∧tm 55 = (.int .i64 fz)∧tm 90 = (.sl kt)∧tm 91 = (.int .i64 gJ)∧tm 92 = (.int .i64 gj)∧ag.l1043325 F aC bc bI bJ az (ag.l509 F aC bc bI bJ az de) n dM fx gi gI dN fy jt eU fz dr dW ee kt gJ gj H = some r:=by
 unfold ag.lh1043325 at h
 split at h
 ·exact ⟨_,_,_,_,_,_,_,_,_,_,_,_,_,_,_,_,rfl,by assumption,by assumption,by assumption,by assumption,by assumption,by assumption,by assumption,by assumption,by assumption,by assumption,by assumption,by assumption,by assumption,h⟩
 ·cases h
def ag.lh (F:Nat) (aC:Sl→Int→Sl→Sl→Hp→OA) (bc:Sl→Int→Sl→Sl→Hp→OA) (bI:Int→Int→Hp→OA) (bJ:Sl→Int→Sl→Sl→Int→Hp→OA) (az:Int→Int→Sl→Int→Int→Hp→OA) (p:Nat) (ks:List Nat) (n:Nat) (tm:Tm) (H:Hp):OA:=bif p.beq 1043325 then ag.lh1043325 F aC bc bI bJ az ks n tm H else (bif p.beq 509 then ag.lh509 F aC bc bI bJ az ks n tm H else (bif p.beq 125 then ag.lh125 F aC bc bI bJ az ks n tm H else (none)))
def ag.pn:Nat→List Nat:=fun i=>(([(1,[5]),(18,[])]:List (Nat×List Nat)).lookup i).getD []
def ag.tb:Nat→List (List Nat):=fun i=>(([(1,[[],[],[0,1],[],[],[0,1,2,3,4],[0,1,2,3,4,5],[0,1,2,3,4,5,6]]),(18,[[],[],[],[1,2],[1,2,3],[0,1,2,3,4],[0,1,2,3,4,5],[],[],[],[9],[8,9,10],[8,9,10,11],[7,8,9,10,11,12],[7,8,9,10,11,12,13],[0,1,2,3,4,5,6],[0,1,2,3,4,5,6,7,8,9,10,11,12,13,14,15]])]:List (Nat×List (List Nat))).lookup i).getD []
def ag.mk (g:Sl→Int→Sl→Sl→Int→Hp→OA) (args:List AV) (H:Hp):OA:=match args with
 | [(.agg [(.sl aa),(.int .i64 ab)]),(.agg [(.sl au),(.sl aB)]),(.int .i64 aV)]=>g aa ab au aB aV H
 | _=>none
def ag.cs (F:Nat) (aC:Sl→Int→Sl→Sl→Hp→OA) (bc:Sl→Int→Sl→Sl→Hp→OA) (bI:Int→Int→Hp→OA) (bJ:Sl→Int→Sl→Sl→Int→Hp→OA) (az:Int→Int→Sl→Int→Int→Hp→OA):List (FuncId×(List AV→Hp→OA)):=[(72,av.mk aC),(73,aj.mk bc),(74,bE.mk bI),(75,aW.mk bJ),(71,ba.mk az)]
theorem ag.loops (F:Nat) (aC:Sl→Int→Sl→Sl→Hp→OA) (bc:Sl→Int→Sl→Sl→Hp→OA) (bI:Int→Int→Hp→OA) (bJ:Sl→Int→Sl→Sl→Int→Hp→OA) (az:Int→Int→Sl→Int→Int→Hp→OA):LoopsOk tabs (mkOrc (ag.cs F aC bc bI bJ az)) ag.pn (ag.lh F aC bc bI bJ az) F [] 1 ag.code (fun tm H=>aresults tabs.ty H tm Try.f37.results.toList fun v=>some (v,H)) (fun _ _ _=>none) (fun tm H=>aresults tabs.ty H tm Try.f37.results.toList fun v=>some (v,H)):=by
 refine LoopsOk.seq ?_ ?_
 ·exact loops_none (by kernel_rfl)
 ·refine LoopsOk.seq ?_ ?_
  ·exact loops_none (by kernel_rfl)
  ·refine LoopsOk.seq ?_ ?_
   ·exact loops_none (by kernel_rfl)
   ·refine LoopsOk.seq ?_ ?_
    ·exact loops_none (by kernel_rfl)
    ·refine LoopsOk.seq ?_ ?_
     ·refine LoopsOk.seq ?_ ?_
      ·exact loops_none (by kernel_rfl)
      ·refine LoopsOk.block ?_
       refine LoopsOk.loop (fun tm H=>?_) (fun k125 tm H r h0=>?_) (fun k125=>?_)
       ·refine none_of fun r h0=>?_
        obtain ⟨dj,eV,ij,fA,iL,gm,jd,jv,jw,eB,kv,gM,eW,hks,e2,e3,e4,e6,e7,e9,e10,e30,e31,e32,h⟩:=ag.lh125_inv (show ag.lh125 F aC bc bI bJ az [] 0 tm H = some r from h0)
        cases h
       ·obtain ⟨dj,eV,ij,fA,iL,gm,jd,jv,jw,eB,kv,gM,eW,hks,e2,e3,e4,e6,e7,e9,e10,e30,e31,e32,h⟩:=ag.lh125_inv (show ag.lh125 F aC bc bI bJ az [] (k125 + 1) tm H = some r from h0)
        have q0:(Tm.put tm 2 (.int .i64 dj)) = tm:=by exact Tm.put_same e2
        have q1:(Tm.put (Tm.put tm 2 (.int .i64 dj)) 3 (.ptr eV ij)) = tm:=by rw [q0]; exact Tm.put_same e3
        have q2:(Tm.put (Tm.put (Tm.put tm 2 (.int .i64 dj)) 3 (.ptr eV ij)) 4 (.ptr fA iL)) = tm:=by rw [q1]; exact Tm.put_same e4
        have q3:(Tm.put (Tm.put (Tm.put (Tm.put tm 2 (.int .i64 dj)) 3 (.ptr eV ij)) 4 (.ptr fA iL)) 6 (.ptr gm jd)) = tm:=by rw [q2]; exact Tm.put_same e6
        have q4:(Tm.put (Tm.put (Tm.put (Tm.put (Tm.put tm 2 (.int .i64 dj)) 3 (.ptr eV ij)) 4 (.ptr fA iL)) 6 (.ptr gm jd)) 7 (.sl jv)) = tm:=by rw [q3]; exact Tm.put_same e7
        have q5:(Tm.put (Tm.put (Tm.put (Tm.put (Tm.put (Tm.put tm 2 (.int .i64 dj)) 3 (.ptr eV ij)) 4 (.ptr fA iL)) 6 (.ptr gm jd)) 7 (.sl jv)) 9 (.sl jw)) = tm:=by rw [q4]; exact Tm.put_same e9
        have q6:(Tm.put (Tm.put (Tm.put (Tm.put (Tm.put (Tm.put (Tm.put tm 2 (.int .i64 dj)) 3 (.ptr eV ij)) 4 (.ptr fA iL)) 6 (.ptr gm jd)) 7 (.sl jv)) 9 (.sl jw)) 10 (.int .i64 eB)) = tm:=by rw [q5]; exact Tm.put_same e10
        have q7:(Tm.put (Tm.put (Tm.put (Tm.put (Tm.put (Tm.put (Tm.put (Tm.put tm 2 (.int .i64 dj)) 3 (.ptr eV ij)) 4 (.ptr fA iL)) 6 (.ptr gm jd)) 7 (.sl jv)) 9 (.sl jw)) 10 (.int .i64 eB)) 30 (.sl kv)) = tm:=by rw [q6]; exact Tm.put_same e30
        have q8:(Tm.put (Tm.put (Tm.put (Tm.put (Tm.put (Tm.put (Tm.put (Tm.put (Tm.put tm 2 (.int .i64 dj)) 3 (.ptr eV ij)) 4 (.ptr fA iL)) 6 (.ptr gm jd)) 7 (.sl jv)) 9 (.sl jw)) 10 (.int .i64 eB)) 30 (.sl kv)) 31 (.int .i64 gM)) = tm:=by rw [q7]; exact Tm.put_same e31
        have q9:(Tm.put (Tm.put (Tm.put (Tm.put (Tm.put (Tm.put (Tm.put (Tm.put (Tm.put (Tm.put tm 2 (.int .i64 dj)) 3 (.ptr eV ij)) 4 (.ptr fA iL)) 6 (.ptr gm jd)) 7 (.sl jv)) 9 (.sl jw)) 10 (.int .i64 eB)) 30 (.sl kv)) 31 (.int .i64 gM)) 32 (.int .i64 eW)) = tm:=by rw [q8]; exact Tm.put_same e32
        rw [← q9]
        exact Eq.trans (by kernel_rfl) h
       ·exact loops_none (by kernel_rfl)
     ·refine LoopsOk.seq ?_ ?_
      ·exact loops_none (by kernel_rfl)
      ·refine LoopsOk.seq ?_ ?_
       ·refine LoopsOk.seq ?_ ?_
        ·exact loops_none (by kernel_rfl)
        ·refine LoopsOk.block ?_
         refine LoopsOk.loop (fun tm H=>?_) (fun k509 tm H r h0=>?_) (fun k509=>?_)
         ·refine none_of fun r h0=>?_
          obtain ⟨dX,gl,jH,jY,gK,ju,ku,gL,ef,hks,e6,e7,e9,e13,e53,e54,e55,h⟩:=ag.lh509_inv (show ag.lh509 F aC bc bI bJ az [] 0 tm H = some r from h0)
          cases h
         ·obtain ⟨dX,gl,jH,jY,gK,ju,ku,gL,ef,hks,e6,e7,e9,e13,e53,e54,e55,h⟩:=ag.lh509_inv (show ag.lh509 F aC bc bI bJ az [] (k509 + 1) tm H = some r from h0)
          have q0:(Tm.put tm 6 (.ptr dX gl)) = tm:=by exact Tm.put_same e6
          have q1:(Tm.put (Tm.put tm 6 (.ptr dX gl)) 7 (.sl jH)) = tm:=by rw [q0]; exact Tm.put_same e7
          have q2:(Tm.put (Tm.put (Tm.put tm 6 (.ptr dX gl)) 7 (.sl jH)) 9 (.sl jY)) = tm:=by rw [q1]; exact Tm.put_same e9
          have q3:(Tm.put (Tm.put (Tm.put (Tm.put tm 6 (.ptr dX gl)) 7 (.sl jH)) 9 (.sl jY)) 13 (.ptr gK ju)) = tm:=by rw [q2]; exact Tm.put_same e13
          have q4:(Tm.put (Tm.put (Tm.put (Tm.put (Tm.put tm 6 (.ptr dX gl)) 7 (.sl jH)) 9 (.sl jY)) 13 (.ptr gK ju)) 53 (.sl ku)) = tm:=by rw [q3]; exact Tm.put_same e53
          have q5:(Tm.put (Tm.put (Tm.put (Tm.put (Tm.put (Tm.put tm 6 (.ptr dX gl)) 7 (.sl jH)) 9 (.sl jY)) 13 (.ptr gK ju)) 53 (.sl ku)) 54 (.int .i64 gL)) = tm:=by rw [q4]; exact Tm.put_same e54
          have q6:(Tm.put (Tm.put (Tm.put (Tm.put (Tm.put (Tm.put (Tm.put tm 6 (.ptr dX gl)) 7 (.sl jH)) 9 (.sl jY)) 13 (.ptr gK ju)) 53 (.sl ku)) 54 (.int .i64 gL)) 55 (.int .i64 ef)) = tm:=by rw [q5]; exact Tm.put_same e55
          rw [← q6]
          exact Eq.trans (by kernel_rfl) h
         ·refine LoopsOk.seq ?_ ?_
          ·exact loops_none (by kernel_rfl)
          ·refine LoopsOk.seq ?_ ?_
           ·exact loops_none (by kernel_rfl)
           ·refine LoopsOk.seq ?_ ?_
            ·refine LoopsOk.block ?_
             refine LoopsOk.seq ?_ ?_
             ·exact loops_none (by kernel_rfl)
             ·refine LoopsOk.seq ?_ ?_
              ·exact loops_none (by kernel_rfl)
              ·refine LoopsOk.seq ?_ ?_
               ·exact loops_none (by kernel_rfl)
               ·refine LoopsOk.seq ?_ ?_
                ·exact loops_none (by kernel_rfl)
                ·refine LoopsOk.seq ?_ ?_
                 ·exact loops_none (by kernel_rfl)
                 ·refine LoopsOk.seq ?_ ?_
                  ·refine LoopsOk.seq ?_ ?_
                   ·exact loops_none (by kernel_rfl)
                   ·refine LoopsOk.block ?_
                    refine LoopsOk.loop (fun tm H=>?_) (fun k1043325 tm H r h0=>?_) (fun k1043325=>?_)
                    ·refine none_of fun r h0=>?_
                     obtain ⟨de,dM,fx,gi,gI,dN,fy,dr,dW,ee,jt,eU,fz,kt,gJ,gj,hks,e6,e7,e9,e13,e15,e17,e18,e53,e54,e55,e90,e91,e92,h⟩:=ag.lh1043325_inv (show ag.lh1043325 F aC bc bI bJ az [k509] 0 tm H = some r from h0)
                     cases h
                    ·obtain ⟨de,dM,fx,gi,gI,dN,fy,dr,dW,ee,jt,eU,fz,kt,gJ,gj,hks,e6,e7,e9,e13,e15,e17,e18,e53,e54,e55,e90,e91,e92,h⟩:=ag.lh1043325_inv (show ag.lh1043325 F aC bc bI bJ az [k509] (k1043325 + 1) tm H = some r from h0)
                     obtain rfl:de = k509:=by simpa [eq_comm] using hks
                     have q0:(Tm.put tm 6 (.ptr dM fx)) = tm:=by exact Tm.put_same e6
                     have q1:(Tm.put (Tm.put tm 6 (.ptr dM fx)) 7 (.sl gi)) = tm:=by rw [q0]; exact Tm.put_same e7
                     have q2:(Tm.put (Tm.put (Tm.put tm 6 (.ptr dM fx)) 7 (.sl gi)) 9 (.sl gI)) = tm:=by rw [q1]; exact Tm.put_same e9
                     have q3:(Tm.put (Tm.put (Tm.put (Tm.put tm 6 (.ptr dM fx)) 7 (.sl gi)) 9 (.sl gI)) 13 (.ptr dN fy)) = tm:=by rw [q2]; exact Tm.put_same e13
                     have q4:(Tm.put (Tm.put (Tm.put (Tm.put (Tm.put tm 6 (.ptr dM fx)) 7 (.sl gi)) 9 (.sl gI)) 13 (.ptr dN fy)) 15 (.int .i64 dr)) = tm:=by rw [q3]; exact Tm.put_same e15
                     have q5:(Tm.put (Tm.put (Tm.put (Tm.put (Tm.put (Tm.put tm 6 (.ptr dM fx)) 7 (.sl gi)) 9 (.sl gI)) 13 (.ptr dN fy)) 15 (.int .i64 dr)) 17 (.int .i64 dW)) = tm:=by rw [q4]; exact Tm.put_same e17
                     have q6:(Tm.put (Tm.put (Tm.put (Tm.put (Tm.put (Tm.put (Tm.put tm 6 (.ptr dM fx)) 7 (.sl gi)) 9 (.sl gI)) 13 (.ptr dN fy)) 15 (.int .i64 dr)) 17 (.int .i64 dW)) 18 (.int .i64 ee)) = tm:=by rw [q5]; exact Tm.put_same e18
                     have q7:(Tm.put (Tm.put (Tm.put (Tm.put (Tm.put (Tm.put (Tm.put (Tm.put tm 6 (.ptr dM fx)) 7 (.sl gi)) 9 (.sl gI)) 13 (.ptr dN fy)) 15 (.int .i64 dr)) 17 (.int .i64 dW)) 18 (.int .i64 ee)) 53 (.sl jt)) = tm:=by rw [q6]; exact Tm.put_same e53
                     have q8:(Tm.put (Tm.put (Tm.put (Tm.put (Tm.put (Tm.put (Tm.put (Tm.put (Tm.put tm 6 (.ptr dM fx)) 7 (.sl gi)) 9 (.sl gI)) 13 (.ptr dN fy)) 15 (.int .i64 dr)) 17 (.int .i64 dW)) 18 (.int .i64 ee)) 53 (.sl jt)) 54 (.int .i64 eU)) = tm:=by rw [q7]; exact Tm.put_same e54
                     have q9:(Tm.put (Tm.put (Tm.put (Tm.put (Tm.put (Tm.put (Tm.put (Tm.put (Tm.put (Tm.put tm 6 (.ptr dM fx)) 7 (.sl gi)) 9 (.sl gI)) 13 (.ptr dN fy)) 15 (.int .i64 dr)) 17 (.int .i64 dW)) 18 (.int .i64 ee)) 53 (.sl jt)) 54 (.int .i64 eU)) 55 (.int .i64 fz)) = tm:=by rw [q8]; exact Tm.put_same e55
                     have q10:(Tm.put (Tm.put (Tm.put (Tm.put (Tm.put (Tm.put (Tm.put (Tm.put (Tm.put (Tm.put (Tm.put tm 6 (.ptr dM fx)) 7 (.sl gi)) 9 (.sl gI)) 13 (.ptr dN fy)) 15 (.int .i64 dr)) 17 (.int .i64 dW)) 18 (.int .i64 ee)) 53 (.sl jt)) 54 (.int .i64 eU)) 55 (.int .i64 fz)) 90 (.sl kt)) = tm:=by rw [q9]; exact Tm.put_same e90
                     have q11:(Tm.put (Tm.put (Tm.put (Tm.put (Tm.put (Tm.put (Tm.put (Tm.put (Tm.put (Tm.put (Tm.put (Tm.put tm 6 (.ptr dM fx)) 7 (.sl gi)) 9 (.sl gI)) 13 (.ptr dN fy)) 15 (.int .i64 dr)) 17 (.int .i64 dW)) 18 (.int .i64 ee)) 53 (.sl jt)) 54 (.int .i64 eU)) 55 (.int .i64 fz)) 90 (.sl kt)) 91 (.int .i64 gJ)) = tm:=by rw [q10]; exact Tm.put_same e91
                     have q12:(Tm.put (Tm.put (Tm.put (Tm.put (Tm.put (Tm.put (Tm.put (Tm.put (Tm.put (Tm.put (Tm.put (Tm.put (Tm.put tm 6 (.ptr dM fx)) 7 (.sl gi)) 9 (.sl gI)) 13 (.ptr dN fy)) 15 (.int .i64 dr)) 17 (.int .i64 dW)) 18 (.int .i64 ee)) 53 (.sl jt)) 54 (.int .i64 eU)) 55 (.int .i64 fz)) 90 (.sl kt)) 91 (.int .i64 gJ)) 92 (.int .i64 gj)) = tm:=by rw [q11]; exact Tm.put_same e92
                     rw [← q12]
                     exact Eq.trans (by kernel_rfl) h
                    ·exact loops_none (by kernel_rfl)
                  ·exact loops_none (by kernel_rfl)
            ·exact loops_none (by kernel_rfl)
       ·exact loops_none (by kernel_rfl)
theorem ag.eqX (F:Nat) (aC:Sl→Int→Sl→Sl→Hp→OA) (bc:Sl→Int→Sl→Sl→Hp→OA) (bI:Int→Int→Hp→OA) (bJ:Sl→Int→Sl→Sl→Int→Hp→OA) (az:Int→Int→Sl→Int→Int→Hp→OA) (aa:Sl) (ab:Int) (au:Sl) (aB:Sl) (aV:Int) (H:Hp):aCode tabs (mkOrc (ag.cs F aC bc bI bJ az)) ag.pn (ag.lh F aC bc bI bJ az) F [] 1 ag.code (argTm [(.agg [(.sl aa),(.int .i64 ab)]),(.agg [(.sl au),(.sl aB)]),(.int .i64 aV)]) H (fun tm H=>aresults tabs.ty H tm Try.f37.results.toList fun v=>some (v,H)) (fun _ _ _=>none) (fun tm H=>aresults tabs.ty H tm Try.f37.results.toList fun v=>some (v,H)) = ag.twX F aC bc bI bJ az aa ab au aB aV H:=by kernel_rfl
theorem ag.cs_ok (F:Nat):∀ p ∈ ag.cs F (av.tw F) (aj.tw F) (bE.tw F) (aW.tw F) (ba.tw F),∀ args H v H',p.2 args H = some (v,H')→Go.AE.T Try.prog p.1 args H v H':=by
 intro p hp
 simp only [ag.cs,List.mem_cons,List.not_mem_nil,or_false] at hp
 rcases hp with rfl | rfl | rfl | rfl | rfl
 ·exact fun args H v H' h=>av.mk_T h
 ·exact fun args H v H' h=>aj.mk_T h
 ·exact fun args H v H' h=>bE.mk_T h
 ·exact fun args H v H' h=>aW.mk_T h
 ·exact fun args H v H' h=>ba.mk_T h
theorem ag.ok:codeOk ag.pn Try.f37.ntmps ag.tb ag.code = true:=by kernel_rfl
theorem ag.T {F:Nat} {aa:Sl} {ab:Int} {au:Sl} {aB:Sl} {aV:Int} {H:Hp} {v:AV} {H':Hp} (h:ag.tw F aa ab au aB aV H = some (v,H')):Go.AE.T Try.prog 37 [(.agg [(.sl aa),(.int .i64 ab)]),(.agg [(.sl au),(.sl aB)]),(.int .i64 aV)] H v H':=
 Go.AE.T.of (Y:=tabs) (C:=mkOrc (ag.cs F (av.tw F) (aj.tw F) (bE.tw F) (aW.tw F) (ba.tw F))) (PN:=ag.pn) (LH:=ag.lh F (av.tw F) (aj.tw F) (bE.tw F) (aW.tw F) (ba.tw F)) (F:=F) (TB:=ag.tb) (fn:=Try.f37) (code:=ag.code) mixed tabs_ok (mkOrc_ok (ag.cs_ok F)) Try.func37 (by kernel_rfl) (by kernel_rfl) ag.ok (Nat.le_of_ble_eq_true (by kernel_rfl)) (ag.loops F (av.tw F) (aj.tw F) (bE.tw F) (aW.tw F) (ba.tw F)) (Eq.trans (ag.eqX F (av.tw F) (aj.tw F) (bE.tw F) (aW.tw F) (ba.tw F) aa ab au aB aV H) h)
theorem ag.mk_T {F:Nat} {args:List AV} {H:Hp} {v:AV} {H':Hp} (h:ag.mk (ag.tw F) args H = some (v,H')):Go.AE.T Try.prog 37 args H v H':=by
 unfold ag.mk at h
 split at h
 ·exact ag.T h
 ·cases h
def ae.j11 (F:Nat) (az:Int→Int→Sl→Int→Int→Hp→OA) (sH:Int) (sI:Int) (H516:Hp):OA:=some ((.int .i64 (IntKind.i64.wrap (sH * sI))),H516)
def ae.j14 (F:Nat) (az:Int→Int→Sl→Int→Int→Hp→OA) (C29_:Nat→Nat→Int→Int→Int→Int→Hp→OA) (AR:Nat) (adv:Nat) (sJ:Int) (sK:Int) (sL:Int) (sM:Int) (H832:Hp):OA:=C29_ AR adv sJ sK sL (IntKind.i64.wrap (sM + 1)) H832
def ae.j15 (F:Nat) (az:Int→Int→Sl→Int→Int→Hp→OA) (C29_:Nat→Nat→Int→Int→Int→Int→Hp→OA) (pD:Nat) (AS:Nat) (sO:Int) (oy:Int) (sQ:Int) (sS:Int) (H804:Hp):OA:=(Hp.ldI H804 .i64 pD AS).bind fun n805=>(Hp.ldI H804 .i64 pD (AS + 1)).bind fun n806=>(Hp.ldSl H804 pD (AS + 2)).bind fun s807=>(az n805 n806 s807 oy oy H804).bind fun r808=>((r808.1).asP).bind fun p809=>(Hp.ldI r808.2 .i64 p809.1 p809.2).bind fun n810=>ae.j14 F az C29_ pD AS sO n810 sQ sS r808.2
def ae.j16 (F:Nat) (az:Int→Int→Sl→Int→Int→Hp→OA) (C60285_:Nat→Nat→Int→Int→Int→Int→Int→Int→Hp→OA) (AT:Nat) (adw:Nat) (sT:Int) (sU:Int) (sV:Int) (sW:Int) (sX:Int) (sY:Int) (H935:Hp):OA:=C60285_ AT adw sT sU sX sY sV (IntKind.i64.wrap (sW + 1)) H935
def ae.j17 (F:Nat) (az:Int→Int→Sl→Int→Int→Hp→OA) (C60285_:Nat→Nat→Int→Int→Int→Int→Int→Int→Hp→OA) (AU:Nat) (adx:Nat) (sZ:Int) (s_:Int) (tc:Int) (td:Int) (te:Int) (tf:Int) (H911:Hp):OA:=ae.j16 F az C60285_ AU adx sZ s_ tc td te tf H911
def ae.l964565 (F:Nat) (az:Int→Int→Sl→Int→Int→Hp→OA) (C29_:Nat→Nat→Int→Int→Int→Int→Hp→OA) (C60285_:Nat→Nat→Int→Int→Int→Int→Int→Int→Hp→OA):Nat→Nat→Nat→Int→Int→Int→Int→Int→Int→Int→Hp→OA
 | 0,_,_,_,_,_,_,_,_,_,_=>none
 | ady + 1,cS,dh,eX,dY,ik,iM,dt,dZ,eg,H856=>(Hp.ldI H856 .i64 cS (dh + 1)).bind fun n936=>(bif (decide (eg < n936)) then ((Hp.ldI H856 .i64 cS dh).bind fun n937=>(Hp.ldI H856 .i64 cS (dh + 1)).bind fun n938=>(Hp.ldSl H856 cS (dh + 2)).bind fun s939=>(az n937 n938 s939 dZ eg H856).bind fun r940=>((r940.1).asP).bind fun p941=>(if Cons H856 r940.2 then ((Hp.ldI r940.2 .i64 cS dh).bind fun n942=>(Hp.ldI r940.2 .i64 cS (dh + 1)).bind fun n943=>(Hp.ldSl r940.2 cS (dh + 2)).bind fun s944=>(az n942 n943 s944 dZ eg r940.2).bind fun r945=>((r945.1).asP).bind fun p946=>(if Cons r940.2 r945.2 then ((Hp.ldI r945.2 .i64 p946.1 p946.2).bind fun n947=>(Hp.ldI r945.2 .i64 cS dh).bind fun n948=>(Hp.ldI r945.2 .i64 cS (dh + 1)).bind fun n949=>(Hp.ldSl r945.2 cS (dh + 2)).bind fun s950=>(az n948 n949 s950 dt dt r945.2).bind fun r951=>((r951.1).asP).bind fun p952=>(if Cons r945.2 r951.2 then ((Hp.ldI r951.2 .i64 p952.1 p952.2).bind fun n953=>(Hp.ldI r951.2 .i64 cS dh).bind fun n954=>(Hp.ldI r951.2 .i64 cS (dh + 1)).bind fun n955=>(Hp.ldSl r951.2 cS (dh + 2)).bind fun s956=>(az n954 n955 s956 dZ dt r951.2).bind fun r957=>((r957.1).asP).bind fun p958=>(if Cons r951.2 r957.2 then ((Hp.ldI r957.2 .i64 p958.1 p958.2).bind fun n959=>(Hp.ldI r957.2 .i64 cS dh).bind fun n960=>(Hp.ldI r957.2 .i64 cS (dh + 1)).bind fun n961=>(Hp.ldSl r957.2 cS (dh + 2)).bind fun s962=>(az n960 n961 s962 dt eg r957.2).bind fun r963=>((r963.1).asP).bind fun p964=>(if Cons r957.2 r963.2 then ((Hp.ldI r963.2 .i64 p964.1 p964.2).bind fun n965=>(if dY = 0 then none else ((Hp.st r963.2 p941.1 p941.2 (.int .i64 (IntKind.i64.wrap (Int.tdiv (IntKind.i64.wrap ((IntKind.i64.wrap (n947 * n953)) - (IntKind.i64.wrap (n959 * n965)))) dY)))).bind fun H966=>ae.l964565 F az C29_ C60285_ ady cS dh eX dY ik iM dt dZ (IntKind.i64.wrap (eg + 1)) H966))) else none)) else none)) else none)) else none)) else none)) else (ae.j17 F az C60285_ cS dh eX dY dt dZ ik iM H856))
termination_by structural n=>n
def ae.l60285 (F:Nat) (az:Int→Int→Sl→Int→Int→Hp→OA) (C29_:Nat→Nat→Int→Int→Int→Int→Hp→OA):Nat→Nat→Nat→Int→Int→Int→Int→Int→Int→Hp→OA
 | 0,_,_,_,_,_,_,_,_,_=>none
 | mW + 1,gn,je,fB,hC,il,iO,fC,hG,H648=>(Hp.ldI H648 .i64 gn je).bind fun n833=>(bif (decide (hG < n833)) then (ae.l964565 F az C29_ (ae.l60285 F az C29_ mW) F gn je fB hC il iO fC hG (IntKind.i64.wrap (fC + 1)) H648) else (ae.j15 F az C29_ gn je fB fC il iO H648))
termination_by structural n=>n
def ae.j18 (F:Nat) (az:Int→Int→Sl→Int→Int→Hp→OA) (C29_:Nat→Nat→Int→Int→Int→Int→Hp→OA) (AW:Nat) (adz:Nat) (tg:Int) (th:Int) (oz:Int) (ti:Int) (tj:Int) (H627:Hp):OA:=ae.l60285 F az C29_ F AW adz tg th ti tj oz (IntKind.i64.wrap (oz + 1)) H627
def ae.j19 (F:Nat) (az:Int→Int→Sl→Int→Int→Hp→OA) (C29_:Nat→Nat→Int→Int→Int→Int→Hp→OA) (AX:Nat) (adA:Nat) (tk:Int) (tp:Int) (tq:Int) (ts:Int) (tt:Int) (H607:Hp):OA:=ae.j18 F az C29_ AX adA tk tp tq ts tt H607
def ae.l241131 (F:Nat) (az:Int→Int→Sl→Int→Int→Hp→OA) (C29_:Nat→Nat→Int→Int→Int→Int→Hp→OA):Nat→Nat→Nat→Int→Int→Int→Int→Int→Int→Int→Int→Hp→OA
 | 0,_,_,_,_,_,_,_,_,_,_,_=>none
 | adB + 1,dw,eY,eC,eZ,gN,hH,eD,gp,im,gq,H573=>(bif (decide (gq < im)) then ((Hp.ldI H573 .i64 dw eY).bind fun n967=>(Hp.ldI H573 .i64 dw (eY + 1)).bind fun n968=>(Hp.ldSl H573 dw (eY + 2)).bind fun s969=>(az n967 n968 s969 eD gq H573).bind fun r970=>((r970.1).asP).bind fun p971=>(if Cons H573 r970.2 then ((Hp.ldI r970.2 .i64 dw eY).bind fun n972=>(Hp.ldI r970.2 .i64 dw (eY + 1)).bind fun n973=>(Hp.ldSl r970.2 dw (eY + 2)).bind fun s974=>(az n972 n973 s974 gp gq r970.2).bind fun r975=>((r975.1).asP).bind fun p976=>(Hp.ldI r975.2 .i64 p976.1 p976.2).bind fun n977=>(Hp.ldI r975.2 .i64 p971.1 p971.2).bind fun n978=>(Hp.st r975.2 p971.1 p971.2 (.int .i64 n977)).bind fun H979=>(Hp.st H979 p976.1 p976.2 (.int .i64 n978)).bind fun H980=>ae.l241131 F az C29_ adB dw eY eC eZ gN hH eD gp im (IntKind.i64.wrap (gq + 1)) H980) else none)) else (ae.j19 F az C29_ dw eY eC eZ eD gN hH H573))
termination_by structural n=>n
def ae.j20 (F:Nat) (az:Int→Int→Sl→Int→Int→Hp→OA) (C29_:Nat→Nat→Int→Int→Int→Int→Hp→OA) (AY:Nat) (adC:Nat) (tu:Int) (tx:Int) (oA:Int) (tz:Int) (tB:Int) (H997:Hp):OA:=ae.l60285 F az C29_ F AY adC tu tx tz tB oA (IntKind.i64.wrap (oA + 1)) H997
def ae.j21 (F:Nat) (az:Int→Int→Sl→Int→Int→Hp→OA) (C29_:Nat→Nat→Int→Int→Int→Int→Hp→OA) (pE:Nat) (AZ:Nat) (oB:Int) (oC:Int) (mG:Int) (mH:Int) (oD:Int) (oE:Int) (H552:Hp):OA:=(Hp.ldI H552 .i64 pE AZ).bind fun n553=>(bif (mH == n553) then (some ((.int .i64 0),H552)) else ((bif (mH != mG) then ((Hp.ldI H552 .i64 pE (AZ + 1)).bind fun n554=>ae.l241131 F az C29_ F pE AZ (IntKind.i64.wrap (0 - oB)) oC oD oE mG mH n554 0 H552) else (ae.j20 F az C29_ pE AZ oB oC mG oD oE H552))))
def ae.l3766 (F:Nat) (az:Int→Int→Sl→Int→Int→Hp→OA) (C29_:Nat→Nat→Int→Int→Int→Int→Hp→OA):Nat→Nat→Nat→Int→Int→Int→Int→Int→Int→Hp→OA
 | 0,_,_,_,_,_,_,_,_,_=>none
 | adD + 1,eh,gO,eE,e_,gP,hI,eF,ei,H530=>(Hp.ldI H530 .i64 eh gO).bind fun n998=>(bif (decide (ei < n998)) then ((Hp.ldI H530 .i64 eh gO).bind fun n999=>(Hp.ldI H530 .i64 eh (gO + 1)).bind fun n1000=>(Hp.ldSl H530 eh (gO + 2)).bind fun s1001=>(az n999 n1000 s1001 ei eF H530).bind fun r1002=>((r1002.1).asP).bind fun p1003=>(Hp.ldI r1002.2 .i64 p1003.1 p1003.2).bind fun n1004=>(bif (n1004 == 0) then (ae.l3766 F az C29_ adD eh gO eE e_ gP hI eF (IntKind.i64.wrap (ei + 1)) r1002.2) else (ae.j21 F az C29_ eh gO eE e_ eF ei gP hI r1002.2))) else (ae.j21 F az C29_ eh gO eE e_ eF ei gP hI H530))
termination_by structural n=>n
def ae.l29 (F:Nat) (az:Int→Int→Sl→Int→Int→Hp→OA) :Nat→Nat→Nat→Int→Int→Int→Int→Hp→OA
 | 0,_,_,_,_,_,_,_=>none
 | cB + 1,cu,bQ,bp,cI,io,gu,H16=>(bif (decide (gu < io)) then (ae.l3766 F az (ae.l29 F az cB) F cu bQ bp cI io gu gu gu H16) else (ae.j11 F az bp cI H16))
termination_by structural n=>n
def ae.twX (F:Nat) (az:Int→Int→Sl→Int→Int→Hp→OA) (aa:Int) (ab:Int) (ax:Sl) (H:Hp):OA:=(Hp.new H [(.int .i64 aa),(.int .i64 ab),(.sl ax)]).bind fun H4=>(Hp.ldI H4 .i64 H.length 0).bind fun n5=>ae.l29 F az F H.length 0 1 1 n5 0 H4
def ae.tw (F:Nat) (aa:Int) (ab:Int) (ax:Sl) (H:Hp):OA:=ae.twX F (ba.tw F) aa ab ax H
def ae.code:Go.Code:=(Try.f36.body).getD .skip
def ae.lh29 (F:Nat) (az:Int→Int→Sl→Int→Int→Hp→OA) (ks:List Nat) (n:Nat) (tm:Tm) (H:Hp):OA:=match ks,tm 1,tm 3,tm 4,tm 13,tm 14 with
 | [],(.ptr cu bQ),(.int .i64 bp),(.int .i64 cI),(.int .i64 io),(.int .i64 gu)=>ae.l29 F az n cu bQ bp cI io gu H
 | _,_,_,_,_,_=>none
theorem ae.lh29_inv {F:Nat} {az:Int→Int→Sl→Int→Int→Hp→OA} {ks:List Nat} {n:Nat} {tm:Tm} {H:Hp} {r:AV×Hp} (h:ae.lh29 F az ks n tm H = some r):∃ cu:Nat,∃ bQ:Nat,∃ bp:Int,∃ cI:Int,∃ io:Int,∃ gu:Int,ks = []∧tm 1 = (.ptr cu bQ)∧tm 3 = (.int .i64 bp)∧tm 4 = (.int .i64 cI)∧tm 13 = (.int .i64 io)∧tm 14 = (.int .i64 gu)∧ae.l29 F az n cu bQ bp cI io gu H = some r:=by
 unfold ae.lh29 at h
 split at h
 ·exact ⟨_,_,_,_,_,_,rfl,by assumption,by assumption,by assumption,by assumption,by assumption,h⟩
 ·cases h
def ae.lh3766 (F:Nat) (az:Int→Int→Sl→Int→Int→Hp→OA) (ks:List Nat) (n:Nat) (tm:Tm) (H:Hp):OA:=match ks,tm 1,tm 3,tm 4,tm 5,tm 6,tm 13,tm 14 with
 | [cB],(.ptr eh gO),(.int .i64 eE),(.int .i64 e_),(.int .i64 eF),(.int .i64 ei),(.int .i64 gP),(.int .i64 hI)=>ae.l3766 F az (ae.l29 F az cB) n eh gO eE e_ gP hI eF ei H
 | _,_,_,_,_,_,_,_=>none
theorem ae.lh3766_inv {F:Nat} {az:Int→Int→Sl→Int→Int→Hp→OA} {ks:List Nat} {n:Nat} {tm:Tm} {H:Hp} {r:AV×Hp} (h:ae.lh3766 F az ks n tm H = some r):∃ cB:Nat,∃ eh:Nat,∃ gO:Nat,∃ eE:Int,∃ e_:Int,∃ eF:Int,∃ ei:Int,∃ gP:Int,∃ hI:Int,ks = [cB]∧tm 1 = (.ptr eh gO)∧tm 3 = (.int .i64 eE)∧tm 4 = (.int .i64 e_)∧tm 5 = (.int .i64 eF)∧tm 6 = (.int .i64 ei)∧tm 13 = (.int .i64 gP)∧tm 14 = (.int .i64 hI)∧ae.l3766 F az (ae.l29 F az cB) n eh gO eE e_ gP hI eF ei H = some r:=by
 unfold ae.lh3766 at h
 split at h
 ·exact ⟨_,_,_,_,_,_,_,_,_,rfl,by assumption,by assumption,by assumption,by assumption,by assumption,by assumption,by assumption,h⟩
 ·cases h
def ae.lh241131 (F:Nat) (az:Int→Int→Sl→Int→Int→Hp→OA) (ks:List Nat) (n:Nat) (tm:Tm) (H:Hp):OA:=match ks,tm 1,tm 3,tm 4,tm 5,tm 6,tm 13,tm 14,tm 43,tm 44 with
 | [cB],(.ptr dw eY),(.int .i64 eC),(.int .i64 eZ),(.int .i64 eD),(.int .i64 gp),(.int .i64 gN),(.int .i64 hH),(.int .i64 im),(.int .i64 gq)=>ae.l241131 F az (ae.l29 F az cB) n dw eY eC eZ gN hH eD gp im gq H
 | _,_,_,_,_,_,_,_,_,_=>none
theorem ae.lh241131_inv {F:Nat} {az:Int→Int→Sl→Int→Int→Hp→OA} {ks:List Nat} {n:Nat} {tm:Tm} {H:Hp} {r:AV×Hp} (h:ae.lh241131 F az ks n tm H = some r):∃ cB:Nat,∃ dw:Nat,∃ eY:Nat,∃ eC:Int,∃ eZ:Int,∃ eD:Int,∃ gp:Int,∃ gN:Int,∃ hH:Int,∃ im:Int,∃ gq:Int,ks = [cB]∧tm 1 = (.ptr dw eY)∧tm 3 = (.int .i64 eC)∧tm 4 = (.int .i64 eZ)∧tm 5 = (.int .i64 eD)∧tm 6 = (.int .i64 gp)∧tm 13 = (.int .i64 gN)∧tm 14 = (.int .i64 hH)∧tm 43 = (.int .i64 im)∧tm 44 = (.int .i64 gq)∧ae.l241131 F az (ae.l29 F az cB) n dw eY eC eZ gN hH eD gp im gq H = some r:=by
 unfold ae.lh241131 at h
 split at h
 ·exact ⟨_,_,_,_,_,_,_,_,_,_,_,rfl,by assumption,by assumption,by assumption,by assumption,by assumption,by assumption,by assumption,by assumption,by assumption,h⟩
 ·cases h
def ae.lh60285 (F:Nat) (az:Int→Int→Sl→Int→Int→Hp→OA) (ks:List Nat) (n:Nat) (tm:Tm) (H:Hp):OA:=match ks,tm 1,tm 3,tm 4,tm 5,tm 10,tm 13,tm 14 with
 | [cB],(.ptr gn je),(.int .i64 fB),(.int .i64 hC),(.int .i64 fC),(.int .i64 hG),(.int .i64 il),(.int .i64 iO)=>ae.l60285 F az (ae.l29 F az cB) n gn je fB hC il iO fC hG H
 | _,_,_,_,_,_,_,_=>none
theorem ae.lh60285_inv {F:Nat} {az:Int→Int→Sl→Int→Int→Hp→OA} {ks:List Nat} {n:Nat} {tm:Tm} {H:Hp} {r:AV×Hp} (h:ae.lh60285 F az ks n tm H = some r):∃ cB:Nat,∃ gn:Nat,∃ je:Nat,∃ fB:Int,∃ hC:Int,∃ fC:Int,∃ hG:Int,∃ il:Int,∃ iO:Int,ks = [cB]∧tm 1 = (.ptr gn je)∧tm 3 = (.int .i64 fB)∧tm 4 = (.int .i64 hC)∧tm 5 = (.int .i64 fC)∧tm 10 = (.int .i64 hG)∧tm 13 = (.int .i64 il)∧tm 14 = (.int .i64 iO)∧ae.l60285 F az (ae.l29 F az cB) n gn je fB hC il iO fC hG H = some r:=by
 unfold ae.lh60285 at h
 split at h
 ·exact ⟨_,_,_,_,_,_,_,_,_,rfl,by assumption,by assumption,by assumption,by assumption,by assumption,by assumption,by assumption,h⟩
 ·cases h
def ae.lh964565 (F:Nat) (az:Int→Int→Sl→Int→Int→Hp→OA) (ks:List Nat) (n:Nat) (tm:Tm) (H:Hp):OA:=match ks,tm 1,tm 3,tm 4,tm 5,tm 10,tm 11,tm 13,tm 14 with
 | [mW,cB],(.ptr cS dh),(.int .i64 eX),(.int .i64 dY),(.int .i64 dt),(.int .i64 dZ),(.int .i64 eg),(.int .i64 ik),(.int .i64 iM)=>ae.l964565 F az (ae.l29 F az cB) (ae.l60285 F az (ae.l29 F az cB) mW) n cS dh eX dY ik iM dt dZ eg H
 | _,_,_,_,_,_,_,_,_=>none
theorem ae.lh964565_inv {F:Nat} {az:Int→Int→Sl→Int→Int→Hp→OA} {ks:List Nat} {n:Nat} {tm:Tm} {H:Hp} {r:AV×Hp} (h:ae.lh964565 F az ks n tm H = some r):∃ mW:Nat,∃ cB:Nat,∃ cS:Nat,∃ dh:Nat,∃ eX:Int,∃ dY:Int,∃ dt:Int,∃ dZ:Int,∃ eg:Int,∃ ik:Int,∃ iM:Int,ks = [mW,cB]∧tm 1 = (.ptr cS dh)∧tm 3 = (.int .i64 eX)∧tm 4 = (.int .i64 dY)∧tm 5 = (.int .i64 dt)∧tm 10 = (.int .i64 dZ)∧tm 11 = (.int .i64 eg)∧tm 13 = (.int .i64 ik)∧tm 14 = (.int .i64 iM)∧ae.l964565 F az (ae.l29 F az cB) (ae.l60285 F az (ae.l29 F az cB) mW) n cS dh eX dY ik iM dt dZ eg H = some r:=by
 unfold ae.lh964565 at h
 split at h
 ·exact ⟨_,_,_,_,_,_,_,_,_,_,_,rfl,by assumption,by assumption,by assumption,by assumption,by assumption,by assumption,by assumption,by assumption,h⟩
 ·cases h
def ae.lh (F:Nat) (az:Int→Int→Sl→Int→Int→Hp→OA) (p:Nat) (ks:List Nat) (n:Nat) (tm:Tm) (H:Hp):OA:=bif p.beq 964565 then ae.lh964565 F az ks n tm H else (bif p.beq 60285 then ae.lh60285 F az ks n tm H else (bif p.beq 241131 then ae.lh241131 F az ks n tm H else (bif p.beq 3766 then ae.lh3766 F az ks n tm H else (bif p.beq 29 then ae.lh29 F az ks n tm H else (none)))))
def ae.pn:Nat→List Nat:=fun i=>(([(15,[7]),(16,[9,11]),(24,[34])]:List (Nat×List Nat)).lookup i).getD []
def ae.tb:Nat→List (List Nat):=fun i=>(([(15,[[],[],[],[0,1,2],[],[],[],[0,1,2,3,4,5,6],[0,1,2,3,4,5,6,7],[0,1,2,3,4,5,6,7,8]]),(16,[[],[],[],[2],[2,3],[],[5],[5,6],[0,2,3,4,5,6,7],[0,2,3,4,5,6,7,8],[0,1,2,3,4,5,6,7,8,9],[0,1,2,3,4,5,6,7,8,9,10]]),(24,[[],[],[],[0,1,2],[],[],[],[0,1,2,3,4,5,6],[0,1,2,3,4,5,6,7],[0,1,2,3,4,5,6,7,8],[],[],[],[0,1,2,3,4,5,6,7,10,11,12],[0,1,2,3,4,5,6,7,10,11,12,13],[0,1,2,3,4,5,6,7,10,11,12,13,14],[0,1,2,3,4,5,6,7,8,9,10,11,12,13,14,15],[],[],[],[0,1,2,3,4,5,6,7,10,11,12,13,17,18,19],[0,1,2,3,4,5,6,7,10,11,12,13,17,18,19,20],[0,1,2,3,4,5,6,7,10,11,12,13,17,18,19,20,21],[],[],[],[0,1,2,3,4,5,6,7,10,11,12,13,17,18,19,20,23,24,25],[0,1,2,3,4,5,6,7,10,11,12,13,17,18,19,20,23,24,25,26],[0,1,2,3,4,5,6,7,10,11,12,13,17,18,19,20,23,24,25,26,27],[0,1,2,3,4,5,6,7,10,11,12,13,17,18,19,20,21,22,23,24,25,26,27,28],[0,1,2,3,4,5,6,7,8,9,10,11,12,13,14,15,16,17,18,19,20,21,22,23,24,25,26,27,28,29],[],[0,1,2,3,4,5,6,7,8,9,10,11,12,13,14,15,16,17,18,19,20,21,22,23,24,25,26,27,28,29,30,31],[0,1,2,3,4,5,6,7,8,9,10,11,12,13,14,15,16,17,18,19,20,21,22,23,24,25,26,27,28,29,30,31,32],[0,1,2,3,4,5,6,7,8,9,10,11,12,13,14,15,16,17,18,19,20,21,22,23,24,25,26,27,28,29,30,31,32,33]])]:List (Nat×List (List Nat))).lookup i).getD []
def ae.mk (g:Int→Int→Sl→Hp→OA) (args:List AV) (H:Hp):OA:=match args with
 | [(.agg [(.int .i64 aa),(.int .i64 ab),(.sl ax)])]=>g aa ab ax H
 | _=>none
def ae.cs (F:Nat) (az:Int→Int→Sl→Int→Int→Hp→OA):List (FuncId×(List AV→Hp→OA)):=[(71,ba.mk az)]
theorem ae.loops (F:Nat) (az:Int→Int→Sl→Int→Int→Hp→OA):LoopsOk tabs (mkOrc (ae.cs F az)) ae.pn (ae.lh F az) F [] 1 ae.code (fun tm H=>aresults tabs.ty H tm Try.f36.results.toList fun v=>some (v,H)) (fun _ _ _=>none) (fun tm H=>aresults tabs.ty H tm Try.f36.results.toList fun v=>some (v,H)):=by
 refine LoopsOk.seq ?_ ?_
 ·exact loops_none (by kernel_rfl)
 ·refine LoopsOk.seq ?_ ?_
  ·exact loops_none (by kernel_rfl)
  ·refine LoopsOk.seq ?_ ?_
   ·refine LoopsOk.seq ?_ ?_
    ·exact loops_none (by kernel_rfl)
    ·refine LoopsOk.block ?_
     refine LoopsOk.loop (fun tm H=>?_) (fun k29 tm H r h0=>?_) (fun k29=>?_)
     ·refine none_of fun r h0=>?_
      obtain ⟨cu,bQ,bp,cI,io,gu,hks,e1,e3,e4,e13,e14,h⟩:=ae.lh29_inv (show ae.lh29 F az [] 0 tm H = some r from h0)
      cases h
     ·obtain ⟨cu,bQ,bp,cI,io,gu,hks,e1,e3,e4,e13,e14,h⟩:=ae.lh29_inv (show ae.lh29 F az [] (k29 + 1) tm H = some r from h0)
      have q0:(Tm.put tm 1 (.ptr cu bQ)) = tm:=by exact Tm.put_same e1
      have q1:(Tm.put (Tm.put tm 1 (.ptr cu bQ)) 3 (.int .i64 bp)) = tm:=by rw [q0]; exact Tm.put_same e3
      have q2:(Tm.put (Tm.put (Tm.put tm 1 (.ptr cu bQ)) 3 (.int .i64 bp)) 4 (.int .i64 cI)) = tm:=by rw [q1]; exact Tm.put_same e4
      have q3:(Tm.put (Tm.put (Tm.put (Tm.put tm 1 (.ptr cu bQ)) 3 (.int .i64 bp)) 4 (.int .i64 cI)) 13 (.int .i64 io)) = tm:=by rw [q2]; exact Tm.put_same e13
      have q4:(Tm.put (Tm.put (Tm.put (Tm.put (Tm.put tm 1 (.ptr cu bQ)) 3 (.int .i64 bp)) 4 (.int .i64 cI)) 13 (.int .i64 io)) 14 (.int .i64 gu)) = tm:=by rw [q3]; exact Tm.put_same e14
      rw [← q4]
      exact Eq.trans (by kernel_rfl) h
     ·refine LoopsOk.seq ?_ ?_
      ·exact loops_none (by kernel_rfl)
      ·refine LoopsOk.seq ?_ ?_
       ·exact loops_none (by kernel_rfl)
       ·refine LoopsOk.seq ?_ ?_
        ·refine LoopsOk.block ?_
         refine LoopsOk.seq ?_ ?_
         ·exact loops_none (by kernel_rfl)
         ·refine LoopsOk.seq ?_ ?_
          ·exact loops_none (by kernel_rfl)
          ·refine LoopsOk.seq ?_ ?_
           ·refine LoopsOk.block ?_
            refine LoopsOk.loop (fun tm H=>?_) (fun k3766 tm H r h0=>?_) (fun k3766=>?_)
            ·refine none_of fun r h0=>?_
             obtain ⟨cB,eh,gO,eE,e_,eF,ei,gP,hI,hks,e1,e3,e4,e5,e6,e13,e14,h⟩:=ae.lh3766_inv (show ae.lh3766 F az [k29] 0 tm H = some r from h0)
             cases h
            ·obtain ⟨cB,eh,gO,eE,e_,eF,ei,gP,hI,hks,e1,e3,e4,e5,e6,e13,e14,h⟩:=ae.lh3766_inv (show ae.lh3766 F az [k29] (k3766 + 1) tm H = some r from h0)
             obtain rfl:cB = k29:=by simpa [eq_comm] using hks
             have q0:(Tm.put tm 1 (.ptr eh gO)) = tm:=by exact Tm.put_same e1
             have q1:(Tm.put (Tm.put tm 1 (.ptr eh gO)) 3 (.int .i64 eE)) = tm:=by rw [q0]; exact Tm.put_same e3
             have q2:(Tm.put (Tm.put (Tm.put tm 1 (.ptr eh gO)) 3 (.int .i64 eE)) 4 (.int .i64 e_)) = tm:=by rw [q1]; exact Tm.put_same e4
             have q3:(Tm.put (Tm.put (Tm.put (Tm.put tm 1 (.ptr eh gO)) 3 (.int .i64 eE)) 4 (.int .i64 e_)) 5 (.int .i64 eF)) = tm:=by rw [q2]; exact Tm.put_same e5
             have q4:(Tm.put (Tm.put (Tm.put (Tm.put (Tm.put tm 1 (.ptr eh gO)) 3 (.int .i64 eE)) 4 (.int .i64 e_)) 5 (.int .i64 eF)) 6 (.int .i64 ei)) = tm:=by rw [q3]; exact Tm.put_same e6
             have q5:(Tm.put (Tm.put (Tm.put (Tm.put (Tm.put (Tm.put tm 1 (.ptr eh gO)) 3 (.int .i64 eE)) 4 (.int .i64 e_)) 5 (.int .i64 eF)) 6 (.int .i64 ei)) 13 (.int .i64 gP)) = tm:=by rw [q4]; exact Tm.put_same e13
             have q6:(Tm.put (Tm.put (Tm.put (Tm.put (Tm.put (Tm.put (Tm.put tm 1 (.ptr eh gO)) 3 (.int .i64 eE)) 4 (.int .i64 e_)) 5 (.int .i64 eF)) 6 (.int .i64 ei)) 13 (.int .i64 gP)) 14 (.int .i64 hI)) = tm:=by rw [q5]; exact Tm.put_same e14
             rw [← q6]
             exact Eq.trans (by kernel_rfl) h
            ·exact loops_none (by kernel_rfl)
           ·refine LoopsOk.seq ?_ ?_
            ·exact loops_none (by kernel_rfl)
            ·refine LoopsOk.seq ?_ ?_
             ·refine LoopsOk.seq ?_ ?_
              ·exact loops_none (by kernel_rfl)
              ·refine LoopsOk.cond ?_ ?_
               ·refine LoopsOk.seq ?_ ?_
                ·exact loops_none (by kernel_rfl)
                ·refine LoopsOk.seq ?_ ?_
                 ·exact loops_none (by kernel_rfl)
                 ·refine LoopsOk.block ?_
                  refine LoopsOk.loop (fun tm H=>?_) (fun k241131 tm H r h0=>?_) (fun k241131=>?_)
                  ·refine none_of fun r h0=>?_
                   obtain ⟨cB,dw,eY,eC,eZ,eD,gp,gN,hH,im,gq,hks,e1,e3,e4,e5,e6,e13,e14,e43,e44,h⟩:=ae.lh241131_inv (show ae.lh241131 F az [k29] 0 tm H = some r from h0)
                   cases h
                  ·obtain ⟨cB,dw,eY,eC,eZ,eD,gp,gN,hH,im,gq,hks,e1,e3,e4,e5,e6,e13,e14,e43,e44,h⟩:=ae.lh241131_inv (show ae.lh241131 F az [k29] (k241131 + 1) tm H = some r from h0)
                   obtain rfl:cB = k29:=by simpa [eq_comm] using hks
                   have q0:(Tm.put tm 1 (.ptr dw eY)) = tm:=by exact Tm.put_same e1
                   have q1:(Tm.put (Tm.put tm 1 (.ptr dw eY)) 3 (.int .i64 eC)) = tm:=by rw [q0]; exact Tm.put_same e3
                   have q2:(Tm.put (Tm.put (Tm.put tm 1 (.ptr dw eY)) 3 (.int .i64 eC)) 4 (.int .i64 eZ)) = tm:=by rw [q1]; exact Tm.put_same e4
                   have q3:(Tm.put (Tm.put (Tm.put (Tm.put tm 1 (.ptr dw eY)) 3 (.int .i64 eC)) 4 (.int .i64 eZ)) 5 (.int .i64 eD)) = tm:=by rw [q2]; exact Tm.put_same e5
                   have q4:(Tm.put (Tm.put (Tm.put (Tm.put (Tm.put tm 1 (.ptr dw eY)) 3 (.int .i64 eC)) 4 (.int .i64 eZ)) 5 (.int .i64 eD)) 6 (.int .i64 gp)) = tm:=by rw [q3]; exact Tm.put_same e6
                   have q5:(Tm.put (Tm.put (Tm.put (Tm.put (Tm.put (Tm.put tm 1 (.ptr dw eY)) 3 (.int .i64 eC)) 4 (.int .i64 eZ)) 5 (.int .i64 eD)) 6 (.int .i64 gp)) 13 (.int .i64 gN)) = tm:=by rw [q4]; exact Tm.put_same e13
                   have q6:(Tm.put (Tm.put (Tm.put (Tm.put (Tm.put (Tm.put (Tm.put tm 1 (.ptr dw eY)) 3 (.int .i64 eC)) 4 (.int .i64 eZ)) 5 (.int .i64 eD)) 6 (.int .i64 gp)) 13 (.int .i64 gN)) 14 (.int .i64 hH)) = tm:=by rw [q5]; exact Tm.put_same e14
                   have q7:(Tm.put (Tm.put (Tm.put (Tm.put (Tm.put (Tm.put (Tm.put (Tm.put tm 1 (.ptr dw eY)) 3 (.int .i64 eC)) 4 (.int .i64 eZ)) 5 (.int .i64 eD)) 6 (.int .i64 gp)) 13 (.int .i64 gN)) 14 (.int .i64 hH)) 43 (.int .i64 im)) = tm:=by rw [q6]; exact Tm.put_same e43
                   have q8:(Tm.put (Tm.put (Tm.put (Tm.put (Tm.put (Tm.put (Tm.put (Tm.put (Tm.put tm 1 (.ptr dw eY)) 3 (.int .i64 eC)) 4 (.int .i64 eZ)) 5 (.int .i64 eD)) 6 (.int .i64 gp)) 13 (.int .i64 gN)) 14 (.int .i64 hH)) 43 (.int .i64 im)) 44 (.int .i64 gq)) = tm:=by rw [q7]; exact Tm.put_same e44
                   rw [← q8]
                   exact Eq.trans (by kernel_rfl) h
                  ·exact loops_none (by kernel_rfl)
               ·exact loops_none (by kernel_rfl)
             ·refine LoopsOk.seq ?_ ?_
              ·refine LoopsOk.seq ?_ ?_
               ·exact loops_none (by kernel_rfl)
               ·refine LoopsOk.block ?_
                refine LoopsOk.loop (fun tm H=>?_) (fun k60285 tm H r h0=>?_) (fun k60285=>?_)
                ·refine none_of fun r h0=>?_
                 obtain ⟨cB,gn,je,fB,hC,fC,hG,il,iO,hks,e1,e3,e4,e5,e10,e13,e14,h⟩:=ae.lh60285_inv (show ae.lh60285 F az [k29] 0 tm H = some r from h0)
                 cases h
                ·obtain ⟨cB,gn,je,fB,hC,fC,hG,il,iO,hks,e1,e3,e4,e5,e10,e13,e14,h⟩:=ae.lh60285_inv (show ae.lh60285 F az [k29] (k60285 + 1) tm H = some r from h0)
                 obtain rfl:cB = k29:=by simpa [eq_comm] using hks
                 have q0:(Tm.put tm 1 (.ptr gn je)) = tm:=by exact Tm.put_same e1
                 have q1:(Tm.put (Tm.put tm 1 (.ptr gn je)) 3 (.int .i64 fB)) = tm:=by rw [q0]; exact Tm.put_same e3
                 have q2:(Tm.put (Tm.put (Tm.put tm 1 (.ptr gn je)) 3 (.int .i64 fB)) 4 (.int .i64 hC)) = tm:=by rw [q1]; exact Tm.put_same e4
                 have q3:(Tm.put (Tm.put (Tm.put (Tm.put tm 1 (.ptr gn je)) 3 (.int .i64 fB)) 4 (.int .i64 hC)) 5 (.int .i64 fC)) = tm:=by rw [q2]; exact Tm.put_same e5
                 have q4:(Tm.put (Tm.put (Tm.put (Tm.put (Tm.put tm 1 (.ptr gn je)) 3 (.int .i64 fB)) 4 (.int .i64 hC)) 5 (.int .i64 fC)) 10 (.int .i64 hG)) = tm:=by rw [q3]; exact Tm.put_same e10
                 have q5:(Tm.put (Tm.put (Tm.put (Tm.put (Tm.put (Tm.put tm 1 (.ptr gn je)) 3 (.int .i64 fB)) 4 (.int .i64 hC)) 5 (.int .i64 fC)) 10 (.int .i64 hG)) 13 (.int .i64 il)) = tm:=by rw [q4]; exact Tm.put_same e13
                 have q6:(Tm.put (Tm.put (Tm.put (Tm.put (Tm.put (Tm.put (Tm.put tm 1 (.ptr gn je)) 3 (.int .i64 fB)) 4 (.int .i64 hC)) 5 (.int .i64 fC)) 10 (.int .i64 hG)) 13 (.int .i64 il)) 14 (.int .i64 iO)) = tm:=by rw [q5]; exact Tm.put_same e14
                 rw [← q6]
                 exact Eq.trans (by kernel_rfl) h
                ·refine LoopsOk.seq ?_ ?_
                 ·exact loops_none (by kernel_rfl)
                 ·refine LoopsOk.seq ?_ ?_
                  ·refine LoopsOk.block ?_
                   refine LoopsOk.seq ?_ ?_
                   ·exact loops_none (by kernel_rfl)
                   ·refine LoopsOk.block ?_
                    refine LoopsOk.loop (fun tm H=>?_) (fun k964565 tm H r h0=>?_) (fun k964565=>?_)
                    ·refine none_of fun r h0=>?_
                     obtain ⟨mW,cB,cS,dh,eX,dY,dt,dZ,eg,ik,iM,hks,e1,e3,e4,e5,e10,e11,e13,e14,h⟩:=ae.lh964565_inv (show ae.lh964565 F az [k60285,k29] 0 tm H = some r from h0)
                     cases h
                    ·obtain ⟨mW,cB,cS,dh,eX,dY,dt,dZ,eg,ik,iM,hks,e1,e3,e4,e5,e10,e11,e13,e14,h⟩:=ae.lh964565_inv (show ae.lh964565 F az [k60285,k29] (k964565 + 1) tm H = some r from h0)
                     obtain ⟨rfl,rfl⟩:mW = k60285∧cB = k29:=by simpa [eq_comm] using hks
                     have q0:(Tm.put tm 1 (.ptr cS dh)) = tm:=by exact Tm.put_same e1
                     have q1:(Tm.put (Tm.put tm 1 (.ptr cS dh)) 3 (.int .i64 eX)) = tm:=by rw [q0]; exact Tm.put_same e3
                     have q2:(Tm.put (Tm.put (Tm.put tm 1 (.ptr cS dh)) 3 (.int .i64 eX)) 4 (.int .i64 dY)) = tm:=by rw [q1]; exact Tm.put_same e4
                     have q3:(Tm.put (Tm.put (Tm.put (Tm.put tm 1 (.ptr cS dh)) 3 (.int .i64 eX)) 4 (.int .i64 dY)) 5 (.int .i64 dt)) = tm:=by rw [q2]; exact Tm.put_same e5
                     have q4:(Tm.put (Tm.put (Tm.put (Tm.put (Tm.put tm 1 (.ptr cS dh)) 3 (.int .i64 eX)) 4 (.int .i64 dY)) 5 (.int .i64 dt)) 10 (.int .i64 dZ)) = tm:=by rw [q3]; exact Tm.put_same e10
                     have q5:(Tm.put (Tm.put (Tm.put (Tm.put (Tm.put (Tm.put tm 1 (.ptr cS dh)) 3 (.int .i64 eX)) 4 (.int .i64 dY)) 5 (.int .i64 dt)) 10 (.int .i64 dZ)) 11 (.int .i64 eg)) = tm:=by rw [q4]; exact Tm.put_same e11
                     have q6:(Tm.put (Tm.put (Tm.put (Tm.put (Tm.put (Tm.put (Tm.put tm 1 (.ptr cS dh)) 3 (.int .i64 eX)) 4 (.int .i64 dY)) 5 (.int .i64 dt)) 10 (.int .i64 dZ)) 11 (.int .i64 eg)) 13 (.int .i64 ik)) = tm:=by rw [q5]; exact Tm.put_same e13
                     have q7:(Tm.put (Tm.put (Tm.put (Tm.put (Tm.put (Tm.put (Tm.put (Tm.put tm 1 (.ptr cS dh)) 3 (.int .i64 eX)) 4 (.int .i64 dY)) 5 (.int .i64 dt)) 10 (.int .i64 dZ)) 11 (.int .i64 eg)) 13 (.int .i64 ik)) 14 (.int .i64 iM)) = tm:=by rw [q6]; exact Tm.put_same e14
                     rw [← q7]
                     exact Eq.trans (by kernel_rfl) h
                    ·exact loops_none (by kernel_rfl)
                  ·exact loops_none (by kernel_rfl)
              ·exact loops_none (by kernel_rfl)
        ·exact loops_none (by kernel_rfl)
   ·exact loops_none (by kernel_rfl)
theorem ae.eqX (F:Nat) (az:Int→Int→Sl→Int→Int→Hp→OA) (aa:Int) (ab:Int) (ax:Sl) (H:Hp):aCode tabs (mkOrc (ae.cs F az)) ae.pn (ae.lh F az) F [] 1 ae.code (argTm [(.agg [(.int .i64 aa),(.int .i64 ab),(.sl ax)])]) H (fun tm H=>aresults tabs.ty H tm Try.f36.results.toList fun v=>some (v,H)) (fun _ _ _=>none) (fun tm H=>aresults tabs.ty H tm Try.f36.results.toList fun v=>some (v,H)) = ae.twX F az aa ab ax H:=by kernel_rfl
theorem ae.cs_ok (F:Nat):∀ p ∈ ae.cs F (ba.tw F),∀ args H v H',p.2 args H = some (v,H')→Go.AE.T Try.prog p.1 args H v H':=by
 intro p hp
 simp only [ae.cs,List.mem_cons,List.not_mem_nil,or_false] at hp
 subst hp
 exact fun args H v H' h=>ba.mk_T h
theorem ae.ok:codeOk ae.pn Try.f36.ntmps ae.tb ae.code = true:=by kernel_rfl
theorem ae.T {F:Nat} {aa:Int} {ab:Int} {ax:Sl} {H:Hp} {v:AV} {H':Hp} (h:ae.tw F aa ab ax H = some (v,H')):Go.AE.T Try.prog 36 [(.agg [(.int .i64 aa),(.int .i64 ab),(.sl ax)])] H v H':=
 Go.AE.T.of (Y:=tabs) (C:=mkOrc (ae.cs F (ba.tw F))) (PN:=ae.pn) (LH:=ae.lh F (ba.tw F)) (F:=F) (TB:=ae.tb) (fn:=Try.f36) (code:=ae.code) mixed tabs_ok (mkOrc_ok (ae.cs_ok F)) Try.func36 (by kernel_rfl) (by kernel_rfl) ae.ok (Nat.le_of_ble_eq_true (by kernel_rfl)) (ae.loops F (ba.tw F)) (Eq.trans (ae.eqX F (ba.tw F) aa ab ax H) h)
theorem ae.mk_T {F:Nat} {args:List AV} {H:Hp} {v:AV} {H':Hp} (h:ae.mk (ae.tw F) args H = some (v,H')):Go.AE.T Try.prog 36 args H v H':=by
 unfold ae.mk at h
 split at h
 ·exact ae.T h
 ·cases h
def cm.twX (F:Nat) (aa:Int) (H:Hp):OA:=(bif (decide (aa < 0)) then (some ((.int .i64 (IntKind.i64.wrap (0 - aa))),H)) else (some ((.int .i64 aa),H)))
def cm.tw (F:Nat) (aa:Int) (H:Hp):OA:=cm.twX F aa H
def cm.code:Go.Code:=(Try.f35.body).getD .skip
def cm.lh (F:Nat) (p:Nat) (ks:List Nat) (n:Nat) (tm:Tm) (H:Hp):OA:=none
def cm.pn:Nat→List Nat:=fun i=>(([]:List (Nat×List Nat)).lookup i).getD []
def cm.tb:Nat→List (List Nat):=fun i=>(([]:List (Nat×List (List Nat))).lookup i).getD []
def cm.mk (g:Int→Hp→OA) (args:List AV) (H:Hp):OA:=match args with
 | [(.int .i64 aa)]=>g aa H
 | _=>none
def cm.cs (F:Nat):List (FuncId×(List AV→Hp→OA)):=[]
theorem cm.loops (F:Nat):LoopsOk tabs (mkOrc (cm.cs F)) cm.pn (cm.lh F) F [] 1 cm.code (fun tm H=>aresults tabs.ty H tm Try.f35.results.toList fun v=>some (v,H)) (fun _ _ _=>none) (fun tm H=>aresults tabs.ty H tm Try.f35.results.toList fun v=>some (v,H)):=by
 exact loops_none (by kernel_rfl)
theorem cm.eqX (F:Nat) (aa:Int) (H:Hp):aCode tabs (mkOrc (cm.cs F)) cm.pn (cm.lh F) F [] 1 cm.code (argTm [(.int .i64 aa)]) H (fun tm H=>aresults tabs.ty H tm Try.f35.results.toList fun v=>some (v,H)) (fun _ _ _=>none) (fun tm H=>aresults tabs.ty H tm Try.f35.results.toList fun v=>some (v,H)) = cm.twX F aa H:=by kernel_rfl
theorem cm.cs_ok (F:Nat):∀ p ∈ cm.cs F,∀ args H v H',p.2 args H = some (v,H')→Go.AE.T Try.prog p.1 args H v H':=by
 intro p hp
 exact absurd (show p ∈ [] from hp) List.not_mem_nil
theorem cm.ok:codeOk cm.pn Try.f35.ntmps cm.tb cm.code = true:=by kernel_rfl
theorem cm.T {F:Nat} {aa:Int} {H:Hp} {v:AV} {H':Hp} (h:cm.tw F aa H = some (v,H')):Go.AE.T Try.prog 35 [(.int .i64 aa)] H v H':=
 Go.AE.T.of (Y:=tabs) (C:=mkOrc (cm.cs F)) (PN:=cm.pn) (LH:=cm.lh F) (F:=F) (TB:=cm.tb) (fn:=Try.f35) (code:=cm.code) mixed tabs_ok (mkOrc_ok (cm.cs_ok F)) Try.func35 (by kernel_rfl) (by kernel_rfl) cm.ok (Nat.le_of_ble_eq_true (by kernel_rfl)) (cm.loops F) (Eq.trans (cm.eqX F aa H) h)
theorem cm.mk_T {F:Nat} {args:List AV} {H:Hp} {v:AV} {H':Hp} (h:cm.mk (cm.tw F) args H = some (v,H')):Go.AE.T Try.prog 35 args H v H':=by
 unfold cm.mk at h
 split at h
 ·exact cm.T h
 ·cases h
def bZ.twX (F:Nat) (lE:Sl→Int→Hp→OA) (fu:Sl→Int→Hp→OA) (lF:Sl→Int→Sl→Sl→Hp→OA) (lG:Sl→Int→Sl→Sl→Int→Hp→OA) (lH:Int→Int→Sl→Hp→OA) (lI:Int→Hp→OA) (aa:Sl) (ab:Int) (H:Hp):OA:=(Hp.new H [(.sl aa),(.int .i64 ab)]).bind fun H3=>(Hp.ldSl H3 H.length 0).bind fun s4=>(Hp.ldI H3 .i64 H.length (0 + 1)).bind fun n5=>(lE s4 n5 H3).bind fun r6=>((r6.1).asI .i64).bind fun n7=>(bif (n7 != 0) then (some ((.tup [(.int .i64 0),(.int .i64 n7)]),r6.2)) else ((Hp.ldSl r6.2 H.length 0).bind fun s8=>(Hp.ldI r6.2 .i64 H.length (0 + 1)).bind fun n9=>(fu s8 n9 r6.2).bind fun r10=>((r10.1).asTup 2).bind fun l11=>(l11[0]?).bind fun v12=>((v12).asAgg 2).bind fun l13=>(l13[0]?).bind fun v14=>((v14).asSl).bind fun s15=>(l13[1]?).bind fun v16=>((v16).asSl).bind fun s17=>(l11[1]?).bind fun v18=>((v18).asB).bind fun b19=>(Hp.new r10.2 [.sl ⟨none,0,.ex 0⟩,.sl ⟨none,0,.ex 0⟩]).bind fun H20=>(Hp.st H20 r10.2.length 0 (.sl s15)).bind fun H21=>(Hp.st H21 r10.2.length (0 + 1) (.sl s17)).bind fun H22=>(Hp.ldSl H22 H.length 0).bind fun s23=>(Hp.ldI H22 .i64 H.length (0 + 1)).bind fun n24=>(Hp.ldSl H22 r10.2.length 0).bind fun s25=>(Hp.ldSl H22 r10.2.length (0 + 1)).bind fun s26=>(lF s23 n24 s25 s26 H22).bind fun r27=>((r27.1).asB).bind fun b28=>(bif b28 then ((Hp.ldSl r27.2 H.length 0).bind fun s29=>(Hp.ldI r27.2 .i64 H.length (0 + 1)).bind fun n30=>(Hp.ldSl r27.2 r10.2.length 0).bind fun s31=>(Hp.ldSl r27.2 r10.2.length (0 + 1)).bind fun s32=>(lG s29 n30 s31 s32 0 r27.2).bind fun r33=>((r33.1).asAgg 3).bind fun l34=>(l34[0]?).bind fun v35=>((v35).asI .i64).bind fun n36=>(l34[1]?).bind fun v37=>((v37).asI .i64).bind fun n38=>(l34[2]?).bind fun v39=>((v39).asSl).bind fun s40=>(lH n36 n38 s40 r33.2).bind fun r41=>((r41.1).asI .i64).bind fun n42=>(lI n42 r41.2).bind fun r43=>((r43.1).asI .i64).bind fun n44=>some ((.tup [(.int .i64 n44),(.int .i64 0)]),r43.2)) else ((Hp.ldSl r27.2 H.length 0).bind fun s45=>(bif ((s45.n:Int) == 0) then ((Hp.ldI r27.2 .i64 H.length 1).bind fun n46=>(bif (n46 == 1) then (some ((.tup [(.int .i64 1),(.int .i64 0)]),r27.2)) else (some ((.tup [(.int .i64 0),(.int .i64 0)]),r27.2)))) else (some ((.tup [(.int .i64 0),(.int .i64 0)]),r27.2)))))))
def bZ.tw (F:Nat) (aa:Sl) (ab:Int) (H:Hp):OA:=bZ.twX F (cj.tw F) (bv.tw F) (ck.tw F) (ag.tw F) (ae.tw F) (cm.tw F) aa ab H
def bZ.code:Go.Code:=(Try.f10.body).getD .skip
def bZ.lh (F:Nat) (lE:Sl→Int→Hp→OA) (fu:Sl→Int→Hp→OA) (lF:Sl→Int→Sl→Sl→Hp→OA) (lG:Sl→Int→Sl→Sl→Int→Hp→OA) (lH:Int→Int→Sl→Hp→OA) (lI:Int→Hp→OA) (p:Nat) (ks:List Nat) (n:Nat) (tm:Tm) (H:Hp):OA:=none
def bZ.pn:Nat→List Nat:=fun i=>(([]:List (Nat×List Nat)).lookup i).getD []
def bZ.tb:Nat→List (List Nat):=fun i=>(([]:List (Nat×List (List Nat))).lookup i).getD []
def bZ.mk (g:Sl→Int→Hp→OA) (args:List AV) (H:Hp):OA:=match args with
 | [(.agg [(.sl aa),(.int .i64 ab)])]=>g aa ab H
 | _=>none
def bZ.cs (F:Nat) (lE:Sl→Int→Hp→OA) (fu:Sl→Int→Hp→OA) (lF:Sl→Int→Sl→Sl→Hp→OA) (lG:Sl→Int→Sl→Sl→Int→Hp→OA) (lH:Int→Int→Sl→Hp→OA) (lI:Int→Hp→OA):List (FuncId×(List AV→Hp→OA)):=[(32,cj.mk lE),(33,bv.mk fu),(34,ck.mk lF),(37,ag.mk lG),(36,ae.mk lH),(35,cm.mk lI)]
theorem bZ.loops (F:Nat) (lE:Sl→Int→Hp→OA) (fu:Sl→Int→Hp→OA) (lF:Sl→Int→Sl→Sl→Hp→OA) (lG:Sl→Int→Sl→Sl→Int→Hp→OA) (lH:Int→Int→Sl→Hp→OA) (lI:Int→Hp→OA):LoopsOk tabs (mkOrc (bZ.cs F lE fu lF lG lH lI)) bZ.pn (bZ.lh F lE fu lF lG lH lI) F [] 1 bZ.code (fun tm H=>aresults tabs.ty H tm Try.f10.results.toList fun v=>some (v,H)) (fun _ _ _=>none) (fun tm H=>aresults tabs.ty H tm Try.f10.results.toList fun v=>some (v,H)):=by
 exact loops_none (by kernel_rfl)
theorem bZ.eqX (F:Nat) (lE:Sl→Int→Hp→OA) (fu:Sl→Int→Hp→OA) (lF:Sl→Int→Sl→Sl→Hp→OA) (lG:Sl→Int→Sl→Sl→Int→Hp→OA) (lH:Int→Int→Sl→Hp→OA) (lI:Int→Hp→OA) (aa:Sl) (ab:Int) (H:Hp):aCode tabs (mkOrc (bZ.cs F lE fu lF lG lH lI)) bZ.pn (bZ.lh F lE fu lF lG lH lI) F [] 1 bZ.code (argTm [(.agg [(.sl aa),(.int .i64 ab)])]) H (fun tm H=>aresults tabs.ty H tm Try.f10.results.toList fun v=>some (v,H)) (fun _ _ _=>none) (fun tm H=>aresults tabs.ty H tm Try.f10.results.toList fun v=>some (v,H)) = bZ.twX F lE fu lF lG lH lI aa ab H:=by kernel_rfl
theorem bZ.cs_ok (F:Nat):∀ p ∈ bZ.cs F (cj.tw F) (bv.tw F) (ck.tw F) (ag.tw F) (ae.tw F) (cm.tw F),∀ args H v H',p.2 args H = some (v,H')→Go.AE.T Try.prog p.1 args H v H':=by
 intro p hp
 simp only [bZ.cs,List.mem_cons,List.not_mem_nil,or_false] at hp
 rcases hp with rfl | rfl | rfl | rfl | rfl | rfl
 ·exact fun args H v H' h=>cj.mk_T h
 ·exact fun args H v H' h=>bv.mk_T h
 ·exact fun args H v H' h=>ck.mk_T h
 ·exact fun args H v H' h=>ag.mk_T h
 ·exact fun args H v H' h=>ae.mk_T h
 ·exact fun args H v H' h=>cm.mk_T h
theorem bZ.ok:codeOk bZ.pn Try.f10.ntmps bZ.tb bZ.code = true:=by kernel_rfl
theorem bZ.T {F:Nat} {aa:Sl} {ab:Int} {H:Hp} {v:AV} {H':Hp} (h:bZ.tw F aa ab H = some (v,H')):Go.AE.T Try.prog 10 [(.agg [(.sl aa),(.int .i64 ab)])] H v H':=
 Go.AE.T.of (Y:=tabs) (C:=mkOrc (bZ.cs F (cj.tw F) (bv.tw F) (ck.tw F) (ag.tw F) (ae.tw F) (cm.tw F))) (PN:=bZ.pn) (LH:=bZ.lh F (cj.tw F) (bv.tw F) (ck.tw F) (ag.tw F) (ae.tw F) (cm.tw F)) (F:=F) (TB:=bZ.tb) (fn:=Try.f10) (code:=bZ.code) mixed tabs_ok (mkOrc_ok (bZ.cs_ok F)) Try.func10 (by kernel_rfl) (by kernel_rfl) bZ.ok (Nat.le_of_ble_eq_true (by kernel_rfl)) (bZ.loops F (cj.tw F) (bv.tw F) (ck.tw F) (ag.tw F) (ae.tw F) (cm.tw F)) (Eq.trans (bZ.eqX F (cj.tw F) (bv.tw F) (ck.tw F) (ag.tw F) (ae.tw F) (cm.tw F) aa ab H) h)
theorem bZ.mk_T {F:Nat} {args:List AV} {H:Hp} {v:AV} {H':Hp} (h:bZ.mk (bZ.tw F) args H = some (v,H')):Go.AE.T Try.prog 10 args H v H':=by
 unfold bZ.mk at h
 split at h
 ·exact bZ.T h
 ·cases h
def cn.twX (F:Nat) (aa:Int) (ab:Int) (ax:Int) (aM:Int) (aJ:Int) (bw:Int) (jf:Int) (jg:Int) (jh:Int) (ji:Int) (H:Hp):OA:=(Hp.new H [(.int .i64 aa),(.int .i64 ab),(.int .i64 ax),(.int .i64 aM),(.int .i64 aJ)]).bind fun H11=>(Hp.new H11 [(.int .i64 bw),(.int .i64 jf),(.int .i64 jg),(.int .i64 jh),(.int .i64 ji)]).bind fun H12=>(Hp.ldI H12 .i64 H.length 0).bind fun n13=>(Hp.ldI H12 .i64 H11.length 0).bind fun n14=>(bif (n13 != n14) then (some ((.bool false),H12)) else ((Hp.ldI H12 .i64 H.length 1).bind fun n15=>(Hp.ldI H12 .i64 H11.length 1).bind fun n16=>(bif (n15 != n16) then (some ((.bool false),H12)) else ((Hp.ldI H12 .i64 H.length 2).bind fun n17=>(Hp.ldI H12 .i64 H11.length 2).bind fun n18=>(bif (n17 != n18) then (some ((.bool false),H12)) else ((Hp.ldI H12 .i64 H.length 3).bind fun n19=>(Hp.ldI H12 .i64 H11.length 3).bind fun n20=>(bif (n19 != n20) then (some ((.bool false),H12)) else ((Hp.ldI H12 .i64 H.length 4).bind fun n21=>(Hp.ldI H12 .i64 H11.length 4).bind fun n22=>(bif (n21 != n22) then (some ((.bool false),H12)) else (some ((.bool true),H12)))))))))))
def cn.tw (F:Nat) (aa:Int) (ab:Int) (ax:Int) (aM:Int) (aJ:Int) (bw:Int) (jf:Int) (jg:Int) (jh:Int) (ji:Int) (H:Hp):OA:=cn.twX F aa ab ax aM aJ bw jf jg jh ji H
def cn.code:Go.Code:=(Try.f76.body).getD .skip
def cn.lh (F:Nat) (p:Nat) (ks:List Nat) (n:Nat) (tm:Tm) (H:Hp):OA:=none
def cn.pn:Nat→List Nat:=fun i=>(([]:List (Nat×List Nat)).lookup i).getD []
def cn.tb:Nat→List (List Nat):=fun i=>(([]:List (Nat×List (List Nat))).lookup i).getD []
def cn.mk (g:Int→Int→Int→Int→Int→Int→Int→Int→Int→Int→Hp→OA) (args:List AV) (H:Hp):OA:=match args with
 | [(.agg [(.int .i64 aa),(.int .i64 ab),(.int .i64 ax),(.int .i64 aM),(.int .i64 aJ)]),(.agg [(.int .i64 bw),(.int .i64 jf),(.int .i64 jg),(.int .i64 jh),(.int .i64 ji)])]=>g aa ab ax aM aJ bw jf jg jh ji H
 | _=>none
def cn.cs (F:Nat):List (FuncId×(List AV→Hp→OA)):=[]
theorem cn.loops (F:Nat):LoopsOk tabs (mkOrc (cn.cs F)) cn.pn (cn.lh F) F [] 1 cn.code (fun tm H=>aresults tabs.ty H tm Try.f76.results.toList fun v=>some (v,H)) (fun _ _ _=>none) (fun tm H=>aresults tabs.ty H tm Try.f76.results.toList fun v=>some (v,H)):=by
 exact loops_none (by kernel_rfl)
theorem cn.eqX (F:Nat) (aa:Int) (ab:Int) (ax:Int) (aM:Int) (aJ:Int) (bw:Int) (jf:Int) (jg:Int) (jh:Int) (ji:Int) (H:Hp):aCode tabs (mkOrc (cn.cs F)) cn.pn (cn.lh F) F [] 1 cn.code (argTm [(.agg [(.int .i64 aa),(.int .i64 ab),(.int .i64 ax),(.int .i64 aM),(.int .i64 aJ)]),(.agg [(.int .i64 bw),(.int .i64 jf),(.int .i64 jg),(.int .i64 jh),(.int .i64 ji)])]) H (fun tm H=>aresults tabs.ty H tm Try.f76.results.toList fun v=>some (v,H)) (fun _ _ _=>none) (fun tm H=>aresults tabs.ty H tm Try.f76.results.toList fun v=>some (v,H)) = cn.twX F aa ab ax aM aJ bw jf jg jh ji H:=by kernel_rfl
theorem cn.cs_ok (F:Nat):∀ p ∈ cn.cs F,∀ args H v H',p.2 args H = some (v,H')→Go.AE.T Try.prog p.1 args H v H':=by
 intro p hp
 exact absurd (show p ∈ [] from hp) List.not_mem_nil
theorem cn.ok:codeOk cn.pn Try.f76.ntmps cn.tb cn.code = true:=by kernel_rfl
theorem cn.T {F:Nat} {aa:Int} {ab:Int} {ax:Int} {aM:Int} {aJ:Int} {bw:Int} {jf:Int} {jg:Int} {jh:Int} {ji:Int} {H:Hp} {v:AV} {H':Hp} (h:cn.tw F aa ab ax aM aJ bw jf jg jh ji H = some (v,H')):Go.AE.T Try.prog 76 [(.agg [(.int .i64 aa),(.int .i64 ab),(.int .i64 ax),(.int .i64 aM),(.int .i64 aJ)]),(.agg [(.int .i64 bw),(.int .i64 jf),(.int .i64 jg),(.int .i64 jh),(.int .i64 ji)])] H v H':=
 Go.AE.T.of (Y:=tabs) (C:=mkOrc (cn.cs F)) (PN:=cn.pn) (LH:=cn.lh F) (F:=F) (TB:=cn.tb) (fn:=Try.f76) (code:=cn.code) mixed tabs_ok (mkOrc_ok (cn.cs_ok F)) Try.func76 (by kernel_rfl) (by kernel_rfl) cn.ok (Nat.le_of_ble_eq_true (by kernel_rfl)) (cn.loops F) (Eq.trans (cn.eqX F aa ab ax aM aJ bw jf jg jh ji H) h)
theorem cn.mk_T {F:Nat} {args:List AV} {H:Hp} {v:AV} {H':Hp} (h:cn.mk (cn.tw F) args H = some (v,H')):Go.AE.T Try.prog 76 args H v H':=by
 unfold cn.mk at h
 split at h
 ·exact cn.T h
 ·cases h
def bk.l29 (F:Nat) (gv:Int→Int→Int→Int→Int→Int→Int→Int→Int→Int→Hp→OA) :Nat→Sl→Sl→Int→Hp→OA
 | 0,_,_,_,_=>none
 | cB + 1,dP,lJ,gw,H8=>(bif (decide (gw < (dP.n:Int))) then ((Sl.idx dP gw 5).bind fun p23=>(Hp.ldI H8 .i64 p23.1 p23.2).bind fun n24=>(Hp.ldI H8 .i64 p23.1 (p23.2 + 1)).bind fun n25=>(Hp.ldI H8 .i64 p23.1 (p23.2 + 2)).bind fun n26=>(Hp.ldI H8 .i64 p23.1 (p23.2 + 3)).bind fun n27=>(Hp.ldI H8 .i64 p23.1 (p23.2 + 4)).bind fun n28=>(Sl.idx lJ gw 5).bind fun p29=>(Hp.ldI H8 .i64 p29.1 p29.2).bind fun n30=>(Hp.ldI H8 .i64 p29.1 (p29.2 + 1)).bind fun n31=>(Hp.ldI H8 .i64 p29.1 (p29.2 + 2)).bind fun n32=>(Hp.ldI H8 .i64 p29.1 (p29.2 + 3)).bind fun n33=>(Hp.ldI H8 .i64 p29.1 (p29.2 + 4)).bind fun n34=>(gv n24 n25 n26 n27 n28 n30 n31 n32 n33 n34 H8).bind fun r35=>((r35.1).asB).bind fun b36=>(bif (!b36) then (some ((.bool false),r35.2)) else (bk.l29 F gv cB dP lJ (IntKind.i64.wrap (gw + 1)) r35.2))) else (some ((.bool true),H8)))
termination_by structural n=>n
def bk.twX (F:Nat) (gv:Int→Int→Int→Int→Int→Int→Int→Int→Int→Int→Hp→OA) (aa:Sl) (ak:Sl) (H:Hp):OA:=(bif ((aa.n:Int) != (ak.n:Int)) then (some ((.bool false),H)) else (bk.l29 F gv F aa ak 0 H))
def bk.tw (F:Nat) (aa:Sl) (ak:Sl) (H:Hp):OA:=bk.twX F (cn.tw F) aa ak H
def bk.code:Go.Code:=(Try.f38.body).getD .skip
def bk.lh29 (F:Nat) (gv:Int→Int→Int→Int→Int→Int→Int→Int→Int→Int→Hp→OA) (ks:List Nat) (n:Nat) (tm:Tm) (H:Hp):OA:=match ks,tm 0,tm 1,tm 5 with
 | [],(.sl dP),(.sl lJ),(.int .i64 gw)=>bk.l29 F gv n dP lJ gw H
 | _,_,_,_=>none
theorem bk.lh29_inv {F:Nat} {gv:Int→Int→Int→Int→Int→Int→Int→Int→Int→Int→Hp→OA} {ks:List Nat} {n:Nat} {tm:Tm} {H:Hp} {r:AV×Hp} (h:bk.lh29 F gv ks n tm H = some r):∃ dP:Sl,∃ lJ:Sl,∃ gw:Int,ks = []∧tm 0 = (.sl dP)∧tm 1 = (.sl lJ)∧tm 5 = (.int .i64 gw)∧bk.l29 F gv n dP lJ gw H = some r:=by
 unfold bk.lh29 at h
 split at h
 ·exact ⟨_,_,_,rfl,by assumption,by assumption,by assumption,h⟩
 ·cases h
def bk.lh (F:Nat) (gv:Int→Int→Int→Int→Int→Int→Int→Int→Int→Int→Hp→OA) (p:Nat) (ks:List Nat) (n:Nat) (tm:Tm) (H:Hp):OA:=bif p.beq 29 then bk.lh29 F gv ks n tm H else (none)
def bk.pn:Nat→List Nat:=fun i=>(([(6,[8])]:List (Nat×List Nat)).lookup i).getD []
def bk.tb:Nat→List (List Nat):=fun i=>(([(6,[[],[],[0,1],[0,1,2],[],[],[4,5],[4,5,6],[0,1,2,3,4,5,6,7],[0,1,2,3,4,5,6,7,8]])]:List (Nat×List (List Nat))).lookup i).getD []
def bk.mk (g:Sl→Sl→Hp→OA) (args:List AV) (H:Hp):OA:=match args with
 | [(.sl aa),(.sl ak)]=>g aa ak H
 | _=>none
def bk.cs (F:Nat) (gv:Int→Int→Int→Int→Int→Int→Int→Int→Int→Int→Hp→OA):List (FuncId×(List AV→Hp→OA)):=[(76,cn.mk gv)]
theorem bk.loops (F:Nat) (gv:Int→Int→Int→Int→Int→Int→Int→Int→Int→Int→Hp→OA):LoopsOk tabs (mkOrc (bk.cs F gv)) bk.pn (bk.lh F gv) F [] 1 bk.code (fun tm H=>aresults tabs.ty H tm Try.f38.results.toList fun v=>some (v,H)) (fun _ _ _=>none) (fun tm H=>aresults tabs.ty H tm Try.f38.results.toList fun v=>some (v,H)):=by
 refine LoopsOk.seq ?_ ?_
 ·exact loops_none (by kernel_rfl)
 ·refine LoopsOk.seq ?_ ?_
  ·exact loops_none (by kernel_rfl)
  ·refine LoopsOk.seq ?_ ?_
   ·refine LoopsOk.seq ?_ ?_
    ·exact loops_none (by kernel_rfl)
    ·refine LoopsOk.block ?_
     refine LoopsOk.loop (fun tm H=>?_) (fun k29 tm H r h0=>?_) (fun k29=>?_)
     ·refine none_of fun r h0=>?_
      obtain ⟨dP,lJ,gw,hks,e0,e1,e5,h⟩:=bk.lh29_inv (show bk.lh29 F gv [] 0 tm H = some r from h0)
      cases h
     ·obtain ⟨dP,lJ,gw,hks,e0,e1,e5,h⟩:=bk.lh29_inv (show bk.lh29 F gv [] (k29 + 1) tm H = some r from h0)
      have q0:(Tm.put tm 0 (.sl dP)) = tm:=by exact Tm.put_same e0
      have q1:(Tm.put (Tm.put tm 0 (.sl dP)) 1 (.sl lJ)) = tm:=by rw [q0]; exact Tm.put_same e1
      have q2:(Tm.put (Tm.put (Tm.put tm 0 (.sl dP)) 1 (.sl lJ)) 5 (.int .i64 gw)) = tm:=by rw [q1]; exact Tm.put_same e5
      rw [← q2]
      exact Eq.trans (by kernel_rfl) h
     ·exact loops_none (by kernel_rfl)
   ·exact loops_none (by kernel_rfl)
theorem bk.eqX (F:Nat) (gv:Int→Int→Int→Int→Int→Int→Int→Int→Int→Int→Hp→OA) (aa:Sl) (ak:Sl) (H:Hp):aCode tabs (mkOrc (bk.cs F gv)) bk.pn (bk.lh F gv) F [] 1 bk.code (argTm [(.sl aa),(.sl ak)]) H (fun tm H=>aresults tabs.ty H tm Try.f38.results.toList fun v=>some (v,H)) (fun _ _ _=>none) (fun tm H=>aresults tabs.ty H tm Try.f38.results.toList fun v=>some (v,H)) = bk.twX F gv aa ak H:=by kernel_rfl
theorem bk.cs_ok (F:Nat):∀ p ∈ bk.cs F (cn.tw F),∀ args H v H',p.2 args H = some (v,H')→Go.AE.T Try.prog p.1 args H v H':=by
 intro p hp
 simp only [bk.cs,List.mem_cons,List.not_mem_nil,or_false] at hp
 subst hp
 exact fun args H v H' h=>cn.mk_T h
theorem bk.ok:codeOk bk.pn Try.f38.ntmps bk.tb bk.code = true:=by kernel_rfl
theorem bk.T {F:Nat} {aa:Sl} {ak:Sl} {H:Hp} {v:AV} {H':Hp} (h:bk.tw F aa ak H = some (v,H')):Go.AE.T Try.prog 38 [(.sl aa),(.sl ak)] H v H':=
 Go.AE.T.of (Y:=tabs) (C:=mkOrc (bk.cs F (cn.tw F))) (PN:=bk.pn) (LH:=bk.lh F (cn.tw F)) (F:=F) (TB:=bk.tb) (fn:=Try.f38) (code:=bk.code) mixed tabs_ok (mkOrc_ok (bk.cs_ok F)) Try.func38 (by kernel_rfl) (by kernel_rfl) bk.ok (Nat.le_of_ble_eq_true (by kernel_rfl)) (bk.loops F (cn.tw F)) (Eq.trans (bk.eqX F (cn.tw F) aa ak H) h)
theorem bk.mk_T {F:Nat} {args:List AV} {H:Hp} {v:AV} {H':Hp} (h:bk.mk (bk.tw F) args H = some (v,H')):Go.AE.T Try.prog 38 args H v H':=by
 unfold bk.mk at h
 split at h
 ·exact bk.T h
 ·cases h
def b_.twX (F:Nat) (lK:Sl→Sl→Hp→OA) (aa:Sl) (ab:Int) (au:Sl) (aB:Int) (H:Hp):OA:=(Hp.new H [(.sl aa),(.int .i64 ab)]).bind fun H5=>(Hp.new H5 [(.sl au),(.int .i64 aB)]).bind fun H6=>(Hp.ldSl H6 H.length 0).bind fun s7=>(Hp.ldSl H6 H5.length 0).bind fun s8=>(lK s7 s8 H6).bind fun r9=>((r9.1).asB).bind fun b10=>(bif (!b10) then (some ((.bool false),r9.2)) else ((Hp.ldI r9.2 .i64 H.length 1).bind fun n11=>(Hp.ldI r9.2 .i64 H5.length 1).bind fun n12=>(bif (n11 != n12) then (some ((.bool false),r9.2)) else (some ((.bool true),r9.2)))))
def b_.tw (F:Nat) (aa:Sl) (ab:Int) (au:Sl) (aB:Int) (H:Hp):OA:=b_.twX F (bk.tw F) aa ab au aB H
def b_.code:Go.Code:=(Try.f11.body).getD .skip
def b_.lh (F:Nat) (lK:Sl→Sl→Hp→OA) (p:Nat) (ks:List Nat) (n:Nat) (tm:Tm) (H:Hp):OA:=none
def b_.pn:Nat→List Nat:=fun i=>(([]:List (Nat×List Nat)).lookup i).getD []
def b_.tb:Nat→List (List Nat):=fun i=>(([]:List (Nat×List (List Nat))).lookup i).getD []
def b_.mk (g:Sl→Int→Sl→Int→Hp→OA) (args:List AV) (H:Hp):OA:=match args with
 | [(.agg [(.sl aa),(.int .i64 ab)]),(.agg [(.sl au),(.int .i64 aB)])]=>g aa ab au aB H
 | _=>none
def b_.cs (F:Nat) (lK:Sl→Sl→Hp→OA):List (FuncId×(List AV→Hp→OA)):=[(38,bk.mk lK)]
theorem b_.loops (F:Nat) (lK:Sl→Sl→Hp→OA):LoopsOk tabs (mkOrc (b_.cs F lK)) b_.pn (b_.lh F lK) F [] 1 b_.code (fun tm H=>aresults tabs.ty H tm Try.f11.results.toList fun v=>some (v,H)) (fun _ _ _=>none) (fun tm H=>aresults tabs.ty H tm Try.f11.results.toList fun v=>some (v,H)):=by
 exact loops_none (by kernel_rfl)
theorem b_.eqX (F:Nat) (lK:Sl→Sl→Hp→OA) (aa:Sl) (ab:Int) (au:Sl) (aB:Int) (H:Hp):aCode tabs (mkOrc (b_.cs F lK)) b_.pn (b_.lh F lK) F [] 1 b_.code (argTm [(.agg [(.sl aa),(.int .i64 ab)]),(.agg [(.sl au),(.int .i64 aB)])]) H (fun tm H=>aresults tabs.ty H tm Try.f11.results.toList fun v=>some (v,H)) (fun _ _ _=>none) (fun tm H=>aresults tabs.ty H tm Try.f11.results.toList fun v=>some (v,H)) = b_.twX F lK aa ab au aB H:=by kernel_rfl
theorem b_.cs_ok (F:Nat):∀ p ∈ b_.cs F (bk.tw F),∀ args H v H',p.2 args H = some (v,H')→Go.AE.T Try.prog p.1 args H v H':=by
 intro p hp
 simp only [b_.cs,List.mem_cons,List.not_mem_nil,or_false] at hp
 subst hp
 exact fun args H v H' h=>bk.mk_T h
theorem b_.ok:codeOk b_.pn Try.f11.ntmps b_.tb b_.code = true:=by kernel_rfl
theorem b_.T {F:Nat} {aa:Sl} {ab:Int} {au:Sl} {aB:Int} {H:Hp} {v:AV} {H':Hp} (h:b_.tw F aa ab au aB H = some (v,H')):Go.AE.T Try.prog 11 [(.agg [(.sl aa),(.int .i64 ab)]),(.agg [(.sl au),(.int .i64 aB)])] H v H':=
 Go.AE.T.of (Y:=tabs) (C:=mkOrc (b_.cs F (bk.tw F))) (PN:=b_.pn) (LH:=b_.lh F (bk.tw F)) (F:=F) (TB:=b_.tb) (fn:=Try.f11) (code:=b_.code) mixed tabs_ok (mkOrc_ok (b_.cs_ok F)) Try.func11 (by kernel_rfl) (by kernel_rfl) b_.ok (Nat.le_of_ble_eq_true (by kernel_rfl)) (b_.loops F (bk.tw F)) (Eq.trans (b_.eqX F (bk.tw F) aa ab au aB H) h)
theorem b_.mk_T {F:Nat} {args:List AV} {H:Hp} {v:AV} {H':Hp} (h:b_.mk (b_.tw F) args H = some (v,H')):Go.AE.T Try.prog 11 args H v H':=by
 unfold b_.mk at h
 split at h
 ·exact b_.T h
 ·cases h
def cC.twX (F:Nat) (lL:Sl→Int→Int→Hp→OA) (kw:Sl→Int→Hp→OA) (lM:Sl→Int→Hp→OA) (lN:Sl→Int→Hp→OA) (lO:Sl→Int→Sl→Int→Hp→OA) (aa:Sl) (ab:Int) (H:Hp):OA:=(Hp.new H [(.sl aa),(.int .i64 ab)]).bind fun H3=>(Hp.ldSl H3 H.length 0).bind fun s4=>(Hp.ldI H3 .i64 H.length (0 + 1)).bind fun n5=>(lL s4 n5 1048576 H3).bind fun r6=>((r6.1).asI .i64).bind fun n7=>(bif (decide (n7 < 0)) then (some ((.bool true),r6.2)) else ((Hp.ldSl r6.2 H.length 0).bind fun s8=>(Hp.ldI r6.2 .i64 H.length (0 + 1)).bind fun n9=>(kw s8 n9 r6.2).bind fun r10=>((r10.1).asAgg 2).bind fun l11=>(l11[0]?).bind fun v12=>((v12).asSl).bind fun s13=>(l11[1]?).bind fun v14=>((v14).asI .i64).bind fun n15=>(lM s13 n15 r10.2).bind fun r16=>((r16.1).asTup 2).bind fun l17=>(l17[0]?).bind fun v18=>((v18).asI .i64).bind fun n19=>(l17[1]?).bind fun v20=>((v20).asI .i64).bind fun n21=>(Hp.ldSl r16.2 H.length 0).bind fun s22=>(Hp.ldI r16.2 .i64 H.length (0 + 1)).bind fun n23=>(kw s22 n23 r16.2).bind fun r24=>((r24.1).asAgg 2).bind fun l25=>(l25[0]?).bind fun v26=>((v26).asSl).bind fun s27=>(l25[1]?).bind fun v28=>((v28).asI .i64).bind fun n29=>(Hp.new r24.2 [.sl ⟨none,0,.ex 0⟩,.int .i64 0]).bind fun H30=>(Hp.st H30 r24.2.length 0 (.sl s27)).bind fun H31=>(Hp.st H31 r24.2.length (0 + 1) (.int .i64 n29)).bind fun H32=>(Hp.ldSl H32 r24.2.length 0).bind fun s33=>(Hp.ldI H32 .i64 r24.2.length (0 + 1)).bind fun n34=>(lN s33 n34 H32).bind fun r35=>((r35.1).asTup 2).bind fun l36=>(l36[0]?).bind fun v37=>((v37).asI .i64).bind fun n38=>(l36[1]?).bind fun v39=>((v39).asI .i64).bind fun n40=>(bif (n38 != n19) then (some ((.bool false),r35.2)) else ((bif (n40 != n21) then (some ((.bool false),r35.2)) else ((Hp.ldSl r35.2 r24.2.length 0).bind fun s41=>(Hp.ldI r35.2 .i64 r24.2.length (0 + 1)).bind fun n42=>(Hp.ldSl r35.2 H.length 0).bind fun s43=>(Hp.ldI r35.2 .i64 H.length (0 + 1)).bind fun n44=>(kw s43 n44 r35.2).bind fun r45=>((r45.1).asAgg 2).bind fun l46=>(l46[0]?).bind fun v47=>((v47).asSl).bind fun s48=>(l46[1]?).bind fun v49=>((v49).asI .i64).bind fun n50=>(if Cons r35.2 r45.2 then ((lO s41 n42 s48 n50 r45.2).bind fun r51=>((r51.1).asB).bind fun b52=>(bif (!b52) then (some ((.bool false),r51.2)) else (some ((.bool true),r51.2)))) else none)))))))
def cC.tw (F:Nat) (aa:Sl) (ab:Int) (H:Hp):OA:=cC.twX F (bV.tw F) (bS.tw F) (bX.tw F) (bZ.tw F) (b_.tw F) aa ab H
def cC.code:Go.Code:=(Try.f3.body).getD .skip
def cC.lh (F:Nat) (lL:Sl→Int→Int→Hp→OA) (kw:Sl→Int→Hp→OA) (lM:Sl→Int→Hp→OA) (lN:Sl→Int→Hp→OA) (lO:Sl→Int→Sl→Int→Hp→OA) (p:Nat) (ks:List Nat) (n:Nat) (tm:Tm) (H:Hp):OA:=none
def cC.pn:Nat→List Nat:=fun i=>(([(10,[3])]:List (Nat×List Nat)).lookup i).getD []
def cC.tb:Nat→List (List Nat):=fun i=>(([(10,[[],[],[1],[0,1,2],[0,1,2,3]])]:List (Nat×List (List Nat))).lookup i).getD []
def cC.mk (g:Sl→Int→Hp→OA) (args:List AV) (H:Hp):OA:=match args with
 | [(.agg [(.sl aa),(.int .i64 ab)])]=>g aa ab H
 | _=>none
def cC.cs (F:Nat) (lL:Sl→Int→Int→Hp→OA) (kw:Sl→Int→Hp→OA) (lM:Sl→Int→Hp→OA) (lN:Sl→Int→Hp→OA) (lO:Sl→Int→Sl→Int→Hp→OA):List (FuncId×(List AV→Hp→OA)):=[(7,bV.mk lL),(9,bS.mk kw),(8,bX.mk lM),(10,bZ.mk lN),(11,b_.mk lO)]
theorem cC.loops (F:Nat) (lL:Sl→Int→Int→Hp→OA) (kw:Sl→Int→Hp→OA) (lM:Sl→Int→Hp→OA) (lN:Sl→Int→Hp→OA) (lO:Sl→Int→Sl→Int→Hp→OA):LoopsOk tabs (mkOrc (cC.cs F lL kw lM lN lO)) cC.pn (cC.lh F lL kw lM lN lO) F [] 1 cC.code (fun tm H=>aresults tabs.ty H tm Try.f3.results.toList fun v=>some (v,H)) (fun _ _ _=>none) (fun tm H=>aresults tabs.ty H tm Try.f3.results.toList fun v=>some (v,H)):=by
 exact loops_none (by kernel_rfl)
theorem cC.eqX (F:Nat) (lL:Sl→Int→Int→Hp→OA) (kw:Sl→Int→Hp→OA) (lM:Sl→Int→Hp→OA) (lN:Sl→Int→Hp→OA) (lO:Sl→Int→Sl→Int→Hp→OA) (aa:Sl) (ab:Int) (H:Hp):aCode tabs (mkOrc (cC.cs F lL kw lM lN lO)) cC.pn (cC.lh F lL kw lM lN lO) F [] 1 cC.code (argTm [(.agg [(.sl aa),(.int .i64 ab)])]) H (fun tm H=>aresults tabs.ty H tm Try.f3.results.toList fun v=>some (v,H)) (fun _ _ _=>none) (fun tm H=>aresults tabs.ty H tm Try.f3.results.toList fun v=>some (v,H)) = cC.twX F lL kw lM lN lO aa ab H:=by kernel_rfl
theorem cC.cs_ok (F:Nat):∀ p ∈ cC.cs F (bV.tw F) (bS.tw F) (bX.tw F) (bZ.tw F) (b_.tw F),∀ args H v H',p.2 args H = some (v,H')→Go.AE.T Try.prog p.1 args H v H':=by
 intro p hp
 simp only [cC.cs,List.mem_cons,List.not_mem_nil,or_false] at hp
 rcases hp with rfl | rfl | rfl | rfl | rfl
 ·exact fun args H v H' h=>bV.mk_T h
 ·exact fun args H v H' h=>bS.mk_T h
 ·exact fun args H v H' h=>bX.mk_T h
 ·exact fun args H v H' h=>bZ.mk_T h
 ·exact fun args H v H' h=>b_.mk_T h
theorem cC.ok:codeOk cC.pn Try.f3.ntmps cC.tb cC.code = true:=by kernel_rfl
theorem cC.T {F:Nat} {aa:Sl} {ab:Int} {H:Hp} {v:AV} {H':Hp} (h:cC.tw F aa ab H = some (v,H')):Go.AE.T Try.prog 3 [(.agg [(.sl aa),(.int .i64 ab)])] H v H':=
 Go.AE.T.of (Y:=tabs) (C:=mkOrc (cC.cs F (bV.tw F) (bS.tw F) (bX.tw F) (bZ.tw F) (b_.tw F))) (PN:=cC.pn) (LH:=cC.lh F (bV.tw F) (bS.tw F) (bX.tw F) (bZ.tw F) (b_.tw F)) (F:=F) (TB:=cC.tb) (fn:=Try.f3) (code:=cC.code) mixed tabs_ok (mkOrc_ok (cC.cs_ok F)) Try.func3 (by kernel_rfl) (by kernel_rfl) cC.ok (Nat.le_of_ble_eq_true (by kernel_rfl)) (cC.loops F (bV.tw F) (bS.tw F) (bX.tw F) (bZ.tw F) (b_.tw F)) (Eq.trans (cC.eqX F (bV.tw F) (bS.tw F) (bX.tw F) (bZ.tw F) (b_.tw F) aa ab H) h)
theorem cC.mk_T {F:Nat} {args:List AV} {H:Hp} {v:AV} {H':Hp} (h:cC.mk (cC.tw F) args H = some (v,H')):Go.AE.T Try.prog 3 args H v H':=by
 unfold cC.mk at h
 split at h
 ·exact cC.T h
 ·cases h
end
end Go.Proofs.Ytppbogklbhfboaa.AE
