import Derived.Test.YthfinhmkgdmelaaT1
import Derived.Test.YthfinhmkgdmelaaTab1
import Derived.Test.YthfinhmkgdmelaaE2
set_option linter.unusedVariables false
set_option linter.unusedSimpArgs false
namespace Go.Proofs.Ythfinhmkgdmelaa.AE
open Go Go.AE Go.Proofs Go.RowKit Go.Maps
set_option linter.unusedVariables false
set_option maxHeartbeats 4000000
set_option maxRecDepth 100000
noncomputable def bC.twX (F:Nat) (hP:Sl→Sl→Hp→OA) (aa:Sl) (ab:Int) (aq:Sl) (bb:Int) (H:Hp):OA:=(Hp.new H [(.sl aa),(.int .i64 ab)]).bind fun H5=>(Hp.new H5 [(.sl aq),(.int .i64 bb)]).bind fun H6=>(Hp.ldSl H6 H.length 0).bind fun s7=>(Hp.ldSl H6 H5.length 0).bind fun s8=>(hP s7 s8 H6).bind fun r9=>((r9.1).asB).bind fun b10=>(bif (!b10) then (some ((.bool false),r9.2)) else ((Hp.ldI r9.2 .i64 H.length 1).bind fun n11=>(Hp.ldI r9.2 .i64 H5.length 1).bind fun n12=>(bif (n11 != n12) then (some ((.bool false),r9.2)) else (some ((.bool true),r9.2)))))
noncomputable def bC.tw (F:Nat) (aa:Sl) (ab:Int) (aq:Sl) (bb:Int) (H:Hp):OA:=bC.twX F (aU.tw F) aa ab aq bb H
noncomputable def bC.code:Go.Code:=(Try.f20.body).getD .skip
noncomputable def bC.lh (F:Nat) (hP:Sl→Sl→Hp→OA) (p:Nat) (ks:List Nat) (n:Nat) (tm:Tm) (H:Hp):OA:=none
def bC.pn:Nat→List Nat:=fun i=>(([]:List (Nat×List Nat)).lookup i).getD []
def bC.tb:Nat→List (List Nat):=fun i=>(([]:List (Nat×List (List Nat))).lookup i).getD []
noncomputable def bC.mk (g:Sl→Int→Sl→Int→Hp→OA) (args:List AV) (H:Hp):OA:=match args with
 | [(.agg [(.sl aa),(.int .i64 ab)]),(.agg [(.sl aq),(.int .i64 bb)])]=>g aa ab aq bb H
 | _=>none
noncomputable def bC.cs (F:Nat) (hP:Sl→Sl→Hp→OA):List (FuncId×(List AV→Hp→OA)):=[(63,aU.mk hP)]
theorem bC.loops (F:Nat) (hP:Sl→Sl→Hp→OA):LoopsOk tabs (mkOrc (bC.cs F hP)) bC.pn (bC.lh F hP) F [] 1 bC.code (fun tm H=>aresults tabs.ty H tm Try.f20.results.toList fun v=>some (v,H)) (fun _ _ _=>none) (fun tm H=>aresults tabs.ty H tm Try.f20.results.toList fun v=>some (v,H)):=by
 exact loops_none (by kernel_rfl)
theorem bC.eqX (F:Nat) (hP:Sl→Sl→Hp→OA) (aa:Sl) (ab:Int) (aq:Sl) (bb:Int) (H:Hp):aCode tabs (mkOrc (bC.cs F hP)) bC.pn (bC.lh F hP) F [] 1 bC.code (argTm [(.agg [(.sl aa),(.int .i64 ab)]),(.agg [(.sl aq),(.int .i64 bb)])]) H (fun tm H=>aresults tabs.ty H tm Try.f20.results.toList fun v=>some (v,H)) (fun _ _ _=>none) (fun tm H=>aresults tabs.ty H tm Try.f20.results.toList fun v=>some (v,H)) = bC.twX F hP aa ab aq bb H:=by kernel_rfl
theorem bC.cs_ok (F:Nat):∀ p ∈ bC.cs F (aU.tw F),∀ args H v H',p.2 args H = some (v,H')→Go.AE.T Try.prog p.1 args H v H':=by
 intro p hp
 simp only [bC.cs,List.mem_cons,List.not_mem_nil,or_false] at hp
 subst hp
 exact fun args H v H' h=>aU.mk_T h
theorem bC.ok:codeOk bC.pn Try.f20.ntmps bC.tb bC.code = true:=by kernel_rfl
theorem bC.T {F:Nat} {aa:Sl} {ab:Int} {aq:Sl} {bb:Int} {H:Hp} {v:AV} {H':Hp} (h:bC.tw F aa ab aq bb H = some (v,H')):Go.AE.T Try.prog 20 [(.agg [(.sl aa),(.int .i64 ab)]),(.agg [(.sl aq),(.int .i64 bb)])] H v H':=
 Go.AE.T.of (Y:=tabs) (C:=mkOrc (bC.cs F (aU.tw F))) (PN:=bC.pn) (LH:=bC.lh F (aU.tw F)) (F:=F) (TB:=bC.tb) (fn:=Try.f20) (code:=bC.code) mixed tabs_ok (mkOrc_ok (bC.cs_ok F)) Try.func20 (by kernel_rfl) (by kernel_rfl) bC.ok (Nat.le_of_ble_eq_true (by kernel_rfl)) (bC.loops F (aU.tw F)) (Eq.trans (bC.eqX F (aU.tw F) aa ab aq bb H) h)
theorem bC.mk_T {F:Nat} {args:List AV} {H:Hp} {v:AV} {H':Hp} (h:bC.mk (bC.tw F) args H = some (v,H')):Go.AE.T Try.prog 20 args H v H':=by
 unfold bC.mk at h
 split at h
 ·exact bC.T h
 ·cases h
noncomputable def aV.l13 (F:Nat) :Nat→Sl→Int→Int→Hp→OA
 | 0,_,_,_,_=>none
 | ff + 1,aZ,aK,bo,H7=>(bif (decide (bo < (aZ.n:Int))) then ((Sl.idx aZ bo 5).bind fun p18=>(Hp.st H7 p18.1 p18.2 (.int .i64 aK)).bind fun H19=>(Sl.idx aZ bo 5).bind fun p20=>(Hp.st H19 p20.1 (p20.2 + 1) (.int .i64 (IntKind.i64.wrap (aK + 1)))).bind fun H21=>(Sl.idx aZ bo 5).bind fun p22=>(Hp.st H21 p22.1 (p22.2 + 2) (.int .i64 (IntKind.i64.wrap ((IntKind.i64.wrap (aK + 1)) + 1)))).bind fun H23=>(Sl.idx aZ bo 5).bind fun p24=>(Hp.st H23 p24.1 (p24.2 + 3) (.int .i64 (IntKind.i64.wrap ((IntKind.i64.wrap ((IntKind.i64.wrap (aK + 1)) + 1)) + 1)))).bind fun H25=>(Sl.idx aZ bo 5).bind fun p26=>(Hp.st H25 p26.1 (p26.2 + 4) (.int .i64 (IntKind.i64.wrap ((IntKind.i64.wrap ((IntKind.i64.wrap ((IntKind.i64.wrap (aK + 1)) + 1)) + 1)) + 1)))).bind fun H27=>aV.l13 F ff aZ (IntKind.i64.wrap ((IntKind.i64.wrap ((IntKind.i64.wrap ((IntKind.i64.wrap ((IntKind.i64.wrap (aK + 1)) + 1)) + 1)) + 1)) + 1)) (IntKind.i64.wrap (bo + 1)) H27) else (some ((.int .i64 aK),H7)))
termination_by structural n=>n
noncomputable def aV.twX (F:Nat) (aa:Sl) (ae:Int) (H:Hp):OA:=aV.l13 F F aa ae 0 H
noncomputable def aV.tw (F:Nat) (aa:Sl) (ae:Int) (H:Hp):OA:=aV.twX F aa ae H
noncomputable def aV.code:Go.Code:=(Try.f64.body).getD .skip
noncomputable def aV.lh13 (F:Nat) (ks:List Nat) (n:Nat) (tm:Tm) (H:Hp):OA:=match ks,tm 0,tm 1,tm 5 with
 | [],(.sl aZ),(.int .i64 aK),(.int .i64 bo)=>aV.l13 F n aZ aK bo H
 | _,_,_,_=>none
theorem aV.lh13_inv {F:Nat} {ks:List Nat} {n:Nat} {tm:Tm} {H:Hp} {r:AV×Hp} (h:aV.lh13 F ks n tm H = some r):∃ aZ:Sl,∃ aK:Int,∃ bo:Int,ks = []∧tm 0 = (.sl aZ)∧tm 1 = (.int .i64 aK)∧tm 5 = (.int .i64 bo)∧aV.l13 F n aZ aK bo H = some r:=by
 unfold aV.lh13 at h
 split at h
 ·exact ⟨_,_,_,rfl,by assumption,by assumption,by assumption,h⟩
 ·cases h
noncomputable def aV.lh (F:Nat) (p:Nat) (ks:List Nat) (n:Nat) (tm:Tm) (H:Hp):OA:=bif p.beq 13 then aV.lh13 F ks n tm H else (none)
def aV.pn:Nat→List Nat:=fun i=>(([]:List (Nat×List Nat)).lookup i).getD []
def aV.tb:Nat→List (List Nat):=fun i=>(([]:List (Nat×List (List Nat))).lookup i).getD []
noncomputable def aV.mk (g:Sl→Int→Hp→OA) (args:List AV) (H:Hp):OA:=match args with
 | [(.sl aa),(.int .i64 ae)]=>g aa ae H
 | _=>none
noncomputable def aV.cs (F:Nat):List (FuncId×(List AV→Hp→OA)):=[]
theorem aV.loops (F:Nat):LoopsOk tabs (mkOrc (aV.cs F)) aV.pn (aV.lh F) F [] 1 aV.code (fun tm H=>aresults tabs.ty H tm Try.f64.results.toList fun v=>some (v,H)) (fun _ _ _=>none) (fun tm H=>aresults tabs.ty H tm Try.f64.results.toList fun v=>some (v,H)):=by
 refine LoopsOk.seq ?_ ?_
 ·exact loops_none (by kernel_rfl)
 ·refine LoopsOk.seq ?_ ?_
  ·refine LoopsOk.seq ?_ ?_
   ·exact loops_none (by kernel_rfl)
   ·refine LoopsOk.block ?_
    refine LoopsOk.loop (fun tm H=>?_) (fun k13 tm H r h0=>?_) (fun k13=>?_)
    ·refine none_of fun r h0=>?_
     obtain ⟨aZ,aK,bo,hks,e0,e1,e5,h⟩:=aV.lh13_inv (show aV.lh13 F [] 0 tm H = some r from h0)
     cases h
    ·obtain ⟨aZ,aK,bo,hks,e0,e1,e5,h⟩:=aV.lh13_inv (show aV.lh13 F [] (k13 + 1) tm H = some r from h0)
     have q0:(Tm.put tm 0 (.sl aZ)) = tm:=by exact Tm.put_same e0
     have q1:(Tm.put (Tm.put tm 0 (.sl aZ)) 1 (.int .i64 aK)) = tm:=by rw [q0]; exact Tm.put_same e1
     have q2:(Tm.put (Tm.put (Tm.put tm 0 (.sl aZ)) 1 (.int .i64 aK)) 5 (.int .i64 bo)) = tm:=by rw [q1]; exact Tm.put_same e5
     rw [← q2]
     exact Eq.trans (by kernel_rfl) h
    ·exact loops_none (by kernel_rfl)
  ·exact loops_none (by kernel_rfl)
theorem aV.eqX (F:Nat) (aa:Sl) (ae:Int) (H:Hp):aCode tabs (mkOrc (aV.cs F)) aV.pn (aV.lh F) F [] 1 aV.code (argTm [(.sl aa),(.int .i64 ae)]) H (fun tm H=>aresults tabs.ty H tm Try.f64.results.toList fun v=>some (v,H)) (fun _ _ _=>none) (fun tm H=>aresults tabs.ty H tm Try.f64.results.toList fun v=>some (v,H)) = aV.twX F aa ae H:=by kernel_rfl
theorem aV.cs_ok (F:Nat):∀ p ∈ aV.cs F,∀ args H v H',p.2 args H = some (v,H')→Go.AE.T Try.prog p.1 args H v H':=by
 intro p hp
 exact absurd (show p ∈ [] from hp) List.not_mem_nil
theorem aV.ok:codeOk aV.pn Try.f64.ntmps aV.tb aV.code = true:=by kernel_rfl
theorem aV.T {F:Nat} {aa:Sl} {ae:Int} {H:Hp} {v:AV} {H':Hp} (h:aV.tw F aa ae H = some (v,H')):Go.AE.T Try.prog 64 [(.sl aa),(.int .i64 ae)] H v H':=
 Go.AE.T.of (Y:=tabs) (C:=mkOrc (aV.cs F)) (PN:=aV.pn) (LH:=aV.lh F) (F:=F) (TB:=aV.tb) (fn:=Try.f64) (code:=aV.code) mixed tabs_ok (mkOrc_ok (aV.cs_ok F)) Try.func64 (by kernel_rfl) (by kernel_rfl) aV.ok (Nat.le_of_ble_eq_true (by kernel_rfl)) (aV.loops F) (Eq.trans (aV.eqX F aa ae H) h)
theorem aV.mk_T {F:Nat} {args:List AV} {H:Hp} {v:AV} {H':Hp} (h:aV.mk (aV.tw F) args H = some (v,H')):Go.AE.T Try.prog 64 args H v H':=by
 unfold aV.mk at h
 split at h
 ·exact aV.T h
 ·cases h
noncomputable def bD.twX (F:Nat) (hQ:Sl→Int→Hp→OA) (aa:Sl) (ab:Int) (aq:Int) (H:Hp):OA:=(Hp.new H [(.sl aa),(.int .i64 ab)]).bind fun H4=>(Hp.ldSl H4 H.length 0).bind fun s5=>(hQ s5 aq H4).bind fun r6=>((r6.1).asI .i64).bind fun n7=>some ((.int .i64 n7),r6.2)
noncomputable def bD.tw (F:Nat) (aa:Sl) (ab:Int) (aq:Int) (H:Hp):OA:=bD.twX F (aV.tw F) aa ab aq H
noncomputable def bD.code:Go.Code:=(Try.f21.body).getD .skip
noncomputable def bD.lh (F:Nat) (hQ:Sl→Int→Hp→OA) (p:Nat) (ks:List Nat) (n:Nat) (tm:Tm) (H:Hp):OA:=none
def bD.pn:Nat→List Nat:=fun i=>(([]:List (Nat×List Nat)).lookup i).getD []
def bD.tb:Nat→List (List Nat):=fun i=>(([]:List (Nat×List (List Nat))).lookup i).getD []
noncomputable def bD.mk (g:Sl→Int→Int→Hp→OA) (args:List AV) (H:Hp):OA:=match args with
 | [(.agg [(.sl aa),(.int .i64 ab)]),(.int .i64 aq)]=>g aa ab aq H
 | _=>none
noncomputable def bD.cs (F:Nat) (hQ:Sl→Int→Hp→OA):List (FuncId×(List AV→Hp→OA)):=[(64,aV.mk hQ)]
theorem bD.loops (F:Nat) (hQ:Sl→Int→Hp→OA):LoopsOk tabs (mkOrc (bD.cs F hQ)) bD.pn (bD.lh F hQ) F [] 1 bD.code (fun tm H=>aresults tabs.ty H tm Try.f21.results.toList fun v=>some (v,H)) (fun _ _ _=>none) (fun tm H=>aresults tabs.ty H tm Try.f21.results.toList fun v=>some (v,H)):=by
 exact loops_none (by kernel_rfl)
theorem bD.eqX (F:Nat) (hQ:Sl→Int→Hp→OA) (aa:Sl) (ab:Int) (aq:Int) (H:Hp):aCode tabs (mkOrc (bD.cs F hQ)) bD.pn (bD.lh F hQ) F [] 1 bD.code (argTm [(.agg [(.sl aa),(.int .i64 ab)]),(.int .i64 aq)]) H (fun tm H=>aresults tabs.ty H tm Try.f21.results.toList fun v=>some (v,H)) (fun _ _ _=>none) (fun tm H=>aresults tabs.ty H tm Try.f21.results.toList fun v=>some (v,H)) = bD.twX F hQ aa ab aq H:=by kernel_rfl
theorem bD.cs_ok (F:Nat):∀ p ∈ bD.cs F (aV.tw F),∀ args H v H',p.2 args H = some (v,H')→Go.AE.T Try.prog p.1 args H v H':=by
 intro p hp
 simp only [bD.cs,List.mem_cons,List.not_mem_nil,or_false] at hp
 subst hp
 exact fun args H v H' h=>aV.mk_T h
theorem bD.ok:codeOk bD.pn Try.f21.ntmps bD.tb bD.code = true:=by kernel_rfl
theorem bD.T {F:Nat} {aa:Sl} {ab:Int} {aq:Int} {H:Hp} {v:AV} {H':Hp} (h:bD.tw F aa ab aq H = some (v,H')):Go.AE.T Try.prog 21 [(.agg [(.sl aa),(.int .i64 ab)]),(.int .i64 aq)] H v H':=
 Go.AE.T.of (Y:=tabs) (C:=mkOrc (bD.cs F (aV.tw F))) (PN:=bD.pn) (LH:=bD.lh F (aV.tw F)) (F:=F) (TB:=bD.tb) (fn:=Try.f21) (code:=bD.code) mixed tabs_ok (mkOrc_ok (bD.cs_ok F)) Try.func21 (by kernel_rfl) (by kernel_rfl) bD.ok (Nat.le_of_ble_eq_true (by kernel_rfl)) (bD.loops F (aV.tw F)) (Eq.trans (bD.eqX F (aV.tw F) aa ab aq H) h)
theorem bD.mk_T {F:Nat} {args:List AV} {H:Hp} {v:AV} {H':Hp} (h:bD.mk (bD.tw F) args H = some (v,H')):Go.AE.T Try.prog 21 args H v H':=by
 unfold bD.mk at h
 split at h
 ·exact bD.T h
 ·cases h
noncomputable def aW.l13 (F:Nat) :Nat→Sl→Int→Int→Hp→OA
 | 0,_,_,_,_=>none
 | ff + 1,aZ,aK,bo,H7=>(bif (decide (bo < (aZ.n:Int))) then ((Sl.idx aZ bo 1).bind fun p10=>(Hp.st H7 p10.1 p10.2 (.int .i64 aK)).bind fun H11=>aW.l13 F ff aZ (IntKind.i64.wrap (aK + 1)) (IntKind.i64.wrap (bo + 1)) H11) else (some ((.int .i64 aK),H7)))
termination_by structural n=>n
noncomputable def aW.twX (F:Nat) (aa:Sl) (ae:Int) (H:Hp):OA:=aW.l13 F F aa ae 0 H
noncomputable def aW.tw (F:Nat) (aa:Sl) (ae:Int) (H:Hp):OA:=aW.twX F aa ae H
noncomputable def aW.code:Go.Code:=(Try.f22.body).getD .skip
noncomputable def aW.lh13 (F:Nat) (ks:List Nat) (n:Nat) (tm:Tm) (H:Hp):OA:=match ks,tm 0,tm 1,tm 5 with
 | [],(.sl aZ),(.int .i64 aK),(.int .i64 bo)=>aW.l13 F n aZ aK bo H
 | _,_,_,_=>none
theorem aW.lh13_inv {F:Nat} {ks:List Nat} {n:Nat} {tm:Tm} {H:Hp} {r:AV×Hp} (h:aW.lh13 F ks n tm H = some r):∃ aZ:Sl,∃ aK:Int,∃ bo:Int,ks = []∧tm 0 = (.sl aZ)∧tm 1 = (.int .i64 aK)∧tm 5 = (.int .i64 bo)∧aW.l13 F n aZ aK bo H = some r:=by
 unfold aW.lh13 at h
 split at h
 ·exact ⟨_,_,_,rfl,by assumption,by assumption,by assumption,h⟩
 ·cases h
noncomputable def aW.lh (F:Nat) (p:Nat) (ks:List Nat) (n:Nat) (tm:Tm) (H:Hp):OA:=bif p.beq 13 then aW.lh13 F ks n tm H else (none)
def aW.pn:Nat→List Nat:=fun i=>(([]:List (Nat×List Nat)).lookup i).getD []
def aW.tb:Nat→List (List Nat):=fun i=>(([]:List (Nat×List (List Nat))).lookup i).getD []
noncomputable def aW.mk (g:Sl→Int→Hp→OA) (args:List AV) (H:Hp):OA:=match args with
 | [(.sl aa),(.int .i64 ae)]=>g aa ae H
 | _=>none
noncomputable def aW.cs (F:Nat):List (FuncId×(List AV→Hp→OA)):=[]
theorem aW.loops (F:Nat):LoopsOk tabs (mkOrc (aW.cs F)) aW.pn (aW.lh F) F [] 1 aW.code (fun tm H=>aresults tabs.ty H tm Try.f22.results.toList fun v=>some (v,H)) (fun _ _ _=>none) (fun tm H=>aresults tabs.ty H tm Try.f22.results.toList fun v=>some (v,H)):=by
 refine LoopsOk.seq ?_ ?_
 ·exact loops_none (by kernel_rfl)
 ·refine LoopsOk.seq ?_ ?_
  ·refine LoopsOk.seq ?_ ?_
   ·exact loops_none (by kernel_rfl)
   ·refine LoopsOk.block ?_
    refine LoopsOk.loop (fun tm H=>?_) (fun k13 tm H r h0=>?_) (fun k13=>?_)
    ·refine none_of fun r h0=>?_
     obtain ⟨aZ,aK,bo,hks,e0,e1,e5,h⟩:=aW.lh13_inv (show aW.lh13 F [] 0 tm H = some r from h0)
     cases h
    ·obtain ⟨aZ,aK,bo,hks,e0,e1,e5,h⟩:=aW.lh13_inv (show aW.lh13 F [] (k13 + 1) tm H = some r from h0)
     have q0:(Tm.put tm 0 (.sl aZ)) = tm:=by exact Tm.put_same e0
     have q1:(Tm.put (Tm.put tm 0 (.sl aZ)) 1 (.int .i64 aK)) = tm:=by rw [q0]; exact Tm.put_same e1
     have q2:(Tm.put (Tm.put (Tm.put tm 0 (.sl aZ)) 1 (.int .i64 aK)) 5 (.int .i64 bo)) = tm:=by rw [q1]; exact Tm.put_same e5
     rw [← q2]
     exact Eq.trans (by kernel_rfl) h
    ·exact loops_none (by kernel_rfl)
  ·exact loops_none (by kernel_rfl)
theorem aW.eqX (F:Nat) (aa:Sl) (ae:Int) (H:Hp):aCode tabs (mkOrc (aW.cs F)) aW.pn (aW.lh F) F [] 1 aW.code (argTm [(.sl aa),(.int .i64 ae)]) H (fun tm H=>aresults tabs.ty H tm Try.f22.results.toList fun v=>some (v,H)) (fun _ _ _=>none) (fun tm H=>aresults tabs.ty H tm Try.f22.results.toList fun v=>some (v,H)) = aW.twX F aa ae H:=by kernel_rfl
theorem aW.cs_ok (F:Nat):∀ p ∈ aW.cs F,∀ args H v H',p.2 args H = some (v,H')→Go.AE.T Try.prog p.1 args H v H':=by
 intro p hp
 exact absurd (show p ∈ [] from hp) List.not_mem_nil
theorem aW.ok:codeOk aW.pn Try.f22.ntmps aW.tb aW.code = true:=by kernel_rfl
theorem aW.T {F:Nat} {aa:Sl} {ae:Int} {H:Hp} {v:AV} {H':Hp} (h:aW.tw F aa ae H = some (v,H')):Go.AE.T Try.prog 22 [(.sl aa),(.int .i64 ae)] H v H':=
 Go.AE.T.of (Y:=tabs) (C:=mkOrc (aW.cs F)) (PN:=aW.pn) (LH:=aW.lh F) (F:=F) (TB:=aW.tb) (fn:=Try.f22) (code:=aW.code) mixed tabs_ok (mkOrc_ok (aW.cs_ok F)) Try.func22 (by kernel_rfl) (by kernel_rfl) aW.ok (Nat.le_of_ble_eq_true (by kernel_rfl)) (aW.loops F) (Eq.trans (aW.eqX F aa ae H) h)
theorem aW.mk_T {F:Nat} {args:List AV} {H:Hp} {v:AV} {H':Hp} (h:aW.mk (aW.tw F) args H = some (v,H')):Go.AE.T Try.prog 22 args H v H':=by
 unfold aW.mk at h
 split at h
 ·exact aW.T h
 ·cases h
noncomputable def aN.l13 (F:Nat) :Nat→Sl→Int→Int→Hp→OA
 | 0,_,_,_,_=>none
 | ff + 1,aZ,aK,bo,H7=>(bif (decide (bo < (aZ.n:Int))) then ((Sl.idx aZ bo 1).bind fun p10=>(Hp.ldI H7 .i64 p10.1 p10.2).bind fun n11=>(bif (n11 != aK) then (some ((.int .i64 (-1)),H7)) else (aN.l13 F ff aZ (IntKind.i64.wrap (aK + 1)) (IntKind.i64.wrap (bo + 1)) H7))) else (some ((.int .i64 aK),H7)))
termination_by structural n=>n
noncomputable def aN.twX (F:Nat) (aa:Sl) (ae:Int) (H:Hp):OA:=aN.l13 F F aa ae 0 H
noncomputable def aN.tw (F:Nat) (aa:Sl) (ae:Int) (H:Hp):OA:=aN.twX F aa ae H
noncomputable def aN.code:Go.Code:=(Try.f23.body).getD .skip
noncomputable def aN.lh13 (F:Nat) (ks:List Nat) (n:Nat) (tm:Tm) (H:Hp):OA:=match ks,tm 0,tm 1,tm 5 with
 | [],(.sl aZ),(.int .i64 aK),(.int .i64 bo)=>aN.l13 F n aZ aK bo H
 | _,_,_,_=>none
theorem aN.lh13_inv {F:Nat} {ks:List Nat} {n:Nat} {tm:Tm} {H:Hp} {r:AV×Hp} (h:aN.lh13 F ks n tm H = some r):∃ aZ:Sl,∃ aK:Int,∃ bo:Int,ks = []∧tm 0 = (.sl aZ)∧tm 1 = (.int .i64 aK)∧tm 5 = (.int .i64 bo)∧aN.l13 F n aZ aK bo H = some r:=by
 unfold aN.lh13 at h
 split at h
 ·exact ⟨_,_,_,rfl,by assumption,by assumption,by assumption,h⟩
 ·cases h
noncomputable def aN.lh (F:Nat) (p:Nat) (ks:List Nat) (n:Nat) (tm:Tm) (H:Hp):OA:=bif p.beq 13 then aN.lh13 F ks n tm H else (none)
def aN.pn:Nat→List Nat:=fun i=>(([]:List (Nat×List Nat)).lookup i).getD []
def aN.tb:Nat→List (List Nat):=fun i=>(([]:List (Nat×List (List Nat))).lookup i).getD []
noncomputable def aN.mk (g:Sl→Int→Hp→OA) (args:List AV) (H:Hp):OA:=match args with
 | [(.sl aa),(.int .i64 ae)]=>g aa ae H
 | _=>none
noncomputable def aN.cs (F:Nat):List (FuncId×(List AV→Hp→OA)):=[]
theorem aN.loops (F:Nat):LoopsOk tabs (mkOrc (aN.cs F)) aN.pn (aN.lh F) F [] 1 aN.code (fun tm H=>aresults tabs.ty H tm Try.f23.results.toList fun v=>some (v,H)) (fun _ _ _=>none) (fun tm H=>aresults tabs.ty H tm Try.f23.results.toList fun v=>some (v,H)):=by
 refine LoopsOk.seq ?_ ?_
 ·exact loops_none (by kernel_rfl)
 ·refine LoopsOk.seq ?_ ?_
  ·refine LoopsOk.seq ?_ ?_
   ·exact loops_none (by kernel_rfl)
   ·refine LoopsOk.block ?_
    refine LoopsOk.loop (fun tm H=>?_) (fun k13 tm H r h0=>?_) (fun k13=>?_)
    ·refine none_of fun r h0=>?_
     obtain ⟨aZ,aK,bo,hks,e0,e1,e5,h⟩:=aN.lh13_inv (show aN.lh13 F [] 0 tm H = some r from h0)
     cases h
    ·obtain ⟨aZ,aK,bo,hks,e0,e1,e5,h⟩:=aN.lh13_inv (show aN.lh13 F [] (k13 + 1) tm H = some r from h0)
     have q0:(Tm.put tm 0 (.sl aZ)) = tm:=by exact Tm.put_same e0
     have q1:(Tm.put (Tm.put tm 0 (.sl aZ)) 1 (.int .i64 aK)) = tm:=by rw [q0]; exact Tm.put_same e1
     have q2:(Tm.put (Tm.put (Tm.put tm 0 (.sl aZ)) 1 (.int .i64 aK)) 5 (.int .i64 bo)) = tm:=by rw [q1]; exact Tm.put_same e5
     rw [← q2]
     exact Eq.trans (by kernel_rfl) h
    ·exact loops_none (by kernel_rfl)
  ·exact loops_none (by kernel_rfl)
theorem aN.eqX (F:Nat) (aa:Sl) (ae:Int) (H:Hp):aCode tabs (mkOrc (aN.cs F)) aN.pn (aN.lh F) F [] 1 aN.code (argTm [(.sl aa),(.int .i64 ae)]) H (fun tm H=>aresults tabs.ty H tm Try.f23.results.toList fun v=>some (v,H)) (fun _ _ _=>none) (fun tm H=>aresults tabs.ty H tm Try.f23.results.toList fun v=>some (v,H)) = aN.twX F aa ae H:=by kernel_rfl
theorem aN.cs_ok (F:Nat):∀ p ∈ aN.cs F,∀ args H v H',p.2 args H = some (v,H')→Go.AE.T Try.prog p.1 args H v H':=by
 intro p hp
 exact absurd (show p ∈ [] from hp) List.not_mem_nil
theorem aN.ok:codeOk aN.pn Try.f23.ntmps aN.tb aN.code = true:=by kernel_rfl
theorem aN.T {F:Nat} {aa:Sl} {ae:Int} {H:Hp} {v:AV} {H':Hp} (h:aN.tw F aa ae H = some (v,H')):Go.AE.T Try.prog 23 [(.sl aa),(.int .i64 ae)] H v H':=
 Go.AE.T.of (Y:=tabs) (C:=mkOrc (aN.cs F)) (PN:=aN.pn) (LH:=aN.lh F) (F:=F) (TB:=aN.tb) (fn:=Try.f23) (code:=aN.code) mixed tabs_ok (mkOrc_ok (aN.cs_ok F)) Try.func23 (by kernel_rfl) (by kernel_rfl) aN.ok (Nat.le_of_ble_eq_true (by kernel_rfl)) (aN.loops F) (Eq.trans (aN.eqX F aa ae H) h)
theorem aN.mk_T {F:Nat} {args:List AV} {H:Hp} {v:AV} {H':Hp} (h:aN.mk (aN.tw F) args H = some (v,H')):Go.AE.T Try.prog 23 args H v H':=by
 unfold aN.mk at h
 split at h
 ·exact aN.T h
 ·cases h
noncomputable def bM.twX (F:Nat) (hT:Sl→Int→Int→Hp→OA) (fX:Sl→Int→Hp→OA) (hU:Sl→Int→Hp→OA) (gO:Sl→Int→Hp→OA) (gv:Sl→Sl→Hp→OA) (hX:Sl→Int→Sl→Int→Hp→OA) (hY:Sl→Int→Int→Hp→OA) (hZ:Sl→Int→Hp→OA) (gP:Sl→Int→Hp→OA) (aa:Sl) (ab:Int) (H:Hp):OA:=(Hp.new H [(.sl aa),(.int .i64 ab)]).bind fun H3=>(Hp.ldSl H3 H.length 0).bind fun s4=>(Hp.ldI H3 .i64 H.length (0 + 1)).bind fun n5=>(hT s4 n5 1048576 H3).bind fun r6=>((r6.1).asI .i64).bind fun n7=>(bif (decide (n7 < 0)) then (some ((.bool true),r6.2)) else ((Hp.ldSl r6.2 H.length 0).bind fun s8=>(Hp.ldI r6.2 .i64 H.length (0 + 1)).bind fun n9=>(fX s8 n9 r6.2).bind fun r10=>((r10.1).asAgg 2).bind fun l11=>(l11[0]?).bind fun v12=>((v12).asSl).bind fun s13=>(l11[1]?).bind fun v14=>((v14).asI .i64).bind fun n15=>(hU s13 n15 r10.2).bind fun r16=>((r16.1).asTup 2).bind fun l17=>(l17[0]?).bind fun v18=>((v18).asSl).bind fun s19=>(l17[1]?).bind fun v20=>((v20).asB).bind fun b21=>(Hp.ldSl r16.2 H.length 0).bind fun s22=>(Hp.ldI r16.2 .i64 H.length (0 + 1)).bind fun n23=>(fX s22 n23 r16.2).bind fun r24=>((r24.1).asAgg 2).bind fun l25=>(l25[0]?).bind fun v26=>((v26).asSl).bind fun s27=>(l25[1]?).bind fun v28=>((v28).asI .i64).bind fun n29=>(Hp.new r24.2 [.sl ⟨none,0,.ex 0⟩,.int .i64 0]).bind fun H30=>(Hp.st H30 r24.2.length 0 (.sl s27)).bind fun H31=>(Hp.st H31 r24.2.length (0 + 1) (.int .i64 n29)).bind fun H32=>(Hp.ldSl H32 r24.2.length 0).bind fun s33=>(Hp.ldI H32 .i64 r24.2.length (0 + 1)).bind fun n34=>(gO s33 n34 H32).bind fun r35=>((r35.1).asTup 2).bind fun l36=>(l36[0]?).bind fun v37=>((v37).asSl).bind fun s38=>(l36[1]?).bind fun v39=>((v39).asB).bind fun b40=>(gv s38 s19 r35.2).bind fun r41=>((r41.1).asB).bind fun b42=>(bif (!b42) then (some ((.bool false),r41.2)) else ((bif (!(b40 == b21)) then (some ((.bool false),r41.2)) else ((Hp.ldSl r41.2 r24.2.length 0).bind fun s43=>(Hp.ldI r41.2 .i64 r24.2.length (0 + 1)).bind fun n44=>(Hp.ldSl r41.2 H.length 0).bind fun s45=>(Hp.ldI r41.2 .i64 H.length (0 + 1)).bind fun n46=>(fX s45 n46 r41.2).bind fun r47=>((r47.1).asAgg 2).bind fun l48=>(l48[0]?).bind fun v49=>((v49).asSl).bind fun s50=>(l48[1]?).bind fun v51=>((v51).asI .i64).bind fun n52=>(if Cons r41.2 r47.2 then ((hX s43 n44 s50 n52 r47.2).bind fun r53=>((r53.1).asB).bind fun b54=>(bif (!b54) then (some ((.bool false),r53.2)) else ((Hp.ldSl r53.2 r24.2.length 0).bind fun s55=>(Hp.ldI r53.2 .i64 r24.2.length (0 + 1)).bind fun n56=>(hY s55 n56 1 r53.2).bind fun r57=>((r57.1).asI .i64).bind fun n58=>(bif (decide (n58 < 0)) then (some ((.bool false),r57.2)) else ((gv s38 s19 r57.2).bind fun r59=>((r59.1).asB).bind fun b60=>(bif (!b60) then (some ((.bool false),r59.2)) else ((bif (!(b40 == b21)) then (some ((.bool false),r59.2)) else ((hZ s38 1 r59.2).bind fun r61=>((r61.1).asI .i64).bind fun n62=>(gP s38 1 r61.2).bind fun r63=>((r63.1).asI .i64).bind fun n64=>(bif (decide (n64 < 0)) then (some ((.bool false),r63.2)) else ((bif (n64 != n62) then (some ((.bool false),r63.2)) else ((Hp.ldSl r63.2 H.length 0).bind fun s65=>(Hp.ldI r63.2 .i64 H.length (0 + 1)).bind fun n66=>(fX s65 n66 r63.2).bind fun r67=>((r67.1).asAgg 2).bind fun l68=>(l68[0]?).bind fun v69=>((v69).asSl).bind fun s70=>(l68[1]?).bind fun v71=>((v71).asI .i64).bind fun n72=>(gO s70 n72 r67.2).bind fun r73=>((r73.1).asTup 2).bind fun l74=>(l74[0]?).bind fun v75=>((v75).asSl).bind fun s76=>(l74[1]?).bind fun v77=>((v77).asB).bind fun b78=>(gv s76 s19 r73.2).bind fun r79=>((r79.1).asB).bind fun b80=>(bif (!b80) then (some ((.bool false),r79.2)) else ((bif (!(b78 == b21)) then (some ((.bool false),r79.2)) else ((gP s38 1 r79.2).bind fun r81=>((r81.1).asI .i64).bind fun n82=>(bif (decide (n82 < 0)) then (some ((.bool false),r81.2)) else ((bif (n82 != n62) then (some ((.bool false),r81.2)) else (some ((.bool true),r81.2)))))))))))))))))))))) else none)))))))
noncomputable def bM.tw (F:Nat) (aa:Sl) (ab:Int) (H:Hp):OA:=bM.twX F (bw.tw F) (bp.tw F) (bA.tw F) (bx.tw F) (aM.tw F) (bC.tw F) (bD.tw F) (aW.tw F) (aN.tw F) aa ab H
noncomputable def bM.code:Go.Code:=(Try.f5.body).getD .skip
noncomputable def bM.lh (F:Nat) (hT:Sl→Int→Int→Hp→OA) (fX:Sl→Int→Hp→OA) (hU:Sl→Int→Hp→OA) (gO:Sl→Int→Hp→OA) (gv:Sl→Sl→Hp→OA) (hX:Sl→Int→Sl→Int→Hp→OA) (hY:Sl→Int→Int→Hp→OA) (hZ:Sl→Int→Hp→OA) (gP:Sl→Int→Hp→OA) (p:Nat) (ks:List Nat) (n:Nat) (tm:Tm) (H:Hp):OA:=none
def bM.pn:Nat→List Nat:=fun i=>(([(10,[3])]:List (Nat×List Nat)).lookup i).getD []
def bM.tb:Nat→List (List Nat):=fun i=>(([(10,[[],[],[1],[0,1,2],[0,1,2,3]])]:List (Nat×List (List Nat))).lookup i).getD []
noncomputable def bM.mk (g:Sl→Int→Hp→OA) (args:List AV) (H:Hp):OA:=match args with
 | [(.agg [(.sl aa),(.int .i64 ab)])]=>g aa ab H
 | _=>none
noncomputable def bM.cs (F:Nat) (hT:Sl→Int→Int→Hp→OA) (fX:Sl→Int→Hp→OA) (hU:Sl→Int→Hp→OA) (gO:Sl→Int→Hp→OA) (gv:Sl→Sl→Hp→OA) (hX:Sl→Int→Sl→Int→Hp→OA) (hY:Sl→Int→Int→Hp→OA) (hZ:Sl→Int→Hp→OA) (gP:Sl→Int→Hp→OA):List (FuncId×(List AV→Hp→OA)):=[(15,bw.mk hT),(17,bp.mk fX),(26,bA.mk hU),(27,bx.mk gO),(19,aM.mk gv),(20,bC.mk hX),(21,bD.mk hY),(22,aW.mk hZ),(23,aN.mk gP)]
theorem bM.loops (F:Nat) (hT:Sl→Int→Int→Hp→OA) (fX:Sl→Int→Hp→OA) (hU:Sl→Int→Hp→OA) (gO:Sl→Int→Hp→OA) (gv:Sl→Sl→Hp→OA) (hX:Sl→Int→Sl→Int→Hp→OA) (hY:Sl→Int→Int→Hp→OA) (hZ:Sl→Int→Hp→OA) (gP:Sl→Int→Hp→OA):LoopsOk tabs (mkOrc (bM.cs F hT fX hU gO gv hX hY hZ gP)) bM.pn (bM.lh F hT fX hU gO gv hX hY hZ gP) F [] 1 bM.code (fun tm H=>aresults tabs.ty H tm Try.f5.results.toList fun v=>some (v,H)) (fun _ _ _=>none) (fun tm H=>aresults tabs.ty H tm Try.f5.results.toList fun v=>some (v,H)):=by
 exact loops_none (by kernel_rfl)
theorem bM.eqX (F:Nat) (hT:Sl→Int→Int→Hp→OA) (fX:Sl→Int→Hp→OA) (hU:Sl→Int→Hp→OA) (gO:Sl→Int→Hp→OA) (gv:Sl→Sl→Hp→OA) (hX:Sl→Int→Sl→Int→Hp→OA) (hY:Sl→Int→Int→Hp→OA) (hZ:Sl→Int→Hp→OA) (gP:Sl→Int→Hp→OA) (aa:Sl) (ab:Int) (H:Hp):aCode tabs (mkOrc (bM.cs F hT fX hU gO gv hX hY hZ gP)) bM.pn (bM.lh F hT fX hU gO gv hX hY hZ gP) F [] 1 bM.code (argTm [(.agg [(.sl aa),(.int .i64 ab)])]) H (fun tm H=>aresults tabs.ty H tm Try.f5.results.toList fun v=>some (v,H)) (fun _ _ _=>none) (fun tm H=>aresults tabs.ty H tm Try.f5.results.toList fun v=>some (v,H)) = bM.twX F hT fX hU gO gv hX hY hZ gP aa ab H:=by kernel_rfl
theorem bM.cs_ok (F:Nat):∀ p ∈ bM.cs F (bw.tw F) (bp.tw F) (bA.tw F) (bx.tw F) (aM.tw F) (bC.tw F) (bD.tw F) (aW.tw F) (aN.tw F),∀ args H v H',p.2 args H = some (v,H')→Go.AE.T Try.prog p.1 args H v H':=by
 intro p hp
 simp only [bM.cs,List.mem_cons,List.not_mem_nil,or_false] at hp
 rcases hp with rfl | rfl | rfl | rfl | rfl | rfl | rfl | rfl | rfl
 ·exact fun args H v H' h=>bw.mk_T h
 ·exact fun args H v H' h=>bp.mk_T h
 ·exact fun args H v H' h=>bA.mk_T h
 ·exact fun args H v H' h=>bx.mk_T h
 ·exact fun args H v H' h=>aM.mk_T h
 ·exact fun args H v H' h=>bC.mk_T h
 ·exact fun args H v H' h=>bD.mk_T h
 ·exact fun args H v H' h=>aW.mk_T h
 ·exact fun args H v H' h=>aN.mk_T h
theorem bM.ok:codeOk bM.pn Try.f5.ntmps bM.tb bM.code = true:=by kernel_rfl
theorem bM.T {F:Nat} {aa:Sl} {ab:Int} {H:Hp} {v:AV} {H':Hp} (h:bM.tw F aa ab H = some (v,H')):Go.AE.T Try.prog 5 [(.agg [(.sl aa),(.int .i64 ab)])] H v H':=
 Go.AE.T.of (Y:=tabs) (C:=mkOrc (bM.cs F (bw.tw F) (bp.tw F) (bA.tw F) (bx.tw F) (aM.tw F) (bC.tw F) (bD.tw F) (aW.tw F) (aN.tw F))) (PN:=bM.pn) (LH:=bM.lh F (bw.tw F) (bp.tw F) (bA.tw F) (bx.tw F) (aM.tw F) (bC.tw F) (bD.tw F) (aW.tw F) (aN.tw F)) (F:=F) (TB:=bM.tb) (fn:=Try.f5) (code:=bM.code) mixed tabs_ok (mkOrc_ok (bM.cs_ok F)) Try.func5 (by kernel_rfl) (by kernel_rfl) bM.ok (Nat.le_of_ble_eq_true (by kernel_rfl)) (bM.loops F (bw.tw F) (bp.tw F) (bA.tw F) (bx.tw F) (aM.tw F) (bC.tw F) (bD.tw F) (aW.tw F) (aN.tw F)) (Eq.trans (bM.eqX F (bw.tw F) (bp.tw F) (bA.tw F) (bx.tw F) (aM.tw F) (bC.tw F) (bD.tw F) (aW.tw F) (aN.tw F) aa ab H) h)
theorem bM.mk_T {F:Nat} {args:List AV} {H:Hp} {v:AV} {H':Hp} (h:bM.mk (bM.tw F) args H = some (v,H')):Go.AE.T Try.prog 5 args H v H':=by
 unfold bM.mk at h
 split at h
 ·exact bM.T h
 ·cases h
end Go.Proofs.Ythfinhmkgdmelaa.AE
