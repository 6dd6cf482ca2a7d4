import Derived.Test.YthfinhmkgdmelaaT1
import Derived.Test.YthfinhmkgdmelaaTab1
import Derived.Test.YthfinhmkgdmelaaE2
set_option linter.unusedVariables false
set_option linter.unusedSimpArgs false
namespace Go.Proofs.Ythfinhmkgdmelaa.AE
open Go Go.AE Go.Proofs Go.RowKit Go.Maps
set_option linter.unusedVariables false
set_option maxHeartbeats 4000000
set_option maxRecDepth 100000
theorem aS.T {F:Nat} {aa:Sl} {ad:Sl} {H:Hp} {v:AV} {H':Hp} (h:aS.tw F aa ad H = some (v,H')):Go.AE.T Try.prog 63 [(.sl aa),(.sl ad)] H v H':=
 Go.AE.T.of (Y:=tabs) (C:=mkOrc (aS.cs F (bE.tw F))) (PN:=aS.pn) (LH:=aS.lh F (bE.tw F)) (F:=F) (TB:=aS.tb) (fn:=Try.f63) (code:=aS.code) mixed tabs_ok (mkOrc_ok (aS.cs_ok F)) Try.func63 (by kernel_rfl) (by kernel_rfl) aS.ok (Nat.le_of_ble_eq_true (by kernel_rfl)) (aS.loops F (bE.tw F)) (Eq.trans (aS.eqX F (bE.tw F) aa ad H) h)
theorem aS.mk_T {F:Nat} {args:List AV} {H:Hp} {v:AV} {H':Hp} (h:aS.mk (aS.tw F) args H = some (v,H')):Go.AE.T Try.prog 63 args H v H':=by
 unfold aS.mk at h
 split at h
 ·exact aS.T h
 ·cases h
noncomputable def bw.twX (F:Nat) (gR:Sl→Sl→Hp→OA) (aa:Sl) (ab:Int) (au:Sl) (av:Int) (H:Hp):OA:=(Hp.new H [(.sl aa),(.int .i64 ab)]).bind fun H5=>(Hp.new H5 [(.sl au),(.int .i64 av)]).bind fun H6=>(Hp.ldSl H6 H.length 0).bind fun s7=>(Hp.ldSl H6 H5.length 0).bind fun s8=>(gR s7 s8 H6).bind fun r9=>((r9.1).asB).bind fun b10=>(bif (!b10) then (some ((.bool false),r9.2)) else ((Hp.ldI r9.2 .i64 H.length 1).bind fun n11=>(Hp.ldI r9.2 .i64 H5.length 1).bind fun n12=>(bif (n11 != n12) then (some ((.bool false),r9.2)) else (some ((.bool true),r9.2)))))
noncomputable def bw.tw (F:Nat) (aa:Sl) (ab:Int) (au:Sl) (av:Int) (H:Hp):OA:=bw.twX F (aS.tw F) aa ab au av H
noncomputable def bw.code:Go.Code:=(Try.f20.body).getD .skip
noncomputable def bw.lh (F:Nat) (gR:Sl→Sl→Hp→OA) (p:Nat) (ks:List Nat) (n:Nat) (tm:Tm) (H:Hp):OA:=none
def bw.pn:Nat→List Nat:=fun i=>(([]:List (Nat×List Nat)).lookup i).getD []
def bw.tb:Nat→List (List Nat):=fun i=>(([]:List (Nat×List (List Nat))).lookup i).getD []
noncomputable def bw.mk (g:Sl→Int→Sl→Int→Hp→OA) (args:List AV) (H:Hp):OA:=match args with
 | [(.agg [(.sl aa),(.int .i64 ab)]),(.agg [(.sl au),(.int .i64 av)])]=>g aa ab au av H
 | _=>none
noncomputable def bw.cs (F:Nat) (gR:Sl→Sl→Hp→OA):List (FuncId×(List AV→Hp→OA)):=[(63,aS.mk gR)]
theorem bw.loops (F:Nat) (gR:Sl→Sl→Hp→OA):LoopsOk tabs (mkOrc (bw.cs F gR)) bw.pn (bw.lh F gR) F [] 1 bw.code (fun tm H=>aresults tabs.ty H tm Try.f20.results.toList fun v=>some (v,H)) (fun _ _ _=>none) (fun tm H=>aresults tabs.ty H tm Try.f20.results.toList fun v=>some (v,H)):=by
 exact loops_none (by kernel_rfl)
theorem bw.eqX (F:Nat) (gR:Sl→Sl→Hp→OA) (aa:Sl) (ab:Int) (au:Sl) (av:Int) (H:Hp):aCode tabs (mkOrc (bw.cs F gR)) bw.pn (bw.lh F gR) F [] 1 bw.code (argTm [(.agg [(.sl aa),(.int .i64 ab)]),(.agg [(.sl au),(.int .i64 av)])]) H (fun tm H=>aresults tabs.ty H tm Try.f20.results.toList fun v=>some (v,H)) (fun _ _ _=>none) (fun tm H=>aresults tabs.ty H tm Try.f20.results.toList fun v=>some (v,H)) = bw.twX F gR aa ab au av H:=by kernel_rfl
theorem bw.cs_ok (F:Nat):∀ p ∈ bw.cs F (aS.tw F),∀ args H v H',p.2 args H = some (v,H')→Go.AE.T Try.prog p.1 args H v H':=by
 intro p hp
 simp only [bw.cs,List.mem_cons,List.not_mem_nil,or_false] at hp
 subst hp
 exact fun args H v H' h=>aS.mk_T h
theorem bw.ok:codeOk bw.pn Try.f20.ntmps bw.tb bw.code = true:=by kernel_rfl
theorem bw.T {F:Nat} {aa:Sl} {ab:Int} {au:Sl} {av:Int} {H:Hp} {v:AV} {H':Hp} (h:bw.tw F aa ab au av H = some (v,H')):Go.AE.T Try.prog 20 [(.agg [(.sl aa),(.int .i64 ab)]),(.agg [(.sl au),(.int .i64 av)])] H v H':=
 Go.AE.T.of (Y:=tabs) (C:=mkOrc (bw.cs F (aS.tw F))) (PN:=bw.pn) (LH:=bw.lh F (aS.tw F)) (F:=F) (TB:=bw.tb) (fn:=Try.f20) (code:=bw.code) mixed tabs_ok (mkOrc_ok (bw.cs_ok F)) Try.func20 (by kernel_rfl) (by kernel_rfl) bw.ok (Nat.le_of_ble_eq_true (by kernel_rfl)) (bw.loops F (aS.tw F)) (Eq.trans (bw.eqX F (aS.tw F) aa ab au av H) h)
theorem bw.mk_T {F:Nat} {args:List AV} {H:Hp} {v:AV} {H':Hp} (h:bw.mk (bw.tw F) args H = some (v,H')):Go.AE.T Try.prog 20 args H v H':=by
 unfold bw.mk at h
 split at h
 ·exact bw.T h
 ·cases h
noncomputable def aT.l13 (F:Nat) :Nat→Sl→Int→Int→Hp→OA
 | 0,_,_,_,_=>none
 | eW + 1,aX,aF,bi,H7=>(bif (decide (bi < (aX.n:Int))) then ((Sl.idx aX bi 5).bind fun p18=>(Hp.st H7 p18.1 p18.2 (.int .i64 aF)).bind fun H19=>(Sl.idx aX bi 5).bind fun p20=>(Hp.st H19 p20.1 (p20.2 + 1) (.int .i64 (IntKind.i64.wrap (aF + 1)))).bind fun H21=>(Sl.idx aX bi 5).bind fun p22=>(Hp.st H21 p22.1 (p22.2 + 2) (.int .i64 (IntKind.i64.wrap ((IntKind.i64.wrap (aF + 1)) + 1)))).bind fun H23=>(Sl.idx aX bi 5).bind fun p24=>(Hp.st H23 p24.1 (p24.2 + 3) (.int .i64 (IntKind.i64.wrap ((IntKind.i64.wrap ((IntKind.i64.wrap (aF + 1)) + 1)) + 1)))).bind fun H25=>(Sl.idx aX bi 5).bind fun p26=>(Hp.st H25 p26.1 (p26.2 + 4) (.int .i64 (IntKind.i64.wrap ((IntKind.i64.wrap ((IntKind.i64.wrap ((IntKind.i64.wrap (aF + 1)) + 1)) + 1)) + 1)))).bind fun H27=>aT.l13 F eW aX (IntKind.i64.wrap ((IntKind.i64.wrap ((IntKind.i64.wrap ((IntKind.i64.wrap ((IntKind.i64.wrap (aF + 1)) + 1)) + 1)) + 1)) + 1)) (IntKind.i64.wrap (bi + 1)) H27) else (some ((.int .i64 aF),H7)))
termination_by structural n=>n
noncomputable def aT.twX (F:Nat) (aa:Sl) (ad:Int) (H:Hp):OA:=aT.l13 F F aa ad 0 H
noncomputable def aT.tw (F:Nat) (aa:Sl) (ad:Int) (H:Hp):OA:=aT.twX F aa ad H
noncomputable def aT.code:Go.Code:=(Try.f64.body).getD .skip
noncomputable def aT.lh13 (F:Nat) (ks:List Nat) (n:Nat) (tm:Tm) (H:Hp):OA:=match ks,tm 0,tm 1,tm 5 with
 | [],(.sl aX),(.int .i64 aF),(.int .i64 bi)=>aT.l13 F n aX aF bi H
 | _,_,_,_=>none
theorem aT.lh13_inv {F:Nat} {ks:List Nat} {n:Nat} {tm:Tm} {H:Hp} {r:AV×Hp} (h:aT.lh13 F ks n tm H = some r):∃ aX:Sl,∃ aF:Int,∃ bi:Int,ks = []∧tm 0 = (.sl aX)∧tm 1 = (.int .i64 aF)∧tm 5 = (.int .i64 bi)∧aT.l13 F n aX aF bi H = some r:=by
 unfold aT.lh13 at h
 split at h
 ·exact ⟨_,_,_,rfl,by assumption,by assumption,by assumption,h⟩
 ·cases h
noncomputable def aT.lh (F:Nat) (p:Nat) (ks:List Nat) (n:Nat) (tm:Tm) (H:Hp):OA:=bif p.beq 13 then aT.lh13 F ks n tm H else (none)
def aT.pn:Nat→List Nat:=fun i=>(([]:List (Nat×List Nat)).lookup i).getD []
def aT.tb:Nat→List (List Nat):=fun i=>(([]:List (Nat×List (List Nat))).lookup i).getD []
noncomputable def aT.mk (g:Sl→Int→Hp→OA) (args:List AV) (H:Hp):OA:=match args with
 | [(.sl aa),(.int .i64 ad)]=>g aa ad H
 | _=>none
noncomputable def aT.cs (F:Nat):List (FuncId×(List AV→Hp→OA)):=[]
theorem aT.loops (F:Nat):LoopsOk tabs (mkOrc (aT.cs F)) aT.pn (aT.lh F) F [] 1 aT.code (fun tm H=>aresults tabs.ty H tm Try.f64.results.toList fun v=>some (v,H)) (fun _ _ _=>none) (fun tm H=>aresults tabs.ty H tm Try.f64.results.toList fun v=>some (v,H)):=by
 refine LoopsOk.seq ?_ ?_
 ·exact loops_none (by kernel_rfl)
 ·refine LoopsOk.seq ?_ ?_
  ·refine LoopsOk.seq ?_ ?_
   ·exact loops_none (by kernel_rfl)
   ·refine LoopsOk.block ?_
    refine LoopsOk.loop (fun tm H=>?_) (fun k13 tm H r h0=>?_) (fun k13=>?_)
    ·refine none_of fun r h0=>?_
     obtain ⟨aX,aF,bi,hks,e0,e1,e5,h⟩:=aT.lh13_inv (show aT.lh13 F [] 0 tm H = some r from h0)
     cases h
    ·obtain ⟨aX,aF,bi,hks,e0,e1,e5,h⟩:=aT.lh13_inv (show aT.lh13 F [] (k13 + 1) tm H = some r from h0)
     have q0:(Tm.put tm 0 (.sl aX)) = tm:=by exact Tm.put_same e0
     have q1:(Tm.put (Tm.put tm 0 (.sl aX)) 1 (.int .i64 aF)) = tm:=by rw [q0]; exact Tm.put_same e1
     have q2:(Tm.put (Tm.put (Tm.put tm 0 (.sl aX)) 1 (.int .i64 aF)) 5 (.int .i64 bi)) = tm:=by rw [q1]; exact Tm.put_same e5
     rw [← q2]
     exact Eq.trans (by kernel_rfl) h
    ·exact loops_none (by kernel_rfl)
  ·exact loops_none (by kernel_rfl)
theorem aT.eqX (F:Nat) (aa:Sl) (ad:Int) (H:Hp):aCode tabs (mkOrc (aT.cs F)) aT.pn (aT.lh F) F [] 1 aT.code (argTm [(.sl aa),(.int .i64 ad)]) H (fun tm H=>aresults tabs.ty H tm Try.f64.results.toList fun v=>some (v,H)) (fun _ _ _=>none) (fun tm H=>aresults tabs.ty H tm Try.f64.results.toList fun v=>some (v,H)) = aT.twX F aa ad H:=by kernel_rfl
theorem aT.cs_ok (F:Nat):∀ p ∈ aT.cs F,∀ args H v H',p.2 args H = some (v,H')→Go.AE.T Try.prog p.1 args H v H':=by
 intro p hp
 exact absurd (show p ∈ [] from hp) List.not_mem_nil
theorem aT.ok:codeOk aT.pn Try.f64.ntmps aT.tb aT.code = true:=by kernel_rfl
theorem aT.T {F:Nat} {aa:Sl} {ad:Int} {H:Hp} {v:AV} {H':Hp} (h:aT.tw F aa ad H = some (v,H')):Go.AE.T Try.prog 64 [(.sl aa),(.int .i64 ad)] H v H':=
 Go.AE.T.of (Y:=tabs) (C:=mkOrc (aT.cs F)) (PN:=aT.pn) (LH:=aT.lh F) (F:=F) (TB:=aT.tb) (fn:=Try.f64) (code:=aT.code) mixed tabs_ok (mkOrc_ok (aT.cs_ok F)) Try.func64 (by kernel_rfl) (by kernel_rfl) aT.ok (Nat.le_of_ble_eq_true (by kernel_rfl)) (aT.loops F) (Eq.trans (aT.eqX F aa ad H) h)
theorem aT.mk_T {F:Nat} {args:List AV} {H:Hp} {v:AV} {H':Hp} (h:aT.mk (aT.tw F) args H = some (v,H')):Go.AE.T Try.prog 64 args H v H':=by
 unfold aT.mk at h
 split at h
 ·exact aT.T h
 ·cases h
noncomputable def bx.twX (F:Nat) (gS:Sl→Int→Hp→OA) (aa:Sl) (ab:Int) (au:Int) (H:Hp):OA:=(Hp.new H [(.sl aa),(.int .i64 ab)]).bind fun H4=>(Hp.ldSl H4 H.length 0).bind fun s5=>(gS s5 au H4).bind fun r6=>((r6.1).asI .i64).bind fun n7=>some ((.int .i64 n7),r6.2)
noncomputable def bx.tw (F:Nat) (aa:Sl) (ab:Int) (au:Int) (H:Hp):OA:=bx.twX F (aT.tw F) aa ab au H
noncomputable def bx.code:Go.Code:=(Try.f21.body).getD .skip
noncomputable def bx.lh (F:Nat) (gS:Sl→Int→Hp→OA) (p:Nat) (ks:List Nat) (n:Nat) (tm:Tm) (H:Hp):OA:=none
def bx.pn:Nat→List Nat:=fun i=>(([]:List (Nat×List Nat)).lookup i).getD []
def bx.tb:Nat→List (List Nat):=fun i=>(([]:List (Nat×List (List Nat))).lookup i).getD []
noncomputable def bx.mk (g:Sl→Int→Int→Hp→OA) (args:List AV) (H:Hp):OA:=match args with
 | [(.agg [(.sl aa),(.int .i64 ab)]),(.int .i64 au)]=>g aa ab au H
 | _=>none
noncomputable def bx.cs (F:Nat) (gS:Sl→Int→Hp→OA):List (FuncId×(List AV→Hp→OA)):=[(64,aT.mk gS)]
theorem bx.loops (F:Nat) (gS:Sl→Int→Hp→OA):LoopsOk tabs (mkOrc (bx.cs F gS)) bx.pn (bx.lh F gS) F [] 1 bx.code (fun tm H=>aresults tabs.ty H tm Try.f21.results.toList fun v=>some (v,H)) (fun _ _ _=>none) (fun tm H=>aresults tabs.ty H tm Try.f21.results.toList fun v=>some (v,H)):=by
 exact loops_none (by kernel_rfl)
theorem bx.eqX (F:Nat) (gS:Sl→Int→Hp→OA) (aa:Sl) (ab:Int) (au:Int) (H:Hp):aCode tabs (mkOrc (bx.cs F gS)) bx.pn (bx.lh F gS) F [] 1 bx.code (argTm [(.agg [(.sl aa),(.int .i64 ab)]),(.int .i64 au)]) H (fun tm H=>aresults tabs.ty H tm Try.f21.results.toList fun v=>some (v,H)) (fun _ _ _=>none) (fun tm H=>aresults tabs.ty H tm Try.f21.results.toList fun v=>some (v,H)) = bx.twX F gS aa ab au H:=by kernel_rfl
theorem bx.cs_ok (F:Nat):∀ p ∈ bx.cs F (aT.tw F),∀ args H v H',p.2 args H = some (v,H')→Go.AE.T Try.prog p.1 args H v H':=by
 intro p hp
 simp only [bx.cs,List.mem_cons,List.not_mem_nil,or_false] at hp
 subst hp
 exact fun args H v H' h=>aT.mk_T h
theorem bx.ok:codeOk bx.pn Try.f21.ntmps bx.tb bx.code = true:=by kernel_rfl
theorem bx.T {F:Nat} {aa:Sl} {ab:Int} {au:Int} {H:Hp} {v:AV} {H':Hp} (h:bx.tw F aa ab au H = some (v,H')):Go.AE.T Try.prog 21 [(.agg [(.sl aa),(.int .i64 ab)]),(.int .i64 au)] H v H':=
 Go.AE.T.of (Y:=tabs) (C:=mkOrc (bx.cs F (aT.tw F))) (PN:=bx.pn) (LH:=bx.lh F (aT.tw F)) (F:=F) (TB:=bx.tb) (fn:=Try.f21) (code:=bx.code) mixed tabs_ok (mkOrc_ok (bx.cs_ok F)) Try.func21 (by kernel_rfl) (by kernel_rfl) bx.ok (Nat.le_of_ble_eq_true (by kernel_rfl)) (bx.loops F (aT.tw F)) (Eq.trans (bx.eqX F (aT.tw F) aa ab au H) h)
theorem bx.mk_T {F:Nat} {args:List AV} {H:Hp} {v:AV} {H':Hp} (h:bx.mk (bx.tw F) args H = some (v,H')):Go.AE.T Try.prog 21 args H v H':=by
 unfold bx.mk at h
 split at h
 ·exact bx.T h
 ·cases h
noncomputable def aU.l13 (F:Nat) :Nat→Sl→Int→Int→Hp→OA
 | 0,_,_,_,_=>none
 | eW + 1,aX,aF,bi,H7=>(bif (decide (bi < (aX.n:Int))) then ((Sl.idx aX bi 1).bind fun p10=>(Hp.st H7 p10.1 p10.2 (.int .i64 aF)).bind fun H11=>aU.l13 F eW aX (IntKind.i64.wrap (aF + 1)) (IntKind.i64.wrap (bi + 1)) H11) else (some ((.int .i64 aF),H7)))
termination_by structural n=>n
noncomputable def aU.twX (F:Nat) (aa:Sl) (ad:Int) (H:Hp):OA:=aU.l13 F F aa ad 0 H
noncomputable def aU.tw (F:Nat) (aa:Sl) (ad:Int) (H:Hp):OA:=aU.twX F aa ad H
noncomputable def aU.code:Go.Code:=(Try.f22.body).getD .skip
noncomputable def aU.lh13 (F:Nat) (ks:List Nat) (n:Nat) (tm:Tm) (H:Hp):OA:=match ks,tm 0,tm 1,tm 5 with
 | [],(.sl aX),(.int .i64 aF),(.int .i64 bi)=>aU.l13 F n aX aF bi H
 | _,_,_,_=>none
theorem aU.lh13_inv {F:Nat} {ks:List Nat} {n:Nat} {tm:Tm} {H:Hp} {r:AV×Hp} (h:aU.lh13 F ks n tm H = some r):∃ aX:Sl,∃ aF:Int,∃ bi:Int,ks = []∧tm 0 = (.sl aX)∧tm 1 = (.int .i64 aF)∧tm 5 = (.int .i64 bi)∧aU.l13 F n aX aF bi H = some r:=by
 unfold aU.lh13 at h
 split at h
 ·exact ⟨_,_,_,rfl,by assumption,by assumption,by assumption,h⟩
 ·cases h
noncomputable def aU.lh (F:Nat) (p:Nat) (ks:List Nat) (n:Nat) (tm:Tm) (H:Hp):OA:=bif p.beq 13 then aU.lh13 F ks n tm H else (none)
def aU.pn:Nat→List Nat:=fun i=>(([]:List (Nat×List Nat)).lookup i).getD []
def aU.tb:Nat→List (List Nat):=fun i=>(([]:List (Nat×List (List Nat))).lookup i).getD []
noncomputable def aU.mk (g:Sl→Int→Hp→OA) (args:List AV) (H:Hp):OA:=match args with
 | [(.sl aa),(.int .i64 ad)]=>g aa ad H
 | _=>none
noncomputable def aU.cs (F:Nat):List (FuncId×(List AV→Hp→OA)):=[]
theorem aU.loops (F:Nat):LoopsOk tabs (mkOrc (aU.cs F)) aU.pn (aU.lh F) F [] 1 aU.code (fun tm H=>aresults tabs.ty H tm Try.f22.results.toList fun v=>some (v,H)) (fun _ _ _=>none) (fun tm H=>aresults tabs.ty H tm Try.f22.results.toList fun v=>some (v,H)):=by
 refine LoopsOk.seq ?_ ?_
 ·exact loops_none (by kernel_rfl)
 ·refine LoopsOk.seq ?_ ?_
  ·refine LoopsOk.seq ?_ ?_
   ·exact loops_none (by kernel_rfl)
   ·refine LoopsOk.block ?_
    refine LoopsOk.loop (fun tm H=>?_) (fun k13 tm H r h0=>?_) (fun k13=>?_)
    ·refine none_of fun r h0=>?_
     obtain ⟨aX,aF,bi,hks,e0,e1,e5,h⟩:=aU.lh13_inv (show aU.lh13 F [] 0 tm H = some r from h0)
     cases h
    ·obtain ⟨aX,aF,bi,hks,e0,e1,e5,h⟩:=aU.lh13_inv (show aU.lh13 F [] (k13 + 1) tm H = some r from h0)
     have q0:(Tm.put tm 0 (.sl aX)) = tm:=by exact Tm.put_same e0
     have q1:(Tm.put (Tm.put tm 0 (.sl aX)) 1 (.int .i64 aF)) = tm:=by rw [q0]; exact Tm.put_same e1
     have q2:(Tm.put (Tm.put (Tm.put tm 0 (.sl aX)) 1 (.int .i64 aF)) 5 (.int .i64 bi)) = tm:=by rw [q1]; exact Tm.put_same e5
     rw [← q2]
     exact Eq.trans (by kernel_rfl) h
    ·exact loops_none (by kernel_rfl)
  ·exact loops_none (by kernel_rfl)
theorem aU.eqX (F:Nat) (aa:Sl) (ad:Int) (H:Hp):aCode tabs (mkOrc (aU.cs F)) aU.pn (aU.lh F) F [] 1 aU.code (argTm [(.sl aa),(.int .i64 ad)]) H (fun tm H=>aresults tabs.ty H tm Try.f22.results.toList fun v=>some (v,H)) (fun _ _ _=>none) (fun tm H=>aresults tabs.ty H tm Try.f22.results.toList fun v=>some (v,H)) = aU.twX F aa ad H:=by kernel_rfl
theorem aU.cs_ok (F:Nat):∀ p ∈ aU.cs F,∀ args H v H',p.2 args H = some (v,H')→Go.AE.T Try.prog p.1 args H v H':=by
 intro p hp
 exact absurd (show p ∈ [] from hp) List.not_mem_nil
theorem aU.ok:codeOk aU.pn Try.f22.ntmps aU.tb aU.code = true:=by kernel_rfl
theorem aU.T {F:Nat} {aa:Sl} {ad:Int} {H:Hp} {v:AV} {H':Hp} (h:aU.tw F aa ad H = some (v,H')):Go.AE.T Try.prog 22 [(.sl aa),(.int .i64 ad)] H v H':=
 Go.AE.T.of (Y:=tabs) (C:=mkOrc (aU.cs F)) (PN:=aU.pn) (LH:=aU.lh F) (F:=F) (TB:=aU.tb) (fn:=Try.f22) (code:=aU.code) mixed tabs_ok (mkOrc_ok (aU.cs_ok F)) Try.func22 (by kernel_rfl) (by kernel_rfl) aU.ok (Nat.le_of_ble_eq_true (by kernel_rfl)) (aU.loops F) (Eq.trans (aU.eqX F aa ad H) h)
theorem aU.mk_T {F:Nat} {args:List AV} {H:Hp} {v:AV} {H':Hp} (h:aU.mk (aU.tw F) args H = some (v,H')):Go.AE.T Try.prog 22 args H v H':=by
 unfold aU.mk at h
 split at h
 ·exact aU.T h
 ·cases h
noncomputable def bF.twX (F:Nat) (gT:Sl→Int→Hp→OA) (aa:Int) (ab:Int) (ai:Sl) (av:Int) (H:Hp):OA:=(Hp.new H [(.int .i64 aa),(.int .i64 ab),(.sl ai)]).bind fun H5=>(Hp.ldSl H5 H.length 2).bind fun s6=>(gT s6 av H5).bind fun r7=>((r7.1).asI .i64).bind fun n8=>some ((.int .i64 n8),r7.2)
noncomputable def bF.tw (F:Nat) (aa:Int) (ab:Int) (ai:Sl) (av:Int) (H:Hp):OA:=bF.twX F (aU.tw F) aa ab ai av H
noncomputable def bF.code:Go.Code:=(Try.f36.body).getD .skip
noncomputable def bF.lh (F:Nat) (gT:Sl→Int→Hp→OA) (p:Nat) (ks:List Nat) (n:Nat) (tm:Tm) (H:Hp):OA:=none
def bF.pn:Nat→List Nat:=fun i=>(([]:List (Nat×List Nat)).lookup i).getD []
def bF.tb:Nat→List (List Nat):=fun i=>(([]:List (Nat×List (List Nat))).lookup i).getD []
noncomputable def bF.mk (g:Int→Int→Sl→Int→Hp→OA) (args:List AV) (H:Hp):OA:=match args with
 | [(.agg [(.int .i64 aa),(.int .i64 ab),(.sl ai)]),(.int .i64 av)]=>g aa ab ai av H
 | _=>none
noncomputable def bF.cs (F:Nat) (gT:Sl→Int→Hp→OA):List (FuncId×(List AV→Hp→OA)):=[(22,aU.mk gT)]
theorem bF.loops (F:Nat) (gT:Sl→Int→Hp→OA):LoopsOk tabs (mkOrc (bF.cs F gT)) bF.pn (bF.lh F gT) F [] 1 bF.code (fun tm H=>aresults tabs.ty H tm Try.f36.results.toList fun v=>some (v,H)) (fun _ _ _=>none) (fun tm H=>aresults tabs.ty H tm Try.f36.results.toList fun v=>some (v,H)):=by
 exact loops_none (by kernel_rfl)
theorem bF.eqX (F:Nat) (gT:Sl→Int→Hp→OA) (aa:Int) (ab:Int) (ai:Sl) (av:Int) (H:Hp):aCode tabs (mkOrc (bF.cs F gT)) bF.pn (bF.lh F gT) F [] 1 bF.code (argTm [(.agg [(.int .i64 aa),(.int .i64 ab),(.sl ai)]),(.int .i64 av)]) H (fun tm H=>aresults tabs.ty H tm Try.f36.results.toList fun v=>some (v,H)) (fun _ _ _=>none) (fun tm H=>aresults tabs.ty H tm Try.f36.results.toList fun v=>some (v,H)) = bF.twX F gT aa ab ai av H:=by kernel_rfl
theorem bF.cs_ok (F:Nat):∀ p ∈ bF.cs F (aU.tw F),∀ args H v H',p.2 args H = some (v,H')→Go.AE.T Try.prog p.1 args H v H':=by
 intro p hp
 simp only [bF.cs,List.mem_cons,List.not_mem_nil,or_false] at hp
 subst hp
 exact fun args H v H' h=>aU.mk_T h
theorem bF.ok:codeOk bF.pn Try.f36.ntmps bF.tb bF.code = true:=by kernel_rfl
theorem bF.T {F:Nat} {aa:Int} {ab:Int} {ai:Sl} {av:Int} {H:Hp} {v:AV} {H':Hp} (h:bF.tw F aa ab ai av H = some (v,H')):Go.AE.T Try.prog 36 [(.agg [(.int .i64 aa),(.int .i64 ab),(.sl ai)]),(.int .i64 av)] H v H':=
 Go.AE.T.of (Y:=tabs) (C:=mkOrc (bF.cs F (aU.tw F))) (PN:=bF.pn) (LH:=bF.lh F (aU.tw F)) (F:=F) (TB:=bF.tb) (fn:=Try.f36) (code:=bF.code) mixed tabs_ok (mkOrc_ok (bF.cs_ok F)) Try.func36 (by kernel_rfl) (by kernel_rfl) bF.ok (Nat.le_of_ble_eq_true (by kernel_rfl)) (bF.loops F (aU.tw F)) (Eq.trans (bF.eqX F (aU.tw F) aa ab ai av H) h)
theorem bF.mk_T {F:Nat} {args:List AV} {H:Hp} {v:AV} {H':Hp} (h:bF.mk (bF.tw F) args H = some (v,H')):Go.AE.T Try.prog 36 args H v H':=by
 unfold bF.mk at h
 split at h
 ·exact bF.T h
 ·cases h
noncomputable def aN.l13 (F:Nat) :Nat→Sl→Int→Int→Hp→OA
 | 0,_,_,_,_=>none
 | eW + 1,aX,aF,bi,H7=>(bif (decide (bi < (aX.n:Int))) then ((Sl.idx aX bi 1).bind fun p10=>(Hp.ldI H7 .i64 p10.1 p10.2).bind fun n11=>(bif (n11 != aF) then (some ((.int .i64 (-1)),H7)) else (aN.l13 F eW aX (IntKind.i64.wrap (aF + 1)) (IntKind.i64.wrap (bi + 1)) H7))) else (some ((.int .i64 aF),H7)))
termination_by structural n=>n
noncomputable def aN.twX (F:Nat) (aa:Sl) (ad:Int) (H:Hp):OA:=aN.l13 F F aa ad 0 H
noncomputable def aN.tw (F:Nat) (aa:Sl) (ad:Int) (H:Hp):OA:=aN.twX F aa ad H
noncomputable def aN.code:Go.Code:=(Try.f23.body).getD .skip
noncomputable def aN.lh13 (F:Nat) (ks:List Nat) (n:Nat) (tm:Tm) (H:Hp):OA:=match ks,tm 0,tm 1,tm 5 with
 | [],(.sl aX),(.int .i64 aF),(.int .i64 bi)=>aN.l13 F n aX aF bi H
 | _,_,_,_=>none
theorem aN.lh13_inv {F:Nat} {ks:List Nat} {n:Nat} {tm:Tm} {H:Hp} {r:AV×Hp} (h:aN.lh13 F ks n tm H = some r):∃ aX:Sl,∃ aF:Int,∃ bi:Int,ks = []∧tm 0 = (.sl aX)∧tm 1 = (.int .i64 aF)∧tm 5 = (.int .i64 bi)∧aN.l13 F n aX aF bi H = some r:=by
 unfold aN.lh13 at h
 split at h
 ·exact ⟨_,_,_,rfl,by assumption,by assumption,by assumption,h⟩
 ·cases h
noncomputable def aN.lh (F:Nat) (p:Nat) (ks:List Nat) (n:Nat) (tm:Tm) (H:Hp):OA:=bif p.beq 13 then aN.lh13 F ks n tm H else (none)
def aN.pn:Nat→List Nat:=fun i=>(([]:List (Nat×List Nat)).lookup i).getD []
def aN.tb:Nat→List (List Nat):=fun i=>(([]:List (Nat×List (List Nat))).lookup i).getD []
noncomputable def aN.mk (g:Sl→Int→Hp→OA) (args:List AV) (H:Hp):OA:=match args with
 | [(.sl aa),(.int .i64 ad)]=>g aa ad H
 | _=>none
noncomputable def aN.cs (F:Nat):List (FuncId×(List AV→Hp→OA)):=[]
theorem aN.loops (F:Nat):LoopsOk tabs (mkOrc (aN.cs F)) aN.pn (aN.lh F) F [] 1 aN.code (fun tm H=>aresults tabs.ty H tm Try.f23.results.toList fun v=>some (v,H)) (fun _ _ _=>none) (fun tm H=>aresults tabs.ty H tm Try.f23.results.toList fun v=>some (v,H)):=by
 refine LoopsOk.seq ?_ ?_
 ·exact loops_none (by kernel_rfl)
 ·refine LoopsOk.seq ?_ ?_
  ·refine LoopsOk.seq ?_ ?_
   ·exact loops_none (by kernel_rfl)
   ·refine LoopsOk.block ?_
    refine LoopsOk.loop (fun tm H=>?_) (fun k13 tm H r h0=>?_) (fun k13=>?_)
    ·refine none_of fun r h0=>?_
     obtain ⟨aX,aF,bi,hks,e0,e1,e5,h⟩:=aN.lh13_inv (show aN.lh13 F [] 0 tm H = some r from h0)
     cases h
    ·obtain ⟨aX,aF,bi,hks,e0,e1,e5,h⟩:=aN.lh13_inv (show aN.lh13 F [] (k13 + 1) tm H = some r from h0)
     have q0:(Tm.put tm 0 (.sl aX)) = tm:=by exact Tm.put_same e0
     have q1:(Tm.put (Tm.put tm 0 (.sl aX)) 1 (.int .i64 aF)) = tm:=by rw [q0]; exact Tm.put_same e1
     have q2:(Tm.put (Tm.put (Tm.put tm 0 (.sl aX)) 1 (.int .i64 aF)) 5 (.int .i64 bi)) = tm:=by rw [q1]; exact Tm.put_same e5
     rw [← q2]
     exact Eq.trans (by kernel_rfl) h
    ·exact loops_none (by kernel_rfl)
  ·exact loops_none (by kernel_rfl)
theorem aN.eqX (F:Nat) (aa:Sl) (ad:Int) (H:Hp):aCode tabs (mkOrc (aN.cs F)) aN.pn (aN.lh F) F [] 1 aN.code (argTm [(.sl aa),(.int .i64 ad)]) H (fun tm H=>aresults tabs.ty H tm Try.f23.results.toList fun v=>some (v,H)) (fun _ _ _=>none) (fun tm H=>aresults tabs.ty H tm Try.f23.results.toList fun v=>some (v,H)) = aN.twX F aa ad H:=by kernel_rfl
theorem aN.cs_ok (F:Nat):∀ p ∈ aN.cs F,∀ args H v H',p.2 args H = some (v,H')→Go.AE.T Try.prog p.1 args H v H':=by
 intro p hp
 exact absurd (show p ∈ [] from hp) List.not_mem_nil
theorem aN.ok:codeOk aN.pn Try.f23.ntmps aN.tb aN.code = true:=by kernel_rfl
theorem aN.T {F:Nat} {aa:Sl} {ad:Int} {H:Hp} {v:AV} {H':Hp} (h:aN.tw F aa ad H = some (v,H')):Go.AE.T Try.prog 23 [(.sl aa),(.int .i64 ad)] H v H':=
 Go.AE.T.of (Y:=tabs) (C:=mkOrc (aN.cs F)) (PN:=aN.pn) (LH:=aN.lh F) (F:=F) (TB:=aN.tb) (fn:=Try.f23) (code:=aN.code) mixed tabs_ok (mkOrc_ok (aN.cs_ok F)) Try.func23 (by kernel_rfl) (by kernel_rfl) aN.ok (Nat.le_of_ble_eq_true (by kernel_rfl)) (aN.loops F) (Eq.trans (aN.eqX F aa ad H) h)
theorem aN.mk_T {F:Nat} {args:List AV} {H:Hp} {v:AV} {H':Hp} (h:aN.mk (aN.tw F) args H = some (v,H')):Go.AE.T Try.prog 23 args H v H':=by
 unfold aN.mk at h
 split at h
 ·exact aN.T h
 ·cases h
noncomputable def bt.twX (F:Nat) (gU:Sl→Int→Hp→OA) (aa:Int) (ab:Int) (ai:Sl) (av:Int) (H:Hp):OA:=(Hp.new H [(.int .i64 aa),(.int .i64 ab),(.sl ai)]).bind fun H5=>(Hp.ldSl H5 H.length 2).bind fun s6=>(gU s6 av H5).bind fun r7=>((r7.1).asI .i64).bind fun n8=>(bif (decide (n8 < 0)) then (some ((.int .i64 (-1)),r7.2)) else (some ((.int .i64 n8),r7.2)))
noncomputable def bt.tw (F:Nat) (aa:Int) (ab:Int) (ai:Sl) (av:Int) (H:Hp):OA:=bt.twX F (aN.tw F) aa ab ai av H
noncomputable def bt.code:Go.Code:=(Try.f37.body).getD .skip
noncomputable def bt.lh (F:Nat) (gU:Sl→Int→Hp→OA) (p:Nat) (ks:List Nat) (n:Nat) (tm:Tm) (H:Hp):OA:=none
def bt.pn:Nat→List Nat:=fun i=>(([]:List (Nat×List Nat)).lookup i).getD []
def bt.tb:Nat→List (List Nat):=fun i=>(([]:List (Nat×List (List Nat))).lookup i).getD []
noncomputable def bt.mk (g:Int→Int→Sl→Int→Hp→OA) (args:List AV) (H:Hp):OA:=match args with
 | [(.agg [(.int .i64 aa),(.int .i64 ab),(.sl ai)]),(.int .i64 av)]=>g aa ab ai av H
 | _=>none
noncomputable def bt.cs (F:Nat) (gU:Sl→Int→Hp→OA):List (FuncId×(List AV→Hp→OA)):=[(23,aN.mk gU)]
theorem bt.loops (F:Nat) (gU:Sl→Int→Hp→OA):LoopsOk tabs (mkOrc (bt.cs F gU)) bt.pn (bt.lh F gU) F [] 1 bt.code (fun tm H=>aresults tabs.ty H tm Try.f37.results.toList fun v=>some (v,H)) (fun _ _ _=>none) (fun tm H=>aresults tabs.ty H tm Try.f37.results.toList fun v=>some (v,H)):=by
 exact loops_none (by kernel_rfl)
theorem bt.eqX (F:Nat) (gU:Sl→Int→Hp→OA) (aa:Int) (ab:Int) (ai:Sl) (av:Int) (H:Hp):aCode tabs (mkOrc (bt.cs F gU)) bt.pn (bt.lh F gU) F [] 1 bt.code (argTm [(.agg [(.int .i64 aa),(.int .i64 ab),(.sl ai)]),(.int .i64 av)]) H (fun tm H=>aresults tabs.ty H tm Try.f37.results.toList fun v=>some (v,H)) (fun _ _ _=>none) (fun tm H=>aresults tabs.ty H tm Try.f37.results.toList fun v=>some (v,H)) = bt.twX F gU aa ab ai av H:=by kernel_rfl
theorem bt.cs_ok (F:Nat):∀ p ∈ bt.cs F (aN.tw F),∀ args H v H',p.2 args H = some (v,H')→Go.AE.T Try.prog p.1 args H v H':=by
 intro p hp
 simp only [bt.cs,List.mem_cons,List.not_mem_nil,or_false] at hp
 subst hp
 exact fun args H v H' h=>aN.mk_T h
theorem bt.ok:codeOk bt.pn Try.f37.ntmps bt.tb bt.code = true:=by kernel_rfl
theorem bt.T {F:Nat} {aa:Int} {ab:Int} {ai:Sl} {av:Int} {H:Hp} {v:AV} {H':Hp} (h:bt.tw F aa ab ai av H = some (v,H')):Go.AE.T Try.prog 37 [(.agg [(.int .i64 aa),(.int .i64 ab),(.sl ai)]),(.int .i64 av)] H v H':=
 Go.AE.T.of (Y:=tabs) (C:=mkOrc (bt.cs F (aN.tw F))) (PN:=bt.pn) (LH:=bt.lh F (aN.tw F)) (F:=F) (TB:=bt.tb) (fn:=Try.f37) (code:=bt.code) mixed tabs_ok (mkOrc_ok (bt.cs_ok F)) Try.func37 (by kernel_rfl) (by kernel_rfl) bt.ok (Nat.le_of_ble_eq_true (by kernel_rfl)) (bt.loops F (aN.tw F)) (Eq.trans (bt.eqX F (aN.tw F) aa ab ai av H) h)
theorem bt.mk_T {F:Nat} {args:List AV} {H:Hp} {v:AV} {H':Hp} (h:bt.mk (bt.tw F) args H = some (v,H')):Go.AE.T Try.prog 37 args H v H':=by
 unfold bt.mk at h
 split at h
 ·exact bt.T h
 ·cases h
noncomputable def bJ.twX (F:Nat) (gV:Sl→Int→Int→Hp→OA) (fM:Sl→Int→Hp→OA) (gW:Sl→Int→Hp→OA) (gl:Sl→Int→Hp→OA) (fV:Int→Int→Sl→Int→Int→Sl→Hp→OA) (gX:Sl→Int→Sl→Int→Hp→OA) (gY:Sl→Int→Int→Hp→OA) (gZ:Int→Int→Sl→Int→Hp→OA) (gm:Int→Int→Sl→Int→Hp→OA) (aa:Sl) (ab:Int) (H:Hp):OA:=(Hp.new H [(.sl aa),(.int .i64 ab)]).bind fun H3=>(Hp.ldSl H3 H.length 0).bind fun s4=>(Hp.ldI H3 .i64 H.length (0 + 1)).bind fun n5=>(gV s4 n5 1048576 H3).bind fun r6=>((r6.1).asI .i64).bind fun n7=>(bif (decide (n7 < 0)) then (some ((.bool true),r6.2)) else ((Hp.ldSl r6.2 H.length 0).bind fun s8=>(Hp.ldI r6.2 .i64 H.length (0 + 1)).bind fun n9=>(fM s8 n9 r6.2).bind fun r10=>((r10.1).asAgg 2).bind fun l11=>(l11[0]?).bind fun v12=>((v12).asSl).bind fun s13=>(l11[1]?).bind fun v14=>((v14).asI .i64).bind fun n15=>(gW s13 n15 r10.2).bind fun r16=>((r16.1).asTup 2).bind fun l17=>(l17[0]?).bind fun v18=>((v18).asAgg 3).bind fun l19=>(l19[0]?).bind fun v20=>((v20).asI .i64).bind fun n21=>(l19[1]?).bind fun v22=>((v22).asI .i64).bind fun n23=>(l19[2]?).bind fun v24=>((v24).asSl).bind fun s25=>(l17[1]?).bind fun v26=>((v26).asB).bind fun b27=>(Hp.new r16.2 [.int .i64 0,.int .i64 0,.sl ⟨none,0,.ex 0⟩]).bind fun H28=>(Hp.st H28 r16.2.length 0 (.int .i64 n21)).bind fun H29=>(Hp.st H29 r16.2.length (0 + 1) (.int .i64 n23)).bind fun H30=>(Hp.st H30 r16.2.length (0 + 1 + 1) (.sl s25)).bind fun H31=>(Hp.ldSl H31 H.length 0).bind fun s32=>(Hp.ldI H31 .i64 H.length (0 + 1)).bind fun n33=>(fM s32 n33 H31).bind fun r34=>((r34.1).asAgg 2).bind fun l35=>(l35[0]?).bind fun v36=>((v36).asSl).bind fun s37=>(l35[1]?).bind fun v38=>((v38).asI .i64).bind fun n39=>(Hp.new r34.2 [.sl ⟨none,0,.ex 0⟩,.int .i64 0]).bind fun H40=>(Hp.st H40 r34.2.length 0 (.sl s37)).bind fun H41=>(Hp.st H41 r34.2.length (0 + 1) (.int .i64 n39)).bind fun H42=>(Hp.ldSl H42 r34.2.length 0).bind fun s43=>(Hp.ldI H42 .i64 r34.2.length (0 + 1)).bind fun n44=>(gl s43 n44 H42).bind fun r45=>((r45.1).asTup 2).bind fun l46=>(l46[0]?).bind fun v47=>((v47).asAgg 3).bind fun l48=>(l48[0]?).bind fun v49=>((v49).asI .i64).bind fun n50=>(l48[1]?).bind fun v51=>((v51).asI .i64).bind fun n52=>(l48[2]?).bind fun v53=>((v53).asSl).bind fun s54=>(l46[1]?).bind fun v55=>((v55).asB).bind fun b56=>(Hp.new r45.2 [.int .i64 0,.int .i64 0,.sl ⟨none,0,.ex 0⟩]).bind fun H57=>(Hp.st H57 r45.2.length 0 (.int .i64 n50)).bind fun H58=>(Hp.st H58 r45.2.length (0 + 1) (.int .i64 n52)).bind fun H59=>(Hp.st H59 r45.2.length (0 + 1 + 1) (.sl s54)).bind fun H60=>(Hp.ldI H60 .i64 r45.2.length 0).bind fun n61=>(Hp.ldI H60 .i64 r45.2.length (0 + 1)).bind fun n62=>(Hp.ldSl H60 r45.2.length (0 + 2)).bind fun s63=>(Hp.ldI H60 .i64 r16.2.length 0).bind fun n64=>(Hp.ldI H60 .i64 r16.2.length (0 + 1)).bind fun n65=>(Hp.ldSl H60 r16.2.length (0 + 2)).bind fun s66=>(fV n61 n62 s63 n64 n65 s66 H60).bind fun r67=>((r67.1).asB).bind fun b68=>(bif (!b68) then (some ((.bool false),r67.2)) else ((bif (!(b56 == b27)) then (some ((.bool false),r67.2)) else ((Hp.ldSl r67.2 r34.2.length 0).bind fun s69=>(Hp.ldI r67.2 .i64 r34.2.length (0 + 1)).bind fun n70=>(Hp.ldSl r67.2 H.length 0).bind fun s71=>(Hp.ldI r67.2 .i64 H.length (0 + 1)).bind fun n72=>(fM s71 n72 r67.2).bind fun r73=>((r73.1).asAgg 2).bind fun l74=>(l74[0]?).bind fun v75=>((v75).asSl).bind fun s76=>(l74[1]?).bind fun v77=>((v77).asI .i64).bind fun n78=>(if Cons r67.2 r73.2 then ((gX s69 n70 s76 n78 r73.2).bind fun r79=>((r79.1).asB).bind fun b80=>(bif (!b80) then (some ((.bool false),r79.2)) else ((Hp.ldSl r79.2 r34.2.length 0).bind fun s81=>(Hp.ldI r79.2 .i64 r34.2.length (0 + 1)).bind fun n82=>(gY s81 n82 1 r79.2).bind fun r83=>((r83.1).asI .i64).bind fun n84=>(bif (decide (n84 < 0)) then (some ((.bool false),r83.2)) else ((Hp.ldI r83.2 .i64 r45.2.length 0).bind fun n85=>(Hp.ldI r83.2 .i64 r45.2.length (0 + 1)).bind fun n86=>(Hp.ldSl r83.2 r45.2.length (0 + 2)).bind fun s87=>(Hp.ldI r83.2 .i64 r16.2.length 0).bind fun n88=>(Hp.ldI r83.2 .i64 r16.2.length (0 + 1)).bind fun n89=>(Hp.ldSl r83.2 r16.2.length (0 + 2)).bind fun s90=>(fV n85 n86 s87 n88 n89 s90 r83.2).bind fun r91=>((r91.1).asB).bind fun b92=>(bif (!b92) then (some ((.bool false),r91.2)) else ((bif (!(b56 == b27)) then (some ((.bool false),r91.2)) else ((Hp.ldI r91.2 .i64 r45.2.length 0).bind fun n93=>(Hp.ldI r91.2 .i64 r45.2.length (0 + 1)).bind fun n94=>(Hp.ldSl r91.2 r45.2.length (0 + 2)).bind fun s95=>(gZ n93 n94 s95 1 r91.2).bind fun r96=>((r96.1).asI .i64).bind fun n97=>(Hp.ldI r96.2 .i64 r45.2.length 0).bind fun n98=>(Hp.ldI r96.2 .i64 r45.2.length (0 + 1)).bind fun n99=>(Hp.ldSl r96.2 r45.2.length (0 + 2)).bind fun s100=>(gm n98 n99 s100 1 r96.2).bind fun r101=>((r101.1).asI .i64).bind fun n102=>(bif (decide (n102 < 0)) then (some ((.bool false),r101.2)) else ((bif (n102 != n97) then (some ((.bool false),r101.2)) else ((Hp.ldSl r101.2 H.length 0).bind fun s103=>(Hp.ldI r101.2 .i64 H.length (0 + 1)).bind fun n104=>(fM s103 n104 r101.2).bind fun r105=>((r105.1).asAgg 2).bind fun l106=>(l106[0]?).bind fun v107=>((v107).asSl).bind fun s108=>(l106[1]?).bind fun v109=>((v109).asI .i64).bind fun n110=>(gl s108 n110 r105.2).bind fun r111=>((r111.1).asTup 2).bind fun l112=>(l112[0]?).bind fun v113=>((v113).asAgg 3).bind fun l114=>(l114[0]?).bind fun v115=>((v115).asI .i64).bind fun n116=>(l114[1]?).bind fun v117=>((v117).asI .i64).bind fun n118=>(l114[2]?).bind fun v119=>((v119).asSl).bind fun s120=>(l112[1]?).bind fun v121=>((v121).asB).bind fun b122=>(Hp.new r111.2 [.int .i64 0,.int .i64 0,.sl ⟨none,0,.ex 0⟩]).bind fun H123=>(Hp.st H123 r111.2.length 0 (.int .i64 n116)).bind fun H124=>(Hp.st H124 r111.2.length (0 + 1) (.int .i64 n118)).bind fun H125=>(Hp.st H125 r111.2.length (0 + 1 + 1) (.sl s120)).bind fun H126=>(Hp.ldI H126 .i64 r111.2.length 0).bind fun n127=>(Hp.ldI H126 .i64 r111.2.length (0 + 1)).bind fun n128=>(Hp.ldSl H126 r111.2.length (0 + 2)).bind fun s129=>(Hp.ldI H126 .i64 r16.2.length 0).bind fun n130=>(Hp.ldI H126 .i64 r16.2.length (0 + 1)).bind fun n131=>(Hp.ldSl H126 r16.2.length (0 + 2)).bind fun s132=>(fV n127 n128 s129 n130 n131 s132 H126).bind fun r133=>((r133.1).asB).bind fun b134=>(bif (!b134) then (some ((.bool false),r133.2)) else ((bif (!(b122 == b27)) then (some ((.bool false),r133.2)) else ((Hp.ldI r133.2 .i64 r45.2.length 0).bind fun n135=>(Hp.ldI r133.2 .i64 r45.2.length (0 + 1)).bind fun n136=>(Hp.ldSl r133.2 r45.2.length (0 + 2)).bind fun s137=>(gm n135 n136 s137 1 r133.2).bind fun r138=>((r138.1).asI .i64).bind fun n139=>(bif (decide (n139 < 0)) then (some ((.bool false),r138.2)) else ((bif (n139 != n97) then (some ((.bool false),r138.2)) else (some ((.bool true),r138.2)))))))))))))))))))))) else none)))))))
noncomputable def bJ.tw (F:Nat) (aa:Sl) (ab:Int) (H:Hp):OA:=bJ.twX F (bq.tw F) (bj.tw F) (bu.tw F) (bs.tw F) (bo.tw F) (bw.tw F) (bx.tw F) (bF.tw F) (bt.tw F) aa ab H
noncomputable def bJ.code:Go.Code:=(Try.f8.body).getD .skip
noncomputable def bJ.lh (F:Nat) (gV:Sl→Int→Int→Hp→OA) (fM:Sl→Int→Hp→OA) (gW:Sl→Int→Hp→OA) (gl:Sl→Int→Hp→OA) (fV:Int→Int→Sl→Int→Int→Sl→Hp→OA) (gX:Sl→Int→Sl→Int→Hp→OA) (gY:Sl→Int→Int→Hp→OA) (gZ:Int→Int→Sl→Int→Hp→OA) (gm:Int→Int→Sl→Int→Hp→OA) (p:Nat) (ks:List Nat) (n:Nat) (tm:Tm) (H:Hp):OA:=none
def bJ.pn:Nat→List Nat:=fun i=>(([(10,[3])]:List (Nat×List Nat)).lookup i).getD []
def bJ.tb:Nat→List (List Nat):=fun i=>(([(10,[[],[],[1],[0,1,2],[0,1,2,3]])]:List (Nat×List (List Nat))).lookup i).getD []
noncomputable def bJ.mk (g:Sl→Int→Hp→OA) (args:List AV) (H:Hp):OA:=match args with
 | [(.agg [(.sl aa),(.int .i64 ab)])]=>g aa ab H
 | _=>none
noncomputable def bJ.cs (F:Nat) (gV:Sl→Int→Int→Hp→OA) (fM:Sl→Int→Hp→OA) (gW:Sl→Int→Hp→OA) (gl:Sl→Int→Hp→OA) (fV:Int→Int→Sl→Int→Int→Sl→Hp→OA) (gX:Sl→Int→Sl→Int→Hp→OA) (gY:Sl→Int→Int→Hp→OA) (gZ:Int→Int→Sl→Int→Hp→OA) (gm:Int→Int→Sl→Int→Hp→OA):List (FuncId×(List AV→Hp→OA)):=[(15,bq.mk gV),(17,bj.mk fM),(33,bu.mk gW),(34,bs.mk gl),(35,bo.mk fV),(20,bw.mk gX),(21,bx.mk gY),(36,bF.mk gZ),(37,bt.mk gm)]
theorem bJ.loops (F:Nat) (gV:Sl→Int→Int→Hp→OA) (fM:Sl→Int→Hp→OA) (gW:Sl→Int→Hp→OA) (gl:Sl→Int→Hp→OA) (fV:Int→Int→Sl→Int→Int→Sl→Hp→OA) (gX:Sl→Int→Sl→Int→Hp→OA) (gY:Sl→Int→Int→Hp→OA) (gZ:Int→Int→Sl→Int→Hp→OA) (gm:Int→Int→Sl→Int→Hp→OA):LoopsOk tabs (mkOrc (bJ.cs F gV fM gW gl fV gX gY gZ gm)) bJ.pn (bJ.lh F gV fM gW gl fV gX gY gZ gm) F [] 1 bJ.code (fun tm H=>aresults tabs.ty H tm Try.f8.results.toList fun v=>some (v,H)) (fun _ _ _=>none) (fun tm H=>aresults tabs.ty H tm Try.f8.results.toList fun v=>some (v,H)):=by
 exact loops_none (by kernel_rfl)
theorem bJ.eqX (F:Nat) (gV:Sl→Int→Int→Hp→OA) (fM:Sl→Int→Hp→OA) (gW:Sl→Int→Hp→OA) (gl:Sl→Int→Hp→OA) (fV:Int→Int→Sl→Int→Int→Sl→Hp→OA) (gX:Sl→Int→Sl→Int→Hp→OA) (gY:Sl→Int→Int→Hp→OA) (gZ:Int→Int→Sl→Int→Hp→OA) (gm:Int→Int→Sl→Int→Hp→OA) (aa:Sl) (ab:Int) (H:Hp):aCode tabs (mkOrc (bJ.cs F gV fM gW gl fV gX gY gZ gm)) bJ.pn (bJ.lh F gV fM gW gl fV gX gY gZ gm) F [] 1 bJ.code (argTm [(.agg [(.sl aa),(.int .i64 ab)])]) H (fun tm H=>aresults tabs.ty H tm Try.f8.results.toList fun v=>some (v,H)) (fun _ _ _=>none) (fun tm H=>aresults tabs.ty H tm Try.f8.results.toList fun v=>some (v,H)) = bJ.twX F gV fM gW gl fV gX gY gZ gm aa ab H:=by kernel_rfl
theorem bJ.cs_ok (F:Nat):∀ p ∈ bJ.cs F (bq.tw F) (bj.tw F) (bu.tw F) (bs.tw F) (bo.tw F) (bw.tw F) (bx.tw F) (bF.tw F) (bt.tw F),∀ args H v H',p.2 args H = some (v,H')→Go.AE.T Try.prog p.1 args H v H':=by
 intro p hp
 simp only [bJ.cs,List.mem_cons,List.not_mem_nil,or_false] at hp
 rcases hp with rfl | rfl | rfl | rfl | rfl | rfl | rfl | rfl | rfl
 ·exact fun args H v H' h=>bq.mk_T h
 ·exact fun args H v H' h=>bj.mk_T h
 ·exact fun args H v H' h=>bu.mk_T h
 ·exact fun args H v H' h=>bs.mk_T h
 ·exact fun args H v H' h=>bo.mk_T h
 ·exact fun args H v H' h=>bw.mk_T h
 ·exact fun args H v H' h=>bx.mk_T h
 ·exact fun args H v H' h=>bF.mk_T h
 ·exact fun args H v H' h=>bt.mk_T h
theorem bJ.ok:codeOk bJ.pn Try.f8.ntmps bJ.tb bJ.code = true:=by kernel_rfl
theorem bJ.T {F:Nat} {aa:Sl} {ab:Int} {H:Hp} {v:AV} {H':Hp} (h:bJ.tw F aa ab H = some (v,H')):Go.AE.T Try.prog 8 [(.agg [(.sl aa),(.int .i64 ab)])] H v H':=
 Go.AE.T.of (Y:=tabs) (C:=mkOrc (bJ.cs F (bq.tw F) (bj.tw F) (bu.tw F) (bs.tw F) (bo.tw F) (bw.tw F) (bx.tw F) (bF.tw F) (bt.tw F))) (PN:=bJ.pn) (LH:=bJ.lh F (bq.tw F) (bj.tw F) (bu.tw F) (bs.tw F) (bo.tw F) (bw.tw F) (bx.tw F) (bF.tw F) (bt.tw F)) (F:=F) (TB:=bJ.tb) (fn:=Try.f8) (code:=bJ.code) mixed tabs_ok (mkOrc_ok (bJ.cs_ok F)) Try.func8 (by kernel_rfl) (by kernel_rfl) bJ.ok (Nat.le_of_ble_eq_true (by kernel_rfl)) (bJ.loops F (bq.tw F) (bj.tw F) (bu.tw F) (bs.tw F) (bo.tw F) (bw.tw F) (bx.tw F) (bF.tw F) (bt.tw F)) (Eq.trans (bJ.eqX F (bq.tw F) (bj.tw F) (bu.tw F) (bs.tw F) (bo.tw F) (bw.tw F) (bx.tw F) (bF.tw F) (bt.tw F) aa ab H) h)
theorem bJ.mk_T {F:Nat} {args:List AV} {H:Hp} {v:AV} {H':Hp} (h:bJ.mk (bJ.tw F) args H = some (v,H')):Go.AE.T Try.prog 8 args H v H':=by
 unfold bJ.mk at h
 split at h
 ·exact bJ.T h
 ·cases h
end Go.Proofs.Ythfinhmkgdmelaa.AE
