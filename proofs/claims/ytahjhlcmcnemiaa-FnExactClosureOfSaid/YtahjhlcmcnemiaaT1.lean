import Derived.Test.YtahjhlcmcnemiaaTab1
set_option linter.unusedVariables false
set_option linter.unusedSimpArgs false
namespace Go.Proofs.Ytahjhlcmcnemiaa.AE
open Go Go.AE Go.Proofs
set_option linter.unusedVariables false
set_option maxHeartbeats 4000000
set_option maxRecDepth 100000
noncomputable def aX.twX (F:Nat) (aa:Sl) (ac:Int) (H:Hp):OA:=(bif (decide ((IntKind.i64.wrap (ac - (aa.n:Int))) < 0)) then (some ((.int .i64 (-1)),H)) else (some ((.int .i64 (IntKind.i64.wrap (ac - (aa.n:Int)))),H)))
noncomputable def aX.tw (F:Nat) (aa:Sl) (ac:Int) (H:Hp):OA:=aX.twX F aa ac H
noncomputable def aX.code:Go.Code:=(Try.f53.body).getD .skip
noncomputable def aX.lh (F:Nat) (p:Nat) (ks:List Nat) (n:Nat) (tm:Tm) (H:Hp):OA:=none
def aX.pn:Nat→List Nat:=fun i=>(([]:List (Nat×List Nat)).lookup i).getD []
def aX.tb:Nat→List (List Nat):=fun i=>(([]:List (Nat×List (List Nat))).lookup i).getD []
noncomputable def aX.mk (g:Sl→Int→Hp→OA) (args:List AV) (H:Hp):OA:=match args with
 | [(.sl aa),(.int .i64 ac)]=>g aa ac H
 | _=>none
noncomputable def aX.cs (F:Nat):List (FuncId×(List AV→Hp→OA)):=[]
theorem aX.loops (F:Nat):LoopsOk tabs (mkOrc (aX.cs F)) aX.pn (aX.lh F) F [] 1 aX.code (fun tm H=>aresults tabs.ty H tm Try.f53.results.toList fun v=>some (v,H)) (fun _ _ _=>none) (fun tm H=>aresults tabs.ty H tm Try.f53.results.toList fun v=>some (v,H)):=by
 exact loops_none (by kernel_rfl)
theorem aX.eqX (F:Nat) (aa:Sl) (ac:Int) (H:Hp):aCode tabs (mkOrc (aX.cs F)) aX.pn (aX.lh F) F [] 1 aX.code (argTm [(.sl aa),(.int .i64 ac)]) H (fun tm H=>aresults tabs.ty H tm Try.f53.results.toList fun v=>some (v,H)) (fun _ _ _=>none) (fun tm H=>aresults tabs.ty H tm Try.f53.results.toList fun v=>some (v,H)) = aX.twX F aa ac H:=by kernel_rfl
theorem aX.cs_ok (F:Nat):∀ p ∈ aX.cs F,∀ args H v H',p.2 args H = some (v,H')→Go.AE.T Try.prog p.1 args H v H':=by
 intro p hp
 exact absurd (show p ∈ [] from hp) List.not_mem_nil
theorem aX.ok:codeOk aX.pn Try.f53.ntmps aX.tb aX.code = true:=by kernel_rfl
theorem aX.T {F:Nat} {aa:Sl} {ac:Int} {H:Hp} {v:AV} {H':Hp} (h:aX.tw F aa ac H = some (v,H')):Go.AE.T Try.prog 53 [(.sl aa),(.int .i64 ac)] H v H':=
 Go.AE.T.of (Y:=tabs) (C:=mkOrc (aX.cs F)) (PN:=aX.pn) (LH:=aX.lh F) (F:=F) (TB:=aX.tb) (fn:=Try.f53) (code:=aX.code) mixed tabs_ok (mkOrc_ok (aX.cs_ok F)) Try.func53 (by kernel_rfl) (by kernel_rfl) aX.ok (Nat.le_of_ble_eq_true (by kernel_rfl)) (aX.loops F) (Eq.trans (aX.eqX F aa ac H) h)
theorem aX.mk_T {F:Nat} {args:List AV} {H:Hp} {v:AV} {H':Hp} (h:aX.mk (aX.tw F) args H = some (v,H')):Go.AE.T Try.prog 53 args H v H':=by
 unfold aX.mk at h
 split at h
 ·exact aX.T h
 ·cases h
noncomputable def aO.twX (F:Nat) (c_:Sl→Int→Hp→OA) (aa:Int) (ad:Sl) (af:Int) (H:Hp):OA:=(Hp.new H [(.int .i64 aa),(.sl ad)]).bind fun H4=>(Hp.ldSl H4 H.length 1).bind fun s5=>(c_ s5 af H4).bind fun r6=>((r6.1).asI .i64).bind fun n7=>(bif (decide (n7 < 0)) then (some ((.int .i64 (-1)),r6.2)) else (some ((.int .i64 n7),r6.2)))
noncomputable def aO.tw (F:Nat) (aa:Int) (ad:Sl) (af:Int) (H:Hp):OA:=aO.twX F (aX.tw F) aa ad af H
noncomputable def aO.code:Go.Code:=(Try.f20.body).getD .skip
noncomputable def aO.lh (F:Nat) (c_:Sl→Int→Hp→OA) (p:Nat) (ks:List Nat) (n:Nat) (tm:Tm) (H:Hp):OA:=none
def aO.pn:Nat→List Nat:=fun i=>(([]:List (Nat×List Nat)).lookup i).getD []
def aO.tb:Nat→List (List Nat):=fun i=>(([]:List (Nat×List (List Nat))).lookup i).getD []
noncomputable def aO.mk (g:Int→Sl→Int→Hp→OA) (args:List AV) (H:Hp):OA:=match args with
 | [(.agg [(.int .i64 aa),(.sl ad)]),(.int .i64 af)]=>g aa ad af H
 | _=>none
noncomputable def aO.cs (F:Nat) (c_:Sl→Int→Hp→OA):List (FuncId×(List AV→Hp→OA)):=[(53,aX.mk c_)]
theorem aO.loops (F:Nat) (c_:Sl→Int→Hp→OA):LoopsOk tabs (mkOrc (aO.cs F c_)) aO.pn (aO.lh F c_) F [] 1 aO.code (fun tm H=>aresults tabs.ty H tm Try.f20.results.toList fun v=>some (v,H)) (fun _ _ _=>none) (fun tm H=>aresults tabs.ty H tm Try.f20.results.toList fun v=>some (v,H)):=by
 exact loops_none (by kernel_rfl)
theorem aO.eqX (F:Nat) (c_:Sl→Int→Hp→OA) (aa:Int) (ad:Sl) (af:Int) (H:Hp):aCode tabs (mkOrc (aO.cs F c_)) aO.pn (aO.lh F c_) F [] 1 aO.code (argTm [(.agg [(.int .i64 aa),(.sl ad)]),(.int .i64 af)]) H (fun tm H=>aresults tabs.ty H tm Try.f20.results.toList fun v=>some (v,H)) (fun _ _ _=>none) (fun tm H=>aresults tabs.ty H tm Try.f20.results.toList fun v=>some (v,H)) = aO.twX F c_ aa ad af H:=by kernel_rfl
theorem aO.cs_ok (F:Nat):∀ p ∈ aO.cs F (aX.tw F),∀ args H v H',p.2 args H = some (v,H')→Go.AE.T Try.prog p.1 args H v H':=by
 intro p hp
 simp only [aO.cs,List.mem_cons,List.not_mem_nil,or_false] at hp
 subst hp
 exact fun args H v H' h=>aX.mk_T h
theorem aO.ok:codeOk aO.pn Try.f20.ntmps aO.tb aO.code = true:=by kernel_rfl
theorem aO.T {F:Nat} {aa:Int} {ad:Sl} {af:Int} {H:Hp} {v:AV} {H':Hp} (h:aO.tw F aa ad af H = some (v,H')):Go.AE.T Try.prog 20 [(.agg [(.int .i64 aa),(.sl ad)]),(.int .i64 af)] H v H':=
 Go.AE.T.of (Y:=tabs) (C:=mkOrc (aO.cs F (aX.tw F))) (PN:=aO.pn) (LH:=aO.lh F (aX.tw F)) (F:=F) (TB:=aO.tb) (fn:=Try.f20) (code:=aO.code) mixed tabs_ok (mkOrc_ok (aO.cs_ok F)) Try.func20 (by kernel_rfl) (by kernel_rfl) aO.ok (Nat.le_of_ble_eq_true (by kernel_rfl)) (aO.loops F (aX.tw F)) (Eq.trans (aO.eqX F (aX.tw F) aa ad af H) h)
theorem aO.mk_T {F:Nat} {args:List AV} {H:Hp} {v:AV} {H':Hp} (h:aO.mk (aO.tw F) args H = some (v,H')):Go.AE.T Try.prog 20 args H v H':=by
 unfold aO.mk at h
 split at h
 ·exact aO.T h
 ·cases h
noncomputable def aw.l29 (F:Nat) :Nat→Sl→Sl→Int→Hp→OA
 | 0,_,_,_,_=>none
 | d_ + 1,ao,cT,bG,H7=>(bif (decide (bG < (ao.n:Int))) then ((Sl.idx ao bG 1).bind fun p12=>(Hp.ldI H7 .i64 p12.1 p12.2).bind fun n13=>(Sl.idx cT bG 1).bind fun p14=>(Hp.st H7 p14.1 p14.2 (.int .i64 n13)).bind fun H15=>aw.l29 F d_ ao cT (IntKind.i64.wrap (bG + 1)) H15) else (some ((.sl cT),H7)))
termination_by structural n=>n
noncomputable def aw.twX (F:Nat) (aa:Sl) (H:Hp):OA:=(Hp.mk H [.int .i64 0] 8 (aa.n:Int) (aa.n:Int)).bind fun m2=>aw.l29 F F aa m2.1 0 m2.2
noncomputable def aw.tw (F:Nat) (aa:Sl) (H:Hp):OA:=aw.twX F aa H
noncomputable def aw.code:Go.Code:=(Try.f15.body).getD .skip
noncomputable def aw.lh29 (F:Nat) (ks:List Nat) (n:Nat) (tm:Tm) (H:Hp):OA:=match ks,tm 0,tm 3,tm 4 with
 | [],(.sl ao),(.sl cT),(.int .i64 bG)=>aw.l29 F n ao cT bG H
 | _,_,_,_=>none
theorem aw.lh29_inv {F:Nat} {ks:List Nat} {n:Nat} {tm:Tm} {H:Hp} {r:AV×Hp} (h:aw.lh29 F ks n tm H = some r):∃ ao:Sl,∃ cT:Sl,∃ bG:Int,ks = []∧tm 0 = (.sl ao)∧tm 3 = (.sl cT)∧tm 4 = (.int .i64 bG)∧aw.l29 F n ao cT bG H = some r:=by
 unfold aw.lh29 at h
 split at h
 ·exact ⟨_,_,_,rfl,by assumption,by assumption,by assumption,h⟩
 ·cases h
noncomputable def aw.lh (F:Nat) (p:Nat) (ks:List Nat) (n:Nat) (tm:Tm) (H:Hp):OA:=bif p.beq 29 then aw.lh29 F ks n tm H else (none)
def aw.pn:Nat→List Nat:=fun i=>(([]:List (Nat×List Nat)).lookup i).getD []
def aw.tb:Nat→List (List Nat):=fun i=>(([]:List (Nat×List (List Nat))).lookup i).getD []
noncomputable def aw.mk (g:Sl→Hp→OA) (args:List AV) (H:Hp):OA:=match args with
 | [(.sl aa)]=>g aa H
 | _=>none
noncomputable def aw.cs (F:Nat):List (FuncId×(List AV→Hp→OA)):=[]
theorem aw.loops (F:Nat):LoopsOk tabs (mkOrc (aw.cs F)) aw.pn (aw.lh F) F [] 1 aw.code (fun tm H=>aresults tabs.ty H tm Try.f15.results.toList fun v=>some (v,H)) (fun _ _ _=>none) (fun tm H=>aresults tabs.ty H tm Try.f15.results.toList fun v=>some (v,H)):=by
 refine LoopsOk.seq ?_ ?_
 ·exact loops_none (by kernel_rfl)
 ·refine LoopsOk.seq ?_ ?_
  ·exact loops_none (by kernel_rfl)
  ·refine LoopsOk.seq ?_ ?_
   ·refine LoopsOk.seq ?_ ?_
    ·exact loops_none (by kernel_rfl)
    ·refine LoopsOk.block ?_
     refine LoopsOk.loop (fun tm H=>?_) (fun k29 tm H r h0=>?_) (fun k29=>?_)
     ·refine none_of fun r h0=>?_
      obtain ⟨ao,cT,bG,hks,e0,e3,e4,h⟩:=aw.lh29_inv (show aw.lh29 F [] 0 tm H = some r from h0)
      cases h
     ·obtain ⟨ao,cT,bG,hks,e0,e3,e4,h⟩:=aw.lh29_inv (show aw.lh29 F [] (k29 + 1) tm H = some r from h0)
      have q0:(Tm.put tm 0 (.sl ao)) = tm:=by exact Tm.put_same e0
      have q1:(Tm.put (Tm.put tm 0 (.sl ao)) 3 (.sl cT)) = tm:=by rw [q0]; exact Tm.put_same e3
      have q2:(Tm.put (Tm.put (Tm.put tm 0 (.sl ao)) 3 (.sl cT)) 4 (.int .i64 bG)) = tm:=by rw [q1]; exact Tm.put_same e4
      rw [← q2]
      exact Eq.trans (by kernel_rfl) h
     ·exact loops_none (by kernel_rfl)
   ·exact loops_none (by kernel_rfl)
theorem aw.eqX (F:Nat) (aa:Sl) (H:Hp):aCode tabs (mkOrc (aw.cs F)) aw.pn (aw.lh F) F [] 1 aw.code (argTm [(.sl aa)]) H (fun tm H=>aresults tabs.ty H tm Try.f15.results.toList fun v=>some (v,H)) (fun _ _ _=>none) (fun tm H=>aresults tabs.ty H tm Try.f15.results.toList fun v=>some (v,H)) = aw.twX F aa H:=by kernel_rfl
theorem aw.cs_ok (F:Nat):∀ p ∈ aw.cs F,∀ args H v H',p.2 args H = some (v,H')→Go.AE.T Try.prog p.1 args H v H':=by
 intro p hp
 exact absurd (show p ∈ [] from hp) List.not_mem_nil
theorem aw.ok:codeOk aw.pn Try.f15.ntmps aw.tb aw.code = true:=by kernel_rfl
theorem aw.T {F:Nat} {aa:Sl} {H:Hp} {v:AV} {H':Hp} (h:aw.tw F aa H = some (v,H')):Go.AE.T Try.prog 15 [(.sl aa)] H v H':=
 Go.AE.T.of (Y:=tabs) (C:=mkOrc (aw.cs F)) (PN:=aw.pn) (LH:=aw.lh F) (F:=F) (TB:=aw.tb) (fn:=Try.f15) (code:=aw.code) mixed tabs_ok (mkOrc_ok (aw.cs_ok F)) Try.func15 (by kernel_rfl) (by kernel_rfl) aw.ok (Nat.le_of_ble_eq_true (by kernel_rfl)) (aw.loops F) (Eq.trans (aw.eqX F aa H) h)
theorem aw.mk_T {F:Nat} {args:List AV} {H:Hp} {v:AV} {H':Hp} (h:aw.mk (aw.tw F) args H = some (v,H')):Go.AE.T Try.prog 15 args H v H':=by
 unfold aw.mk at h
 split at h
 ·exact aw.T h
 ·cases h
noncomputable def aH.twX (F:Nat) (da:Sl→Hp→OA) (aa:Int) (ad:Sl) (H:Hp):OA:=(Hp.new H [(.int .i64 aa),(.sl ad)]).bind fun H3=>(Hp.new H3 [.int .i64 0,.sl ⟨none,0,.ex 0⟩]).bind fun H4=>(Hp.new H4 [.int .i64 0,.sl ⟨none,0,.ex 0⟩]).bind fun H5=>(Hp.ldI H5 .i64 H.length 0).bind fun n6=>(Hp.st H5 H4.length 0 (.int .i64 n6)).bind fun H7=>(Hp.ldSl H7 H.length 1).bind fun s8=>(da s8 H7).bind fun r9=>((r9.1).asSl).bind fun s10=>(Hp.st r9.2 H4.length 1 (.sl s10)).bind fun H11=>(Hp.ldI H11 .i64 H4.length 0).bind fun n12=>(Hp.ldSl H11 H4.length (0 + 1)).bind fun s13=>(Hp.st H11 H3.length 0 (.int .i64 n12)).bind fun H14=>(Hp.st H14 H3.length (0 + 1) (.sl s13)).bind fun H15=>(Hp.ldI H15 .i64 H3.length 0).bind fun n16=>(Hp.ldSl H15 H3.length (0 + 1)).bind fun s17=>some ((.agg [(.int .i64 n16),(.sl s17)]),H15)
noncomputable def aH.tw (F:Nat) (aa:Int) (ad:Sl) (H:Hp):OA:=aH.twX F (aw.tw F) aa ad H
noncomputable def aH.code:Go.Code:=(Try.f22.body).getD .skip
noncomputable def aH.lh (F:Nat) (da:Sl→Hp→OA) (p:Nat) (ks:List Nat) (n:Nat) (tm:Tm) (H:Hp):OA:=none
def aH.pn:Nat→List Nat:=fun i=>(([]:List (Nat×List Nat)).lookup i).getD []
def aH.tb:Nat→List (List Nat):=fun i=>(([]:List (Nat×List (List Nat))).lookup i).getD []
noncomputable def aH.mk (g:Int→Sl→Hp→OA) (args:List AV) (H:Hp):OA:=match args with
 | [(.agg [(.int .i64 aa),(.sl ad)])]=>g aa ad H
 | _=>none
noncomputable def aH.cs (F:Nat) (da:Sl→Hp→OA):List (FuncId×(List AV→Hp→OA)):=[(15,aw.mk da)]
theorem aH.loops (F:Nat) (da:Sl→Hp→OA):LoopsOk tabs (mkOrc (aH.cs F da)) aH.pn (aH.lh F da) F [] 1 aH.code (fun tm H=>aresults tabs.ty H tm Try.f22.results.toList fun v=>some (v,H)) (fun _ _ _=>none) (fun tm H=>aresults tabs.ty H tm Try.f22.results.toList fun v=>some (v,H)):=by
 exact loops_none (by kernel_rfl)
theorem aH.eqX (F:Nat) (da:Sl→Hp→OA) (aa:Int) (ad:Sl) (H:Hp):aCode tabs (mkOrc (aH.cs F da)) aH.pn (aH.lh F da) F [] 1 aH.code (argTm [(.agg [(.int .i64 aa),(.sl ad)])]) H (fun tm H=>aresults tabs.ty H tm Try.f22.results.toList fun v=>some (v,H)) (fun _ _ _=>none) (fun tm H=>aresults tabs.ty H tm Try.f22.results.toList fun v=>some (v,H)) = aH.twX F da aa ad H:=by kernel_rfl
theorem aH.cs_ok (F:Nat):∀ p ∈ aH.cs F (aw.tw F),∀ args H v H',p.2 args H = some (v,H')→Go.AE.T Try.prog p.1 args H v H':=by
 intro p hp
 simp only [aH.cs,List.mem_cons,List.not_mem_nil,or_false] at hp
 subst hp
 exact fun args H v H' h=>aw.mk_T h
theorem aH.ok:codeOk aH.pn Try.f22.ntmps aH.tb aH.code = true:=by kernel_rfl
theorem aH.T {F:Nat} {aa:Int} {ad:Sl} {H:Hp} {v:AV} {H':Hp} (h:aH.tw F aa ad H = some (v,H')):Go.AE.T Try.prog 22 [(.agg [(.int .i64 aa),(.sl ad)])] H v H':=
 Go.AE.T.of (Y:=tabs) (C:=mkOrc (aH.cs F (aw.tw F))) (PN:=aH.pn) (LH:=aH.lh F (aw.tw F)) (F:=F) (TB:=aH.tb) (fn:=Try.f22) (code:=aH.code) mixed tabs_ok (mkOrc_ok (aH.cs_ok F)) Try.func22 (by kernel_rfl) (by kernel_rfl) aH.ok (Nat.le_of_ble_eq_true (by kernel_rfl)) (aH.loops F (aw.tw F)) (Eq.trans (aH.eqX F (aw.tw F) aa ad H) h)
theorem aH.mk_T {F:Nat} {args:List AV} {H:Hp} {v:AV} {H':Hp} (h:aH.mk (aH.tw F) args H = some (v,H')):Go.AE.T Try.prog 22 args H v H':=by
 unfold aH.mk at h
 split at h
 ·exact aH.T h
 ·cases h
noncomputable def aD.twX (F:Nat) (aa:Int) (ac:Int) (aZ:Int) (H:Hp):OA:=(bif (decide (aa ≥ ac)) then (some ((.bool (decide (aa ≤ aZ))),H)) else (some ((.bool false),H)))
noncomputable def aD.tw (F:Nat) (aa:Int) (ac:Int) (aZ:Int) (H:Hp):OA:=aD.twX F aa ac aZ H
noncomputable def aD.code:Go.Code:=(Try.f48.body).getD .skip
noncomputable def aD.lh (F:Nat) (p:Nat) (ks:List Nat) (n:Nat) (tm:Tm) (H:Hp):OA:=none
def aD.pn:Nat→List Nat:=fun i=>(([]:List (Nat×List Nat)).lookup i).getD []
def aD.tb:Nat→List (List Nat):=fun i=>(([]:List (Nat×List (List Nat))).lookup i).getD []
noncomputable def aD.mk (g:Int→Int→Int→Hp→OA) (args:List AV) (H:Hp):OA:=match args with
 | [(.int .i64 aa),(.int .i64 ac),(.int .i64 aZ)]=>g aa ac aZ H
 | _=>none
noncomputable def aD.cs (F:Nat):List (FuncId×(List AV→Hp→OA)):=[]
theorem aD.loops (F:Nat):LoopsOk tabs (mkOrc (aD.cs F)) aD.pn (aD.lh F) F [] 1 aD.code (fun tm H=>aresults tabs.ty H tm Try.f48.results.toList fun v=>some (v,H)) (fun _ _ _=>none) (fun tm H=>aresults tabs.ty H tm Try.f48.results.toList fun v=>some (v,H)):=by
 exact loops_none (by kernel_rfl)
theorem aD.eqX (F:Nat) (aa:Int) (ac:Int) (aZ:Int) (H:Hp):aCode tabs (mkOrc (aD.cs F)) aD.pn (aD.lh F) F [] 1 aD.code (argTm [(.int .i64 aa),(.int .i64 ac),(.int .i64 aZ)]) H (fun tm H=>aresults tabs.ty H tm Try.f48.results.toList fun v=>some (v,H)) (fun _ _ _=>none) (fun tm H=>aresults tabs.ty H tm Try.f48.results.toList fun v=>some (v,H)) = aD.twX F aa ac aZ H:=by kernel_rfl
theorem aD.cs_ok (F:Nat):∀ p ∈ aD.cs F,∀ args H v H',p.2 args H = some (v,H')→Go.AE.T Try.prog p.1 args H v H':=by
 intro p hp
 exact absurd (show p ∈ [] from hp) List.not_mem_nil
theorem aD.ok:codeOk aD.pn Try.f48.ntmps aD.tb aD.code = true:=by kernel_rfl
theorem aD.T {F:Nat} {aa:Int} {ac:Int} {aZ:Int} {H:Hp} {v:AV} {H':Hp} (h:aD.tw F aa ac aZ H = some (v,H')):Go.AE.T Try.prog 48 [(.int .i64 aa),(.int .i64 ac),(.int .i64 aZ)] H v H':=
 Go.AE.T.of (Y:=tabs) (C:=mkOrc (aD.cs F)) (PN:=aD.pn) (LH:=aD.lh F) (F:=F) (TB:=aD.tb) (fn:=Try.f48) (code:=aD.code) mixed tabs_ok (mkOrc_ok (aD.cs_ok F)) Try.func48 (by kernel_rfl) (by kernel_rfl) aD.ok (Nat.le_of_ble_eq_true (by kernel_rfl)) (aD.loops F) (Eq.trans (aD.eqX F aa ac aZ H) h)
theorem aD.mk_T {F:Nat} {args:List AV} {H:Hp} {v:AV} {H':Hp} (h:aD.mk (aD.tw F) args H = some (v,H')):Go.AE.T Try.prog 48 args H v H':=by
 unfold aD.mk at h
 split at h
 ·exact aD.T h
 ·cases h
noncomputable def aM.twX (F:Nat) (bm:Int→Int→Int→Hp→OA) (aa:Int) (ac:Int) (H:Hp):OA:=(bif (aa != 0) then ((bm aa (IntKind.i64.wrap (1 - ac)) (IntKind.i64.wrap (ac - 1)) H).bind fun r3=>((r3.1).asB).bind fun b4=>some ((.bool b4),r3.2)) else (some ((.bool false),H)))
noncomputable def aM.tw (F:Nat) (aa:Int) (ac:Int) (H:Hp):OA:=aM.twX F (aD.tw F) aa ac H
noncomputable def aM.code:Go.Code:=(Try.f54.body).getD .skip
noncomputable def aM.lh (F:Nat) (bm:Int→Int→Int→Hp→OA) (p:Nat) (ks:List Nat) (n:Nat) (tm:Tm) (H:Hp):OA:=none
def aM.pn:Nat→List Nat:=fun i=>(([]:List (Nat×List Nat)).lookup i).getD []
def aM.tb:Nat→List (List Nat):=fun i=>(([]:List (Nat×List (List Nat))).lookup i).getD []
noncomputable def aM.mk (g:Int→Int→Hp→OA) (args:List AV) (H:Hp):OA:=match args with
 | [(.int .i64 aa),(.int .i64 ac)]=>g aa ac H
 | _=>none
noncomputable def aM.cs (F:Nat) (bm:Int→Int→Int→Hp→OA):List (FuncId×(List AV→Hp→OA)):=[(48,aD.mk bm)]
theorem aM.loops (F:Nat) (bm:Int→Int→Int→Hp→OA):LoopsOk tabs (mkOrc (aM.cs F bm)) aM.pn (aM.lh F bm) F [] 1 aM.code (fun tm H=>aresults tabs.ty H tm Try.f54.results.toList fun v=>some (v,H)) (fun _ _ _=>none) (fun tm H=>aresults tabs.ty H tm Try.f54.results.toList fun v=>some (v,H)):=by
 exact loops_none (by kernel_rfl)
theorem aM.eqX (F:Nat) (bm:Int→Int→Int→Hp→OA) (aa:Int) (ac:Int) (H:Hp):aCode tabs (mkOrc (aM.cs F bm)) aM.pn (aM.lh F bm) F [] 1 aM.code (argTm [(.int .i64 aa),(.int .i64 ac)]) H (fun tm H=>aresults tabs.ty H tm Try.f54.results.toList fun v=>some (v,H)) (fun _ _ _=>none) (fun tm H=>aresults tabs.ty H tm Try.f54.results.toList fun v=>some (v,H)) = aM.twX F bm aa ac H:=by kernel_rfl
theorem aM.cs_ok (F:Nat):∀ p ∈ aM.cs F (aD.tw F),∀ args H v H',p.2 args H = some (v,H')→Go.AE.T Try.prog p.1 args H v H':=by
 intro p hp
 simp only [aM.cs,List.mem_cons,List.not_mem_nil,or_false] at hp
 subst hp
 exact fun args H v H' h=>aD.mk_T h
theorem aM.ok:codeOk aM.pn Try.f54.ntmps aM.tb aM.code = true:=by kernel_rfl
theorem aM.T {F:Nat} {aa:Int} {ac:Int} {H:Hp} {v:AV} {H':Hp} (h:aM.tw F aa ac H = some (v,H')):Go.AE.T Try.prog 54 [(.int .i64 aa),(.int .i64 ac)] H v H':=
 Go.AE.T.of (Y:=tabs) (C:=mkOrc (aM.cs F (aD.tw F))) (PN:=aM.pn) (LH:=aM.lh F (aD.tw F)) (F:=F) (TB:=aM.tb) (fn:=Try.f54) (code:=aM.code) mixed tabs_ok (mkOrc_ok (aM.cs_ok F)) Try.func54 (by kernel_rfl) (by kernel_rfl) aM.ok (Nat.le_of_ble_eq_true (by kernel_rfl)) (aM.loops F (aD.tw F)) (Eq.trans (aM.eqX F (aD.tw F) aa ac H) h)
theorem aM.mk_T {F:Nat} {args:List AV} {H:Hp} {v:AV} {H':Hp} (h:aM.mk (aM.tw F) args H = some (v,H')):Go.AE.T Try.prog 54 args H v H':=by
 unfold aM.mk at h
 split at h
 ·exact aM.T h
 ·cases h
noncomputable def ak.l29 (F:Nat) (bm:Int→Int→Int→Hp→OA) (bH:Int→Int→Hp→OA) :Nat→Nat→Nat→Int→Hp→OA
 | 0,_,_,_,_=>none
 | d_ + 1,ch,cM,bS,H15=>(Hp.ldSl H15 ch (cM + 1)).bind fun s23=>(bif (decide (bS < (s23.n:Int))) then ((Hp.ldSl H15 ch (cM + 1)).bind fun s24=>(Sl.idx s24 bS 1).bind fun p25=>(Hp.ldI H15 .i64 p25.1 p25.2).bind fun n26=>(Hp.ldI H15 .i64 ch cM).bind fun n27=>(bH n26 n27 H15).bind fun r28=>((r28.1).asB).bind fun b29=>(bif (!b29) then (some ((.bool false),r28.2)) else (ak.l29 F bm bH d_ ch cM (IntKind.i64.wrap (bS + 1)) r28.2))) else (some ((.bool true),H15)))
termination_by structural n=>n
noncomputable def ak.twX (F:Nat) (bm:Int→Int→Int→Hp→OA) (bH:Int→Int→Hp→OA) (aa:Int) (ad:Sl) (H:Hp):OA:=(Hp.new H [(.int .i64 aa),(.sl ad)]).bind fun H3=>(Hp.ldI H3 .i64 H.length 0).bind fun n4=>(bm n4 1 6 H3).bind fun r5=>((r5.1).asB).bind fun b6=>(bif (!b6) then (some ((.bool false),r5.2)) else ((Hp.ldSl r5.2 H.length 1).bind fun s7=>(bif (decide ((s7.n:Int) > 24)) then (some ((.bool false),r5.2)) else (ak.l29 F bm bH F H.length 0 0 r5.2))))
noncomputable def ak.tw (F:Nat) (aa:Int) (ad:Sl) (H:Hp):OA:=ak.twX F (aD.tw F) (aM.tw F) aa ad H
noncomputable def ak.code:Go.Code:=(Try.f21.body).getD .skip
noncomputable def ak.lh29 (F:Nat) (bm:Int→Int→Int→Hp→OA) (bH:Int→Int→Hp→OA) (ks:List Nat) (n:Nat) (tm:Tm) (H:Hp):OA:=match ks,tm 1,tm 3 with
 | [],(.ptr ch cM),(.int .i64 bS)=>ak.l29 F bm bH n ch cM bS H
 | _,_,_=>none
theorem ak.lh29_inv {F:Nat} {bm:Int→Int→Int→Hp→OA} {bH:Int→Int→Hp→OA} {ks:List Nat} {n:Nat} {tm:Tm} {H:Hp} {r:AV×Hp} (h:ak.lh29 F bm bH ks n tm H = some r):∃ ch:Nat,∃ cM:Nat,∃ bS:Int,ks = []∧tm 1 = (.ptr ch cM)∧tm 3 = (.int .i64 bS)∧ak.l29 F bm bH n ch cM bS H = some r:=by
 unfold ak.lh29 at h
 split at h
 ·exact ⟨_,_,_,rfl,by assumption,by assumption,h⟩
 ·cases h
noncomputable def ak.lh (F:Nat) (bm:Int→Int→Int→Hp→OA) (bH:Int→Int→Hp→OA) (p:Nat) (ks:List Nat) (n:Nat) (tm:Tm) (H:Hp):OA:=bif p.beq 29 then ak.lh29 F bm bH ks n tm H else (none)
def ak.pn:Nat→List Nat:=fun i=>(([(6,[7])]:List (Nat×List Nat)).lookup i).getD []
def ak.tb:Nat→List (List Nat):=fun i=>(([(6,[[],[0],[],[0,1,2],[0,1,2,3],[],[5],[0,1,2,3,4,5,6],[0,1,2,3,4,5,6,7]])]:List (Nat×List (List Nat))).lookup i).getD []
noncomputable def ak.mk (g:Int→Sl→Hp→OA) (args:List AV) (H:Hp):OA:=match args with
 | [(.agg [(.int .i64 aa),(.sl ad)])]=>g aa ad H
 | _=>none
noncomputable def ak.cs (F:Nat) (bm:Int→Int→Int→Hp→OA) (bH:Int→Int→Hp→OA):List (FuncId×(List AV→Hp→OA)):=[(48,aD.mk bm),(54,aM.mk bH)]
theorem ak.loops (F:Nat) (bm:Int→Int→Int→Hp→OA) (bH:Int→Int→Hp→OA):LoopsOk tabs (mkOrc (ak.cs F bm bH)) ak.pn (ak.lh F bm bH) F [] 1 ak.code (fun tm H=>aresults tabs.ty H tm Try.f21.results.toList fun v=>some (v,H)) (fun _ _ _=>none) (fun tm H=>aresults tabs.ty H tm Try.f21.results.toList fun v=>some (v,H)):=by
 refine LoopsOk.seq ?_ ?_
 ·exact loops_none (by kernel_rfl)
 ·refine LoopsOk.seq ?_ ?_
  ·exact loops_none (by kernel_rfl)
  ·refine LoopsOk.seq ?_ ?_
   ·refine LoopsOk.seq ?_ ?_
    ·exact loops_none (by kernel_rfl)
    ·refine LoopsOk.block ?_
     refine LoopsOk.loop (fun tm H=>?_) (fun k29 tm H r h0=>?_) (fun k29=>?_)
     ·refine none_of fun r h0=>?_
      obtain ⟨ch,cM,bS,hks,e1,e3,h⟩:=ak.lh29_inv (show ak.lh29 F bm bH [] 0 tm H = some r from h0)
      cases h
     ·obtain ⟨ch,cM,bS,hks,e1,e3,h⟩:=ak.lh29_inv (show ak.lh29 F bm bH [] (k29 + 1) tm H = some r from h0)
      have q0:(Tm.put tm 1 (.ptr ch cM)) = tm:=by exact Tm.put_same e1
      have q1:(Tm.put (Tm.put tm 1 (.ptr ch cM)) 3 (.int .i64 bS)) = tm:=by rw [q0]; exact Tm.put_same e3
      rw [← q1]
      exact Eq.trans (by kernel_rfl) h
     ·exact loops_none (by kernel_rfl)
   ·exact loops_none (by kernel_rfl)
theorem ak.eqX (F:Nat) (bm:Int→Int→Int→Hp→OA) (bH:Int→Int→Hp→OA) (aa:Int) (ad:Sl) (H:Hp):aCode tabs (mkOrc (ak.cs F bm bH)) ak.pn (ak.lh F bm bH) F [] 1 ak.code (argTm [(.agg [(.int .i64 aa),(.sl ad)])]) H (fun tm H=>aresults tabs.ty H tm Try.f21.results.toList fun v=>some (v,H)) (fun _ _ _=>none) (fun tm H=>aresults tabs.ty H tm Try.f21.results.toList fun v=>some (v,H)) = ak.twX F bm bH aa ad H:=by kernel_rfl
theorem ak.cs_ok (F:Nat):∀ p ∈ ak.cs F (aD.tw F) (aM.tw F),∀ args H v H',p.2 args H = some (v,H')→Go.AE.T Try.prog p.1 args H v H':=by
 intro p hp
 simp only [ak.cs,List.mem_cons,List.not_mem_nil,or_false] at hp
 rcases hp with rfl | rfl
 ·exact fun args H v H' h=>aD.mk_T h
 ·exact fun args H v H' h=>aM.mk_T h
theorem ak.ok:codeOk ak.pn Try.f21.ntmps ak.tb ak.code = true:=by kernel_rfl
theorem ak.T {F:Nat} {aa:Int} {ad:Sl} {H:Hp} {v:AV} {H':Hp} (h:ak.tw F aa ad H = some (v,H')):Go.AE.T Try.prog 21 [(.agg [(.int .i64 aa),(.sl ad)])] H v H':=
 Go.AE.T.of (Y:=tabs) (C:=mkOrc (ak.cs F (aD.tw F) (aM.tw F))) (PN:=ak.pn) (LH:=ak.lh F (aD.tw F) (aM.tw F)) (F:=F) (TB:=ak.tb) (fn:=Try.f21) (code:=ak.code) mixed tabs_ok (mkOrc_ok (ak.cs_ok F)) Try.func21 (by kernel_rfl) (by kernel_rfl) ak.ok (Nat.le_of_ble_eq_true (by kernel_rfl)) (ak.loops F (aD.tw F) (aM.tw F)) (Eq.trans (ak.eqX F (aD.tw F) (aM.tw F) aa ad H) h)
theorem ak.mk_T {F:Nat} {args:List AV} {H:Hp} {v:AV} {H':Hp} (h:ak.mk (ak.tw F) args H = some (v,H')):Go.AE.T Try.prog 21 args H v H':=by
 unfold ak.mk at h
 split at h
 ·exact ak.T h
 ·cases h
noncomputable def aA.twX (F:Nat) (aa:Int) (H:Hp):OA:=some ((.int .i64 (if (IntKind.i64.wrap (0 - aa)) > aa then (IntKind.i64.wrap (0 - aa)) else aa)),H)
noncomputable def aA.tw (F:Nat) (aa:Int) (H:Hp):OA:=aA.twX F aa H
noncomputable def aA.code:Go.Code:=(Try.f68.body).getD .skip
noncomputable def aA.lh (F:Nat) (p:Nat) (ks:List Nat) (n:Nat) (tm:Tm) (H:Hp):OA:=none
def aA.pn:Nat→List Nat:=fun i=>(([]:List (Nat×List Nat)).lookup i).getD []
def aA.tb:Nat→List (List Nat):=fun i=>(([]:List (Nat×List (List Nat))).lookup i).getD []
noncomputable def aA.mk (g:Int→Hp→OA) (args:List AV) (H:Hp):OA:=match args with
 | [(.int .i64 aa)]=>g aa H
 | _=>none
noncomputable def aA.cs (F:Nat):List (FuncId×(List AV→Hp→OA)):=[]
theorem aA.loops (F:Nat):LoopsOk tabs (mkOrc (aA.cs F)) aA.pn (aA.lh F) F [] 1 aA.code (fun tm H=>aresults tabs.ty H tm Try.f68.results.toList fun v=>some (v,H)) (fun _ _ _=>none) (fun tm H=>aresults tabs.ty H tm Try.f68.results.toList fun v=>some (v,H)):=by
 exact loops_none (by kernel_rfl)
theorem aA.eqX (F:Nat) (aa:Int) (H:Hp):aCode tabs (mkOrc (aA.cs F)) aA.pn (aA.lh F) F [] 1 aA.code (argTm [(.int .i64 aa)]) H (fun tm H=>aresults tabs.ty H tm Try.f68.results.toList fun v=>some (v,H)) (fun _ _ _=>none) (fun tm H=>aresults tabs.ty H tm Try.f68.results.toList fun v=>some (v,H)) = aA.twX F aa H:=by kernel_rfl
theorem aA.cs_ok (F:Nat):∀ p ∈ aA.cs F,∀ args H v H',p.2 args H = some (v,H')→Go.AE.T Try.prog p.1 args H v H':=by
 intro p hp
 exact absurd (show p ∈ [] from hp) List.not_mem_nil
theorem aA.ok:codeOk aA.pn Try.f68.ntmps aA.tb aA.code = true:=by kernel_rfl
theorem aA.T {F:Nat} {aa:Int} {H:Hp} {v:AV} {H':Hp} (h:aA.tw F aa H = some (v,H')):Go.AE.T Try.prog 68 [(.int .i64 aa)] H v H':=
 Go.AE.T.of (Y:=tabs) (C:=mkOrc (aA.cs F)) (PN:=aA.pn) (LH:=aA.lh F) (F:=F) (TB:=aA.tb) (fn:=Try.f68) (code:=aA.code) mixed tabs_ok (mkOrc_ok (aA.cs_ok F)) Try.func68 (by kernel_rfl) (by kernel_rfl) aA.ok (Nat.le_of_ble_eq_true (by kernel_rfl)) (aA.loops F) (Eq.trans (aA.eqX F aa H) h)
theorem aA.mk_T {F:Nat} {args:List AV} {H:Hp} {v:AV} {H':Hp} (h:aA.mk (aA.tw F) args H = some (v,H')):Go.AE.T Try.prog 68 args H v H':=by
 unfold aA.mk at h
 split at h
 ·exact aA.T h
 ·cases h
noncomputable def aj.l13 (F:Nat) (aJ:Int→Hp→OA) :Nat→Sl→Int→Int→Int→Hp→OA
 | 0,_,_,_,_,_=>none
 | dC + 1,bl,bv,bO,bw,H9=>(bif (decide (bw ≤ (bl.n:Int))) then ((if (bl.n:Int) = 0 then none else ((Sl.idx bl (Int.tmod (IntKind.i64.wrap ((IntKind.i64.wrap (bv - bw)) + (bl.n:Int))) (bl.n:Int)) 1).bind fun p14=>(Hp.ldI H9 .i64 p14.1 p14.2).bind fun n15=>(aJ n15 H9).bind fun r16=>((r16.1).asI .i64).bind fun n17=>(bif ((IntKind.i64.wrap (n17 - 1)) == bO) then (some ((.int .i64 (IntKind.i64.wrap (2 * (Int.tmod (IntKind.i64.wrap ((IntKind.i64.wrap (bv - bw)) + (bl.n:Int))) (bl.n:Int))))),r16.2)) else ((bif (n17 == bO) then (some ((.int .i64 (IntKind.i64.wrap ((IntKind.i64.wrap (2 * (Int.tmod (IntKind.i64.wrap ((IntKind.i64.wrap (bv - bw)) + (bl.n:Int))) (bl.n:Int)))) + 1))),r16.2)) else (aj.l13 F aJ dC bl bv bO (IntKind.i64.wrap (bw + 1)) r16.2))))))) else (some ((.int .i64 (-1)),H9)))
termination_by structural n=>n
noncomputable def aj.twX (F:Nat) (aJ:Int→Hp→OA) (aa:Sl) (ac:Int) (aZ:Int) (H:Hp):OA:=aj.l13 F aJ F aa ac aZ 1 H
noncomputable def aj.tw (F:Nat) (aa:Sl) (ac:Int) (aZ:Int) (H:Hp):OA:=aj.twX F (aA.tw F) aa ac aZ H
noncomputable def aj.code:Go.Code:=(Try.f87.body).getD .skip
noncomputable def aj.lh13 (F:Nat) (aJ:Int→Hp→OA) (ks:List Nat) (n:Nat) (tm:Tm) (H:Hp):OA:=match ks,tm 0,tm 1,tm 2,tm 7 with
 | [],(.sl bl),(.int .i64 bv),(.int .i64 bO),(.int .i64 bw)=>aj.l13 F aJ n bl bv bO bw H
 | _,_,_,_,_=>none
theorem aj.lh13_inv {F:Nat} {aJ:Int→Hp→OA} {ks:List Nat} {n:Nat} {tm:Tm} {H:Hp} {r:AV×Hp} (h:aj.lh13 F aJ ks n tm H = some r):∃ bl:Sl,∃ bv:Int,∃ bO:Int,∃ bw:Int,ks = []∧tm 0 = (.sl bl)∧tm 1 = (.int .i64 bv)∧tm 2 = (.int .i64 bO)∧tm 7 = (.int .i64 bw)∧aj.l13 F aJ n bl bv bO bw H = some r:=by
 unfold aj.lh13 at h
 split at h
 ·exact ⟨_,_,_,_,rfl,by assumption,by assumption,by assumption,by assumption,h⟩
 ·cases h
noncomputable def aj.lh (F:Nat) (aJ:Int→Hp→OA) (p:Nat) (ks:List Nat) (n:Nat) (tm:Tm) (H:Hp):OA:=bif p.beq 13 then aj.lh13 F aJ ks n tm H else (none)
def aj.pn:Nat→List Nat:=fun i=>(([]:List (Nat×List Nat)).lookup i).getD []
def aj.tb:Nat→List (List Nat):=fun i=>(([]:List (Nat×List (List Nat))).lookup i).getD []
noncomputable def aj.mk (g:Sl→Int→Int→Hp→OA) (args:List AV) (H:Hp):OA:=match args with
 | [(.sl aa),(.int .i64 ac),(.int .i64 aZ)]=>g aa ac aZ H
 | _=>none
noncomputable def aj.cs (F:Nat) (aJ:Int→Hp→OA):List (FuncId×(List AV→Hp→OA)):=[(68,aA.mk aJ)]
theorem aj.loops (F:Nat) (aJ:Int→Hp→OA):LoopsOk tabs (mkOrc (aj.cs F aJ)) aj.pn (aj.lh F aJ) F [] 1 aj.code (fun tm H=>aresults tabs.ty H tm Try.f87.results.toList fun v=>some (v,H)) (fun _ _ _=>none) (fun tm H=>aresults tabs.ty H tm Try.f87.results.toList fun v=>some (v,H)):=by
 refine LoopsOk.seq ?_ ?_
 ·exact loops_none (by kernel_rfl)
 ·refine LoopsOk.seq ?_ ?_
  ·refine LoopsOk.seq ?_ ?_
   ·exact loops_none (by kernel_rfl)
   ·refine LoopsOk.block ?_
    refine LoopsOk.loop (fun tm H=>?_) (fun k13 tm H r h0=>?_) (fun k13=>?_)
    ·refine none_of fun r h0=>?_
     obtain ⟨bl,bv,bO,bw,hks,e0,e1,e2,e7,h⟩:=aj.lh13_inv (show aj.lh13 F aJ [] 0 tm H = some r from h0)
     cases h
    ·obtain ⟨bl,bv,bO,bw,hks,e0,e1,e2,e7,h⟩:=aj.lh13_inv (show aj.lh13 F aJ [] (k13 + 1) tm H = some r from h0)
     have q0:(Tm.put tm 0 (.sl bl)) = tm:=by exact Tm.put_same e0
     have q1:(Tm.put (Tm.put tm 0 (.sl bl)) 1 (.int .i64 bv)) = tm:=by rw [q0]; exact Tm.put_same e1
     have q2:(Tm.put (Tm.put (Tm.put tm 0 (.sl bl)) 1 (.int .i64 bv)) 2 (.int .i64 bO)) = tm:=by rw [q1]; exact Tm.put_same e2
     have q3:(Tm.put (Tm.put (Tm.put (Tm.put tm 0 (.sl bl)) 1 (.int .i64 bv)) 2 (.int .i64 bO)) 7 (.int .i64 bw)) = tm:=by rw [q2]; exact Tm.put_same e7
     rw [← q3]
     exact Eq.trans (by kernel_rfl) h
    ·exact loops_none (by kernel_rfl)
  ·exact loops_none (by kernel_rfl)
theorem aj.eqX (F:Nat) (aJ:Int→Hp→OA) (aa:Sl) (ac:Int) (aZ:Int) (H:Hp):aCode tabs (mkOrc (aj.cs F aJ)) aj.pn (aj.lh F aJ) F [] 1 aj.code (argTm [(.sl aa),(.int .i64 ac),(.int .i64 aZ)]) H (fun tm H=>aresults tabs.ty H tm Try.f87.results.toList fun v=>some (v,H)) (fun _ _ _=>none) (fun tm H=>aresults tabs.ty H tm Try.f87.results.toList fun v=>some (v,H)) = aj.twX F aJ aa ac aZ H:=by kernel_rfl
theorem aj.cs_ok (F:Nat):∀ p ∈ aj.cs F (aA.tw F),∀ args H v H',p.2 args H = some (v,H')→Go.AE.T Try.prog p.1 args H v H':=by
 intro p hp
 simp only [aj.cs,List.mem_cons,List.not_mem_nil,or_false] at hp
 subst hp
 exact fun args H v H' h=>aA.mk_T h
theorem aj.ok:codeOk aj.pn Try.f87.ntmps aj.tb aj.code = true:=by kernel_rfl
theorem aj.T {F:Nat} {aa:Sl} {ac:Int} {aZ:Int} {H:Hp} {v:AV} {H':Hp} (h:aj.tw F aa ac aZ H = some (v,H')):Go.AE.T Try.prog 87 [(.sl aa),(.int .i64 ac),(.int .i64 aZ)] H v H':=
 Go.AE.T.of (Y:=tabs) (C:=mkOrc (aj.cs F (aA.tw F))) (PN:=aj.pn) (LH:=aj.lh F (aA.tw F)) (F:=F) (TB:=aj.tb) (fn:=Try.f87) (code:=aj.code) mixed tabs_ok (mkOrc_ok (aj.cs_ok F)) Try.func87 (by kernel_rfl) (by kernel_rfl) aj.ok (Nat.le_of_ble_eq_true (by kernel_rfl)) (aj.loops F (aA.tw F)) (Eq.trans (aj.eqX F (aA.tw F) aa ac aZ H) h)
theorem aj.mk_T {F:Nat} {args:List AV} {H:Hp} {v:AV} {H':Hp} (h:aj.mk (aj.tw F) args H = some (v,H')):Go.AE.T Try.prog 87 args H v H':=by
 unfold aj.mk at h
 split at h
 ·exact aj.T h
 ·cases h
noncomputable def ae.j3 (F:Nat) (aJ:Int→Hp→OA) (bi:Sl→Int→Int→Hp→OA) (C125_:Nat→Nat→Nat→Nat→Sl→Int→Hp→OA) (fl:Nat) (js:Nat) (fm:Nat) (jt:Nat) (ju:Sl) (eg:Int) (H148:Hp):OA:=C125_ fl js fm jt ju (IntKind.i64.wrap (eg + 1)) H148
noncomputable def ae.l125 (F:Nat) (aJ:Int→Hp→OA) (bi:Sl→Int→Int→Hp→OA) :Nat→Nat→Nat→Nat→Nat→Sl→Int→Hp→OA
 | 0,_,_,_,_,_,_,_=>none
 | hM + 1,bI,cj,bP,cz,cN,bJ,H104=>(bif (decide (bJ < (cN.n:Int))) then ((Sl.idx cN bJ 1).bind fun p130=>(Hp.ldB H104 p130.1 p130.2).bind fun b131=>(bif (!b131) then ((Hp.ldI H104 .i64 bP (cz + 1)).bind fun n132=>(Hp.st H104 bP (cz + 1) (.int .i64 (IntKind.i64.wrap (n132 + 1)))).bind fun H133=>ae.j3 F aJ bi (ae.l125 F aJ bi hM) bI cj bP cz cN bJ H133) else (ae.j3 F aJ bi (ae.l125 F aJ bi hM) bI cj bP cz cN bJ H104))) else ((Hp.ldSl H104 bP cz).bind fun s149=>(Hp.ldI H104 .i64 bP (cz + 1)).bind fun n150=>(Hp.st H104 bI cj (.sl s149)).bind fun H151=>(Hp.st H151 bI (cj + 1) (.int .i64 n150)).bind fun H152=>(Hp.ldSl H152 bI cj).bind fun s153=>(Hp.ldI H152 .i64 bI (cj + 1)).bind fun n154=>some ((.agg [(.sl s153),(.int .i64 n154)]),H152)))
termination_by structural n=>n
noncomputable def ae.j4 (F:Nat) (aJ:Int→Hp→OA) (bi:Sl→Int→Int→Hp→OA) (fo:Nat) (jv:Nat) (fp:Nat) (jw:Nat) (jx:Sl) (H91:Hp):OA:=ae.l125 F aJ bi F fo jv fp jw jx 0 H91
noncomputable def ae.j5 (F:Nat) (aJ:Int→Hp→OA) (bi:Sl→Int→Int→Hp→OA) (C61_:Nat→Nat→Nat→Nat→Nat→Nat→Sl→Int→Hp→OA) (fq:Nat) (jy:Nat) (fr:Nat) (jz:Nat) (eh:Nat) (gI:Nat) (jA:Sl) (ei:Int) (dS:Nat) (ev:Nat) (H203:Hp):OA:=(Hp.ldSl H203 eh gI).bind fun s204=>(Hp.ldI H203 .i64 dS ev).bind fun n205=>(Hp.ldI H203 .i64 dS (ev + 1)).bind fun n206=>(Hp.ldI H203 .i64 dS (ev + 2)).bind fun n207=>(Hp.ldI H203 .i64 dS (ev + 3)).bind fun n208=>(Hp.ldI H203 .i64 dS (ev + 4)).bind fun n209=>(Hp.new H203 [(.int .i64 n205),(.int .i64 n206),(.int .i64 n207),(.int .i64 n208),(.int .i64 n209)]).bind fun H210=>(Sl.row H210 (⟨some (H203.length,0),1,.ex 1⟩:Sl) 5).bind fun xs212=>(Hp.app H210 5 40 s204 (⟨some (H203.length,0),1,.ex 1⟩:Sl).n xs212).bind fun a211=>(Hp.st a211.2 eh gI (.sl a211.1)).bind fun H213=>C61_ fq jy fr jz eh gI jA (IntKind.i64.wrap (ei + 1)) H213
noncomputable def ae.l61 (F:Nat) (aJ:Int→Hp→OA) (bi:Sl→Int→Int→Hp→OA) :Nat→Nat→Nat→Nat→Nat→Nat→Nat→Sl→Int→Hp→OA
 | 0,_,_,_,_,_,_,_,_,_=>none
 | ft + 1,bx,bX,bY,cH,ci,cO,cI,bk,H20=>(Hp.ldSl H20 bx (bX + 1)).bind fun s155=>(bif (decide (bk < (s155.n:Int))) then ((Hp.ldSl H20 bx (bX + 1)).bind fun s156=>(Sl.idx s156 bk 1).bind fun p157=>(Hp.ldI H20 .i64 p157.1 p157.2).bind fun n158=>(aJ n158 H20).bind fun r159=>((r159.1).asI .i64).bind fun n160=>(Sl.idx cI (IntKind.i64.wrap (n160 - 1)) 1).bind fun p161=>(Hp.st r159.2 p161.1 p161.2 (.bool true)).bind fun H162=>(Sl.idx cI n160 1).bind fun p163=>(Hp.st H162 p163.1 p163.2 (.bool true)).bind fun H164=>(Hp.ldSl H164 bx (bX + 1)).bind fun s165=>(bi s165 bk (IntKind.i64.wrap (n160 - 1)) H164).bind fun r166=>((r166.1).asI .i64).bind fun n167=>(Hp.ldSl r166.2 bx (bX + 1)).bind fun s168=>(bi s168 bk n160 r166.2).bind fun r169=>((r169.1).asI .i64).bind fun n170=>(Hp.new r169.2 [.int .i64 0,.int .i64 0,.int .i64 0,.int .i64 0,.int .i64 0]).bind fun H171=>(Hp.st H171 r169.2.length 0 (.int .i64 n170)).bind fun H172=>(Hp.st H172 r169.2.length (0 + 1) (.int .i64 (IntKind.i64.wrap ((IntKind.i64.wrap (2 * bk)) + 1)))).bind fun H173=>(Hp.st H173 r169.2.length (0 + 1 + 1) (.int .i64 (IntKind.i64.wrap (2 * bk)))).bind fun H174=>(Hp.st H174 r169.2.length (0 + 1 + 1 + 1) (.int .i64 n167)).bind fun H175=>(Hp.st H175 r169.2.length (0 + 1 + 1 + 1 + 1) (.int .i64 1)).bind fun H176=>(Hp.ldSl H176 bx (bX + 1)).bind fun s177=>(Sl.idx s177 bk 1).bind fun p178=>(Hp.ldI H176 .i64 p178.1 p178.2).bind fun n179=>(bif (decide (n179 < 0)) then ((Hp.st H176 r169.2.length 0 (.int .i64 n167)).bind fun H180=>(Hp.st H180 r169.2.length (0 + 1) (.int .i64 n170)).bind fun H181=>(Hp.st H181 r169.2.length (0 + 1 + 1) (.int .i64 (IntKind.i64.wrap ((IntKind.i64.wrap (2 * bk)) + 1)))).bind fun H182=>(Hp.st H182 r169.2.length (0 + 1 + 1 + 1) (.int .i64 (IntKind.i64.wrap (2 * bk)))).bind fun H183=>(Hp.st H183 r169.2.length (0 + 1 + 1 + 1 + 1) (.int .i64 (-1))).bind fun H184=>ae.j5 F aJ bi (ae.l61 F aJ bi ft) bx bX bY cH ci cO cI bk r169.2.length 0 H184) else (ae.j5 F aJ bi (ae.l61 F aJ bi ft) bx bX bY cH ci cO cI bk r169.2.length 0 H176))) else (ae.j4 F aJ bi bY cH ci cO cI H20))
termination_by structural n=>n
noncomputable def ae.twX (F:Nat) (aJ:Int→Hp→OA) (bi:Sl→Int→Int→Hp→OA) (aa:Int) (ad:Sl) (H:Hp):OA:=(Hp.new H [(.int .i64 aa),(.sl ad)]).bind fun H3=>(Hp.new H3 [.sl ⟨none,0,.ex 0⟩,.int .i64 0]).bind fun H4=>(Hp.new H4 [.sl ⟨none,0,.ex 0⟩,.int .i64 0]).bind fun H5=>(Hp.st H5 H4.length 0 (.sl (⟨none,0,.ex 0⟩:Sl))).bind fun H6=>(Hp.st H6 H4.length (0 + 1) (.int .i64 0)).bind fun H7=>(Hp.ldI H7 .i64 H.length 0).bind fun n8=>(Hp.mk H7 [.bool false] 1 n8 n8).bind fun m9=>ae.l61 F aJ bi F H.length 0 H3.length 0 H4.length 0 m9.1 0 m9.2
noncomputable def ae.tw (F:Nat) (aa:Int) (ad:Sl) (H:Hp):OA:=ae.twX F (aA.tw F) (aj.tw F) aa ad H
noncomputable def ae.code:Go.Code:=(Try.f76.body).getD .skip
noncomputable def ae.lh61 (F:Nat) (aJ:Int→Hp→OA) (bi:Sl→Int→Int→Hp→OA) (ks:List Nat) (n:Nat) (tm:Tm) (H:Hp):OA:=match ks,tm 1,tm 2,tm 3,tm 4,tm 5 with
 | [],(.ptr bx bX),(.ptr bY cH),(.ptr ci cO),(.sl cI),(.int .i64 bk)=>ae.l61 F aJ bi n bx bX bY cH ci cO cI bk H
 | _,_,_,_,_,_=>none
theorem ae.lh61_inv {F:Nat} {aJ:Int→Hp→OA} {bi:Sl→Int→Int→Hp→OA} {ks:List Nat} {n:Nat} {tm:Tm} {H:Hp} {r:AV×Hp} (h:ae.lh61 F aJ bi ks n tm H = some r):∃ bx:Nat,∃ bX:Nat,∃ bY:Nat,∃ cH:Nat,∃ ci:Nat,∃ cO:Nat,∃ cI:Sl,∃ bk:Int,ks = []∧tm 1 = (.ptr bx bX)∧tm 2 = (.ptr bY cH)∧tm 3 = (.ptr ci cO)∧tm 4 = (.sl cI)∧tm 5 = (.int .i64 bk)∧ae.l61 F aJ bi n bx bX bY cH ci cO cI bk H = some r:=by
 unfold ae.lh61 at h
 split at h
 ·exact ⟨_,_,_,_,_,_,_,_,rfl,by assumption,by assumption,by assumption,by assumption,by assumption,h⟩
 ·cases h
noncomputable def ae.lh125 (F:Nat) (aJ:Int→Hp→OA) (bi:Sl→Int→Int→Hp→OA) (ks:List Nat) (n:Nat) (tm:Tm) (H:Hp):OA:=match ks,tm 2,tm 3,tm 4,tm 11 with
 | [],(.ptr bI cj),(.ptr bP cz),(.sl cN),(.int .i64 bJ)=>ae.l125 F aJ bi n bI cj bP cz cN bJ H
 | _,_,_,_,_=>none
theorem ae.lh125_inv {F:Nat} {aJ:Int→Hp→OA} {bi:Sl→Int→Int→Hp→OA} {ks:List Nat} {n:Nat} {tm:Tm} {H:Hp} {r:AV×Hp} (h:ae.lh125 F aJ bi ks n tm H = some r):∃ bI:Nat,∃ cj:Nat,∃ bP:Nat,∃ cz:Nat,∃ cN:Sl,∃ bJ:Int,ks = []∧tm 2 = (.ptr bI cj)∧tm 3 = (.ptr bP cz)∧tm 4 = (.sl cN)∧tm 11 = (.int .i64 bJ)∧ae.l125 F aJ bi n bI cj bP cz cN bJ H = some r:=by
 unfold ae.lh125 at h
 split at h
 ·exact ⟨_,_,_,_,_,_,rfl,by assumption,by assumption,by assumption,by assumption,h⟩
 ·cases h
noncomputable def ae.lh (F:Nat) (aJ:Int→Hp→OA) (bi:Sl→Int→Int→Hp→OA) (p:Nat) (ks:List Nat) (n:Nat) (tm:Tm) (H:Hp):OA:=bif p.beq 125 then ae.lh125 F aJ bi ks n tm H else (bif p.beq 61 then ae.lh61 F aJ bi ks n tm H else (none))
def ae.pn:Nat→List Nat:=fun i=>(([]:List (Nat×List Nat)).lookup i).getD []
def ae.tb:Nat→List (List Nat):=fun i=>(([]:List (Nat×List (List Nat))).lookup i).getD []
noncomputable def ae.mk (g:Int→Sl→Hp→OA) (args:List AV) (H:Hp):OA:=match args with
 | [(.agg [(.int .i64 aa),(.sl ad)])]=>g aa ad H
 | _=>none
noncomputable def ae.cs (F:Nat) (aJ:Int→Hp→OA) (bi:Sl→Int→Int→Hp→OA):List (FuncId×(List AV→Hp→OA)):=[(68,aA.mk aJ),(87,aj.mk bi)]
theorem ae.loops (F:Nat) (aJ:Int→Hp→OA) (bi:Sl→Int→Int→Hp→OA):LoopsOk tabs (mkOrc (ae.cs F aJ bi)) ae.pn (ae.lh F aJ bi) F [] 1 ae.code (fun tm H=>aresults tabs.ty H tm Try.f76.results.toList fun v=>some (v,H)) (fun _ _ _=>none) (fun tm H=>aresults tabs.ty H tm Try.f76.results.toList fun v=>some (v,H)):=by
 refine LoopsOk.seq ?_ ?_
 ·exact loops_none (by kernel_rfl)
 ·refine LoopsOk.seq ?_ ?_
  ·exact loops_none (by kernel_rfl)
  ·refine LoopsOk.seq ?_ ?_
   ·exact loops_none (by kernel_rfl)
   ·refine LoopsOk.seq ?_ ?_
    ·refine LoopsOk.seq ?_ ?_
     ·exact loops_none (by kernel_rfl)
     ·refine LoopsOk.block ?_
      refine LoopsOk.loop (fun tm H=>?_) (fun k61 tm H r h0=>?_) (fun k61=>?_)
      ·refine none_of fun r h0=>?_
       obtain ⟨bx,bX,bY,cH,ci,cO,cI,bk,hks,e1,e2,e3,e4,e5,h⟩:=ae.lh61_inv (show ae.lh61 F aJ bi [] 0 tm H = some r from h0)
       cases h
      ·obtain ⟨bx,bX,bY,cH,ci,cO,cI,bk,hks,e1,e2,e3,e4,e5,h⟩:=ae.lh61_inv (show ae.lh61 F aJ bi [] (k61 + 1) tm H = some r from h0)
       have q0:(Tm.put tm 1 (.ptr bx bX)) = tm:=by exact Tm.put_same e1
       have q1:(Tm.put (Tm.put tm 1 (.ptr bx bX)) 2 (.ptr bY cH)) = tm:=by rw [q0]; exact Tm.put_same e2
       have q2:(Tm.put (Tm.put (Tm.put tm 1 (.ptr bx bX)) 2 (.ptr bY cH)) 3 (.ptr ci cO)) = tm:=by rw [q1]; exact Tm.put_same e3
       have q3:(Tm.put (Tm.put (Tm.put (Tm.put tm 1 (.ptr bx bX)) 2 (.ptr bY cH)) 3 (.ptr ci cO)) 4 (.sl cI)) = tm:=by rw [q2]; exact Tm.put_same e4
       have q4:(Tm.put (Tm.put (Tm.put (Tm.put (Tm.put tm 1 (.ptr bx bX)) 2 (.ptr bY cH)) 3 (.ptr ci cO)) 4 (.sl cI)) 5 (.int .i64 bk)) = tm:=by rw [q3]; exact Tm.put_same e5
       rw [← q4]
       exact Eq.trans (by kernel_rfl) h
      ·exact loops_none (by kernel_rfl)
    ·refine LoopsOk.seq ?_ ?_
     ·refine LoopsOk.seq ?_ ?_
      ·exact loops_none (by kernel_rfl)
      ·refine LoopsOk.block ?_
       refine LoopsOk.loop (fun tm H=>?_) (fun k125 tm H r h0=>?_) (fun k125=>?_)
       ·refine none_of fun r h0=>?_
        obtain ⟨bI,cj,bP,cz,cN,bJ,hks,e2,e3,e4,e11,h⟩:=ae.lh125_inv (show ae.lh125 F aJ bi [] 0 tm H = some r from h0)
        cases h
       ·obtain ⟨bI,cj,bP,cz,cN,bJ,hks,e2,e3,e4,e11,h⟩:=ae.lh125_inv (show ae.lh125 F aJ bi [] (k125 + 1) tm H = some r from h0)
        have q0:(Tm.put tm 2 (.ptr bI cj)) = tm:=by exact Tm.put_same e2
        have q1:(Tm.put (Tm.put tm 2 (.ptr bI cj)) 3 (.ptr bP cz)) = tm:=by rw [q0]; exact Tm.put_same e3
        have q2:(Tm.put (Tm.put (Tm.put tm 2 (.ptr bI cj)) 3 (.ptr bP cz)) 4 (.sl cN)) = tm:=by rw [q1]; exact Tm.put_same e4
        have q3:(Tm.put (Tm.put (Tm.put (Tm.put tm 2 (.ptr bI cj)) 3 (.ptr bP cz)) 4 (.sl cN)) 11 (.int .i64 bJ)) = tm:=by rw [q2]; exact Tm.put_same e11
        rw [← q3]
        exact Eq.trans (by kernel_rfl) h
       ·exact loops_none (by kernel_rfl)
     ·exact loops_none (by kernel_rfl)
theorem ae.eqX (F:Nat) (aJ:Int→Hp→OA) (bi:Sl→Int→Int→Hp→OA) (aa:Int) (ad:Sl) (H:Hp):aCode tabs (mkOrc (ae.cs F aJ bi)) ae.pn (ae.lh F aJ bi) F [] 1 ae.code (argTm [(.agg [(.int .i64 aa),(.sl ad)])]) H (fun tm H=>aresults tabs.ty H tm Try.f76.results.toList fun v=>some (v,H)) (fun _ _ _=>none) (fun tm H=>aresults tabs.ty H tm Try.f76.results.toList fun v=>some (v,H)) = ae.twX F aJ bi aa ad H:=by kernel_rfl
theorem ae.cs_ok (F:Nat):∀ p ∈ ae.cs F (aA.tw F) (aj.tw F),∀ args H v H',p.2 args H = some (v,H')→Go.AE.T Try.prog p.1 args H v H':=by
 intro p hp
 simp only [ae.cs,List.mem_cons,List.not_mem_nil,or_false] at hp
 rcases hp with rfl | rfl
 ·exact fun args H v H' h=>aA.mk_T h
 ·exact fun args H v H' h=>aj.mk_T h
theorem ae.ok:codeOk ae.pn Try.f76.ntmps ae.tb ae.code = true:=by kernel_rfl
theorem ae.T {F:Nat} {aa:Int} {ad:Sl} {H:Hp} {v:AV} {H':Hp} (h:ae.tw F aa ad H = some (v,H')):Go.AE.T Try.prog 76 [(.agg [(.int .i64 aa),(.sl ad)])] H v H':=
 Go.AE.T.of (Y:=tabs) (C:=mkOrc (ae.cs F (aA.tw F) (aj.tw F))) (PN:=ae.pn) (LH:=ae.lh F (aA.tw F) (aj.tw F)) (F:=F) (TB:=ae.tb) (fn:=Try.f76) (code:=ae.code) mixed tabs_ok (mkOrc_ok (ae.cs_ok F)) Try.func76 (by kernel_rfl) (by kernel_rfl) ae.ok (Nat.le_of_ble_eq_true (by kernel_rfl)) (ae.loops F (aA.tw F) (aj.tw F)) (Eq.trans (ae.eqX F (aA.tw F) (aj.tw F) aa ad H) h)
theorem ae.mk_T {F:Nat} {args:List AV} {H:Hp} {v:AV} {H':Hp} (h:ae.mk (ae.tw F) args H = some (v,H')):Go.AE.T Try.prog 76 args H v H':=by
 unfold ae.mk at h
 split at h
 ·exact ae.T h
 ·cases h
noncomputable def aP.twX (F:Nat) (db:Int→Sl→Hp→OA) (dc:Int→Sl→Hp→OA) (aa:Int) (ad:Sl) (H:Hp):OA:=(Hp.new H [(.int .i64 aa),(.sl ad)]).bind fun H3=>(Hp.new H3 [.sl ⟨none,0,.ex 0⟩,.int .i64 0]).bind fun H4=>(Hp.ldI H4 .i64 H.length 0).bind fun n5=>(Hp.ldSl H4 H.length (0 + 1)).bind fun s6=>(db n5 s6 H4).bind fun r7=>((r7.1).asB).bind fun b8=>(bif (!b8) then ((Hp.st r7.2 H3.length 0 (.sl (⟨none,0,.ex 0⟩:Sl))).bind fun H9=>(Hp.st H9 H3.length (0 + 1) (.int .i64 0)).bind fun H10=>(Hp.ldSl H10 H3.length 0).bind fun s11=>(Hp.ldI H10 .i64 H3.length (0 + 1)).bind fun n12=>some ((.tup [(.agg [(.sl s11),(.int .i64 n12)]),(.int .i64 1)]),H10)) else ((Hp.ldSl r7.2 H.length 1).bind fun s13=>(bif (decide ((s13.n:Int) > 10)) then ((Hp.st r7.2 H3.length 0 (.sl (⟨none,0,.ex 0⟩:Sl))).bind fun H14=>(Hp.st H14 H3.length (0 + 1) (.int .i64 0)).bind fun H15=>(Hp.ldSl H15 H3.length 0).bind fun s16=>(Hp.ldI H15 .i64 H3.length (0 + 1)).bind fun n17=>some ((.tup [(.agg [(.sl s16),(.int .i64 n17)]),(.int .i64 3)]),H15)) else ((Hp.ldI r7.2 .i64 H.length 0).bind fun n18=>(Hp.ldSl r7.2 H.length (0 + 1)).bind fun s19=>(dc n18 s19 r7.2).bind fun r20=>((r20.1).asAgg 2).bind fun l21=>(l21[0]?).bind fun v22=>((v22).asSl).bind fun s23=>(l21[1]?).bind fun v24=>((v24).asI .i64).bind fun n25=>(Hp.st r20.2 H3.length 0 (.sl s23)).bind fun H26=>(Hp.st H26 H3.length (0 + 1) (.int .i64 n25)).bind fun H27=>(Hp.ldSl H27 H3.length 0).bind fun s28=>(Hp.ldI H27 .i64 H3.length (0 + 1)).bind fun n29=>some ((.tup [(.agg [(.sl s28),(.int .i64 n29)]),(.int .i64 0)]),H27)))))
noncomputable def aP.tw (F:Nat) (aa:Int) (ad:Sl) (H:Hp):OA:=aP.twX F (ak.tw F) (ae.tw F) aa ad H
noncomputable def aP.code:Go.Code:=(Try.f43.body).getD .skip
noncomputable def aP.lh (F:Nat) (db:Int→Sl→Hp→OA) (dc:Int→Sl→Hp→OA) (p:Nat) (ks:List Nat) (n:Nat) (tm:Tm) (H:Hp):OA:=none
def aP.pn:Nat→List Nat:=fun i=>(([]:List (Nat×List Nat)).lookup i).getD []
def aP.tb:Nat→List (List Nat):=fun i=>(([]:List (Nat×List (List Nat))).lookup i).getD []
noncomputable def aP.mk (g:Int→Sl→Hp→OA) (args:List AV) (H:Hp):OA:=match args with
 | [(.agg [(.int .i64 aa),(.sl ad)])]=>g aa ad H
 | _=>none
noncomputable def aP.cs (F:Nat) (db:Int→Sl→Hp→OA) (dc:Int→Sl→Hp→OA):List (FuncId×(List AV→Hp→OA)):=[(21,ak.mk db),(76,ae.mk dc)]
theorem aP.loops (F:Nat) (db:Int→Sl→Hp→OA) (dc:Int→Sl→Hp→OA):LoopsOk tabs (mkOrc (aP.cs F db dc)) aP.pn (aP.lh F db dc) F [] 1 aP.code (fun tm H=>aresults tabs.ty H tm Try.f43.results.toList fun v=>some (v,H)) (fun _ _ _=>none) (fun tm H=>aresults tabs.ty H tm Try.f43.results.toList fun v=>some (v,H)):=by
 exact loops_none (by kernel_rfl)
theorem aP.eqX (F:Nat) (db:Int→Sl→Hp→OA) (dc:Int→Sl→Hp→OA) (aa:Int) (ad:Sl) (H:Hp):aCode tabs (mkOrc (aP.cs F db dc)) aP.pn (aP.lh F db dc) F [] 1 aP.code (argTm [(.agg [(.int .i64 aa),(.sl ad)])]) H (fun tm H=>aresults tabs.ty H tm Try.f43.results.toList fun v=>some (v,H)) (fun _ _ _=>none) (fun tm H=>aresults tabs.ty H tm Try.f43.results.toList fun v=>some (v,H)) = aP.twX F db dc aa ad H:=by kernel_rfl
theorem aP.cs_ok (F:Nat):∀ p ∈ aP.cs F (ak.tw F) (ae.tw F),∀ args H v H',p.2 args H = some (v,H')→Go.AE.T Try.prog p.1 args H v H':=by
 intro p hp
 simp only [aP.cs,List.mem_cons,List.not_mem_nil,or_false] at hp
 rcases hp with rfl | rfl
 ·exact fun args H v H' h=>ak.mk_T h
 ·exact fun args H v H' h=>ae.mk_T h
theorem aP.ok:codeOk aP.pn Try.f43.ntmps aP.tb aP.code = true:=by kernel_rfl
theorem aP.T {F:Nat} {aa:Int} {ad:Sl} {H:Hp} {v:AV} {H':Hp} (h:aP.tw F aa ad H = some (v,H')):Go.AE.T Try.prog 43 [(.agg [(.int .i64 aa),(.sl ad)])] H v H':=
 Go.AE.T.of (Y:=tabs) (C:=mkOrc (aP.cs F (ak.tw F) (ae.tw F))) (PN:=aP.pn) (LH:=aP.lh F (ak.tw F) (ae.tw F)) (F:=F) (TB:=aP.tb) (fn:=Try.f43) (code:=aP.code) mixed tabs_ok (mkOrc_ok (aP.cs_ok F)) Try.func43 (by kernel_rfl) (by kernel_rfl) aP.ok (Nat.le_of_ble_eq_true (by kernel_rfl)) (aP.loops F (ak.tw F) (ae.tw F)) (Eq.trans (aP.eqX F (ak.tw F) (ae.tw F) aa ad H) h)
theorem aP.mk_T {F:Nat} {args:List AV} {H:Hp} {v:AV} {H':Hp} (h:aP.mk (aP.tw F) args H = some (v,H')):Go.AE.T Try.prog 43 args H v H':=by
 unfold aP.mk at h
 split at h
 ·exact aP.T h
 ·cases h
noncomputable def aE.twX (F:Nat) (aa:Int) (ac:Int) (aZ:Int) (H:Hp):OA:=(bif (decide (ac ≤ aa)) then (some ((.bool (decide (aa ≤ aZ))),H)) else (some ((.bool false),H)))
noncomputable def aE.tw (F:Nat) (aa:Int) (ac:Int) (aZ:Int) (H:Hp):OA:=aE.twX F aa ac aZ H
noncomputable def aE.code:Go.Code:=(Try.f50.body).getD .skip
noncomputable def aE.lh (F:Nat) (p:Nat) (ks:List Nat) (n:Nat) (tm:Tm) (H:Hp):OA:=none
def aE.pn:Nat→List Nat:=fun i=>(([]:List (Nat×List Nat)).lookup i).getD []
def aE.tb:Nat→List (List Nat):=fun i=>(([]:List (Nat×List (List Nat))).lookup i).getD []
noncomputable def aE.mk (g:Int→Int→Int→Hp→OA) (args:List AV) (H:Hp):OA:=match args with
 | [(.int .i64 aa),(.int .i64 ac),(.int .i64 aZ)]=>g aa ac aZ H
 | _=>none
noncomputable def aE.cs (F:Nat):List (FuncId×(List AV→Hp→OA)):=[]
theorem aE.loops (F:Nat):LoopsOk tabs (mkOrc (aE.cs F)) aE.pn (aE.lh F) F [] 1 aE.code (fun tm H=>aresults tabs.ty H tm Try.f50.results.toList fun v=>some (v,H)) (fun _ _ _=>none) (fun tm H=>aresults tabs.ty H tm Try.f50.results.toList fun v=>some (v,H)):=by
 exact loops_none (by kernel_rfl)
theorem aE.eqX (F:Nat) (aa:Int) (ac:Int) (aZ:Int) (H:Hp):aCode tabs (mkOrc (aE.cs F)) aE.pn (aE.lh F) F [] 1 aE.code (argTm [(.int .i64 aa),(.int .i64 ac),(.int .i64 aZ)]) H (fun tm H=>aresults tabs.ty H tm Try.f50.results.toList fun v=>some (v,H)) (fun _ _ _=>none) (fun tm H=>aresults tabs.ty H tm Try.f50.results.toList fun v=>some (v,H)) = aE.twX F aa ac aZ H:=by kernel_rfl
theorem aE.cs_ok (F:Nat):∀ p ∈ aE.cs F,∀ args H v H',p.2 args H = some (v,H')→Go.AE.T Try.prog p.1 args H v H':=by
 intro p hp
 exact absurd (show p ∈ [] from hp) List.not_mem_nil
theorem aE.ok:codeOk aE.pn Try.f50.ntmps aE.tb aE.code = true:=by kernel_rfl
theorem aE.T {F:Nat} {aa:Int} {ac:Int} {aZ:Int} {H:Hp} {v:AV} {H':Hp} (h:aE.tw F aa ac aZ H = some (v,H')):Go.AE.T Try.prog 50 [(.int .i64 aa),(.int .i64 ac),(.int .i64 aZ)] H v H':=
 Go.AE.T.of (Y:=tabs) (C:=mkOrc (aE.cs F)) (PN:=aE.pn) (LH:=aE.lh F) (F:=F) (TB:=aE.tb) (fn:=Try.f50) (code:=aE.code) mixed tabs_ok (mkOrc_ok (aE.cs_ok F)) Try.func50 (by kernel_rfl) (by kernel_rfl) aE.ok (Nat.le_of_ble_eq_true (by kernel_rfl)) (aE.loops F) (Eq.trans (aE.eqX F aa ac aZ H) h)
theorem aE.mk_T {F:Nat} {args:List AV} {H:Hp} {v:AV} {H':Hp} (h:aE.mk (aE.tw F) args H = some (v,H')):Go.AE.T Try.prog 50 args H v H':=by
 unfold aE.mk at h
 split at h
 ·exact aE.T h
 ·cases h
noncomputable def aQ.twX (F:Nat) (bC:Int→Int→Int→Hp→OA) (aa:Int) (ac:Int) (H:Hp):OA:=(bif (ac != 0) then ((bC ac (IntKind.i64.wrap (1 - aa)) (IntKind.i64.wrap (aa - 1)) H).bind fun r3=>((r3.1).asB).bind fun b4=>some ((.bool b4),r3.2)) else (some ((.bool false),H)))
noncomputable def aQ.tw (F:Nat) (aa:Int) (ac:Int) (H:Hp):OA:=aQ.twX F (aE.tw F) aa ac H
noncomputable def aQ.code:Go.Code:=(Try.f71.body).getD .skip
noncomputable def aQ.lh (F:Nat) (bC:Int→Int→Int→Hp→OA) (p:Nat) (ks:List Nat) (n:Nat) (tm:Tm) (H:Hp):OA:=none
def aQ.pn:Nat→List Nat:=fun i=>(([]:List (Nat×List Nat)).lookup i).getD []
def aQ.tb:Nat→List (List Nat):=fun i=>(([]:List (Nat×List (List Nat))).lookup i).getD []
noncomputable def aQ.mk (g:Int→Int→Hp→OA) (args:List AV) (H:Hp):OA:=match args with
 | [(.int .i64 aa),(.int .i64 ac)]=>g aa ac H
 | _=>none
noncomputable def aQ.cs (F:Nat) (bC:Int→Int→Int→Hp→OA):List (FuncId×(List AV→Hp→OA)):=[(50,aE.mk bC)]
theorem aQ.loops (F:Nat) (bC:Int→Int→Int→Hp→OA):LoopsOk tabs (mkOrc (aQ.cs F bC)) aQ.pn (aQ.lh F bC) F [] 1 aQ.code (fun tm H=>aresults tabs.ty H tm Try.f71.results.toList fun v=>some (v,H)) (fun _ _ _=>none) (fun tm H=>aresults tabs.ty H tm Try.f71.results.toList fun v=>some (v,H)):=by
 exact loops_none (by kernel_rfl)
theorem aQ.eqX (F:Nat) (bC:Int→Int→Int→Hp→OA) (aa:Int) (ac:Int) (H:Hp):aCode tabs (mkOrc (aQ.cs F bC)) aQ.pn (aQ.lh F bC) F [] 1 aQ.code (argTm [(.int .i64 aa),(.int .i64 ac)]) H (fun tm H=>aresults tabs.ty H tm Try.f71.results.toList fun v=>some (v,H)) (fun _ _ _=>none) (fun tm H=>aresults tabs.ty H tm Try.f71.results.toList fun v=>some (v,H)) = aQ.twX F bC aa ac H:=by kernel_rfl
theorem aQ.cs_ok (F:Nat):∀ p ∈ aQ.cs F (aE.tw F),∀ args H v H',p.2 args H = some (v,H')→Go.AE.T Try.prog p.1 args H v H':=by
 intro p hp
 simp only [aQ.cs,List.mem_cons,List.not_mem_nil,or_false] at hp
 subst hp
 exact fun args H v H' h=>aE.mk_T h
theorem aQ.ok:codeOk aQ.pn Try.f71.ntmps aQ.tb aQ.code = true:=by kernel_rfl
theorem aQ.T {F:Nat} {aa:Int} {ac:Int} {H:Hp} {v:AV} {H':Hp} (h:aQ.tw F aa ac H = some (v,H')):Go.AE.T Try.prog 71 [(.int .i64 aa),(.int .i64 ac)] H v H':=
 Go.AE.T.of (Y:=tabs) (C:=mkOrc (aQ.cs F (aE.tw F))) (PN:=aQ.pn) (LH:=aQ.lh F (aE.tw F)) (F:=F) (TB:=aQ.tb) (fn:=Try.f71) (code:=aQ.code) mixed tabs_ok (mkOrc_ok (aQ.cs_ok F)) Try.func71 (by kernel_rfl) (by kernel_rfl) aQ.ok (Nat.le_of_ble_eq_true (by kernel_rfl)) (aQ.loops F (aE.tw F)) (Eq.trans (aQ.eqX F (aE.tw F) aa ac H) h)
theorem aQ.mk_T {F:Nat} {args:List AV} {H:Hp} {v:AV} {H':Hp} (h:aQ.mk (aQ.tw F) args H = some (v,H')):Go.AE.T Try.prog 71 args H v H':=by
 unfold aQ.mk at h
 split at h
 ·exact aQ.T h
 ·cases h
noncomputable def aR.twX (F:Nat) (dd:Int→Int→Hp→OA) (aa:Int) (ac:Nat) (af:Nat) (H:Hp):OA:=(Hp.ldI H .i64 ac af).bind fun n4=>(dd n4 aa H).bind fun r5=>((r5.1).asB).bind fun b6=>some ((.bool (!b6)),r5.2)
noncomputable def aR.tw (F:Nat) (aa:Int) (ac:Nat) (af:Nat) (H:Hp):OA:=aR.twX F (aQ.tw F) aa ac af H
noncomputable def aR.code:Go.Code:=(Try.f83.body).getD .skip
noncomputable def aR.lh (F:Nat) (dd:Int→Int→Hp→OA) (p:Nat) (ks:List Nat) (n:Nat) (tm:Tm) (H:Hp):OA:=none
def aR.pn:Nat→List Nat:=fun i=>(([]:List (Nat×List Nat)).lookup i).getD []
def aR.tb:Nat→List (List Nat):=fun i=>(([]:List (Nat×List (List Nat))).lookup i).getD []
noncomputable def aR.mk (g:Int→Nat→Nat→Hp→OA) (args:List AV) (H:Hp):OA:=match args with
 | [(.int .i64 aa),(.ptr ac af)]=>g aa ac af H
 | _=>none
noncomputable def aR.cs (F:Nat) (dd:Int→Int→Hp→OA):List (FuncId×(List AV→Hp→OA)):=[(71,aQ.mk dd)]
theorem aR.loops (F:Nat) (dd:Int→Int→Hp→OA):LoopsOk tabs (mkOrc (aR.cs F dd)) aR.pn (aR.lh F dd) F [] 1 aR.code (fun tm H=>aresults tabs.ty H tm Try.f83.results.toList fun v=>some (v,H)) (fun _ _ _=>none) (fun tm H=>aresults tabs.ty H tm Try.f83.results.toList fun v=>some (v,H)):=by
 exact loops_none (by kernel_rfl)
theorem aR.eqX (F:Nat) (dd:Int→Int→Hp→OA) (aa:Int) (ac:Nat) (af:Nat) (H:Hp):aCode tabs (mkOrc (aR.cs F dd)) aR.pn (aR.lh F dd) F [] 1 aR.code (argTm [(.int .i64 aa),(.ptr ac af)]) H (fun tm H=>aresults tabs.ty H tm Try.f83.results.toList fun v=>some (v,H)) (fun _ _ _=>none) (fun tm H=>aresults tabs.ty H tm Try.f83.results.toList fun v=>some (v,H)) = aR.twX F dd aa ac af H:=by kernel_rfl
theorem aR.cs_ok (F:Nat):∀ p ∈ aR.cs F (aQ.tw F),∀ args H v H',p.2 args H = some (v,H')→Go.AE.T Try.prog p.1 args H v H':=by
 intro p hp
 simp only [aR.cs,List.mem_cons,List.not_mem_nil,or_false] at hp
 subst hp
 exact fun args H v H' h=>aQ.mk_T h
theorem aR.ok:codeOk aR.pn Try.f83.ntmps aR.tb aR.code = true:=by kernel_rfl
theorem aR.T {F:Nat} {aa:Int} {ac:Nat} {af:Nat} {H:Hp} {v:AV} {H':Hp} (h:aR.tw F aa ac af H = some (v,H')):Go.AE.T Try.prog 83 [(.int .i64 aa),(.ptr ac af)] H v H':=
 Go.AE.T.of (Y:=tabs) (C:=mkOrc (aR.cs F (aQ.tw F))) (PN:=aR.pn) (LH:=aR.lh F (aQ.tw F)) (F:=F) (TB:=aR.tb) (fn:=Try.f83) (code:=aR.code) mixed tabs_ok (mkOrc_ok (aR.cs_ok F)) Try.func83 (by kernel_rfl) (by kernel_rfl) aR.ok (Nat.le_of_ble_eq_true (by kernel_rfl)) (aR.loops F (aQ.tw F)) (Eq.trans (aR.eqX F (aQ.tw F) aa ac af H) h)
theorem aR.mk_T {F:Nat} {args:List AV} {H:Hp} {v:AV} {H':Hp} (h:aR.mk (aR.tw F) args H = some (v,H')):Go.AE.T Try.prog 83 args H v H':=by
 unfold aR.mk at h
 split at h
 ·exact aR.T h
 ·cases h
noncomputable def ap.l13 (F:Nat) (bK:Int→Nat→Nat→Hp→OA) :Nat→Sl→Nat→Nat→Int→Int→Hp→OA
 | 0,_,_,_,_,_,_=>none
 | dC + 1,bl,ac,af,bZ,bL,H8=>(bif (decide (bL < bZ)) then ((Sl.idx bl bL 1).bind fun p13=>(Hp.ldI H8 .i64 p13.1 p13.2).bind fun n14=>(bK n14 ac af H8).bind fun r15=>((r15.1).asB).bind fun b16=>(bif b16 then (some ((.int .i64 bL),r15.2)) else (ap.l13 F bK dC bl ac af bZ (IntKind.i64.wrap (bL + 1)) r15.2))) else (some ((.int .i64 (-1)),H8)))
termination_by structural n=>n
noncomputable def ap.twX (F:Nat) (bK:Int→Nat→Nat→Hp→OA) (aa:Sl) (ac:Nat) (af:Nat) (H:Hp):OA:=ap.l13 F bK F aa ac af (aa.n:Int) 0 H
noncomputable def ap.tw (F:Nat) (aa:Sl) (ac:Nat) (af:Nat) (H:Hp):OA:=ap.twX F (aR.tw F) aa ac af H
noncomputable def ap.code:Go.Code:=(Try.f82.body).getD .skip
noncomputable def ap.lh13 (F:Nat) (bK:Int→Nat→Nat→Hp→OA) (ks:List Nat) (n:Nat) (tm:Tm) (H:Hp):OA:=match ks,tm 0,tm 1,tm 7,tm 8 with
 | [],(.sl bl),(.fn 83 [(.ptr ac af)]),(.int .i64 bZ),(.int .i64 bL)=>ap.l13 F bK n bl ac af bZ bL H
 | _,_,_,_,_=>none
theorem ap.lh13_inv {F:Nat} {bK:Int→Nat→Nat→Hp→OA} {ks:List Nat} {n:Nat} {tm:Tm} {H:Hp} {r:AV×Hp} (h:ap.lh13 F bK ks n tm H = some r):∃ bl:Sl,∃ ac:Nat,∃ af:Nat,∃ bZ:Int,∃ bL:Int,ks = []∧tm 0 = (.sl bl)∧tm 1 = (.fn 83 [(.ptr ac af)])∧tm 7 = (.int .i64 bZ)∧tm 8 = (.int .i64 bL)∧ap.l13 F bK n bl ac af bZ bL H = some r:=by
 unfold ap.lh13 at h
 split at h
 ·exact ⟨_,_,_,_,_,rfl,by assumption,by assumption,by assumption,by assumption,h⟩
 ·cases h
noncomputable def ap.lh (F:Nat) (bK:Int→Nat→Nat→Hp→OA) (p:Nat) (ks:List Nat) (n:Nat) (tm:Tm) (H:Hp):OA:=bif p.beq 13 then ap.lh13 F bK ks n tm H else (none)
def ap.pn:Nat→List Nat:=fun i=>(([]:List (Nat×List Nat)).lookup i).getD []
def ap.tb:Nat→List (List Nat):=fun i=>(([]:List (Nat×List (List Nat))).lookup i).getD []
noncomputable def ap.mk (g:Sl→Nat→Nat→Hp→OA) (args:List AV) (H:Hp):OA:=match args with
 | [(.sl aa),(.fn 83 [(.ptr ac af)])]=>g aa ac af H
 | _=>none
noncomputable def ap.cs (F:Nat) (bK:Int→Nat→Nat→Hp→OA):List (FuncId×(List AV→Hp→OA)):=[(83,aR.mk bK)]
theorem ap.loops (F:Nat) (bK:Int→Nat→Nat→Hp→OA):LoopsOk tabs (mkOrc (ap.cs F bK)) ap.pn (ap.lh F bK) F [] 1 ap.code (fun tm H=>aresults tabs.ty H tm Try.f82.results.toList fun v=>some (v,H)) (fun _ _ _=>none) (fun tm H=>aresults tabs.ty H tm Try.f82.results.toList fun v=>some (v,H)):=by
 refine LoopsOk.seq ?_ ?_
 ·exact loops_none (by kernel_rfl)
 ·refine LoopsOk.seq ?_ ?_
  ·refine LoopsOk.seq ?_ ?_
   ·exact loops_none (by kernel_rfl)
   ·refine LoopsOk.block ?_
    refine LoopsOk.loop (fun tm H=>?_) (fun k13 tm H r h0=>?_) (fun k13=>?_)
    ·refine none_of fun r h0=>?_
     obtain ⟨bl,ac,af,bZ,bL,hks,e0,e1,e7,e8,h⟩:=ap.lh13_inv (show ap.lh13 F bK [] 0 tm H = some r from h0)
     cases h
    ·obtain ⟨bl,ac,af,bZ,bL,hks,e0,e1,e7,e8,h⟩:=ap.lh13_inv (show ap.lh13 F bK [] (k13 + 1) tm H = some r from h0)
     have q0:(Tm.put tm 0 (.sl bl)) = tm:=by exact Tm.put_same e0
     have q1:(Tm.put (Tm.put tm 0 (.sl bl)) 1 (.fn 83 [(.ptr ac af)])) = tm:=by rw [q0]; exact Tm.put_same e1
     have q2:(Tm.put (Tm.put (Tm.put tm 0 (.sl bl)) 1 (.fn 83 [(.ptr ac af)])) 7 (.int .i64 bZ)) = tm:=by rw [q1]; exact Tm.put_same e7
     have q3:(Tm.put (Tm.put (Tm.put (Tm.put tm 0 (.sl bl)) 1 (.fn 83 [(.ptr ac af)])) 7 (.int .i64 bZ)) 8 (.int .i64 bL)) = tm:=by rw [q2]; exact Tm.put_same e8
     rw [← q3]
     exact Eq.trans (by kernel_rfl) h
    ·exact loops_none (by kernel_rfl)
  ·exact loops_none (by kernel_rfl)
theorem ap.eqX (F:Nat) (bK:Int→Nat→Nat→Hp→OA) (aa:Sl) (ac:Nat) (af:Nat) (H:Hp):aCode tabs (mkOrc (ap.cs F bK)) ap.pn (ap.lh F bK) F [] 1 ap.code (argTm [(.sl aa),(.fn 83 [(.ptr ac af)])]) H (fun tm H=>aresults tabs.ty H tm Try.f82.results.toList fun v=>some (v,H)) (fun _ _ _=>none) (fun tm H=>aresults tabs.ty H tm Try.f82.results.toList fun v=>some (v,H)) = ap.twX F bK aa ac af H:=by kernel_rfl
theorem ap.cs_ok (F:Nat):∀ p ∈ ap.cs F (aR.tw F),∀ args H v H',p.2 args H = some (v,H')→Go.AE.T Try.prog p.1 args H v H':=by
 intro p hp
 simp only [ap.cs,List.mem_cons,List.not_mem_nil,or_false] at hp
 subst hp
 exact fun args H v H' h=>aR.mk_T h
theorem ap.ok:codeOk ap.pn Try.f82.ntmps ap.tb ap.code = true:=by kernel_rfl
theorem ap.T {F:Nat} {aa:Sl} {ac:Nat} {af:Nat} {H:Hp} {v:AV} {H':Hp} (h:ap.tw F aa ac af H = some (v,H')):Go.AE.T Try.prog 82 [(.sl aa),(.fn 83 [(.ptr ac af)])] H v H':=
 Go.AE.T.of (Y:=tabs) (C:=mkOrc (ap.cs F (aR.tw F))) (PN:=ap.pn) (LH:=ap.lh F (aR.tw F)) (F:=F) (TB:=ap.tb) (fn:=Try.f82) (code:=ap.code) mixed tabs_ok (mkOrc_ok (ap.cs_ok F)) Try.func82 (by kernel_rfl) (by kernel_rfl) ap.ok (Nat.le_of_ble_eq_true (by kernel_rfl)) (ap.loops F (aR.tw F)) (Eq.trans (ap.eqX F (aR.tw F) aa ac af H) h)
theorem ap.mk_T {F:Nat} {args:List AV} {H:Hp} {v:AV} {H':Hp} (h:ap.mk (ap.tw F) args H = some (v,H')):Go.AE.T Try.prog 82 args H v H':=by
 unfold ap.mk at h
 split at h
 ·exact ap.T h
 ·cases h
noncomputable def aV.twX (F:Nat) (de:Sl→Nat→Nat→Hp→OA) (aa:Sl) (ac:Nat) (af:Nat) (H:Hp):OA:=(de aa ac af H).bind fun r4=>((r4.1).asI .i64).bind fun n5=>some ((.bool (decide (n5 ≥ 0))),r4.2)
noncomputable def aV.tw (F:Nat) (aa:Sl) (ac:Nat) (af:Nat) (H:Hp):OA:=aV.twX F (ap.tw F) aa ac af H
noncomputable def aV.code:Go.Code:=(Try.f52.body).getD .skip
noncomputable def aV.lh (F:Nat) (de:Sl→Nat→Nat→Hp→OA) (p:Nat) (ks:List Nat) (n:Nat) (tm:Tm) (H:Hp):OA:=none
def aV.pn:Nat→List Nat:=fun i=>(([]:List (Nat×List Nat)).lookup i).getD []
def aV.tb:Nat→List (List Nat):=fun i=>(([]:List (Nat×List (List Nat))).lookup i).getD []
noncomputable def aV.mk (g:Sl→Nat→Nat→Hp→OA) (args:List AV) (H:Hp):OA:=match args with
 | [(.sl aa),(.fn 83 [(.ptr ac af)])]=>g aa ac af H
 | _=>none
noncomputable def aV.cs (F:Nat) (de:Sl→Nat→Nat→Hp→OA):List (FuncId×(List AV→Hp→OA)):=[(82,ap.mk de)]
theorem aV.loops (F:Nat) (de:Sl→Nat→Nat→Hp→OA):LoopsOk tabs (mkOrc (aV.cs F de)) aV.pn (aV.lh F de) F [] 1 aV.code (fun tm H=>aresults tabs.ty H tm Try.f52.results.toList fun v=>some (v,H)) (fun _ _ _=>none) (fun tm H=>aresults tabs.ty H tm Try.f52.results.toList fun v=>some (v,H)):=by
 exact loops_none (by kernel_rfl)
theorem aV.eqX (F:Nat) (de:Sl→Nat→Nat→Hp→OA) (aa:Sl) (ac:Nat) (af:Nat) (H:Hp):aCode tabs (mkOrc (aV.cs F de)) aV.pn (aV.lh F de) F [] 1 aV.code (argTm [(.sl aa),(.fn 83 [(.ptr ac af)])]) H (fun tm H=>aresults tabs.ty H tm Try.f52.results.toList fun v=>some (v,H)) (fun _ _ _=>none) (fun tm H=>aresults tabs.ty H tm Try.f52.results.toList fun v=>some (v,H)) = aV.twX F de aa ac af H:=by kernel_rfl
theorem aV.cs_ok (F:Nat):∀ p ∈ aV.cs F (ap.tw F),∀ args H v H',p.2 args H = some (v,H')→Go.AE.T Try.prog p.1 args H v H':=by
 intro p hp
 simp only [aV.cs,List.mem_cons,List.not_mem_nil,or_false] at hp
 subst hp
 exact fun args H v H' h=>ap.mk_T h
theorem aV.ok:codeOk aV.pn Try.f52.ntmps aV.tb aV.code = true:=by kernel_rfl
theorem aV.T {F:Nat} {aa:Sl} {ac:Nat} {af:Nat} {H:Hp} {v:AV} {H':Hp} (h:aV.tw F aa ac af H = some (v,H')):Go.AE.T Try.prog 52 [(.sl aa),(.fn 83 [(.ptr ac af)])] H v H':=
 Go.AE.T.of (Y:=tabs) (C:=mkOrc (aV.cs F (ap.tw F))) (PN:=aV.pn) (LH:=aV.lh F (ap.tw F)) (F:=F) (TB:=aV.tb) (fn:=Try.f52) (code:=aV.code) mixed tabs_ok (mkOrc_ok (aV.cs_ok F)) Try.func52 (by kernel_rfl) (by kernel_rfl) aV.ok (Nat.le_of_ble_eq_true (by kernel_rfl)) (aV.loops F (ap.tw F)) (Eq.trans (aV.eqX F (ap.tw F) aa ac af H) h)
theorem aV.mk_T {F:Nat} {args:List AV} {H:Hp} {v:AV} {H':Hp} (h:aV.mk (aV.tw F) args H = some (v,H')):Go.AE.T Try.prog 52 args H v H':=by
 unfold aV.mk at h
 split at h
 ·exact aV.T h
 ·cases h
noncomputable def aK.twX (F:Nat) (bC:Int→Int→Int→Hp→OA) (df:Sl→Nat→Nat→Hp→OA) (aa:Int) (ad:Sl) (H:Hp):OA:=(Hp.new H [(.int .i64 aa),(.sl ad)]).bind fun H3=>(Hp.ldI H3 .i64 H.length 0).bind fun n4=>(bC n4 1 6 H3).bind fun r5=>((r5.1).asB).bind fun b6=>(bif b6 then ((Hp.ldSl r5.2 H.length 1).bind fun s7=>(bif (decide ((s7.n:Int) ≤ 24)) then ((Hp.ldSl r5.2 H.length 1).bind fun s8=>(df s8 H.length 0 r5.2).bind fun r9=>((r9.1).asB).bind fun b10=>some ((.bool (!b10)),r9.2)) else (some ((.bool false),r5.2)))) else (some ((.bool false),r5.2)))
noncomputable def aK.tw (F:Nat) (aa:Int) (ad:Sl) (H:Hp):OA:=aK.twX F (aE.tw F) (aV.tw F) aa ad H
noncomputable def aK.code:Go.Code:=(Try.f55.body).getD .skip
noncomputable def aK.lh (F:Nat) (bC:Int→Int→Int→Hp→OA) (df:Sl→Nat→Nat→Hp→OA) (p:Nat) (ks:List Nat) (n:Nat) (tm:Tm) (H:Hp):OA:=none
def aK.pn:Nat→List Nat:=fun i=>(([]:List (Nat×List Nat)).lookup i).getD []
def aK.tb:Nat→List (List Nat):=fun i=>(([]:List (Nat×List (List Nat))).lookup i).getD []
noncomputable def aK.mk (g:Int→Sl→Hp→OA) (args:List AV) (H:Hp):OA:=match args with
 | [(.agg [(.int .i64 aa),(.sl ad)])]=>g aa ad H
 | _=>none
noncomputable def aK.cs (F:Nat) (bC:Int→Int→Int→Hp→OA) (df:Sl→Nat→Nat→Hp→OA):List (FuncId×(List AV→Hp→OA)):=[(50,aE.mk bC),(52,aV.mk df)]
theorem aK.loops (F:Nat) (bC:Int→Int→Int→Hp→OA) (df:Sl→Nat→Nat→Hp→OA):LoopsOk tabs (mkOrc (aK.cs F bC df)) aK.pn (aK.lh F bC df) F [] 1 aK.code (fun tm H=>aresults tabs.ty H tm Try.f55.results.toList fun v=>some (v,H)) (fun _ _ _=>none) (fun tm H=>aresults tabs.ty H tm Try.f55.results.toList fun v=>some (v,H)):=by
 exact loops_none (by kernel_rfl)
theorem aK.eqX (F:Nat) (bC:Int→Int→Int→Hp→OA) (df:Sl→Nat→Nat→Hp→OA) (aa:Int) (ad:Sl) (H:Hp):aCode tabs (mkOrc (aK.cs F bC df)) aK.pn (aK.lh F bC df) F [] 1 aK.code (argTm [(.agg [(.int .i64 aa),(.sl ad)])]) H (fun tm H=>aresults tabs.ty H tm Try.f55.results.toList fun v=>some (v,H)) (fun _ _ _=>none) (fun tm H=>aresults tabs.ty H tm Try.f55.results.toList fun v=>some (v,H)) = aK.twX F bC df aa ad H:=by kernel_rfl
theorem aK.cs_ok (F:Nat):∀ p ∈ aK.cs F (aE.tw F) (aV.tw F),∀ args H v H',p.2 args H = some (v,H')→Go.AE.T Try.prog p.1 args H v H':=by
 intro p hp
 simp only [aK.cs,List.mem_cons,List.not_mem_nil,or_false] at hp
 rcases hp with rfl | rfl
 ·exact fun args H v H' h=>aE.mk_T h
 ·exact fun args H v H' h=>aV.mk_T h
theorem aK.ok:codeOk aK.pn Try.f55.ntmps aK.tb aK.code = true:=by kernel_rfl
theorem aK.T {F:Nat} {aa:Int} {ad:Sl} {H:Hp} {v:AV} {H':Hp} (h:aK.tw F aa ad H = some (v,H')):Go.AE.T Try.prog 55 [(.agg [(.int .i64 aa),(.sl ad)])] H v H':=
 Go.AE.T.of (Y:=tabs) (C:=mkOrc (aK.cs F (aE.tw F) (aV.tw F))) (PN:=aK.pn) (LH:=aK.lh F (aE.tw F) (aV.tw F)) (F:=F) (TB:=aK.tb) (fn:=Try.f55) (code:=aK.code) mixed tabs_ok (mkOrc_ok (aK.cs_ok F)) Try.func55 (by kernel_rfl) (by kernel_rfl) aK.ok (Nat.le_of_ble_eq_true (by kernel_rfl)) (aK.loops F (aE.tw F) (aV.tw F)) (Eq.trans (aK.eqX F (aE.tw F) (aV.tw F) aa ad H) h)
theorem aK.mk_T {F:Nat} {args:List AV} {H:Hp} {v:AV} {H':Hp} (h:aK.mk (aK.tw F) args H = some (v,H')):Go.AE.T Try.prog 55 args H v H':=by
 unfold aK.mk at h
 split at h
 ·exact aK.T h
 ·cases h
noncomputable def bits_Mul64.twX (F:Nat) (aa:Int) (ac:Int) (H:Hp):OA:=some ((.tup [(.int .u64 (IntKind.u64.wrap ((IntKind.u64.wrap ((IntKind.u64.wrap ((Int.fdiv aa (2 ^ (min (32:Int).toNat (IntKind.u64).bits))) * (Int.fdiv ac (2 ^ (min (32:Int).toNat (IntKind.u64).bits))))) + (Int.fdiv (IntKind.u64.wrap ((IntKind.u64.wrap ((Int.fdiv aa (2 ^ (min (32:Int).toNat (IntKind.u64).bits))) * (Go.bits .and .u64 ac 4294967295))) + (Int.fdiv (IntKind.u64.wrap ((Go.bits .and .u64 aa 4294967295) * (Go.bits .and .u64 ac 4294967295))) (2 ^ (min (32:Int).toNat (IntKind.u64).bits))))) (2 ^ (min (32:Int).toNat (IntKind.u64).bits))))) + (Int.fdiv (IntKind.u64.wrap ((Go.bits .and .u64 (IntKind.u64.wrap ((IntKind.u64.wrap ((Int.fdiv aa (2 ^ (min (32:Int).toNat (IntKind.u64).bits))) * (Go.bits .and .u64 ac 4294967295))) + (Int.fdiv (IntKind.u64.wrap ((Go.bits .and .u64 aa 4294967295) * (Go.bits .and .u64 ac 4294967295))) (2 ^ (min (32:Int).toNat (IntKind.u64).bits))))) 4294967295) + (IntKind.u64.wrap ((Go.bits .and .u64 aa 4294967295) * (Int.fdiv ac (2 ^ (min (32:Int).toNat (IntKind.u64).bits))))))) (2 ^ (min (32:Int).toNat (IntKind.u64).bits)))))),(.int .u64 (IntKind.u64.wrap (aa * ac)))]),H)
noncomputable def bits_Mul64.tw (F:Nat) (aa:Int) (ac:Int) (H:Hp):OA:=bits_Mul64.twX F aa ac H
noncomputable def bits_Mul64.code:Go.Code:=(Try.f92.body).getD .skip
noncomputable def bits_Mul64.lh (F:Nat) (p:Nat) (ks:List Nat) (n:Nat) (tm:Tm) (H:Hp):OA:=none
def bits_Mul64.pn:Nat→List Nat:=fun i=>(([]:List (Nat×List Nat)).lookup i).getD []
def bits_Mul64.tb:Nat→List (List Nat):=fun i=>(([]:List (Nat×List (List Nat))).lookup i).getD []
noncomputable def bits_Mul64.mk (g:Int→Int→Hp→OA) (args:List AV) (H:Hp):OA:=match args with
 | [(.int .u64 aa),(.int .u64 ac)]=>g aa ac H
 | _=>none
noncomputable def bits_Mul64.cs (F:Nat):List (FuncId×(List AV→Hp→OA)):=[]
theorem bits_Mul64.loops (F:Nat):LoopsOk tabs (mkOrc (bits_Mul64.cs F)) bits_Mul64.pn (bits_Mul64.lh F) F [] 1 bits_Mul64.code (fun tm H=>aresults tabs.ty H tm Try.f92.results.toList fun v=>some (v,H)) (fun _ _ _=>none) (fun tm H=>aresults tabs.ty H tm Try.f92.results.toList fun v=>some (v,H)):=by
 exact loops_none (by kernel_rfl)
theorem bits_Mul64.eqX (F:Nat) (aa:Int) (ac:Int) (H:Hp):aCode tabs (mkOrc (bits_Mul64.cs F)) bits_Mul64.pn (bits_Mul64.lh F) F [] 1 bits_Mul64.code (argTm [(.int .u64 aa),(.int .u64 ac)]) H (fun tm H=>aresults tabs.ty H tm Try.f92.results.toList fun v=>some (v,H)) (fun _ _ _=>none) (fun tm H=>aresults tabs.ty H tm Try.f92.results.toList fun v=>some (v,H)) = bits_Mul64.twX F aa ac H:=by kernel_rfl
theorem bits_Mul64.cs_ok (F:Nat):∀ p ∈ bits_Mul64.cs F,∀ args H v H',p.2 args H = some (v,H')→Go.AE.T Try.prog p.1 args H v H':=by
 intro p hp
 exact absurd (show p ∈ [] from hp) List.not_mem_nil
theorem bits_Mul64.ok:codeOk bits_Mul64.pn Try.f92.ntmps bits_Mul64.tb bits_Mul64.code = true:=by kernel_rfl
theorem bits_Mul64.T {F:Nat} {aa:Int} {ac:Int} {H:Hp} {v:AV} {H':Hp} (h:bits_Mul64.tw F aa ac H = some (v,H')):Go.AE.T Try.prog 92 [(.int .u64 aa),(.int .u64 ac)] H v H':=
 Go.AE.T.of (Y:=tabs) (C:=mkOrc (bits_Mul64.cs F)) (PN:=bits_Mul64.pn) (LH:=bits_Mul64.lh F) (F:=F) (TB:=bits_Mul64.tb) (fn:=Try.f92) (code:=bits_Mul64.code) mixed tabs_ok (mkOrc_ok (bits_Mul64.cs_ok F)) Try.func92 (by kernel_rfl) (by kernel_rfl) bits_Mul64.ok (Nat.le_of_ble_eq_true (by kernel_rfl)) (bits_Mul64.loops F) (Eq.trans (bits_Mul64.eqX F aa ac H) h)
theorem bits_Mul64.mk_T {F:Nat} {args:List AV} {H:Hp} {v:AV} {H':Hp} (h:bits_Mul64.mk (bits_Mul64.tw F) args H = some (v,H')):Go.AE.T Try.prog 92 args H v H':=by
 unfold bits_Mul64.mk at h
 split at h
 ·exact bits_Mul64.T h
 ·cases h
noncomputable def bits_Mul.twX (F:Nat) (g_bits_Mul64:Int→Int→Hp→OA) (aa:Int) (ac:Int) (H:Hp):OA:=(g_bits_Mul64 aa ac H).bind fun r3=>((r3.1).asTup 2).bind fun l4=>(l4[0]?).bind fun v5=>((v5).asI .u64).bind fun n6=>(l4[1]?).bind fun v7=>((v7).asI .u64).bind fun n8=>some ((.tup [(.int .u64 n6),(.int .u64 n8)]),r3.2)
noncomputable def bits_Mul.tw (F:Nat) (aa:Int) (ac:Int) (H:Hp):OA:=bits_Mul.twX F (bits_Mul64.tw F) aa ac H
noncomputable def bits_Mul.code:Go.Code:=(Try.f88.body).getD .skip
noncomputable def bits_Mul.lh (F:Nat) (g_bits_Mul64:Int→Int→Hp→OA) (p:Nat) (ks:List Nat) (n:Nat) (tm:Tm) (H:Hp):OA:=none
def bits_Mul.pn:Nat→List Nat:=fun i=>(([]:List (Nat×List Nat)).lookup i).getD []
def bits_Mul.tb:Nat→List (List Nat):=fun i=>(([]:List (Nat×List (List Nat))).lookup i).getD []
noncomputable def bits_Mul.mk (g:Int→Int→Hp→OA) (args:List AV) (H:Hp):OA:=match args with
 | [(.int .u64 aa),(.int .u64 ac)]=>g aa ac H
 | _=>none
noncomputable def bits_Mul.cs (F:Nat) (g_bits_Mul64:Int→Int→Hp→OA):List (FuncId×(List AV→Hp→OA)):=[(92,bits_Mul64.mk g_bits_Mul64)]
theorem bits_Mul.loops (F:Nat) (g_bits_Mul64:Int→Int→Hp→OA):LoopsOk tabs (mkOrc (bits_Mul.cs F g_bits_Mul64)) bits_Mul.pn (bits_Mul.lh F g_bits_Mul64) F [] 1 bits_Mul.code (fun tm H=>aresults tabs.ty H tm Try.f88.results.toList fun v=>some (v,H)) (fun _ _ _=>none) (fun tm H=>aresults tabs.ty H tm Try.f88.results.toList fun v=>some (v,H)):=by
 exact loops_none (by kernel_rfl)
theorem bits_Mul.eqX (F:Nat) (g_bits_Mul64:Int→Int→Hp→OA) (aa:Int) (ac:Int) (H:Hp):aCode tabs (mkOrc (bits_Mul.cs F g_bits_Mul64)) bits_Mul.pn (bits_Mul.lh F g_bits_Mul64) F [] 1 bits_Mul.code (argTm [(.int .u64 aa),(.int .u64 ac)]) H (fun tm H=>aresults tabs.ty H tm Try.f88.results.toList fun v=>some (v,H)) (fun _ _ _=>none) (fun tm H=>aresults tabs.ty H tm Try.f88.results.toList fun v=>some (v,H)) = bits_Mul.twX F g_bits_Mul64 aa ac H:=by kernel_rfl
theorem bits_Mul.cs_ok (F:Nat):∀ p ∈ bits_Mul.cs F (bits_Mul64.tw F),∀ args H v H',p.2 args H = some (v,H')→Go.AE.T Try.prog p.1 args H v H':=by
 intro p hp
 simp only [bits_Mul.cs,List.mem_cons,List.not_mem_nil,or_false] at hp
 subst hp
 exact fun args H v H' h=>bits_Mul64.mk_T h
theorem bits_Mul.ok:codeOk bits_Mul.pn Try.f88.ntmps bits_Mul.tb bits_Mul.code = true:=by kernel_rfl
theorem bits_Mul.T {F:Nat} {aa:Int} {ac:Int} {H:Hp} {v:AV} {H':Hp} (h:bits_Mul.tw F aa ac H = some (v,H')):Go.AE.T Try.prog 88 [(.int .u64 aa),(.int .u64 ac)] H v H':=
 Go.AE.T.of (Y:=tabs) (C:=mkOrc (bits_Mul.cs F (bits_Mul64.tw F))) (PN:=bits_Mul.pn) (LH:=bits_Mul.lh F (bits_Mul64.tw F)) (F:=F) (TB:=bits_Mul.tb) (fn:=Try.f88) (code:=bits_Mul.code) mixed tabs_ok (mkOrc_ok (bits_Mul.cs_ok F)) Try.func88 (by kernel_rfl) (by kernel_rfl) bits_Mul.ok (Nat.le_of_ble_eq_true (by kernel_rfl)) (bits_Mul.loops F (bits_Mul64.tw F)) (Eq.trans (bits_Mul.eqX F (bits_Mul64.tw F) aa ac H) h)
theorem bits_Mul.mk_T {F:Nat} {args:List AV} {H:Hp} {v:AV} {H':Hp} (h:bits_Mul.mk (bits_Mul.tw F) args H = some (v,H')):Go.AE.T Try.prog 88 args H v H':=by
 unfold bits_Mul.mk at h
 split at h
 ·exact bits_Mul.T h
 ·cases h
noncomputable def ah.l254 (F:Nat) (g_bits_Mul:Int→Int→Hp→OA) :Nat→Sl→Int→Hp→OA
 | 0,_,_,_=>none
 | jB + 1,cC,cU,H33=>(bif (decide (cU < (cC.n:Int))) then ((Sl.cut cC 1 cU (cC.n:Int)).bind fun s37=>(Sl.cut cC 1 0 cU).bind fun s38=>(Hp.cpy H33 1 s37 s38).bind fun c39=>ah.l254 F g_bits_Mul jB cC (IntKind.i64.wrap (cU + (c39.1:Int))) c39.2) else (some ((.sl cC),H33)))
termination_by structural n=>n
noncomputable def ah.j1 (F:Nat) (g_bits_Mul:Int→Int→Hp→OA) (jC:Sl) (ea:Int) (H21:Hp):OA:=(Hp.mk H21 [.int .i64 0] 8 (IntKind.i64.wrap ea) (IntKind.i64.wrap ea)).bind fun m22=>(Hp.cpy m22.2 1 m22.1 jC).bind fun c23=>ah.l254 F g_bits_Mul F m22.1 (c23.1:Int) c23.2
noncomputable def ah.j2 (F:Nat) (g_bits_Mul:Int→Int→Hp→OA) (hO:Sl) (ej:Int) (H7:Hp):OA:=(g_bits_Mul (IntKind.u64.wrap (hO.n:Int)) (IntKind.u64.wrap ej) H7).bind fun r8=>((r8.1).asTup 2).bind fun l9=>(l9[0]?).bind fun v10=>((v10).asI .u64).bind fun n11=>(l9[1]?).bind fun v12=>((v12).asI .u64).bind fun n13=>(bif (decide (n11 > 0)) then (none) else ((bif (decide (n13 > 9223372036854775807)) then (none) else (ah.j1 F g_bits_Mul hO n13 r8.2))))
noncomputable def ah.twX (F:Nat) (g_bits_Mul:Int→Int→Hp→OA) (aa:Sl) (ac:Int) (H:Hp):OA:=(bif (decide (ac < 0)) then (none) else (ah.j2 F g_bits_Mul aa ac H))
noncomputable def ah.tw (F:Nat) (aa:Sl) (ac:Int) (H:Hp):OA:=ah.twX F (bits_Mul.tw F) aa ac H
noncomputable def ah.code:Go.Code:=(Try.f77.body).getD .skip
noncomputable def ah.lh254 (F:Nat) (g_bits_Mul:Int→Int→Hp→OA) (ks:List Nat) (n:Nat) (tm:Tm) (H:Hp):OA:=match ks,tm 7,tm 8 with
 | [],(.sl cC),(.int .i64 cU)=>ah.l254 F g_bits_Mul n cC cU H
 | _,_,_=>none
theorem ah.lh254_inv {F:Nat} {g_bits_Mul:Int→Int→Hp→OA} {ks:List Nat} {n:Nat} {tm:Tm} {H:Hp} {r:AV×Hp} (h:ah.lh254 F g_bits_Mul ks n tm H = some r):∃ cC:Sl,∃ cU:Int,ks = []∧tm 7 = (.sl cC)∧tm 8 = (.int .i64 cU)∧ah.l254 F g_bits_Mul n cC cU H = some r:=by
 unfold ah.lh254 at h
 split at h
 ·exact ⟨_,_,rfl,by assumption,by assumption,h⟩
 ·cases h
noncomputable def ah.lh (F:Nat) (g_bits_Mul:Int→Int→Hp→OA) (p:Nat) (ks:List Nat) (n:Nat) (tm:Tm) (H:Hp):OA:=bif p.beq 254 then ah.lh254 F g_bits_Mul ks n tm H else (none)
def ah.pn:Nat→List Nat:=fun i=>(([(9,[7])]:List (Nat×List Nat)).lookup i).getD []
def ah.tb:Nat→List (List Nat):=fun i=>(([(9,[[],[],[],[1,2],[],[],[4,5],[1,2,3,4,5,6],[0,1,2,3,4,5,6,7],[0,1,2,3,4,5,6,7,8]])]:List (Nat×List (List Nat))).lookup i).getD []
noncomputable def ah.mk (g:Sl→Int→Hp→OA) (args:List AV) (H:Hp):OA:=match args with
 | [(.sl aa),(.int .i64 ac)]=>g aa ac H
 | _=>none
noncomputable def ah.cs (F:Nat) (g_bits_Mul:Int→Int→Hp→OA):List (FuncId×(List AV→Hp→OA)):=[(88,bits_Mul.mk g_bits_Mul)]
theorem ah.loops (F:Nat) (g_bits_Mul:Int→Int→Hp→OA):LoopsOk tabs (mkOrc (ah.cs F g_bits_Mul)) ah.pn (ah.lh F g_bits_Mul) F [] 1 ah.code (fun tm H=>aresults tabs.ty H tm Try.f77.results.toList fun v=>some (v,H)) (fun _ _ _=>none) (fun tm H=>aresults tabs.ty H tm Try.f77.results.toList fun v=>some (v,H)):=by
 refine LoopsOk.seq ?_ ?_
 ·exact loops_none (by kernel_rfl)
 ·refine LoopsOk.seq ?_ ?_
  ·exact loops_none (by kernel_rfl)
  ·refine LoopsOk.seq ?_ ?_
   ·exact loops_none (by kernel_rfl)
   ·refine LoopsOk.seq ?_ ?_
    ·exact loops_none (by kernel_rfl)
    ·refine LoopsOk.seq ?_ ?_
     ·exact loops_none (by kernel_rfl)
     ·refine LoopsOk.seq ?_ ?_
      ·exact loops_none (by kernel_rfl)
      ·refine LoopsOk.seq ?_ ?_
       ·refine LoopsOk.block ?_
        refine LoopsOk.loop (fun tm H=>?_) (fun k254 tm H r h0=>?_) (fun k254=>?_)
        ·refine none_of fun r h0=>?_
         obtain ⟨cC,cU,hks,e7,e8,h⟩:=ah.lh254_inv (show ah.lh254 F g_bits_Mul [] 0 tm H = some r from h0)
         cases h
        ·obtain ⟨cC,cU,hks,e7,e8,h⟩:=ah.lh254_inv (show ah.lh254 F g_bits_Mul [] (k254 + 1) tm H = some r from h0)
         have q0:(Tm.put tm 7 (.sl cC)) = tm:=by exact Tm.put_same e7
         have q1:(Tm.put (Tm.put tm 7 (.sl cC)) 8 (.int .i64 cU)) = tm:=by rw [q0]; exact Tm.put_same e8
         rw [← q1]
         exact Eq.trans (by kernel_rfl) h
        ·exact loops_none (by kernel_rfl)
       ·exact loops_none (by kernel_rfl)
theorem ah.eqX (F:Nat) (g_bits_Mul:Int→Int→Hp→OA) (aa:Sl) (ac:Int) (H:Hp):aCode tabs (mkOrc (ah.cs F g_bits_Mul)) ah.pn (ah.lh F g_bits_Mul) F [] 1 ah.code (argTm [(.sl aa),(.int .i64 ac)]) H (fun tm H=>aresults tabs.ty H tm Try.f77.results.toList fun v=>some (v,H)) (fun _ _ _=>none) (fun tm H=>aresults tabs.ty H tm Try.f77.results.toList fun v=>some (v,H)) = ah.twX F g_bits_Mul aa ac H:=by kernel_rfl
theorem ah.cs_ok (F:Nat):∀ p ∈ ah.cs F (bits_Mul.tw F),∀ args H v H',p.2 args H = some (v,H')→Go.AE.T Try.prog p.1 args H v H':=by
 intro p hp
 simp only [ah.cs,List.mem_cons,List.not_mem_nil,or_false] at hp
 subst hp
 exact fun args H v H' h=>bits_Mul.mk_T h
theorem ah.ok:codeOk ah.pn Try.f77.ntmps ah.tb ah.code = true:=by kernel_rfl
theorem ah.T {F:Nat} {aa:Sl} {ac:Int} {H:Hp} {v:AV} {H':Hp} (h:ah.tw F aa ac H = some (v,H')):Go.AE.T Try.prog 77 [(.sl aa),(.int .i64 ac)] H v H':=
 Go.AE.T.of (Y:=tabs) (C:=mkOrc (ah.cs F (bits_Mul.tw F))) (PN:=ah.pn) (LH:=ah.lh F (bits_Mul.tw F)) (F:=F) (TB:=ah.tb) (fn:=Try.f77) (code:=ah.code) mixed tabs_ok (mkOrc_ok (ah.cs_ok F)) Try.func77 (by kernel_rfl) (by kernel_rfl) ah.ok (Nat.le_of_ble_eq_true (by kernel_rfl)) (ah.loops F (bits_Mul.tw F)) (Eq.trans (ah.eqX F (bits_Mul.tw F) aa ac H) h)
theorem ah.mk_T {F:Nat} {args:List AV} {H:Hp} {v:AV} {H':Hp} (h:ah.mk (ah.tw F) args H = some (v,H')):Go.AE.T Try.prog 77 args H v H':=by
 unfold ah.mk at h
 split at h
 ·exact ah.T h
 ·cases h
noncomputable def aF.twX (F:Nat) (aa:Int) (H:Hp):OA:=(bif (decide (aa < 0)) then (some ((.int .i64 (IntKind.i64.wrap (0 - aa))),H)) else (some ((.int .i64 aa),H)))
noncomputable def aF.tw (F:Nat) (aa:Int) (H:Hp):OA:=aF.twX F aa H
noncomputable def aF.code:Go.Code:=(Try.f69.body).getD .skip
noncomputable def aF.lh (F:Nat) (p:Nat) (ks:List Nat) (n:Nat) (tm:Tm) (H:Hp):OA:=none
def aF.pn:Nat→List Nat:=fun i=>(([]:List (Nat×List Nat)).lookup i).getD []
def aF.tb:Nat→List (List Nat):=fun i=>(([]:List (Nat×List (List Nat))).lookup i).getD []
noncomputable def aF.mk (g:Int→Hp→OA) (args:List AV) (H:Hp):OA:=match args with
 | [(.int .i64 aa)]=>g aa H
 | _=>none
noncomputable def aF.cs (F:Nat):List (FuncId×(List AV→Hp→OA)):=[]
theorem aF.loops (F:Nat):LoopsOk tabs (mkOrc (aF.cs F)) aF.pn (aF.lh F) F [] 1 aF.code (fun tm H=>aresults tabs.ty H tm Try.f69.results.toList fun v=>some (v,H)) (fun _ _ _=>none) (fun tm H=>aresults tabs.ty H tm Try.f69.results.toList fun v=>some (v,H)):=by
 exact loops_none (by kernel_rfl)
theorem aF.eqX (F:Nat) (aa:Int) (H:Hp):aCode tabs (mkOrc (aF.cs F)) aF.pn (aF.lh F) F [] 1 aF.code (argTm [(.int .i64 aa)]) H (fun tm H=>aresults tabs.ty H tm Try.f69.results.toList fun v=>some (v,H)) (fun _ _ _=>none) (fun tm H=>aresults tabs.ty H tm Try.f69.results.toList fun v=>some (v,H)) = aF.twX F aa H:=by kernel_rfl
theorem aF.cs_ok (F:Nat):∀ p ∈ aF.cs F,∀ args H v H',p.2 args H = some (v,H')→Go.AE.T Try.prog p.1 args H v H':=by
 intro p hp
 exact absurd (show p ∈ [] from hp) List.not_mem_nil
theorem aF.ok:codeOk aF.pn Try.f69.ntmps aF.tb aF.code = true:=by kernel_rfl
theorem aF.T {F:Nat} {aa:Int} {H:Hp} {v:AV} {H':Hp} (h:aF.tw F aa H = some (v,H')):Go.AE.T Try.prog 69 [(.int .i64 aa)] H v H':=
 Go.AE.T.of (Y:=tabs) (C:=mkOrc (aF.cs F)) (PN:=aF.pn) (LH:=aF.lh F) (F:=F) (TB:=aF.tb) (fn:=Try.f69) (code:=aF.code) mixed tabs_ok (mkOrc_ok (aF.cs_ok F)) Try.func69 (by kernel_rfl) (by kernel_rfl) aF.ok (Nat.le_of_ble_eq_true (by kernel_rfl)) (aF.loops F) (Eq.trans (aF.eqX F aa H) h)
theorem aF.mk_T {F:Nat} {args:List AV} {H:Hp} {v:AV} {H':Hp} (h:aF.mk (aF.tw F) args H = some (v,H')):Go.AE.T Try.prog 69 args H v H':=by
 unfold aF.mk at h
 split at h
 ·exact aF.T h
 ·cases h
noncomputable def aN.twX (F:Nat) (aa:Bool) (H:Hp):OA:=(bif aa then (some ((.int .i64 1),H)) else (some ((.int .i64 0),H)))
noncomputable def aN.tw (F:Nat) (aa:Bool) (H:Hp):OA:=aN.twX F aa H
noncomputable def aN.code:Go.Code:=(Try.f78.body).getD .skip
noncomputable def aN.lh (F:Nat) (p:Nat) (ks:List Nat) (n:Nat) (tm:Tm) (H:Hp):OA:=none
def aN.pn:Nat→List Nat:=fun i=>(([]:List (Nat×List Nat)).lookup i).getD []
def aN.tb:Nat→List (List Nat):=fun i=>(([]:List (Nat×List (List Nat))).lookup i).getD []
noncomputable def aN.mk (g:Bool→Hp→OA) (args:List AV) (H:Hp):OA:=match args with
 | [(.bool aa)]=>g aa H
 | _=>none
noncomputable def aN.cs (F:Nat):List (FuncId×(List AV→Hp→OA)):=[]
theorem aN.loops (F:Nat):LoopsOk tabs (mkOrc (aN.cs F)) aN.pn (aN.lh F) F [] 1 aN.code (fun tm H=>aresults tabs.ty H tm Try.f78.results.toList fun v=>some (v,H)) (fun _ _ _=>none) (fun tm H=>aresults tabs.ty H tm Try.f78.results.toList fun v=>some (v,H)):=by
 exact loops_none (by kernel_rfl)
theorem aN.eqX (F:Nat) (aa:Bool) (H:Hp):aCode tabs (mkOrc (aN.cs F)) aN.pn (aN.lh F) F [] 1 aN.code (argTm [(.bool aa)]) H (fun tm H=>aresults tabs.ty H tm Try.f78.results.toList fun v=>some (v,H)) (fun _ _ _=>none) (fun tm H=>aresults tabs.ty H tm Try.f78.results.toList fun v=>some (v,H)) = aN.twX F aa H:=by kernel_rfl
theorem aN.cs_ok (F:Nat):∀ p ∈ aN.cs F,∀ args H v H',p.2 args H = some (v,H')→Go.AE.T Try.prog p.1 args H v H':=by
 intro p hp
 exact absurd (show p ∈ [] from hp) List.not_mem_nil
theorem aN.ok:codeOk aN.pn Try.f78.ntmps aN.tb aN.code = true:=by kernel_rfl
theorem aN.T {F:Nat} {aa:Bool} {H:Hp} {v:AV} {H':Hp} (h:aN.tw F aa H = some (v,H')):Go.AE.T Try.prog 78 [(.bool aa)] H v H':=
 Go.AE.T.of (Y:=tabs) (C:=mkOrc (aN.cs F)) (PN:=aN.pn) (LH:=aN.lh F) (F:=F) (TB:=aN.tb) (fn:=Try.f78) (code:=aN.code) mixed tabs_ok (mkOrc_ok (aN.cs_ok F)) Try.func78 (by kernel_rfl) (by kernel_rfl) aN.ok (Nat.le_of_ble_eq_true (by kernel_rfl)) (aN.loops F) (Eq.trans (aN.eqX F aa H) h)
theorem aN.mk_T {F:Nat} {args:List AV} {H:Hp} {v:AV} {H':Hp} (h:aN.mk (aN.tw F) args H = some (v,H')):Go.AE.T Try.prog 78 args H v H':=by
 unfold aN.mk at h
 split at h
 ·exact aN.T h
 ·cases h
noncomputable def ag.l509 (F:Nat) (bd:Int→Sl→Hp→OA) (bf:Sl→Int→Hp→OA) (bb:Int→Hp→OA) (bg:Bool→Hp→OA) :Nat→Nat→Nat→Sl→Nat→Nat→Sl→Int→Int→Hp→OA
 | 0,_,_,_,_,_,_,_,_,_=>none
 | hP + 1,bz,b_,cA,bA,ca,cP,bQ,bc,H540=>(bif (decide (bc < bQ)) then ((Sl.idx cP bc 1).bind fun p594=>(Hp.ldI H540 .i64 p594.1 p594.2).bind fun n595=>(bb n595 H540).bind fun r596=>((r596.1).asI .i64).bind fun n597=>(Sl.idx cA (IntKind.i64.wrap (n597 - 1)) 1).bind fun p598=>(bb n595 r596.2).bind fun r599=>((r599.1).asI .i64).bind fun n600=>(Sl.idx cA n600 1).bind fun p601=>(Hp.ldI r599.2 .i64 p601.1 p601.2).bind fun n602=>(Hp.ldI r599.2 .i64 p598.1 p598.2).bind fun n603=>(Hp.new r599.2 [.int .i64 0,.int .i64 0,.int .i64 0,.int .i64 0,.int .i64 0]).bind fun H604=>(Hp.st H604 r599.2.length 0 (.int .i64 n602)).bind fun H605=>(Hp.st H605 r599.2.length (0 + 1) (.int .i64 (IntKind.i64.wrap ((IntKind.i64.wrap (2 * bc)) + 1)))).bind fun H606=>(Hp.st H606 r599.2.length (0 + 1 + 1) (.int .i64 (IntKind.i64.wrap (2 * bc)))).bind fun H607=>(Hp.st H607 r599.2.length (0 + 1 + 1 + 1) (.int .i64 n603)).bind fun H608=>(Hp.st H608 r599.2.length (0 + 1 + 1 + 1 + 1) (.int .i64 1)).bind fun H609=>(bif (decide (n595 < 0)) then ((Hp.ldI H609 .i64 p598.1 p598.2).bind fun n610=>(Hp.ldI H609 .i64 p601.1 p601.2).bind fun n611=>(Hp.st H609 r599.2.length 0 (.int .i64 n610)).bind fun H612=>(Hp.st H612 r599.2.length (0 + 1) (.int .i64 n611)).bind fun H613=>(Hp.st H613 r599.2.length (0 + 1 + 1) (.int .i64 (IntKind.i64.wrap ((IntKind.i64.wrap (2 * bc)) + 1)))).bind fun H614=>(Hp.st H614 r599.2.length (0 + 1 + 1 + 1) (.int .i64 (IntKind.i64.wrap (2 * bc)))).bind fun H615=>(Hp.st H615 r599.2.length (0 + 1 + 1 + 1 + 1) (.int .i64 (-1))).bind fun H616=>(Hp.ldSl H616 bA ca).bind fun s617=>(Hp.ldI H616 .i64 r599.2.length 0).bind fun n618=>(Hp.ldI H616 .i64 r599.2.length (0 + 1)).bind fun n619=>(Hp.ldI H616 .i64 r599.2.length (0 + 2)).bind fun n620=>(Hp.ldI H616 .i64 r599.2.length (0 + 3)).bind fun n621=>(Hp.ldI H616 .i64 r599.2.length (0 + 4)).bind fun n622=>(Hp.new H616 [(.int .i64 n618),(.int .i64 n619),(.int .i64 n620),(.int .i64 n621),(.int .i64 n622)]).bind fun H623=>(Sl.row H623 (⟨some (H616.length,0),1,.ex 1⟩:Sl) 5).bind fun xs625=>(Hp.app H623 5 40 s617 (⟨some (H616.length,0),1,.ex 1⟩:Sl).n xs625).bind fun a624=>(Hp.st a624.2 bA ca (.sl a624.1)).bind fun H626=>(Hp.st H626 p598.1 p598.2 (.int .i64 (IntKind.i64.wrap (2 * bc)))).bind fun H627=>(Hp.st H627 p601.1 p601.2 (.int .i64 (IntKind.i64.wrap ((IntKind.i64.wrap (2 * bc)) + 1)))).bind fun H628=>ag.l509 F bd bf bb bg hP bz b_ cA bA ca cP bQ (IntKind.i64.wrap (bc + 1)) H628) else ((Hp.ldSl H609 bA ca).bind fun s629=>(Hp.ldI H609 .i64 r599.2.length 0).bind fun n630=>(Hp.ldI H609 .i64 r599.2.length (0 + 1)).bind fun n631=>(Hp.ldI H609 .i64 r599.2.length (0 + 2)).bind fun n632=>(Hp.ldI H609 .i64 r599.2.length (0 + 3)).bind fun n633=>(Hp.ldI H609 .i64 r599.2.length (0 + 4)).bind fun n634=>(Hp.new H609 [(.int .i64 n630),(.int .i64 n631),(.int .i64 n632),(.int .i64 n633),(.int .i64 n634)]).bind fun H635=>(Sl.row H635 (⟨some (H609.length,0),1,.ex 1⟩:Sl) 5).bind fun xs637=>(Hp.app H635 5 40 s629 (⟨some (H609.length,0),1,.ex 1⟩:Sl).n xs637).bind fun a636=>(Hp.st a636.2 bA ca (.sl a636.1)).bind fun H638=>(Hp.st H638 p598.1 p598.2 (.int .i64 (IntKind.i64.wrap (2 * bc)))).bind fun H639=>(Hp.st H639 p601.1 p601.2 (.int .i64 (IntKind.i64.wrap ((IntKind.i64.wrap (2 * bc)) + 1)))).bind fun H640=>ag.l509 F bd bf bb bg hP bz b_ cA bA ca cP bQ (IntKind.i64.wrap (bc + 1)) H640))) else ((Hp.ldSl H540 bA ca).bind fun s641=>(Hp.ldI H540 .i64 bA (ca + 1)).bind fun n642=>(Hp.st H540 bz b_ (.sl s641)).bind fun H643=>(Hp.st H643 bz (b_ + 1) (.int .i64 n642)).bind fun H644=>(Hp.ldSl H644 bz b_).bind fun s645=>(Hp.ldI H644 .i64 bz (b_ + 1)).bind fun n646=>some ((.tup [(.agg [(.sl s645),(.int .i64 n646)]),(.int .i64 0)]),H644)))
termination_by structural n=>n
noncomputable def ag.l253 (F:Nat) (bd:Int→Sl→Hp→OA) (bf:Sl→Int→Hp→OA) (bb:Int→Hp→OA) (bg:Bool→Hp→OA) :Nat→Nat→Nat→Nat→Nat→Sl→Nat→Nat→Sl→Int→Int→Hp→OA
 | 0,_,_,_,_,_,_,_,_,_,_,_=>none
 | jD + 1,bR,cB,bT,cD,cJ,bU,cE,cV,cb,bV,H372=>(bif (decide (bV < cb)) then ((Sl.idx cV bV 1).bind fun p510=>(Hp.ldI H372 .i64 p510.1 p510.2).bind fun n511=>(Hp.ldI H372 .i64 bU (cE + 1)).bind fun n512=>(bg (decide (n511 < 0)) H372).bind fun r513=>((r513.1).asI .i64).bind fun n514=>(if Cons H372 r513.2 then ((Hp.st r513.2 bU (cE + 1) (.int .i64 (IntKind.i64.wrap (n512 + n514)))).bind fun H515=>ag.l253 F bd bf bb bg jD bR cB bT cD cJ bU cE cV cb (IntKind.i64.wrap (bV + 1)) H515) else none)) else ((Hp.ldSl H372 bR (cB + 1)).bind fun s516=>ag.l509 F bd bf bb bg F bT cD cJ bU cE s516 (s516.n:Int) 0 H372))
termination_by structural n=>n
noncomputable def ag.l61 (F:Nat) (bd:Int→Sl→Hp→OA) (bf:Sl→Int→Hp→OA) (bb:Int→Hp→OA) (bg:Bool→Hp→OA) :Nat→Nat→Nat→Nat→Nat→Sl→Sl→Int→Int→Hp→OA
 | 0,_,_,_,_,_,_,_,_,_=>none
 | ft + 1,bW,cF,cc,cK,ck,cW,cd,bB,H36=>(bif (decide (bB < cd)) then ((Sl.idx cW bB 1).bind fun p342=>(Hp.ldI H36 .i64 p342.1 p342.2).bind fun n343=>(bb n343 H36).bind fun r344=>((r344.1).asI .i64).bind fun n345=>(bb n343 r344.2).bind fun r346=>((r346.1).asI .i64).bind fun n347=>(Sl.idx ck (IntKind.i64.wrap (n345 - 1)) 1).bind fun p348=>(Hp.st r346.2 p348.1 p348.2 (.int .i64 (IntKind.i64.wrap (2 * bB)))).bind fun H349=>(Sl.idx ck n347 1).bind fun p350=>(Hp.st H349 p350.1 p350.2 (.int .i64 (IntKind.i64.wrap ((IntKind.i64.wrap (2 * bB)) + 1)))).bind fun H351=>ag.l61 F bd bf bb bg ft bW cF cc cK ck cW cd (IntKind.i64.wrap (bB + 1)) H351) else ((Hp.new H36 [.sl ⟨none,0,.ex 0⟩,.int .i64 0]).bind fun H352=>ag.l253 F bd bf bb bg F bW cF cc cK ck H36.length 0 ck (ck.n:Int) 0 H352))
termination_by structural n=>n
noncomputable def ag.twX (F:Nat) (bd:Int→Sl→Hp→OA) (bf:Sl→Int→Hp→OA) (bb:Int→Hp→OA) (bg:Bool→Hp→OA) (aa:Int) (ad:Sl) (H:Hp):OA:=(Hp.new H [(.int .i64 aa),(.sl ad)]).bind fun H3=>(Hp.new H3 [.sl ⟨none,0,.ex 0⟩,.int .i64 0]).bind fun H4=>(Hp.ldI H4 .i64 H.length 0).bind fun n5=>(Hp.ldSl H4 H.length (0 + 1)).bind fun s6=>(bd n5 s6 H4).bind fun r7=>((r7.1).asB).bind fun b8=>(bif (!b8) then ((Hp.st r7.2 H3.length 0 (.sl (⟨none,0,.ex 0⟩:Sl))).bind fun H9=>(Hp.st H9 H3.length (0 + 1) (.int .i64 0)).bind fun H10=>(Hp.ldSl H10 H3.length 0).bind fun s11=>(Hp.ldI H10 .i64 H3.length (0 + 1)).bind fun n12=>some ((.tup [(.agg [(.sl s11),(.int .i64 n12)]),(.int .i64 1)]),H10)) else ((Hp.ldSl r7.2 H.length 1).bind fun s13=>(bif (decide ((s13.n:Int) > 10)) then ((Hp.st r7.2 H3.length 0 (.sl (⟨none,0,.ex 0⟩:Sl))).bind fun H14=>(Hp.st H14 H3.length (0 + 1) (.int .i64 0)).bind fun H15=>(Hp.ldSl H15 H3.length 0).bind fun s16=>(Hp.ldI H15 .i64 H3.length (0 + 1)).bind fun n17=>some ((.tup [(.agg [(.sl s16),(.int .i64 n17)]),(.int .i64 3)]),H15)) else ((Hp.new r7.2 [(.int .i64 (-1))]).bind fun H18=>(Hp.ldI H18 .i64 H.length 0).bind fun n19=>(bf (⟨some (r7.2.length,0),1,.ex 1⟩:Sl) n19 H18).bind fun r20=>((r20.1).asSl).bind fun s21=>(Hp.ldSl r20.2 H.length 1).bind fun s22=>ag.l61 F bd bf bb bg F H.length 0 H3.length 0 s21 s22 (s22.n:Int) 0 r20.2))))
noncomputable def ag.tw (F:Nat) (aa:Int) (ad:Sl) (H:Hp):OA:=ag.twX F (aK.tw F) (ah.tw F) (aF.tw F) (aN.tw F) aa ad H
noncomputable def ag.code:Go.Code:=(Try.f44.body).getD .skip
noncomputable def ag.lh61 (F:Nat) (bd:Int→Sl→Hp→OA) (bf:Sl→Int→Hp→OA) (bb:Int→Hp→OA) (bg:Bool→Hp→OA) (ks:List Nat) (n:Nat) (tm:Tm) (H:Hp):OA:=match ks,tm 1,tm 2,tm 4,tm 31,tm 32,tm 33 with
 | [],(.ptr bW cF),(.ptr cc cK),(.sl ck),(.sl cW),(.int .i64 cd),(.int .i64 bB)=>ag.l61 F bd bf bb bg n bW cF cc cK ck cW cd bB H
 | _,_,_,_,_,_,_=>none
theorem ag.lh61_inv {F:Nat} {bd:Int→Sl→Hp→OA} {bf:Sl→Int→Hp→OA} {bb:Int→Hp→OA} {bg:Bool→Hp→OA} {ks:List Nat} {n:Nat} {tm:Tm} {H:Hp} {r:AV×Hp} (h:ag.lh61 F bd bf bb bg ks n tm H = some r):∃ bW:Nat,∃ cF:Nat,∃ cc:Nat,∃ cK:Nat,∃ ck:Sl,∃ cW:Sl,∃ cd:Int,∃ bB:Int,ks = []∧tm 1 = (.ptr bW cF)∧tm 2 = (.ptr cc cK)∧tm 4 = (.sl ck)∧tm 31 = (.sl cW)∧tm 32 = (.int .i64 cd)∧tm 33 = (.int .i64 bB)∧ag.l61 F bd bf bb bg n bW cF cc cK ck cW cd bB H = some r:=by
 unfold ag.lh61 at h
 split at h
 ·exact ⟨_,_,_,_,_,_,_,_,rfl,by assumption,by assumption,by assumption,by assumption,by assumption,by assumption,h⟩
 ·cases h
noncomputable def ag.lh253 (F:Nat) (bd:Int→Sl→Hp→OA) (bf:Sl→Int→Hp→OA) (bb:Int→Hp→OA) (bg:Bool→Hp→OA) (ks:List Nat) (n:Nat) (tm:Tm) (H:Hp):OA:=match ks,tm 1,tm 2,tm 4,tm 7,tm 53,tm 54,tm 55 with
 | [],(.ptr bR cB),(.ptr bT cD),(.sl cJ),(.ptr bU cE),(.sl cV),(.int .i64 cb),(.int .i64 bV)=>ag.l253 F bd bf bb bg n bR cB bT cD cJ bU cE cV cb bV H
 | _,_,_,_,_,_,_,_=>none
theorem ag.lh253_inv {F:Nat} {bd:Int→Sl→Hp→OA} {bf:Sl→Int→Hp→OA} {bb:Int→Hp→OA} {bg:Bool→Hp→OA} {ks:List Nat} {n:Nat} {tm:Tm} {H:Hp} {r:AV×Hp} (h:ag.lh253 F bd bf bb bg ks n tm H = some r):∃ bR:Nat,∃ cB:Nat,∃ bT:Nat,∃ cD:Nat,∃ cJ:Sl,∃ bU:Nat,∃ cE:Nat,∃ cV:Sl,∃ cb:Int,∃ bV:Int,ks = []∧tm 1 = (.ptr bR cB)∧tm 2 = (.ptr bT cD)∧tm 4 = (.sl cJ)∧tm 7 = (.ptr bU cE)∧tm 53 = (.sl cV)∧tm 54 = (.int .i64 cb)∧tm 55 = (.int .i64 bV)∧ag.l253 F bd bf bb bg n bR cB bT cD cJ bU cE cV cb bV H = some r:=by
 unfold ag.lh253 at h
 split at h
 ·exact ⟨_,_,_,_,_,_,_,_,_,_,rfl,by assumption,by assumption,by assumption,by assumption,by assumption,by assumption,by assumption,h⟩
 ·cases h
noncomputable def ag.lh509 (F:Nat) (bd:Int→Sl→Hp→OA) (bf:Sl→Int→Hp→OA) (bb:Int→Hp→OA) (bg:Bool→Hp→OA) (ks:List Nat) (n:Nat) (tm:Tm) (H:Hp):OA:=match ks,tm 2,tm 4,tm 7,tm 68,tm 69,tm 70 with
 | [],(.ptr bz b_),(.sl cA),(.ptr bA ca),(.sl cP),(.int .i64 bQ),(.int .i64 bc)=>ag.l509 F bd bf bb bg n bz b_ cA bA ca cP bQ bc H
 | _,_,_,_,_,_,_=>none
theorem ag.lh509_inv {F:Nat} {bd:Int→Sl→Hp→OA} {bf:Sl→Int→Hp→OA} {bb:Int→Hp→OA} {bg:Bool→Hp→OA} {ks:List Nat} {n:Nat} {tm:Tm} {H:Hp} {r:AV×Hp} (h:ag.lh509 F bd bf bb bg ks n tm H = some r):∃ bz:Nat,∃ b_:Nat,∃ cA:Sl,∃ bA:Nat,∃ ca:Nat,∃ cP:Sl,∃ bQ:Int,∃ bc:Int,ks = []∧tm 2 = (.ptr bz b_)∧tm 4 = (.sl cA)∧tm 7 = (.ptr bA ca)∧tm 68 = (.sl cP)∧tm 69 = (.int .i64 bQ)∧tm 70 = (.int .i64 bc)∧ag.l509 F bd bf bb bg n bz b_ cA bA ca cP bQ bc H = some r:=by
 unfold ag.lh509 at h
 split at h
 ·exact ⟨_,_,_,_,_,_,_,_,rfl,by assumption,by assumption,by assumption,by assumption,by assumption,by assumption,h⟩
 ·cases h
noncomputable def ag.lh (F:Nat) (bd:Int→Sl→Hp→OA) (bf:Sl→Int→Hp→OA) (bb:Int→Hp→OA) (bg:Bool→Hp→OA) (p:Nat) (ks:List Nat) (n:Nat) (tm:Tm) (H:Hp):OA:=bif p.beq 509 then ag.lh509 F bd bf bb bg ks n tm H else (bif p.beq 253 then ag.lh253 F bd bf bb bg ks n tm H else (bif p.beq 61 then ag.lh61 F bd bf bb bg ks n tm H else (none)))
def ag.pn:Nat→List Nat:=fun i=>(([(15,[7]),(20,[2,7]),(21,[13]),(23,[12])]:List (Nat×List Nat)).lookup i).getD []
def ag.tb:Nat→List (List Nat):=fun i=>(([(15,[[],[0],[],[2],[2,3],[0,1,2,3,4],[0,1,2,3,4,5],[0,1,2,3,4,5,6]]),(20,[[],[],[1],[1,2],[0,1,2,3],[],[],[1,2,6],[1,2,5,6,7],[0,1,2,3,4,6,7],[0,1,2,3,4,5,6,7,8,9]]),(21,[[],[0],[0,1],[],[3],[3,4],[],[6],[],[8],[8,9],[0,1,2,3,4,5,6,7,8,9,10],[],[0,1,2,3,4,5,6,7,8,9,10,11,12]]),(23,[[],[0],[0,1],[],[3],[3,4],[],[6],[6,7],[],[9],[0,1,2,3,4,5,6,7,8,9,10],[0,1,2,3,4,5,6,7,8,9,10,11]])]:List (Nat×List (List Nat))).lookup i).getD []
noncomputable def ag.mk (g:Int→Sl→Hp→OA) (args:List AV) (H:Hp):OA:=match args with
 | [(.agg [(.int .i64 aa),(.sl ad)])]=>g aa ad H
 | _=>none
noncomputable def ag.cs (F:Nat) (bd:Int→Sl→Hp→OA) (bf:Sl→Int→Hp→OA) (bb:Int→Hp→OA) (bg:Bool→Hp→OA):List (FuncId×(List AV→Hp→OA)):=[(55,aK.mk bd),(77,ah.mk bf),(69,aF.mk bb),(78,aN.mk bg)]
theorem ag.loops (F:Nat) (bd:Int→Sl→Hp→OA) (bf:Sl→Int→Hp→OA) (bb:Int→Hp→OA) (bg:Bool→Hp→OA):LoopsOk tabs (mkOrc (ag.cs F bd bf bb bg)) ag.pn (ag.lh F bd bf bb bg) F [] 1 ag.code (fun tm H=>aresults tabs.ty H tm Try.f44.results.toList fun v=>some (v,H)) (fun _ _ _=>none) (fun tm H=>aresults tabs.ty H tm Try.f44.results.toList fun v=>some (v,H)):=by
 refine LoopsOk.seq ?_ ?_
 ·exact loops_none (by kernel_rfl)
 ·refine LoopsOk.seq ?_ ?_
  ·exact loops_none (by kernel_rfl)
  ·refine LoopsOk.seq ?_ ?_
   ·exact loops_none (by kernel_rfl)
   ·refine LoopsOk.seq ?_ ?_
    ·refine LoopsOk.seq ?_ ?_
     ·exact loops_none (by kernel_rfl)
     ·refine LoopsOk.block ?_
      refine LoopsOk.loop (fun tm H=>?_) (fun k61 tm H r h0=>?_) (fun k61=>?_)
      ·refine none_of fun r h0=>?_
       obtain ⟨bW,cF,cc,cK,ck,cW,cd,bB,hks,e1,e2,e4,e31,e32,e33,h⟩:=ag.lh61_inv (show ag.lh61 F bd bf bb bg [] 0 tm H = some r from h0)
       cases h
      ·obtain ⟨bW,cF,cc,cK,ck,cW,cd,bB,hks,e1,e2,e4,e31,e32,e33,h⟩:=ag.lh61_inv (show ag.lh61 F bd bf bb bg [] (k61 + 1) tm H = some r from h0)
       have q0:(Tm.put tm 1 (.ptr bW cF)) = tm:=by exact Tm.put_same e1
       have q1:(Tm.put (Tm.put tm 1 (.ptr bW cF)) 2 (.ptr cc cK)) = tm:=by rw [q0]; exact Tm.put_same e2
       have q2:(Tm.put (Tm.put (Tm.put tm 1 (.ptr bW cF)) 2 (.ptr cc cK)) 4 (.sl ck)) = tm:=by rw [q1]; exact Tm.put_same e4
       have q3:(Tm.put (Tm.put (Tm.put (Tm.put tm 1 (.ptr bW cF)) 2 (.ptr cc cK)) 4 (.sl ck)) 31 (.sl cW)) = tm:=by rw [q2]; exact Tm.put_same e31
       have q4:(Tm.put (Tm.put (Tm.put (Tm.put (Tm.put tm 1 (.ptr bW cF)) 2 (.ptr cc cK)) 4 (.sl ck)) 31 (.sl cW)) 32 (.int .i64 cd)) = tm:=by rw [q3]; exact Tm.put_same e32
       have q5:(Tm.put (Tm.put (Tm.put (Tm.put (Tm.put (Tm.put tm 1 (.ptr bW cF)) 2 (.ptr cc cK)) 4 (.sl ck)) 31 (.sl cW)) 32 (.int .i64 cd)) 33 (.int .i64 bB)) = tm:=by rw [q4]; exact Tm.put_same e33
       rw [← q5]
       exact Eq.trans (by kernel_rfl) h
      ·exact loops_none (by kernel_rfl)
    ·refine LoopsOk.seq ?_ ?_
     ·exact loops_none (by kernel_rfl)
     ·refine LoopsOk.seq ?_ ?_
      ·refine LoopsOk.seq ?_ ?_
       ·exact loops_none (by kernel_rfl)
       ·refine LoopsOk.block ?_
        refine LoopsOk.loop (fun tm H=>?_) (fun k253 tm H r h0=>?_) (fun k253=>?_)
        ·refine none_of fun r h0=>?_
         obtain ⟨bR,cB,bT,cD,cJ,bU,cE,cV,cb,bV,hks,e1,e2,e4,e7,e53,e54,e55,h⟩:=ag.lh253_inv (show ag.lh253 F bd bf bb bg [] 0 tm H = some r from h0)
         cases h
        ·obtain ⟨bR,cB,bT,cD,cJ,bU,cE,cV,cb,bV,hks,e1,e2,e4,e7,e53,e54,e55,h⟩:=ag.lh253_inv (show ag.lh253 F bd bf bb bg [] (k253 + 1) tm H = some r from h0)
         have q0:(Tm.put tm 1 (.ptr bR cB)) = tm:=by exact Tm.put_same e1
         have q1:(Tm.put (Tm.put tm 1 (.ptr bR cB)) 2 (.ptr bT cD)) = tm:=by rw [q0]; exact Tm.put_same e2
         have q2:(Tm.put (Tm.put (Tm.put tm 1 (.ptr bR cB)) 2 (.ptr bT cD)) 4 (.sl cJ)) = tm:=by rw [q1]; exact Tm.put_same e4
         have q3:(Tm.put (Tm.put (Tm.put (Tm.put tm 1 (.ptr bR cB)) 2 (.ptr bT cD)) 4 (.sl cJ)) 7 (.ptr bU cE)) = tm:=by rw [q2]; exact Tm.put_same e7
         have q4:(Tm.put (Tm.put (Tm.put (Tm.put (Tm.put tm 1 (.ptr bR cB)) 2 (.ptr bT cD)) 4 (.sl cJ)) 7 (.ptr bU cE)) 53 (.sl cV)) = tm:=by rw [q3]; exact Tm.put_same e53
         have q5:(Tm.put (Tm.put (Tm.put (Tm.put (Tm.put (Tm.put tm 1 (.ptr bR cB)) 2 (.ptr bT cD)) 4 (.sl cJ)) 7 (.ptr bU cE)) 53 (.sl cV)) 54 (.int .i64 cb)) = tm:=by rw [q4]; exact Tm.put_same e54
         have q6:(Tm.put (Tm.put (Tm.put (Tm.put (Tm.put (Tm.put (Tm.put tm 1 (.ptr bR cB)) 2 (.ptr bT cD)) 4 (.sl cJ)) 7 (.ptr bU cE)) 53 (.sl cV)) 54 (.int .i64 cb)) 55 (.int .i64 bV)) = tm:=by rw [q5]; exact Tm.put_same e55
         rw [← q6]
         exact Eq.trans (by kernel_rfl) h
        ·exact loops_none (by kernel_rfl)
      ·refine LoopsOk.seq ?_ ?_
       ·refine LoopsOk.seq ?_ ?_
        ·exact loops_none (by kernel_rfl)
        ·refine LoopsOk.block ?_
         refine LoopsOk.loop (fun tm H=>?_) (fun k509 tm H r h0=>?_) (fun k509=>?_)
         ·refine none_of fun r h0=>?_
          obtain ⟨bz,b_,cA,bA,ca,cP,bQ,bc,hks,e2,e4,e7,e68,e69,e70,h⟩:=ag.lh509_inv (show ag.lh509 F bd bf bb bg [] 0 tm H = some r from h0)
          cases h
         ·obtain ⟨bz,b_,cA,bA,ca,cP,bQ,bc,hks,e2,e4,e7,e68,e69,e70,h⟩:=ag.lh509_inv (show ag.lh509 F bd bf bb bg [] (k509 + 1) tm H = some r from h0)
          have q0:(Tm.put tm 2 (.ptr bz b_)) = tm:=by exact Tm.put_same e2
          have q1:(Tm.put (Tm.put tm 2 (.ptr bz b_)) 4 (.sl cA)) = tm:=by rw [q0]; exact Tm.put_same e4
          have q2:(Tm.put (Tm.put (Tm.put tm 2 (.ptr bz b_)) 4 (.sl cA)) 7 (.ptr bA ca)) = tm:=by rw [q1]; exact Tm.put_same e7
          have q3:(Tm.put (Tm.put (Tm.put (Tm.put tm 2 (.ptr bz b_)) 4 (.sl cA)) 7 (.ptr bA ca)) 68 (.sl cP)) = tm:=by rw [q2]; exact Tm.put_same e68
          have q4:(Tm.put (Tm.put (Tm.put (Tm.put (Tm.put tm 2 (.ptr bz b_)) 4 (.sl cA)) 7 (.ptr bA ca)) 68 (.sl cP)) 69 (.int .i64 bQ)) = tm:=by rw [q3]; exact Tm.put_same e69
          have q5:(Tm.put (Tm.put (Tm.put (Tm.put (Tm.put (Tm.put tm 2 (.ptr bz b_)) 4 (.sl cA)) 7 (.ptr bA ca)) 68 (.sl cP)) 69 (.int .i64 bQ)) 70 (.int .i64 bc)) = tm:=by rw [q4]; exact Tm.put_same e70
          rw [← q5]
          exact Eq.trans (by kernel_rfl) h
         ·exact loops_none (by kernel_rfl)
       ·exact loops_none (by kernel_rfl)
theorem ag.eqX (F:Nat) (bd:Int→Sl→Hp→OA) (bf:Sl→Int→Hp→OA) (bb:Int→Hp→OA) (bg:Bool→Hp→OA) (aa:Int) (ad:Sl) (H:Hp):aCode tabs (mkOrc (ag.cs F bd bf bb bg)) ag.pn (ag.lh F bd bf bb bg) F [] 1 ag.code (argTm [(.agg [(.int .i64 aa),(.sl ad)])]) H (fun tm H=>aresults tabs.ty H tm Try.f44.results.toList fun v=>some (v,H)) (fun _ _ _=>none) (fun tm H=>aresults tabs.ty H tm Try.f44.results.toList fun v=>some (v,H)) = ag.twX F bd bf bb bg aa ad H:=by kernel_rfl
theorem ag.cs_ok (F:Nat):∀ p ∈ ag.cs F (aK.tw F) (ah.tw F) (aF.tw F) (aN.tw F),∀ args H v H',p.2 args H = some (v,H')→Go.AE.T Try.prog p.1 args H v H':=by
 intro p hp
 simp only [ag.cs,List.mem_cons,List.not_mem_nil,or_false] at hp
 rcases hp with rfl | rfl | rfl | rfl
 ·exact fun args H v H' h=>aK.mk_T h
 ·exact fun args H v H' h=>ah.mk_T h
 ·exact fun args H v H' h=>aF.mk_T h
 ·exact fun args H v H' h=>aN.mk_T h
theorem ag.ok:codeOk ag.pn Try.f44.ntmps ag.tb ag.code = true:=by kernel_rfl
theorem ag.T {F:Nat} {aa:Int} {ad:Sl} {H:Hp} {v:AV} {H':Hp} (h:ag.tw F aa ad H = some (v,H')):Go.AE.T Try.prog 44 [(.agg [(.int .i64 aa),(.sl ad)])] H v H':=
 Go.AE.T.of (Y:=tabs) (C:=mkOrc (ag.cs F (aK.tw F) (ah.tw F) (aF.tw F) (aN.tw F))) (PN:=ag.pn) (LH:=ag.lh F (aK.tw F) (ah.tw F) (aF.tw F) (aN.tw F)) (F:=F) (TB:=ag.tb) (fn:=Try.f44) (code:=ag.code) mixed tabs_ok (mkOrc_ok (ag.cs_ok F)) Try.func44 (by kernel_rfl) (by kernel_rfl) ag.ok (Nat.le_of_ble_eq_true (by kernel_rfl)) (ag.loops F (aK.tw F) (ah.tw F) (aF.tw F) (aN.tw F)) (Eq.trans (ag.eqX F (aK.tw F) (ah.tw F) (aF.tw F) (aN.tw F) aa ad H) h)
theorem ag.mk_T {F:Nat} {args:List AV} {H:Hp} {v:AV} {H':Hp} (h:ag.mk (ag.tw F) args H = some (v,H')):Go.AE.T Try.prog 44 args H v H':=by
 unfold ag.mk at h
 split at h
 ·exact ag.T h
 ·cases h
noncomputable def aW.twX (F:Nat) (aa:Int) (ad:Int) (cl:Int) (cm:Int) (cn:Int) (co:Int) (cp:Int) (cq:Int) (cr:Int) (ct:Int) (H:Hp):OA:=(Hp.new H [(.int .i64 aa),(.int .i64 ad),(.int .i64 cl),(.int .i64 cm),(.int .i64 cn)]).bind fun H11=>(Hp.new H11 [(.int .i64 co),(.int .i64 cp),(.int .i64 cq),(.int .i64 cr),(.int .i64 ct)]).bind fun H12=>(Hp.ldI H12 .i64 H.length 0).bind fun n13=>(Hp.ldI H12 .i64 H11.length 0).bind fun n14=>(bif (n13 != n14) then (some ((.bool false),H12)) else ((Hp.ldI H12 .i64 H.length 1).bind fun n15=>(Hp.ldI H12 .i64 H11.length 1).bind fun n16=>(bif (n15 != n16) then (some ((.bool false),H12)) else ((Hp.ldI H12 .i64 H.length 2).bind fun n17=>(Hp.ldI H12 .i64 H11.length 2).bind fun n18=>(bif (n17 != n18) then (some ((.bool false),H12)) else ((Hp.ldI H12 .i64 H.length 3).bind fun n19=>(Hp.ldI H12 .i64 H11.length 3).bind fun n20=>(bif (n19 != n20) then (some ((.bool false),H12)) else ((Hp.ldI H12 .i64 H.length 4).bind fun n21=>(Hp.ldI H12 .i64 H11.length 4).bind fun n22=>(bif (n21 != n22) then (some ((.bool false),H12)) else (some ((.bool true),H12)))))))))))
noncomputable def aW.tw (F:Nat) (aa:Int) (ad:Int) (cl:Int) (cm:Int) (cn:Int) (co:Int) (cp:Int) (cq:Int) (cr:Int) (ct:Int) (H:Hp):OA:=aW.twX F aa ad cl cm cn co cp cq cr ct H
noncomputable def aW.code:Go.Code:=(Try.f89.body).getD .skip
noncomputable def aW.lh (F:Nat) (p:Nat) (ks:List Nat) (n:Nat) (tm:Tm) (H:Hp):OA:=none
def aW.pn:Nat→List Nat:=fun i=>(([]:List (Nat×List Nat)).lookup i).getD []
def aW.tb:Nat→List (List Nat):=fun i=>(([]:List (Nat×List (List Nat))).lookup i).getD []
noncomputable def aW.mk (g:Int→Int→Int→Int→Int→Int→Int→Int→Int→Int→Hp→OA) (args:List AV) (H:Hp):OA:=match args with
 | [(.agg [(.int .i64 aa),(.int .i64 ad),(.int .i64 cl),(.int .i64 cm),(.int .i64 cn)]),(.agg [(.int .i64 co),(.int .i64 cp),(.int .i64 cq),(.int .i64 cr),(.int .i64 ct)])]=>g aa ad cl cm cn co cp cq cr ct H
 | _=>none
noncomputable def aW.cs (F:Nat):List (FuncId×(List AV→Hp→OA)):=[]
theorem aW.loops (F:Nat):LoopsOk tabs (mkOrc (aW.cs F)) aW.pn (aW.lh F) F [] 1 aW.code (fun tm H=>aresults tabs.ty H tm Try.f89.results.toList fun v=>some (v,H)) (fun _ _ _=>none) (fun tm H=>aresults tabs.ty H tm Try.f89.results.toList fun v=>some (v,H)):=by
 exact loops_none (by kernel_rfl)
theorem aW.eqX (F:Nat) (aa:Int) (ad:Int) (cl:Int) (cm:Int) (cn:Int) (co:Int) (cp:Int) (cq:Int) (cr:Int) (ct:Int) (H:Hp):aCode tabs (mkOrc (aW.cs F)) aW.pn (aW.lh F) F [] 1 aW.code (argTm [(.agg [(.int .i64 aa),(.int .i64 ad),(.int .i64 cl),(.int .i64 cm),(.int .i64 cn)]),(.agg [(.int .i64 co),(.int .i64 cp),(.int .i64 cq),(.int .i64 cr),(.int .i64 ct)])]) H (fun tm H=>aresults tabs.ty H tm Try.f89.results.toList fun v=>some (v,H)) (fun _ _ _=>none) (fun tm H=>aresults tabs.ty H tm Try.f89.results.toList fun v=>some (v,H)) = aW.twX F aa ad cl cm cn co cp cq cr ct H:=by kernel_rfl
theorem aW.cs_ok (F:Nat):∀ p ∈ aW.cs F,∀ args H v H',p.2 args H = some (v,H')→Go.AE.T Try.prog p.1 args H v H':=by
 intro p hp
 exact absurd (show p ∈ [] from hp) List.not_mem_nil
theorem aW.ok:codeOk aW.pn Try.f89.ntmps aW.tb aW.code = true:=by kernel_rfl
theorem aW.T {F:Nat} {aa:Int} {ad:Int} {cl:Int} {cm:Int} {cn:Int} {co:Int} {cp:Int} {cq:Int} {cr:Int} {ct:Int} {H:Hp} {v:AV} {H':Hp} (h:aW.tw F aa ad cl cm cn co cp cq cr ct H = some (v,H')):Go.AE.T Try.prog 89 [(.agg [(.int .i64 aa),(.int .i64 ad),(.int .i64 cl),(.int .i64 cm),(.int .i64 cn)]),(.agg [(.int .i64 co),(.int .i64 cp),(.int .i64 cq),(.int .i64 cr),(.int .i64 ct)])] H v H':=
 Go.AE.T.of (Y:=tabs) (C:=mkOrc (aW.cs F)) (PN:=aW.pn) (LH:=aW.lh F) (F:=F) (TB:=aW.tb) (fn:=Try.f89) (code:=aW.code) mixed tabs_ok (mkOrc_ok (aW.cs_ok F)) Try.func89 (by kernel_rfl) (by kernel_rfl) aW.ok (Nat.le_of_ble_eq_true (by kernel_rfl)) (aW.loops F) (Eq.trans (aW.eqX F aa ad cl cm cn co cp cq cr ct H) h)
theorem aW.mk_T {F:Nat} {args:List AV} {H:Hp} {v:AV} {H':Hp} (h:aW.mk (aW.tw F) args H = some (v,H')):Go.AE.T Try.prog 89 args H v H':=by
 unfold aW.mk at h
 split at h
 ·exact aW.T h
 ·cases h
noncomputable def aq.l29 (F:Nat) (bM:Int→Int→Int→Int→Int→Int→Int→Int→Int→Int→Hp→OA) :Nat→Sl→Sl→Int→Hp→OA
 | 0,_,_,_,_=>none
 | d_ + 1,ao,ai,bh,H8=>(bif (decide (bh < (ao.n:Int))) then ((Sl.idx ao bh 5).bind fun p23=>(Hp.ldI H8 .i64 p23.1 p23.2).bind fun n24=>(Hp.ldI H8 .i64 p23.1 (p23.2 + 1)).bind fun n25=>(Hp.ldI H8 .i64 p23.1 (p23.2 + 2)).bind fun n26=>(Hp.ldI H8 .i64 p23.1 (p23.2 + 3)).bind fun n27=>(Hp.ldI H8 .i64 p23.1 (p23.2 + 4)).bind fun n28=>(Sl.idx ai bh 5).bind fun p29=>(Hp.ldI H8 .i64 p29.1 p29.2).bind fun n30=>(Hp.ldI H8 .i64 p29.1 (p29.2 + 1)).bind fun n31=>(Hp.ldI H8 .i64 p29.1 (p29.2 + 2)).bind fun n32=>(Hp.ldI H8 .i64 p29.1 (p29.2 + 3)).bind fun n33=>(Hp.ldI H8 .i64 p29.1 (p29.2 + 4)).bind fun n34=>(bM n24 n25 n26 n27 n28 n30 n31 n32 n33 n34 H8).bind fun r35=>((r35.1).asB).bind fun b36=>(bif (!b36) then (some ((.bool false),r35.2)) else (aq.l29 F bM d_ ao ai (IntKind.i64.wrap (bh + 1)) r35.2))) else (some ((.bool true),H8)))
termination_by structural n=>n
noncomputable def aq.twX (F:Nat) (bM:Int→Int→Int→Int→Int→Int→Int→Int→Int→Int→Hp→OA) (aa:Sl) (ac:Sl) (H:Hp):OA:=(bif ((aa.n:Int) != (ac.n:Int)) then (some ((.bool false),H)) else (aq.l29 F bM F aa ac 0 H))
noncomputable def aq.tw (F:Nat) (aa:Sl) (ac:Sl) (H:Hp):OA:=aq.twX F (aW.tw F) aa ac H
noncomputable def aq.code:Go.Code:=(Try.f79.body).getD .skip
noncomputable def aq.lh29 (F:Nat) (bM:Int→Int→Int→Int→Int→Int→Int→Int→Int→Int→Hp→OA) (ks:List Nat) (n:Nat) (tm:Tm) (H:Hp):OA:=match ks,tm 0,tm 1,tm 5 with
 | [],(.sl ao),(.sl ai),(.int .i64 bh)=>aq.l29 F bM n ao ai bh H
 | _,_,_,_=>none
theorem aq.lh29_inv {F:Nat} {bM:Int→Int→Int→Int→Int→Int→Int→Int→Int→Int→Hp→OA} {ks:List Nat} {n:Nat} {tm:Tm} {H:Hp} {r:AV×Hp} (h:aq.lh29 F bM ks n tm H = some r):∃ ao:Sl,∃ ai:Sl,∃ bh:Int,ks = []∧tm 0 = (.sl ao)∧tm 1 = (.sl ai)∧tm 5 = (.int .i64 bh)∧aq.l29 F bM n ao ai bh H = some r:=by
 unfold aq.lh29 at h
 split at h
 ·exact ⟨_,_,_,rfl,by assumption,by assumption,by assumption,h⟩
 ·cases h
noncomputable def aq.lh (F:Nat) (bM:Int→Int→Int→Int→Int→Int→Int→Int→Int→Int→Hp→OA) (p:Nat) (ks:List Nat) (n:Nat) (tm:Tm) (H:Hp):OA:=bif p.beq 29 then aq.lh29 F bM ks n tm H else (none)
def aq.pn:Nat→List Nat:=fun i=>(([(6,[8])]:List (Nat×List Nat)).lookup i).getD []
def aq.tb:Nat→List (List Nat):=fun i=>(([(6,[[],[],[0,1],[0,1,2],[],[],[4,5],[4,5,6],[0,1,2,3,4,5,6,7],[0,1,2,3,4,5,6,7,8]])]:List (Nat×List (List Nat))).lookup i).getD []
noncomputable def aq.mk (g:Sl→Sl→Hp→OA) (args:List AV) (H:Hp):OA:=match args with
 | [(.sl aa),(.sl ac)]=>g aa ac H
 | _=>none
noncomputable def aq.cs (F:Nat) (bM:Int→Int→Int→Int→Int→Int→Int→Int→Int→Int→Hp→OA):List (FuncId×(List AV→Hp→OA)):=[(89,aW.mk bM)]
theorem aq.loops (F:Nat) (bM:Int→Int→Int→Int→Int→Int→Int→Int→Int→Int→Hp→OA):LoopsOk tabs (mkOrc (aq.cs F bM)) aq.pn (aq.lh F bM) F [] 1 aq.code (fun tm H=>aresults tabs.ty H tm Try.f79.results.toList fun v=>some (v,H)) (fun _ _ _=>none) (fun tm H=>aresults tabs.ty H tm Try.f79.results.toList fun v=>some (v,H)):=by
 refine LoopsOk.seq ?_ ?_
 ·exact loops_none (by kernel_rfl)
 ·refine LoopsOk.seq ?_ ?_
  ·exact loops_none (by kernel_rfl)
  ·refine LoopsOk.seq ?_ ?_
   ·refine LoopsOk.seq ?_ ?_
    ·exact loops_none (by kernel_rfl)
    ·refine LoopsOk.block ?_
     refine LoopsOk.loop (fun tm H=>?_) (fun k29 tm H r h0=>?_) (fun k29=>?_)
     ·refine none_of fun r h0=>?_
      obtain ⟨ao,ai,bh,hks,e0,e1,e5,h⟩:=aq.lh29_inv (show aq.lh29 F bM [] 0 tm H = some r from h0)
      cases h
     ·obtain ⟨ao,ai,bh,hks,e0,e1,e5,h⟩:=aq.lh29_inv (show aq.lh29 F bM [] (k29 + 1) tm H = some r from h0)
      have q0:(Tm.put tm 0 (.sl ao)) = tm:=by exact Tm.put_same e0
      have q1:(Tm.put (Tm.put tm 0 (.sl ao)) 1 (.sl ai)) = tm:=by rw [q0]; exact Tm.put_same e1
      have q2:(Tm.put (Tm.put (Tm.put tm 0 (.sl ao)) 1 (.sl ai)) 5 (.int .i64 bh)) = tm:=by rw [q1]; exact Tm.put_same e5
      rw [← q2]
      exact Eq.trans (by kernel_rfl) h
     ·exact loops_none (by kernel_rfl)
   ·exact loops_none (by kernel_rfl)
theorem aq.eqX (F:Nat) (bM:Int→Int→Int→Int→Int→Int→Int→Int→Int→Int→Hp→OA) (aa:Sl) (ac:Sl) (H:Hp):aCode tabs (mkOrc (aq.cs F bM)) aq.pn (aq.lh F bM) F [] 1 aq.code (argTm [(.sl aa),(.sl ac)]) H (fun tm H=>aresults tabs.ty H tm Try.f79.results.toList fun v=>some (v,H)) (fun _ _ _=>none) (fun tm H=>aresults tabs.ty H tm Try.f79.results.toList fun v=>some (v,H)) = aq.twX F bM aa ac H:=by kernel_rfl
theorem aq.cs_ok (F:Nat):∀ p ∈ aq.cs F (aW.tw F),∀ args H v H',p.2 args H = some (v,H')→Go.AE.T Try.prog p.1 args H v H':=by
 intro p hp
 simp only [aq.cs,List.mem_cons,List.not_mem_nil,or_false] at hp
 subst hp
 exact fun args H v H' h=>aW.mk_T h
theorem aq.ok:codeOk aq.pn Try.f79.ntmps aq.tb aq.code = true:=by kernel_rfl
theorem aq.T {F:Nat} {aa:Sl} {ac:Sl} {H:Hp} {v:AV} {H':Hp} (h:aq.tw F aa ac H = some (v,H')):Go.AE.T Try.prog 79 [(.sl aa),(.sl ac)] H v H':=
 Go.AE.T.of (Y:=tabs) (C:=mkOrc (aq.cs F (aW.tw F))) (PN:=aq.pn) (LH:=aq.lh F (aW.tw F)) (F:=F) (TB:=aq.tb) (fn:=Try.f79) (code:=aq.code) mixed tabs_ok (mkOrc_ok (aq.cs_ok F)) Try.func79 (by kernel_rfl) (by kernel_rfl) aq.ok (Nat.le_of_ble_eq_true (by kernel_rfl)) (aq.loops F (aW.tw F)) (Eq.trans (aq.eqX F (aW.tw F) aa ac H) h)
theorem aq.mk_T {F:Nat} {args:List AV} {H:Hp} {v:AV} {H':Hp} (h:aq.mk (aq.tw F) args H = some (v,H')):Go.AE.T Try.prog 79 args H v H':=by
 unfold aq.mk at h
 split at h
 ·exact aq.T h
 ·cases h
noncomputable def aI.twX (F:Nat) (dg:Sl→Sl→Hp→OA) (aa:Sl) (ad:Int) (af:Sl) (bp:Int) (H:Hp):OA:=(Hp.new H [(.sl aa),(.int .i64 ad)]).bind fun H5=>(Hp.new H5 [(.sl af),(.int .i64 bp)]).bind fun H6=>(Hp.ldSl H6 H.length 0).bind fun s7=>(Hp.ldSl H6 H5.length 0).bind fun s8=>(dg s7 s8 H6).bind fun r9=>((r9.1).asB).bind fun b10=>(bif (!b10) then (some ((.bool false),r9.2)) else ((Hp.ldI r9.2 .i64 H.length 1).bind fun n11=>(Hp.ldI r9.2 .i64 H5.length 1).bind fun n12=>(bif (n11 != n12) then (some ((.bool false),r9.2)) else (some ((.bool true),r9.2)))))
noncomputable def aI.tw (F:Nat) (aa:Sl) (ad:Int) (af:Sl) (bp:Int) (H:Hp):OA:=aI.twX F (aq.tw F) aa ad af bp H
noncomputable def aI.code:Go.Code:=(Try.f45.body).getD .skip
noncomputable def aI.lh (F:Nat) (dg:Sl→Sl→Hp→OA) (p:Nat) (ks:List Nat) (n:Nat) (tm:Tm) (H:Hp):OA:=none
def aI.pn:Nat→List Nat:=fun i=>(([]:List (Nat×List Nat)).lookup i).getD []
def aI.tb:Nat→List (List Nat):=fun i=>(([]:List (Nat×List (List Nat))).lookup i).getD []
noncomputable def aI.mk (g:Sl→Int→Sl→Int→Hp→OA) (args:List AV) (H:Hp):OA:=match args with
 | [(.agg [(.sl aa),(.int .i64 ad)]),(.agg [(.sl af),(.int .i64 bp)])]=>g aa ad af bp H
 | _=>none
noncomputable def aI.cs (F:Nat) (dg:Sl→Sl→Hp→OA):List (FuncId×(List AV→Hp→OA)):=[(79,aq.mk dg)]
theorem aI.loops (F:Nat) (dg:Sl→Sl→Hp→OA):LoopsOk tabs (mkOrc (aI.cs F dg)) aI.pn (aI.lh F dg) F [] 1 aI.code (fun tm H=>aresults tabs.ty H tm Try.f45.results.toList fun v=>some (v,H)) (fun _ _ _=>none) (fun tm H=>aresults tabs.ty H tm Try.f45.results.toList fun v=>some (v,H)):=by
 exact loops_none (by kernel_rfl)
theorem aI.eqX (F:Nat) (dg:Sl→Sl→Hp→OA) (aa:Sl) (ad:Int) (af:Sl) (bp:Int) (H:Hp):aCode tabs (mkOrc (aI.cs F dg)) aI.pn (aI.lh F dg) F [] 1 aI.code (argTm [(.agg [(.sl aa),(.int .i64 ad)]),(.agg [(.sl af),(.int .i64 bp)])]) H (fun tm H=>aresults tabs.ty H tm Try.f45.results.toList fun v=>some (v,H)) (fun _ _ _=>none) (fun tm H=>aresults tabs.ty H tm Try.f45.results.toList fun v=>some (v,H)) = aI.twX F dg aa ad af bp H:=by kernel_rfl
theorem aI.cs_ok (F:Nat):∀ p ∈ aI.cs F (aq.tw F),∀ args H v H',p.2 args H = some (v,H')→Go.AE.T Try.prog p.1 args H v H':=by
 intro p hp
 simp only [aI.cs,List.mem_cons,List.not_mem_nil,or_false] at hp
 subst hp
 exact fun args H v H' h=>aq.mk_T h
theorem aI.ok:codeOk aI.pn Try.f45.ntmps aI.tb aI.code = true:=by kernel_rfl
theorem aI.T {F:Nat} {aa:Sl} {ad:Int} {af:Sl} {bp:Int} {H:Hp} {v:AV} {H':Hp} (h:aI.tw F aa ad af bp H = some (v,H')):Go.AE.T Try.prog 45 [(.agg [(.sl aa),(.int .i64 ad)]),(.agg [(.sl af),(.int .i64 bp)])] H v H':=
 Go.AE.T.of (Y:=tabs) (C:=mkOrc (aI.cs F (aq.tw F))) (PN:=aI.pn) (LH:=aI.lh F (aq.tw F)) (F:=F) (TB:=aI.tb) (fn:=Try.f45) (code:=aI.code) mixed tabs_ok (mkOrc_ok (aI.cs_ok F)) Try.func45 (by kernel_rfl) (by kernel_rfl) aI.ok (Nat.le_of_ble_eq_true (by kernel_rfl)) (aI.loops F (aq.tw F)) (Eq.trans (aI.eqX F (aq.tw F) aa ad af bp H) h)
theorem aI.mk_T {F:Nat} {args:List AV} {H:Hp} {v:AV} {H':Hp} (h:aI.mk (aI.tw F) args H = some (v,H')):Go.AE.T Try.prog 45 args H v H':=by
 unfold aI.mk at h
 split at h
 ·exact aI.T h
 ·cases h
noncomputable def ar.l29 (F:Nat) :Nat→Sl→Sl→Int→Hp→OA
 | 0,_,_,_,_=>none
 | d_ + 1,ao,ai,bh,H8=>(bif (decide (bh < (ao.n:Int))) then ((Sl.idx ao bh 1).bind fun p13=>(Hp.ldI H8 .i64 p13.1 p13.2).bind fun n14=>(Sl.idx ai bh 1).bind fun p15=>(Hp.ldI H8 .i64 p15.1 p15.2).bind fun n16=>(bif (n14 != n16) then (some ((.bool false),H8)) else (ar.l29 F d_ ao ai (IntKind.i64.wrap (bh + 1)) H8))) else (some ((.bool true),H8)))
termination_by structural n=>n
noncomputable def ar.twX (F:Nat) (aa:Sl) (ac:Sl) (H:Hp):OA:=(bif ((aa.n:Int) != (ac.n:Int)) then (some ((.bool false),H)) else (ar.l29 F F aa ac 0 H))
noncomputable def ar.tw (F:Nat) (aa:Sl) (ac:Sl) (H:Hp):OA:=ar.twX F aa ac H
noncomputable def ar.code:Go.Code:=(Try.f17.body).getD .skip
noncomputable def ar.lh29 (F:Nat) (ks:List Nat) (n:Nat) (tm:Tm) (H:Hp):OA:=match ks,tm 0,tm 1,tm 5 with
 | [],(.sl ao),(.sl ai),(.int .i64 bh)=>ar.l29 F n ao ai bh H
 | _,_,_,_=>none
theorem ar.lh29_inv {F:Nat} {ks:List Nat} {n:Nat} {tm:Tm} {H:Hp} {r:AV×Hp} (h:ar.lh29 F ks n tm H = some r):∃ ao:Sl,∃ ai:Sl,∃ bh:Int,ks = []∧tm 0 = (.sl ao)∧tm 1 = (.sl ai)∧tm 5 = (.int .i64 bh)∧ar.l29 F n ao ai bh H = some r:=by
 unfold ar.lh29 at h
 split at h
 ·exact ⟨_,_,_,rfl,by assumption,by assumption,by assumption,h⟩
 ·cases h
noncomputable def ar.lh (F:Nat) (p:Nat) (ks:List Nat) (n:Nat) (tm:Tm) (H:Hp):OA:=bif p.beq 29 then ar.lh29 F ks n tm H else (none)
def ar.pn:Nat→List Nat:=fun i=>(([(6,[])]:List (Nat×List Nat)).lookup i).getD []
def ar.tb:Nat→List (List Nat):=fun i=>(([(6,[[],[],[0,1],[0,1,2],[],[],[4,5],[4,5,6],[0,1,2,3,4,5,6,7]])]:List (Nat×List (List Nat))).lookup i).getD []
noncomputable def ar.mk (g:Sl→Sl→Hp→OA) (args:List AV) (H:Hp):OA:=match args with
 | [(.sl aa),(.sl ac)]=>g aa ac H
 | _=>none
noncomputable def ar.cs (F:Nat):List (FuncId×(List AV→Hp→OA)):=[]
theorem ar.loops (F:Nat):LoopsOk tabs (mkOrc (ar.cs F)) ar.pn (ar.lh F) F [] 1 ar.code (fun tm H=>aresults tabs.ty H tm Try.f17.results.toList fun v=>some (v,H)) (fun _ _ _=>none) (fun tm H=>aresults tabs.ty H tm Try.f17.results.toList fun v=>some (v,H)):=by
 refine LoopsOk.seq ?_ ?_
 ·exact loops_none (by kernel_rfl)
 ·refine LoopsOk.seq ?_ ?_
  ·exact loops_none (by kernel_rfl)
  ·refine LoopsOk.seq ?_ ?_
   ·refine LoopsOk.seq ?_ ?_
    ·exact loops_none (by kernel_rfl)
    ·refine LoopsOk.block ?_
     refine LoopsOk.loop (fun tm H=>?_) (fun k29 tm H r h0=>?_) (fun k29=>?_)
     ·refine none_of fun r h0=>?_
      obtain ⟨ao,ai,bh,hks,e0,e1,e5,h⟩:=ar.lh29_inv (show ar.lh29 F [] 0 tm H = some r from h0)
      cases h
     ·obtain ⟨ao,ai,bh,hks,e0,e1,e5,h⟩:=ar.lh29_inv (show ar.lh29 F [] (k29 + 1) tm H = some r from h0)
      have q0:(Tm.put tm 0 (.sl ao)) = tm:=by exact Tm.put_same e0
      have q1:(Tm.put (Tm.put tm 0 (.sl ao)) 1 (.sl ai)) = tm:=by rw [q0]; exact Tm.put_same e1
      have q2:(Tm.put (Tm.put (Tm.put tm 0 (.sl ao)) 1 (.sl ai)) 5 (.int .i64 bh)) = tm:=by rw [q1]; exact Tm.put_same e5
      rw [← q2]
      exact Eq.trans (by kernel_rfl) h
     ·exact loops_none (by kernel_rfl)
   ·exact loops_none (by kernel_rfl)
theorem ar.eqX (F:Nat) (aa:Sl) (ac:Sl) (H:Hp):aCode tabs (mkOrc (ar.cs F)) ar.pn (ar.lh F) F [] 1 ar.code (argTm [(.sl aa),(.sl ac)]) H (fun tm H=>aresults tabs.ty H tm Try.f17.results.toList fun v=>some (v,H)) (fun _ _ _=>none) (fun tm H=>aresults tabs.ty H tm Try.f17.results.toList fun v=>some (v,H)) = ar.twX F aa ac H:=by kernel_rfl
theorem ar.cs_ok (F:Nat):∀ p ∈ ar.cs F,∀ args H v H',p.2 args H = some (v,H')→Go.AE.T Try.prog p.1 args H v H':=by
 intro p hp
 exact absurd (show p ∈ [] from hp) List.not_mem_nil
theorem ar.ok:codeOk ar.pn Try.f17.ntmps ar.tb ar.code = true:=by kernel_rfl
theorem ar.T {F:Nat} {aa:Sl} {ac:Sl} {H:Hp} {v:AV} {H':Hp} (h:ar.tw F aa ac H = some (v,H')):Go.AE.T Try.prog 17 [(.sl aa),(.sl ac)] H v H':=
 Go.AE.T.of (Y:=tabs) (C:=mkOrc (ar.cs F)) (PN:=ar.pn) (LH:=ar.lh F) (F:=F) (TB:=ar.tb) (fn:=Try.f17) (code:=ar.code) mixed tabs_ok (mkOrc_ok (ar.cs_ok F)) Try.func17 (by kernel_rfl) (by kernel_rfl) ar.ok (Nat.le_of_ble_eq_true (by kernel_rfl)) (ar.loops F) (Eq.trans (ar.eqX F aa ac H) h)
theorem ar.mk_T {F:Nat} {args:List AV} {H:Hp} {v:AV} {H':Hp} (h:ar.mk (ar.tw F) args H = some (v,H')):Go.AE.T Try.prog 17 args H v H':=by
 unfold ar.mk at h
 split at h
 ·exact ar.T h
 ·cases h
noncomputable def aS.twX (F:Nat) (dh:Sl→Sl→Hp→OA) (aa:Int) (ad:Sl) (af:Int) (bp:Sl) (H:Hp):OA:=(Hp.new H [(.int .i64 aa),(.sl ad)]).bind fun H5=>(Hp.new H5 [(.int .i64 af),(.sl bp)]).bind fun H6=>(Hp.ldI H6 .i64 H.length 0).bind fun n7=>(Hp.ldI H6 .i64 H5.length 0).bind fun n8=>(bif (n7 != n8) then (some ((.bool false),H6)) else ((Hp.ldSl H6 H.length 1).bind fun s9=>(Hp.ldSl H6 H5.length 1).bind fun s10=>(dh s9 s10 H6).bind fun r11=>((r11.1).asB).bind fun b12=>(bif (!b12) then (some ((.bool false),r11.2)) else (some ((.bool true),r11.2)))))
noncomputable def aS.tw (F:Nat) (aa:Int) (ad:Sl) (af:Int) (bp:Sl) (H:Hp):OA:=aS.twX F (ar.tw F) aa ad af bp H
noncomputable def aS.code:Go.Code:=(Try.f24.body).getD .skip
noncomputable def aS.lh (F:Nat) (dh:Sl→Sl→Hp→OA) (p:Nat) (ks:List Nat) (n:Nat) (tm:Tm) (H:Hp):OA:=none
def aS.pn:Nat→List Nat:=fun i=>(([]:List (Nat×List Nat)).lookup i).getD []
def aS.tb:Nat→List (List Nat):=fun i=>(([]:List (Nat×List (List Nat))).lookup i).getD []
noncomputable def aS.mk (g:Int→Sl→Int→Sl→Hp→OA) (args:List AV) (H:Hp):OA:=match args with
 | [(.agg [(.int .i64 aa),(.sl ad)]),(.agg [(.int .i64 af),(.sl bp)])]=>g aa ad af bp H
 | _=>none
noncomputable def aS.cs (F:Nat) (dh:Sl→Sl→Hp→OA):List (FuncId×(List AV→Hp→OA)):=[(17,ar.mk dh)]
theorem aS.loops (F:Nat) (dh:Sl→Sl→Hp→OA):LoopsOk tabs (mkOrc (aS.cs F dh)) aS.pn (aS.lh F dh) F [] 1 aS.code (fun tm H=>aresults tabs.ty H tm Try.f24.results.toList fun v=>some (v,H)) (fun _ _ _=>none) (fun tm H=>aresults tabs.ty H tm Try.f24.results.toList fun v=>some (v,H)):=by
 exact loops_none (by kernel_rfl)
theorem aS.eqX (F:Nat) (dh:Sl→Sl→Hp→OA) (aa:Int) (ad:Sl) (af:Int) (bp:Sl) (H:Hp):aCode tabs (mkOrc (aS.cs F dh)) aS.pn (aS.lh F dh) F [] 1 aS.code (argTm [(.agg [(.int .i64 aa),(.sl ad)]),(.agg [(.int .i64 af),(.sl bp)])]) H (fun tm H=>aresults tabs.ty H tm Try.f24.results.toList fun v=>some (v,H)) (fun _ _ _=>none) (fun tm H=>aresults tabs.ty H tm Try.f24.results.toList fun v=>some (v,H)) = aS.twX F dh aa ad af bp H:=by kernel_rfl
theorem aS.cs_ok (F:Nat):∀ p ∈ aS.cs F (ar.tw F),∀ args H v H',p.2 args H = some (v,H')→Go.AE.T Try.prog p.1 args H v H':=by
 intro p hp
 simp only [aS.cs,List.mem_cons,List.not_mem_nil,or_false] at hp
 subst hp
 exact fun args H v H' h=>ar.mk_T h
theorem aS.ok:codeOk aS.pn Try.f24.ntmps aS.tb aS.code = true:=by kernel_rfl
theorem aS.T {F:Nat} {aa:Int} {ad:Sl} {af:Int} {bp:Sl} {H:Hp} {v:AV} {H':Hp} (h:aS.tw F aa ad af bp H = some (v,H')):Go.AE.T Try.prog 24 [(.agg [(.int .i64 aa),(.sl ad)]),(.agg [(.int .i64 af),(.sl bp)])] H v H':=
 Go.AE.T.of (Y:=tabs) (C:=mkOrc (aS.cs F (ar.tw F))) (PN:=aS.pn) (LH:=aS.lh F (ar.tw F)) (F:=F) (TB:=aS.tb) (fn:=Try.f24) (code:=aS.code) mixed tabs_ok (mkOrc_ok (aS.cs_ok F)) Try.func24 (by kernel_rfl) (by kernel_rfl) aS.ok (Nat.le_of_ble_eq_true (by kernel_rfl)) (aS.loops F (ar.tw F)) (Eq.trans (aS.eqX F (ar.tw F) aa ad af bp H) h)
theorem aS.mk_T {F:Nat} {args:List AV} {H:Hp} {v:AV} {H':Hp} (h:aS.mk (aS.tw F) args H = some (v,H')):Go.AE.T Try.prog 24 args H v H':=by
 unfold aS.mk at h
 split at h
 ·exact aS.T h
 ·cases h
noncomputable def au.l13 (F:Nat) :Nat→Sl→Int→Int→Hp→OA
 | 0,_,_,_,_=>none
 | dC + 1,ao,ai,aB,H7=>(bif (decide (aB < (ao.n:Int))) then ((Sl.idx ao aB 1).bind fun p10=>(Hp.st H7 p10.1 p10.2 (.int .i64 ai)).bind fun H11=>au.l13 F dC ao (IntKind.i64.wrap (ai + 1)) (IntKind.i64.wrap (aB + 1)) H11) else (some ((.int .i64 ai),H7)))
termination_by structural n=>n
noncomputable def au.twX (F:Nat) (aa:Sl) (ac:Int) (H:Hp):OA:=au.l13 F F aa ac 0 H
noncomputable def au.tw (F:Nat) (aa:Sl) (ac:Int) (H:Hp):OA:=au.twX F aa ac H
noncomputable def au.code:Go.Code:=(Try.f18.body).getD .skip
noncomputable def au.lh13 (F:Nat) (ks:List Nat) (n:Nat) (tm:Tm) (H:Hp):OA:=match ks,tm 0,tm 1,tm 5 with
 | [],(.sl ao),(.int .i64 ai),(.int .i64 aB)=>au.l13 F n ao ai aB H
 | _,_,_,_=>none
theorem au.lh13_inv {F:Nat} {ks:List Nat} {n:Nat} {tm:Tm} {H:Hp} {r:AV×Hp} (h:au.lh13 F ks n tm H = some r):∃ ao:Sl,∃ ai:Int,∃ aB:Int,ks = []∧tm 0 = (.sl ao)∧tm 1 = (.int .i64 ai)∧tm 5 = (.int .i64 aB)∧au.l13 F n ao ai aB H = some r:=by
 unfold au.lh13 at h
 split at h
 ·exact ⟨_,_,_,rfl,by assumption,by assumption,by assumption,h⟩
 ·cases h
noncomputable def au.lh (F:Nat) (p:Nat) (ks:List Nat) (n:Nat) (tm:Tm) (H:Hp):OA:=bif p.beq 13 then au.lh13 F ks n tm H else (none)
def au.pn:Nat→List Nat:=fun i=>(([]:List (Nat×List Nat)).lookup i).getD []
def au.tb:Nat→List (List Nat):=fun i=>(([]:List (Nat×List (List Nat))).lookup i).getD []
noncomputable def au.mk (g:Sl→Int→Hp→OA) (args:List AV) (H:Hp):OA:=match args with
 | [(.sl aa),(.int .i64 ac)]=>g aa ac H
 | _=>none
noncomputable def au.cs (F:Nat):List (FuncId×(List AV→Hp→OA)):=[]
theorem au.loops (F:Nat):LoopsOk tabs (mkOrc (au.cs F)) au.pn (au.lh F) F [] 1 au.code (fun tm H=>aresults tabs.ty H tm Try.f18.results.toList fun v=>some (v,H)) (fun _ _ _=>none) (fun tm H=>aresults tabs.ty H tm Try.f18.results.toList fun v=>some (v,H)):=by
 refine LoopsOk.seq ?_ ?_
 ·exact loops_none (by kernel_rfl)
 ·refine LoopsOk.seq ?_ ?_
  ·refine LoopsOk.seq ?_ ?_
   ·exact loops_none (by kernel_rfl)
   ·refine LoopsOk.block ?_
    refine LoopsOk.loop (fun tm H=>?_) (fun k13 tm H r h0=>?_) (fun k13=>?_)
    ·refine none_of fun r h0=>?_
     obtain ⟨ao,ai,aB,hks,e0,e1,e5,h⟩:=au.lh13_inv (show au.lh13 F [] 0 tm H = some r from h0)
     cases h
    ·obtain ⟨ao,ai,aB,hks,e0,e1,e5,h⟩:=au.lh13_inv (show au.lh13 F [] (k13 + 1) tm H = some r from h0)
     have q0:(Tm.put tm 0 (.sl ao)) = tm:=by exact Tm.put_same e0
     have q1:(Tm.put (Tm.put tm 0 (.sl ao)) 1 (.int .i64 ai)) = tm:=by rw [q0]; exact Tm.put_same e1
     have q2:(Tm.put (Tm.put (Tm.put tm 0 (.sl ao)) 1 (.int .i64 ai)) 5 (.int .i64 aB)) = tm:=by rw [q1]; exact Tm.put_same e5
     rw [← q2]
     exact Eq.trans (by kernel_rfl) h
    ·exact loops_none (by kernel_rfl)
  ·exact loops_none (by kernel_rfl)
theorem au.eqX (F:Nat) (aa:Sl) (ac:Int) (H:Hp):aCode tabs (mkOrc (au.cs F)) au.pn (au.lh F) F [] 1 au.code (argTm [(.sl aa),(.int .i64 ac)]) H (fun tm H=>aresults tabs.ty H tm Try.f18.results.toList fun v=>some (v,H)) (fun _ _ _=>none) (fun tm H=>aresults tabs.ty H tm Try.f18.results.toList fun v=>some (v,H)) = au.twX F aa ac H:=by kernel_rfl
theorem au.cs_ok (F:Nat):∀ p ∈ au.cs F,∀ args H v H',p.2 args H = some (v,H')→Go.AE.T Try.prog p.1 args H v H':=by
 intro p hp
 exact absurd (show p ∈ [] from hp) List.not_mem_nil
theorem au.ok:codeOk au.pn Try.f18.ntmps au.tb au.code = true:=by kernel_rfl
theorem au.T {F:Nat} {aa:Sl} {ac:Int} {H:Hp} {v:AV} {H':Hp} (h:au.tw F aa ac H = some (v,H')):Go.AE.T Try.prog 18 [(.sl aa),(.int .i64 ac)] H v H':=
 Go.AE.T.of (Y:=tabs) (C:=mkOrc (au.cs F)) (PN:=au.pn) (LH:=au.lh F) (F:=F) (TB:=au.tb) (fn:=Try.f18) (code:=au.code) mixed tabs_ok (mkOrc_ok (au.cs_ok F)) Try.func18 (by kernel_rfl) (by kernel_rfl) au.ok (Nat.le_of_ble_eq_true (by kernel_rfl)) (au.loops F) (Eq.trans (au.eqX F aa ac H) h)
theorem au.mk_T {F:Nat} {args:List AV} {H:Hp} {v:AV} {H':Hp} (h:au.mk (au.tw F) args H = some (v,H')):Go.AE.T Try.prog 18 args H v H':=by
 unfold au.mk at h
 split at h
 ·exact au.T h
 ·cases h
noncomputable def aT.twX (F:Nat) (di:Sl→Int→Hp→OA) (aa:Int) (ad:Sl) (af:Int) (H:Hp):OA:=(Hp.new H [(.int .i64 aa),(.sl ad)]).bind fun H4=>(Hp.ldSl H4 H.length 1).bind fun s5=>(di s5 af H4).bind fun r6=>((r6.1).asI .i64).bind fun n7=>some ((.int .i64 n7),r6.2)
noncomputable def aT.tw (F:Nat) (aa:Int) (ad:Sl) (af:Int) (H:Hp):OA:=aT.twX F (au.tw F) aa ad af H
noncomputable def aT.code:Go.Code:=(Try.f27.body).getD .skip
noncomputable def aT.lh (F:Nat) (di:Sl→Int→Hp→OA) (p:Nat) (ks:List Nat) (n:Nat) (tm:Tm) (H:Hp):OA:=none
def aT.pn:Nat→List Nat:=fun i=>(([]:List (Nat×List Nat)).lookup i).getD []
def aT.tb:Nat→List (List Nat):=fun i=>(([]:List (Nat×List (List Nat))).lookup i).getD []
noncomputable def aT.mk (g:Int→Sl→Int→Hp→OA) (args:List AV) (H:Hp):OA:=match args with
 | [(.agg [(.int .i64 aa),(.sl ad)]),(.int .i64 af)]=>g aa ad af H
 | _=>none
noncomputable def aT.cs (F:Nat) (di:Sl→Int→Hp→OA):List (FuncId×(List AV→Hp→OA)):=[(18,au.mk di)]
theorem aT.loops (F:Nat) (di:Sl→Int→Hp→OA):LoopsOk tabs (mkOrc (aT.cs F di)) aT.pn (aT.lh F di) F [] 1 aT.code (fun tm H=>aresults tabs.ty H tm Try.f27.results.toList fun v=>some (v,H)) (fun _ _ _=>none) (fun tm H=>aresults tabs.ty H tm Try.f27.results.toList fun v=>some (v,H)):=by
 exact loops_none (by kernel_rfl)
theorem aT.eqX (F:Nat) (di:Sl→Int→Hp→OA) (aa:Int) (ad:Sl) (af:Int) (H:Hp):aCode tabs (mkOrc (aT.cs F di)) aT.pn (aT.lh F di) F [] 1 aT.code (argTm [(.agg [(.int .i64 aa),(.sl ad)]),(.int .i64 af)]) H (fun tm H=>aresults tabs.ty H tm Try.f27.results.toList fun v=>some (v,H)) (fun _ _ _=>none) (fun tm H=>aresults tabs.ty H tm Try.f27.results.toList fun v=>some (v,H)) = aT.twX F di aa ad af H:=by kernel_rfl
theorem aT.cs_ok (F:Nat):∀ p ∈ aT.cs F (au.tw F),∀ args H v H',p.2 args H = some (v,H')→Go.AE.T Try.prog p.1 args H v H':=by
 intro p hp
 simp only [aT.cs,List.mem_cons,List.not_mem_nil,or_false] at hp
 subst hp
 exact fun args H v H' h=>au.mk_T h
theorem aT.ok:codeOk aT.pn Try.f27.ntmps aT.tb aT.code = true:=by kernel_rfl
theorem aT.T {F:Nat} {aa:Int} {ad:Sl} {af:Int} {H:Hp} {v:AV} {H':Hp} (h:aT.tw F aa ad af H = some (v,H')):Go.AE.T Try.prog 27 [(.agg [(.int .i64 aa),(.sl ad)]),(.int .i64 af)] H v H':=
 Go.AE.T.of (Y:=tabs) (C:=mkOrc (aT.cs F (au.tw F))) (PN:=aT.pn) (LH:=aT.lh F (au.tw F)) (F:=F) (TB:=aT.tb) (fn:=Try.f27) (code:=aT.code) mixed tabs_ok (mkOrc_ok (aT.cs_ok F)) Try.func27 (by kernel_rfl) (by kernel_rfl) aT.ok (Nat.le_of_ble_eq_true (by kernel_rfl)) (aT.loops F (au.tw F)) (Eq.trans (aT.eqX F (au.tw F) aa ad af H) h)
theorem aT.mk_T {F:Nat} {args:List AV} {H:Hp} {v:AV} {H':Hp} (h:aT.mk (aT.tw F) args H = some (v,H')):Go.AE.T Try.prog 27 args H v H':=by
 unfold aT.mk at h
 split at h
 ·exact aT.T h
 ·cases h
noncomputable def av.l13 (F:Nat) :Nat→Sl→Int→Int→Hp→OA
 | 0,_,_,_,_=>none
 | dC + 1,ao,ai,aB,H7=>(bif (decide (aB < (ao.n:Int))) then ((Sl.idx ao aB 5).bind fun p18=>(Hp.st H7 p18.1 p18.2 (.int .i64 ai)).bind fun H19=>(Sl.idx ao aB 5).bind fun p20=>(Hp.st H19 p20.1 (p20.2 + 1) (.int .i64 (IntKind.i64.wrap (ai + 1)))).bind fun H21=>(Sl.idx ao aB 5).bind fun p22=>(Hp.st H21 p22.1 (p22.2 + 2) (.int .i64 (IntKind.i64.wrap ((IntKind.i64.wrap (ai + 1)) + 1)))).bind fun H23=>(Sl.idx ao aB 5).bind fun p24=>(Hp.st H23 p24.1 (p24.2 + 3) (.int .i64 (IntKind.i64.wrap ((IntKind.i64.wrap ((IntKind.i64.wrap (ai + 1)) + 1)) + 1)))).bind fun H25=>(Sl.idx ao aB 5).bind fun p26=>(Hp.st H25 p26.1 (p26.2 + 4) (.int .i64 (IntKind.i64.wrap ((IntKind.i64.wrap ((IntKind.i64.wrap ((IntKind.i64.wrap (ai + 1)) + 1)) + 1)) + 1)))).bind fun H27=>av.l13 F dC ao (IntKind.i64.wrap ((IntKind.i64.wrap ((IntKind.i64.wrap ((IntKind.i64.wrap ((IntKind.i64.wrap (ai + 1)) + 1)) + 1)) + 1)) + 1)) (IntKind.i64.wrap (aB + 1)) H27) else (some ((.int .i64 ai),H7)))
termination_by structural n=>n
noncomputable def av.twX (F:Nat) (aa:Sl) (ac:Int) (H:Hp):OA:=av.l13 F F aa ac 0 H
noncomputable def av.tw (F:Nat) (aa:Sl) (ac:Int) (H:Hp):OA:=av.twX F aa ac H
noncomputable def av.code:Go.Code:=(Try.f80.body).getD .skip
noncomputable def av.lh13 (F:Nat) (ks:List Nat) (n:Nat) (tm:Tm) (H:Hp):OA:=match ks,tm 0,tm 1,tm 5 with
 | [],(.sl ao),(.int .i64 ai),(.int .i64 aB)=>av.l13 F n ao ai aB H
 | _,_,_,_=>none
theorem av.lh13_inv {F:Nat} {ks:List Nat} {n:Nat} {tm:Tm} {H:Hp} {r:AV×Hp} (h:av.lh13 F ks n tm H = some r):∃ ao:Sl,∃ ai:Int,∃ aB:Int,ks = []∧tm 0 = (.sl ao)∧tm 1 = (.int .i64 ai)∧tm 5 = (.int .i64 aB)∧av.l13 F n ao ai aB H = some r:=by
 unfold av.lh13 at h
 split at h
 ·exact ⟨_,_,_,rfl,by assumption,by assumption,by assumption,h⟩
 ·cases h
noncomputable def av.lh (F:Nat) (p:Nat) (ks:List Nat) (n:Nat) (tm:Tm) (H:Hp):OA:=bif p.beq 13 then av.lh13 F ks n tm H else (none)
def av.pn:Nat→List Nat:=fun i=>(([]:List (Nat×List Nat)).lookup i).getD []
def av.tb:Nat→List (List Nat):=fun i=>(([]:List (Nat×List (List Nat))).lookup i).getD []
noncomputable def av.mk (g:Sl→Int→Hp→OA) (args:List AV) (H:Hp):OA:=match args with
 | [(.sl aa),(.int .i64 ac)]=>g aa ac H
 | _=>none
noncomputable def av.cs (F:Nat):List (FuncId×(List AV→Hp→OA)):=[]
theorem av.loops (F:Nat):LoopsOk tabs (mkOrc (av.cs F)) av.pn (av.lh F) F [] 1 av.code (fun tm H=>aresults tabs.ty H tm Try.f80.results.toList fun v=>some (v,H)) (fun _ _ _=>none) (fun tm H=>aresults tabs.ty H tm Try.f80.results.toList fun v=>some (v,H)):=by
 refine LoopsOk.seq ?_ ?_
 ·exact loops_none (by kernel_rfl)
 ·refine LoopsOk.seq ?_ ?_
  ·refine LoopsOk.seq ?_ ?_
   ·exact loops_none (by kernel_rfl)
   ·refine LoopsOk.block ?_
    refine LoopsOk.loop (fun tm H=>?_) (fun k13 tm H r h0=>?_) (fun k13=>?_)
    ·refine none_of fun r h0=>?_
     obtain ⟨ao,ai,aB,hks,e0,e1,e5,h⟩:=av.lh13_inv (show av.lh13 F [] 0 tm H = some r from h0)
     cases h
    ·obtain ⟨ao,ai,aB,hks,e0,e1,e5,h⟩:=av.lh13_inv (show av.lh13 F [] (k13 + 1) tm H = some r from h0)
     have q0:(Tm.put tm 0 (.sl ao)) = tm:=by exact Tm.put_same e0
     have q1:(Tm.put (Tm.put tm 0 (.sl ao)) 1 (.int .i64 ai)) = tm:=by rw [q0]; exact Tm.put_same e1
     have q2:(Tm.put (Tm.put (Tm.put tm 0 (.sl ao)) 1 (.int .i64 ai)) 5 (.int .i64 aB)) = tm:=by rw [q1]; exact Tm.put_same e5
     rw [← q2]
     exact Eq.trans (by kernel_rfl) h
    ·exact loops_none (by kernel_rfl)
  ·exact loops_none (by kernel_rfl)
theorem av.eqX (F:Nat) (aa:Sl) (ac:Int) (H:Hp):aCode tabs (mkOrc (av.cs F)) av.pn (av.lh F) F [] 1 av.code (argTm [(.sl aa),(.int .i64 ac)]) H (fun tm H=>aresults tabs.ty H tm Try.f80.results.toList fun v=>some (v,H)) (fun _ _ _=>none) (fun tm H=>aresults tabs.ty H tm Try.f80.results.toList fun v=>some (v,H)) = av.twX F aa ac H:=by kernel_rfl
theorem av.cs_ok (F:Nat):∀ p ∈ av.cs F,∀ args H v H',p.2 args H = some (v,H')→Go.AE.T Try.prog p.1 args H v H':=by
 intro p hp
 exact absurd (show p ∈ [] from hp) List.not_mem_nil
theorem av.ok:codeOk av.pn Try.f80.ntmps av.tb av.code = true:=by kernel_rfl
theorem av.T {F:Nat} {aa:Sl} {ac:Int} {H:Hp} {v:AV} {H':Hp} (h:av.tw F aa ac H = some (v,H')):Go.AE.T Try.prog 80 [(.sl aa),(.int .i64 ac)] H v H':=
 Go.AE.T.of (Y:=tabs) (C:=mkOrc (av.cs F)) (PN:=av.pn) (LH:=av.lh F) (F:=F) (TB:=av.tb) (fn:=Try.f80) (code:=av.code) mixed tabs_ok (mkOrc_ok (av.cs_ok F)) Try.func80 (by kernel_rfl) (by kernel_rfl) av.ok (Nat.le_of_ble_eq_true (by kernel_rfl)) (av.loops F) (Eq.trans (av.eqX F aa ac H) h)
theorem av.mk_T {F:Nat} {args:List AV} {H:Hp} {v:AV} {H':Hp} (h:av.mk (av.tw F) args H = some (v,H')):Go.AE.T Try.prog 80 args H v H':=by
 unfold av.mk at h
 split at h
 ·exact av.T h
 ·cases h
noncomputable def aU.twX (F:Nat) (dj:Sl→Int→Hp→OA) (aa:Sl) (ad:Int) (af:Int) (H:Hp):OA:=(Hp.new H [(.sl aa),(.int .i64 ad)]).bind fun H4=>(Hp.ldSl H4 H.length 0).bind fun s5=>(dj s5 af H4).bind fun r6=>((r6.1).asI .i64).bind fun n7=>some ((.int .i64 n7),r6.2)
noncomputable def aU.tw (F:Nat) (aa:Sl) (ad:Int) (af:Int) (H:Hp):OA:=aU.twX F (av.tw F) aa ad af H
noncomputable def aU.code:Go.Code:=(Try.f46.body).getD .skip
noncomputable def aU.lh (F:Nat) (dj:Sl→Int→Hp→OA) (p:Nat) (ks:List Nat) (n:Nat) (tm:Tm) (H:Hp):OA:=none
def aU.pn:Nat→List Nat:=fun i=>(([]:List (Nat×List Nat)).lookup i).getD []
def aU.tb:Nat→List (List Nat):=fun i=>(([]:List (Nat×List (List Nat))).lookup i).getD []
noncomputable def aU.mk (g:Sl→Int→Int→Hp→OA) (args:List AV) (H:Hp):OA:=match args with
 | [(.agg [(.sl aa),(.int .i64 ad)]),(.int .i64 af)]=>g aa ad af H
 | _=>none
noncomputable def aU.cs (F:Nat) (dj:Sl→Int→Hp→OA):List (FuncId×(List AV→Hp→OA)):=[(80,av.mk dj)]
theorem aU.loops (F:Nat) (dj:Sl→Int→Hp→OA):LoopsOk tabs (mkOrc (aU.cs F dj)) aU.pn (aU.lh F dj) F [] 1 aU.code (fun tm H=>aresults tabs.ty H tm Try.f46.results.toList fun v=>some (v,H)) (fun _ _ _=>none) (fun tm H=>aresults tabs.ty H tm Try.f46.results.toList fun v=>some (v,H)):=by
 exact loops_none (by kernel_rfl)
theorem aU.eqX (F:Nat) (dj:Sl→Int→Hp→OA) (aa:Sl) (ad:Int) (af:Int) (H:Hp):aCode tabs (mkOrc (aU.cs F dj)) aU.pn (aU.lh F dj) F [] 1 aU.code (argTm [(.agg [(.sl aa),(.int .i64 ad)]),(.int .i64 af)]) H (fun tm H=>aresults tabs.ty H tm Try.f46.results.toList fun v=>some (v,H)) (fun _ _ _=>none) (fun tm H=>aresults tabs.ty H tm Try.f46.results.toList fun v=>some (v,H)) = aU.twX F dj aa ad af H:=by kernel_rfl
theorem aU.cs_ok (F:Nat):∀ p ∈ aU.cs F (av.tw F),∀ args H v H',p.2 args H = some (v,H')→Go.AE.T Try.prog p.1 args H v H':=by
 intro p hp
 simp only [aU.cs,List.mem_cons,List.not_mem_nil,or_false] at hp
 subst hp
 exact fun args H v H' h=>av.mk_T h
theorem aU.ok:codeOk aU.pn Try.f46.ntmps aU.tb aU.code = true:=by kernel_rfl
theorem aU.T {F:Nat} {aa:Sl} {ad:Int} {af:Int} {H:Hp} {v:AV} {H':Hp} (h:aU.tw F aa ad af H = some (v,H')):Go.AE.T Try.prog 46 [(.agg [(.sl aa),(.int .i64 ad)]),(.int .i64 af)] H v H':=
 Go.AE.T.of (Y:=tabs) (C:=mkOrc (aU.cs F (av.tw F))) (PN:=aU.pn) (LH:=aU.lh F (av.tw F)) (F:=F) (TB:=aU.tb) (fn:=Try.f46) (code:=aU.code) mixed tabs_ok (mkOrc_ok (aU.cs_ok F)) Try.func46 (by kernel_rfl) (by kernel_rfl) aU.ok (Nat.le_of_ble_eq_true (by kernel_rfl)) (aU.loops F (av.tw F)) (Eq.trans (aU.eqX F (av.tw F) aa ad af H) h)
theorem aU.mk_T {F:Nat} {args:List AV} {H:Hp} {v:AV} {H':Hp} (h:aU.mk (aU.tw F) args H = some (v,H')):Go.AE.T Try.prog 46 args H v H':=by
 unfold aU.mk at h
 split at h
 ·exact aU.T h
 ·cases h
noncomputable def ax.l13 (F:Nat) :Nat→Sl→Int→Int→Hp→OA
 | 0,_,_,_,_=>none
 | dC + 1,ao,ai,aB,H7=>(bif (decide (aB < (ao.n:Int))) then ((Sl.idx ao aB 5).bind fun p18=>(Hp.ldI H7 .i64 p18.1 p18.2).bind fun n19=>(bif (n19 != ai) then (some ((.int .i64 (-1)),H7)) else ((Sl.idx ao aB 5).bind fun p20=>(Hp.ldI H7 .i64 p20.1 (p20.2 + 1)).bind fun n21=>(bif (n21 != (IntKind.i64.wrap (ai + 1))) then (some ((.int .i64 (-1)),H7)) else ((Sl.idx ao aB 5).bind fun p22=>(Hp.ldI H7 .i64 p22.1 (p22.2 + 2)).bind fun n23=>(bif (n23 != (IntKind.i64.wrap ((IntKind.i64.wrap (ai + 1)) + 1))) then (some ((.int .i64 (-1)),H7)) else ((Sl.idx ao aB 5).bind fun p24=>(Hp.ldI H7 .i64 p24.1 (p24.2 + 3)).bind fun n25=>(bif (n25 != (IntKind.i64.wrap ((IntKind.i64.wrap ((IntKind.i64.wrap (ai + 1)) + 1)) + 1))) then (some ((.int .i64 (-1)),H7)) else ((Sl.idx ao aB 5).bind fun p26=>(Hp.ldI H7 .i64 p26.1 (p26.2 + 4)).bind fun n27=>(bif (n27 != (IntKind.i64.wrap ((IntKind.i64.wrap ((IntKind.i64.wrap ((IntKind.i64.wrap (ai + 1)) + 1)) + 1)) + 1))) then (some ((.int .i64 (-1)),H7)) else (ax.l13 F dC ao (IntKind.i64.wrap ((IntKind.i64.wrap ((IntKind.i64.wrap ((IntKind.i64.wrap ((IntKind.i64.wrap (ai + 1)) + 1)) + 1)) + 1)) + 1)) (IntKind.i64.wrap (aB + 1)) H7))))))))))) else (some ((.int .i64 ai),H7)))
termination_by structural n=>n
noncomputable def ax.twX (F:Nat) (aa:Sl) (ac:Int) (H:Hp):OA:=ax.l13 F F aa ac 0 H
noncomputable def ax.tw (F:Nat) (aa:Sl) (ac:Int) (H:Hp):OA:=ax.twX F aa ac H
noncomputable def ax.code:Go.Code:=(Try.f81.body).getD .skip
noncomputable def ax.lh13 (F:Nat) (ks:List Nat) (n:Nat) (tm:Tm) (H:Hp):OA:=match ks,tm 0,tm 1,tm 5 with
 | [],(.sl ao),(.int .i64 ai),(.int .i64 aB)=>ax.l13 F n ao ai aB H
 | _,_,_,_=>none
theorem ax.lh13_inv {F:Nat} {ks:List Nat} {n:Nat} {tm:Tm} {H:Hp} {r:AV×Hp} (h:ax.lh13 F ks n tm H = some r):∃ ao:Sl,∃ ai:Int,∃ aB:Int,ks = []∧tm 0 = (.sl ao)∧tm 1 = (.int .i64 ai)∧tm 5 = (.int .i64 aB)∧ax.l13 F n ao ai aB H = some r:=by
 unfold ax.lh13 at h
 split at h
 ·exact ⟨_,_,_,rfl,by assumption,by assumption,by assumption,h⟩
 ·cases h
noncomputable def ax.lh (F:Nat) (p:Nat) (ks:List Nat) (n:Nat) (tm:Tm) (H:Hp):OA:=bif p.beq 13 then ax.lh13 F ks n tm H else (none)
def ax.pn:Nat→List Nat:=fun i=>(([]:List (Nat×List Nat)).lookup i).getD []
def ax.tb:Nat→List (List Nat):=fun i=>(([]:List (Nat×List (List Nat))).lookup i).getD []
noncomputable def ax.mk (g:Sl→Int→Hp→OA) (args:List AV) (H:Hp):OA:=match args with
 | [(.sl aa),(.int .i64 ac)]=>g aa ac H
 | _=>none
noncomputable def ax.cs (F:Nat):List (FuncId×(List AV→Hp→OA)):=[]
theorem ax.loops (F:Nat):LoopsOk tabs (mkOrc (ax.cs F)) ax.pn (ax.lh F) F [] 1 ax.code (fun tm H=>aresults tabs.ty H tm Try.f81.results.toList fun v=>some (v,H)) (fun _ _ _=>none) (fun tm H=>aresults tabs.ty H tm Try.f81.results.toList fun v=>some (v,H)):=by
 refine LoopsOk.seq ?_ ?_
 ·exact loops_none (by kernel_rfl)
 ·refine LoopsOk.seq ?_ ?_
  ·refine LoopsOk.seq ?_ ?_
   ·exact loops_none (by kernel_rfl)
   ·refine LoopsOk.block ?_
    refine LoopsOk.loop (fun tm H=>?_) (fun k13 tm H r h0=>?_) (fun k13=>?_)
    ·refine none_of fun r h0=>?_
     obtain ⟨ao,ai,aB,hks,e0,e1,e5,h⟩:=ax.lh13_inv (show ax.lh13 F [] 0 tm H = some r from h0)
     cases h
    ·obtain ⟨ao,ai,aB,hks,e0,e1,e5,h⟩:=ax.lh13_inv (show ax.lh13 F [] (k13 + 1) tm H = some r from h0)
     have q0:(Tm.put tm 0 (.sl ao)) = tm:=by exact Tm.put_same e0
     have q1:(Tm.put (Tm.put tm 0 (.sl ao)) 1 (.int .i64 ai)) = tm:=by rw [q0]; exact Tm.put_same e1
     have q2:(Tm.put (Tm.put (Tm.put tm 0 (.sl ao)) 1 (.int .i64 ai)) 5 (.int .i64 aB)) = tm:=by rw [q1]; exact Tm.put_same e5
     rw [← q2]
     exact Eq.trans (by kernel_rfl) h
    ·exact loops_none (by kernel_rfl)
  ·exact loops_none (by kernel_rfl)
theorem ax.eqX (F:Nat) (aa:Sl) (ac:Int) (H:Hp):aCode tabs (mkOrc (ax.cs F)) ax.pn (ax.lh F) F [] 1 ax.code (argTm [(.sl aa),(.int .i64 ac)]) H (fun tm H=>aresults tabs.ty H tm Try.f81.results.toList fun v=>some (v,H)) (fun _ _ _=>none) (fun tm H=>aresults tabs.ty H tm Try.f81.results.toList fun v=>some (v,H)) = ax.twX F aa ac H:=by kernel_rfl
theorem ax.cs_ok (F:Nat):∀ p ∈ ax.cs F,∀ args H v H',p.2 args H = some (v,H')→Go.AE.T Try.prog p.1 args H v H':=by
 intro p hp
 exact absurd (show p ∈ [] from hp) List.not_mem_nil
theorem ax.ok:codeOk ax.pn Try.f81.ntmps ax.tb ax.code = true:=by kernel_rfl
theorem ax.T {F:Nat} {aa:Sl} {ac:Int} {H:Hp} {v:AV} {H':Hp} (h:ax.tw F aa ac H = some (v,H')):Go.AE.T Try.prog 81 [(.sl aa),(.int .i64 ac)] H v H':=
 Go.AE.T.of (Y:=tabs) (C:=mkOrc (ax.cs F)) (PN:=ax.pn) (LH:=ax.lh F) (F:=F) (TB:=ax.tb) (fn:=Try.f81) (code:=ax.code) mixed tabs_ok (mkOrc_ok (ax.cs_ok F)) Try.func81 (by kernel_rfl) (by kernel_rfl) ax.ok (Nat.le_of_ble_eq_true (by kernel_rfl)) (ax.loops F) (Eq.trans (ax.eqX F aa ac H) h)
theorem ax.mk_T {F:Nat} {args:List AV} {H:Hp} {v:AV} {H':Hp} (h:ax.mk (ax.tw F) args H = some (v,H')):Go.AE.T Try.prog 81 args H v H':=by
 unfold ax.mk at h
 split at h
 ·exact ax.T h
 ·cases h
noncomputable def aL.twX (F:Nat) (dk:Sl→Int→Hp→OA) (aa:Sl) (ad:Int) (af:Int) (H:Hp):OA:=(Hp.new H [(.sl aa),(.int .i64 ad)]).bind fun H4=>(Hp.ldSl H4 H.length 0).bind fun s5=>(dk s5 af H4).bind fun r6=>((r6.1).asI .i64).bind fun n7=>(bif (decide (n7 < 0)) then (some ((.int .i64 (-1)),r6.2)) else (some ((.int .i64 n7),r6.2)))
noncomputable def aL.tw (F:Nat) (aa:Sl) (ad:Int) (af:Int) (H:Hp):OA:=aL.twX F (ax.tw F) aa ad af H
noncomputable def aL.code:Go.Code:=(Try.f47.body).getD .skip
noncomputable def aL.lh (F:Nat) (dk:Sl→Int→Hp→OA) (p:Nat) (ks:List Nat) (n:Nat) (tm:Tm) (H:Hp):OA:=none
def aL.pn:Nat→List Nat:=fun i=>(([]:List (Nat×List Nat)).lookup i).getD []
def aL.tb:Nat→List (List Nat):=fun i=>(([]:List (Nat×List (List Nat))).lookup i).getD []
noncomputable def aL.mk (g:Sl→Int→Int→Hp→OA) (args:List AV) (H:Hp):OA:=match args with
 | [(.agg [(.sl aa),(.int .i64 ad)]),(.int .i64 af)]=>g aa ad af H
 | _=>none
noncomputable def aL.cs (F:Nat) (dk:Sl→Int→Hp→OA):List (FuncId×(List AV→Hp→OA)):=[(81,ax.mk dk)]
theorem aL.loops (F:Nat) (dk:Sl→Int→Hp→OA):LoopsOk tabs (mkOrc (aL.cs F dk)) aL.pn (aL.lh F dk) F [] 1 aL.code (fun tm H=>aresults tabs.ty H tm Try.f47.results.toList fun v=>some (v,H)) (fun _ _ _=>none) (fun tm H=>aresults tabs.ty H tm Try.f47.results.toList fun v=>some (v,H)):=by
 exact loops_none (by kernel_rfl)
theorem aL.eqX (F:Nat) (dk:Sl→Int→Hp→OA) (aa:Sl) (ad:Int) (af:Int) (H:Hp):aCode tabs (mkOrc (aL.cs F dk)) aL.pn (aL.lh F dk) F [] 1 aL.code (argTm [(.agg [(.sl aa),(.int .i64 ad)]),(.int .i64 af)]) H (fun tm H=>aresults tabs.ty H tm Try.f47.results.toList fun v=>some (v,H)) (fun _ _ _=>none) (fun tm H=>aresults tabs.ty H tm Try.f47.results.toList fun v=>some (v,H)) = aL.twX F dk aa ad af H:=by kernel_rfl
theorem aL.cs_ok (F:Nat):∀ p ∈ aL.cs F (ax.tw F),∀ args H v H',p.2 args H = some (v,H')→Go.AE.T Try.prog p.1 args H v H':=by
 intro p hp
 simp only [aL.cs,List.mem_cons,List.not_mem_nil,or_false] at hp
 subst hp
 exact fun args H v H' h=>ax.mk_T h
theorem aL.ok:codeOk aL.pn Try.f47.ntmps aL.tb aL.code = true:=by kernel_rfl
theorem aL.T {F:Nat} {aa:Sl} {ad:Int} {af:Int} {H:Hp} {v:AV} {H':Hp} (h:aL.tw F aa ad af H = some (v,H')):Go.AE.T Try.prog 47 [(.agg [(.sl aa),(.int .i64 ad)]),(.int .i64 af)] H v H':=
 Go.AE.T.of (Y:=tabs) (C:=mkOrc (aL.cs F (ax.tw F))) (PN:=aL.pn) (LH:=aL.lh F (ax.tw F)) (F:=F) (TB:=aL.tb) (fn:=Try.f47) (code:=aL.code) mixed tabs_ok (mkOrc_ok (aL.cs_ok F)) Try.func47 (by kernel_rfl) (by kernel_rfl) aL.ok (Nat.le_of_ble_eq_true (by kernel_rfl)) (aL.loops F (ax.tw F)) (Eq.trans (aL.eqX F (ax.tw F) aa ad af H) h)
theorem aL.mk_T {F:Nat} {args:List AV} {H:Hp} {v:AV} {H':Hp} (h:aL.mk (aL.tw F) args H = some (v,H')):Go.AE.T Try.prog 47 args H v H':=by
 unfold aL.mk at h
 split at h
 ·exact aL.T h
 ·cases h
noncomputable def aY.twX (F:Nat) (dl:Int→Sl→Int→Hp→OA) (cL:Int→Sl→Hp→OA) (dm:Int→Sl→Hp→OA) (cX:Int→Sl→Hp→OA) (cQ:Sl→Int→Sl→Int→Hp→OA) (dn:Int→Sl→Int→Sl→Hp→OA) (dp:Int→Sl→Int→Hp→OA) (dq:Sl→Int→Int→Hp→OA) (cY:Sl→Int→Int→Hp→OA) (aa:Int) (ad:Sl) (H:Hp):OA:=(Hp.new H [(.int .i64 aa),(.sl ad)]).bind fun H3=>(Hp.ldI H3 .i64 H.length 0).bind fun n4=>(Hp.ldSl H3 H.length (0 + 1)).bind fun s5=>(dl n4 s5 1048576 H3).bind fun r6=>((r6.1).asI .i64).bind fun n7=>(bif (decide (n7 < 0)) then (some ((.bool true),r6.2)) else ((Hp.ldI r6.2 .i64 H.length 0).bind fun n8=>(Hp.ldSl r6.2 H.length (0 + 1)).bind fun s9=>(cL n8 s9 r6.2).bind fun r10=>((r10.1).asAgg 2).bind fun l11=>(l11[0]?).bind fun v12=>((v12).asI .i64).bind fun n13=>(l11[1]?).bind fun v14=>((v14).asSl).bind fun s15=>(dm n13 s15 r10.2).bind fun r16=>((r16.1).asTup 2).bind fun l17=>(l17[0]?).bind fun v18=>((v18).asAgg 2).bind fun l19=>(l19[0]?).bind fun v20=>((v20).asSl).bind fun s21=>(l19[1]?).bind fun v22=>((v22).asI .i64).bind fun n23=>(l17[1]?).bind fun v24=>((v24).asI .i64).bind fun n25=>(Hp.new r16.2 [.sl ⟨none,0,.ex 0⟩,.int .i64 0]).bind fun H26=>(Hp.st H26 r16.2.length 0 (.sl s21)).bind fun H27=>(Hp.st H27 r16.2.length (0 + 1) (.int .i64 n23)).bind fun H28=>(Hp.ldI H28 .i64 H.length 0).bind fun n29=>(Hp.ldSl H28 H.length (0 + 1)).bind fun s30=>(cL n29 s30 H28).bind fun r31=>((r31.1).asAgg 2).bind fun l32=>(l32[0]?).bind fun v33=>((v33).asI .i64).bind fun n34=>(l32[1]?).bind fun v35=>((v35).asSl).bind fun s36=>(Hp.new r31.2 [.int .i64 0,.sl ⟨none,0,.ex 0⟩]).bind fun H37=>(Hp.st H37 r31.2.length 0 (.int .i64 n34)).bind fun H38=>(Hp.st H38 r31.2.length (0 + 1) (.sl s36)).bind fun H39=>(Hp.ldI H39 .i64 r31.2.length 0).bind fun n40=>(Hp.ldSl H39 r31.2.length (0 + 1)).bind fun s41=>(cX n40 s41 H39).bind fun r42=>((r42.1).asTup 2).bind fun l43=>(l43[0]?).bind fun v44=>((v44).asAgg 2).bind fun l45=>(l45[0]?).bind fun v46=>((v46).asSl).bind fun s47=>(l45[1]?).bind fun v48=>((v48).asI .i64).bind fun n49=>(l43[1]?).bind fun v50=>((v50).asI .i64).bind fun n51=>(Hp.new r42.2 [.sl ⟨none,0,.ex 0⟩,.int .i64 0]).bind fun H52=>(Hp.st H52 r42.2.length 0 (.sl s47)).bind fun H53=>(Hp.st H53 r42.2.length (0 + 1) (.int .i64 n49)).bind fun H54=>(Hp.ldSl H54 r42.2.length 0).bind fun s55=>(Hp.ldI H54 .i64 r42.2.length (0 + 1)).bind fun n56=>(Hp.ldSl H54 r16.2.length 0).bind fun s57=>(Hp.ldI H54 .i64 r16.2.length (0 + 1)).bind fun n58=>(cQ s55 n56 s57 n58 H54).bind fun r59=>((r59.1).asB).bind fun b60=>(bif (!b60) then (some ((.bool false),r59.2)) else ((bif (n51 != n25) then (some ((.bool false),r59.2)) else ((Hp.ldI r59.2 .i64 r31.2.length 0).bind fun n61=>(Hp.ldSl r59.2 r31.2.length (0 + 1)).bind fun s62=>(Hp.ldI r59.2 .i64 H.length 0).bind fun n63=>(Hp.ldSl r59.2 H.length (0 + 1)).bind fun s64=>(cL n63 s64 r59.2).bind fun r65=>((r65.1).asAgg 2).bind fun l66=>(l66[0]?).bind fun v67=>((v67).asI .i64).bind fun n68=>(l66[1]?).bind fun v69=>((v69).asSl).bind fun s70=>(if Cons r59.2 r65.2 then ((dn n61 s62 n68 s70 r65.2).bind fun r71=>((r71.1).asB).bind fun b72=>(bif (!b72) then (some ((.bool false),r71.2)) else ((Hp.ldI r71.2 .i64 r31.2.length 0).bind fun n73=>(Hp.ldSl r71.2 r31.2.length (0 + 1)).bind fun s74=>(dp n73 s74 1 r71.2).bind fun r75=>((r75.1).asI .i64).bind fun n76=>(bif (decide (n76 < 0)) then (some ((.bool false),r75.2)) else ((Hp.ldSl r75.2 r42.2.length 0).bind fun s77=>(Hp.ldI r75.2 .i64 r42.2.length (0 + 1)).bind fun n78=>(Hp.ldSl r75.2 r16.2.length 0).bind fun s79=>(Hp.ldI r75.2 .i64 r16.2.length (0 + 1)).bind fun n80=>(cQ s77 n78 s79 n80 r75.2).bind fun r81=>((r81.1).asB).bind fun b82=>(bif (!b82) then (some ((.bool false),r81.2)) else ((bif (n51 != n25) then (some ((.bool false),r81.2)) else ((Hp.ldSl r81.2 r42.2.length 0).bind fun s83=>(Hp.ldI r81.2 .i64 r42.2.length (0 + 1)).bind fun n84=>(dq s83 n84 1 r81.2).bind fun r85=>((r85.1).asI .i64).bind fun n86=>(Hp.ldSl r85.2 r42.2.length 0).bind fun s87=>(Hp.ldI r85.2 .i64 r42.2.length (0 + 1)).bind fun n88=>(cY s87 n88 1 r85.2).bind fun r89=>((r89.1).asI .i64).bind fun n90=>(bif (decide (n90 < 0)) then (some ((.bool false),r89.2)) else ((bif (n90 != n86) then (some ((.bool false),r89.2)) else ((Hp.ldI r89.2 .i64 H.length 0).bind fun n91=>(Hp.ldSl r89.2 H.length (0 + 1)).bind fun s92=>(cL n91 s92 r89.2).bind fun r93=>((r93.1).asAgg 2).bind fun l94=>(l94[0]?).bind fun v95=>((v95).asI .i64).bind fun n96=>(l94[1]?).bind fun v97=>((v97).asSl).bind fun s98=>(cX n96 s98 r93.2).bind fun r99=>((r99.1).asTup 2).bind fun l100=>(l100[0]?).bind fun v101=>((v101).asAgg 2).bind fun l102=>(l102[0]?).bind fun v103=>((v103).asSl).bind fun s104=>(l102[1]?).bind fun v105=>((v105).asI .i64).bind fun n106=>(l100[1]?).bind fun v107=>((v107).asI .i64).bind fun n108=>(Hp.new r99.2 [.sl ⟨none,0,.ex 0⟩,.int .i64 0]).bind fun H109=>(Hp.st H109 r99.2.length 0 (.sl s104)).bind fun H110=>(Hp.st H110 r99.2.length (0 + 1) (.int .i64 n106)).bind fun H111=>(Hp.ldSl H111 r99.2.length 0).bind fun s112=>(Hp.ldI H111 .i64 r99.2.length (0 + 1)).bind fun n113=>(Hp.ldSl H111 r16.2.length 0).bind fun s114=>(Hp.ldI H111 .i64 r16.2.length (0 + 1)).bind fun n115=>(cQ s112 n113 s114 n115 H111).bind fun r116=>((r116.1).asB).bind fun b117=>(bif (!b117) then (some ((.bool false),r116.2)) else ((bif (n108 != n25) then (some ((.bool false),r116.2)) else ((Hp.ldSl r116.2 r42.2.length 0).bind fun s118=>(Hp.ldI r116.2 .i64 r42.2.length (0 + 1)).bind fun n119=>(cY s118 n119 1 r116.2).bind fun r120=>((r120.1).asI .i64).bind fun n121=>(bif (decide (n121 < 0)) then (some ((.bool false),r120.2)) else ((bif (n121 != n86) then (some ((.bool false),r120.2)) else (some ((.bool true),r120.2)))))))))))))))))))))) else none)))))))
noncomputable def aY.tw (F:Nat) (aa:Int) (ad:Sl) (H:Hp):OA:=aY.twX F (aO.tw F) (aH.tw F) (aP.tw F) (ag.tw F) (aI.tw F) (aS.tw F) (aT.tw F) (aU.tw F) (aL.tw F) aa ad H
noncomputable def aY.code:Go.Code:=(Try.f13.body).getD .skip
noncomputable def aY.lh (F:Nat) (dl:Int→Sl→Int→Hp→OA) (cL:Int→Sl→Hp→OA) (dm:Int→Sl→Hp→OA) (cX:Int→Sl→Hp→OA) (cQ:Sl→Int→Sl→Int→Hp→OA) (dn:Int→Sl→Int→Sl→Hp→OA) (dp:Int→Sl→Int→Hp→OA) (dq:Sl→Int→Int→Hp→OA) (cY:Sl→Int→Int→Hp→OA) (p:Nat) (ks:List Nat) (n:Nat) (tm:Tm) (H:Hp):OA:=none
def aY.pn:Nat→List Nat:=fun i=>(([(10,[3])]:List (Nat×List Nat)).lookup i).getD []
def aY.tb:Nat→List (List Nat):=fun i=>(([(10,[[],[],[1],[0,1,2],[0,1,2,3]])]:List (Nat×List (List Nat))).lookup i).getD []
noncomputable def aY.mk (g:Int→Sl→Hp→OA) (args:List AV) (H:Hp):OA:=match args with
 | [(.agg [(.int .i64 aa),(.sl ad)])]=>g aa ad H
 | _=>none
noncomputable def aY.cs (F:Nat) (dl:Int→Sl→Int→Hp→OA) (cL:Int→Sl→Hp→OA) (dm:Int→Sl→Hp→OA) (cX:Int→Sl→Hp→OA) (cQ:Sl→Int→Sl→Int→Hp→OA) (dn:Int→Sl→Int→Sl→Hp→OA) (dp:Int→Sl→Int→Hp→OA) (dq:Sl→Int→Int→Hp→OA) (cY:Sl→Int→Int→Hp→OA):List (FuncId×(List AV→Hp→OA)):=[(20,aO.mk dl),(22,aH.mk cL),(43,aP.mk dm),(44,ag.mk cX),(45,aI.mk cQ),(24,aS.mk dn),(27,aT.mk dp),(46,aU.mk dq),(47,aL.mk cY)]
theorem aY.loops (F:Nat) (dl:Int→Sl→Int→Hp→OA) (cL:Int→Sl→Hp→OA) (dm:Int→Sl→Hp→OA) (cX:Int→Sl→Hp→OA) (cQ:Sl→Int→Sl→Int→Hp→OA) (dn:Int→Sl→Int→Sl→Hp→OA) (dp:Int→Sl→Int→Hp→OA) (dq:Sl→Int→Int→Hp→OA) (cY:Sl→Int→Int→Hp→OA):LoopsOk tabs (mkOrc (aY.cs F dl cL dm cX cQ dn dp dq cY)) aY.pn (aY.lh F dl cL dm cX cQ dn dp dq cY) F [] 1 aY.code (fun tm H=>aresults tabs.ty H tm Try.f13.results.toList fun v=>some (v,H)) (fun _ _ _=>none) (fun tm H=>aresults tabs.ty H tm Try.f13.results.toList fun v=>some (v,H)):=by
 exact loops_none (by kernel_rfl)
theorem aY.eqX (F:Nat) (dl:Int→Sl→Int→Hp→OA) (cL:Int→Sl→Hp→OA) (dm:Int→Sl→Hp→OA) (cX:Int→Sl→Hp→OA) (cQ:Sl→Int→Sl→Int→Hp→OA) (dn:Int→Sl→Int→Sl→Hp→OA) (dp:Int→Sl→Int→Hp→OA) (dq:Sl→Int→Int→Hp→OA) (cY:Sl→Int→Int→Hp→OA) (aa:Int) (ad:Sl) (H:Hp):aCode tabs (mkOrc (aY.cs F dl cL dm cX cQ dn dp dq cY)) aY.pn (aY.lh F dl cL dm cX cQ dn dp dq cY) F [] 1 aY.code (argTm [(.agg [(.int .i64 aa),(.sl ad)])]) H (fun tm H=>aresults tabs.ty H tm Try.f13.results.toList fun v=>some (v,H)) (fun _ _ _=>none) (fun tm H=>aresults tabs.ty H tm Try.f13.results.toList fun v=>some (v,H)) = aY.twX F dl cL dm cX cQ dn dp dq cY aa ad H:=by kernel_rfl
theorem aY.cs_ok (F:Nat):∀ p ∈ aY.cs F (aO.tw F) (aH.tw F) (aP.tw F) (ag.tw F) (aI.tw F) (aS.tw F) (aT.tw F) (aU.tw F) (aL.tw F),∀ args H v H',p.2 args H = some (v,H')→Go.AE.T Try.prog p.1 args H v H':=by
 intro p hp
 simp only [aY.cs,List.mem_cons,List.not_mem_nil,or_false] at hp
 rcases hp with rfl | rfl | rfl | rfl | rfl | rfl | rfl | rfl | rfl
 ·exact fun args H v H' h=>aO.mk_T h
 ·exact fun args H v H' h=>aH.mk_T h
 ·exact fun args H v H' h=>aP.mk_T h
 ·exact fun args H v H' h=>ag.mk_T h
 ·exact fun args H v H' h=>aI.mk_T h
 ·exact fun args H v H' h=>aS.mk_T h
 ·exact fun args H v H' h=>aT.mk_T h
 ·exact fun args H v H' h=>aU.mk_T h
 ·exact fun args H v H' h=>aL.mk_T h
theorem aY.ok:codeOk aY.pn Try.f13.ntmps aY.tb aY.code = true:=by kernel_rfl
theorem aY.T {F:Nat} {aa:Int} {ad:Sl} {H:Hp} {v:AV} {H':Hp} (h:aY.tw F aa ad H = some (v,H')):Go.AE.T Try.prog 13 [(.agg [(.int .i64 aa),(.sl ad)])] H v H':=
 Go.AE.T.of (Y:=tabs) (C:=mkOrc (aY.cs F (aO.tw F) (aH.tw F) (aP.tw F) (ag.tw F) (aI.tw F) (aS.tw F) (aT.tw F) (aU.tw F) (aL.tw F))) (PN:=aY.pn) (LH:=aY.lh F (aO.tw F) (aH.tw F) (aP.tw F) (ag.tw F) (aI.tw F) (aS.tw F) (aT.tw F) (aU.tw F) (aL.tw F)) (F:=F) (TB:=aY.tb) (fn:=Try.f13) (code:=aY.code) mixed tabs_ok (mkOrc_ok (aY.cs_ok F)) Try.func13 (by kernel_rfl) (by kernel_rfl) aY.ok (Nat.le_of_ble_eq_true (by kernel_rfl)) (aY.loops F (aO.tw F) (aH.tw F) (aP.tw F) (ag.tw F) (aI.tw F) (aS.tw F) (aT.tw F) (aU.tw F) (aL.tw F)) (Eq.trans (aY.eqX F (aO.tw F) (aH.tw F) (aP.tw F) (ag.tw F) (aI.tw F) (aS.tw F) (aT.tw F) (aU.tw F) (aL.tw F) aa ad H) h)
theorem aY.mk_T {F:Nat} {args:List AV} {H:Hp} {v:AV} {H':Hp} (h:aY.mk (aY.tw F) args H = some (v,H')):Go.AE.T Try.prog 13 args H v H':=by
 unfold aY.mk at h
 split at h
 ·exact aY.T h
 ·cases h
end Go.Proofs.Ytahjhlcmcnemiaa.AE
