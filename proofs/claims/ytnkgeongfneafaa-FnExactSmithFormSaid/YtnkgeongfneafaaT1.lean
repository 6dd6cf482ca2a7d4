import Derived.Test.YtnkgeongfneafaaTab1
set_option linter.unusedVariables false
set_option linter.unusedSimpArgs false
namespace Go.Proofs.Ytnkgeongfneafaa.AE
open Go Go.AE Go.Proofs
set_option linter.unusedVariables false
set_option maxHeartbeats 4000000
set_option maxRecDepth 100000
noncomputable def ed.twX (F:Nat) (aa:Sl) (ag:Int) (H:Hp):OA:=(bif (decide ((IntKind.i64.wrap (ag - (aa.n:Int))) < 0)) then (some ((.int .i64 (-1)),H)) else (some ((.int .i64 (IntKind.i64.wrap (ag - (aa.n:Int)))),H)))
noncomputable def ed.tw (F:Nat) (aa:Sl) (ag:Int) (H:Hp):OA:=ed.twX F aa ag H
noncomputable def ed.code:Go.Code:=(Try.f71.body).getD .skip
noncomputable def ed.lh (F:Nat) (p:Nat) (ks:List Nat) (n:Nat) (tm:Tm) (H:Hp):OA:=none
def ed.pn:Nat→List Nat:=fun i=>(([]:List (Nat×List Nat)).lookup i).getD []
def ed.tb:Nat→List (List Nat):=fun i=>(([]:List (Nat×List (List Nat))).lookup i).getD []
noncomputable def ed.mk (g:Sl→Int→Hp→OA) (args:List AV) (H:Hp):OA:=match args with
 | [(.sl aa),(.int .i64 ag)]=>g aa ag H
 | _=>none
noncomputable def ed.cs (F:Nat):List (FuncId×(List AV→Hp→OA)):=[]
theorem ed.loops (F:Nat):LoopsOk tabs (mkOrc (ed.cs F)) ed.pn (ed.lh F) F [] 1 ed.code (fun tm H=>aresults tabs.ty H tm Try.f71.results.toList fun v=>some (v,H)) (fun _ _ _=>none) (fun tm H=>aresults tabs.ty H tm Try.f71.results.toList fun v=>some (v,H)):=by
 exact loops_none (by kernel_rfl)
theorem ed.eqX (F:Nat) (aa:Sl) (ag:Int) (H:Hp):aCode tabs (mkOrc (ed.cs F)) ed.pn (ed.lh F) F [] 1 ed.code (argTm [(.sl aa),(.int .i64 ag)]) H (fun tm H=>aresults tabs.ty H tm Try.f71.results.toList fun v=>some (v,H)) (fun _ _ _=>none) (fun tm H=>aresults tabs.ty H tm Try.f71.results.toList fun v=>some (v,H)) = ed.twX F aa ag H:=by kernel_rfl
theorem ed.cs_ok (F:Nat):∀ p ∈ ed.cs F,∀ args H v H',p.2 args H = some (v,H')→Go.AE.T Try.prog p.1 args H v H':=by
 intro p hp
 exact absurd (show p ∈ [] from hp) List.not_mem_nil
theorem ed.ok:codeOk ed.pn Try.f71.ntmps ed.tb ed.code = true:=by kernel_rfl
theorem ed.T {F:Nat} {aa:Sl} {ag:Int} {H:Hp} {v:AV} {H':Hp} (h:ed.tw F aa ag H = some (v,H')):Go.AE.T Try.prog 71 [(.sl aa),(.int .i64 ag)] H v H':=
 Go.AE.T.of (Y:=tabs) (C:=mkOrc (ed.cs F)) (PN:=ed.pn) (LH:=ed.lh F) (F:=F) (TB:=ed.tb) (fn:=Try.f71) (code:=ed.code) mixed tabs_ok (mkOrc_ok (ed.cs_ok F)) Try.func71 (by kernel_rfl) (by kernel_rfl) ed.ok (Nat.le_of_ble_eq_true (by kernel_rfl)) (ed.loops F) (Eq.trans (ed.eqX F aa ag H) h)
theorem ed.mk_T {F:Nat} {args:List AV} {H:Hp} {v:AV} {H':Hp} (h:ed.mk (ed.tw F) args H = some (v,H')):Go.AE.T Try.prog 71 args H v H':=by
 unfold ed.mk at h
 split at h
 ·exact ed.T h
 ·cases h
noncomputable def dJ.twX (F:Nat) (lI:Sl→Int→Hp→OA) (aa:Int) (ac:Int) (ah:Sl) (af:Int) (H:Hp):OA:=(Hp.new H [(.int .i64 aa),(.int .i64 ac),(.sl ah)]).bind fun H5=>(Hp.ldSl H5 H.length 2).bind fun s6=>(lI s6 af H5).bind fun r7=>((r7.1).asI .i64).bind fun n8=>(bif (decide (n8 < 0)) then (some ((.int .i64 (-1)),r7.2)) else (some ((.int .i64 n8),r7.2)))
noncomputable def dJ.tw (F:Nat) (aa:Int) (ac:Int) (ah:Sl) (af:Int) (H:Hp):OA:=dJ.twX F (ed.tw F) aa ac ah af H
noncomputable def dJ.code:Go.Code:=(Try.f23.body).getD .skip
noncomputable def dJ.lh (F:Nat) (lI:Sl→Int→Hp→OA) (p:Nat) (ks:List Nat) (n:Nat) (tm:Tm) (H:Hp):OA:=none
def dJ.pn:Nat→List Nat:=fun i=>(([]:List (Nat×List Nat)).lookup i).getD []
def dJ.tb:Nat→List (List Nat):=fun i=>(([]:List (Nat×List (List Nat))).lookup i).getD []
noncomputable def dJ.mk (g:Int→Int→Sl→Int→Hp→OA) (args:List AV) (H:Hp):OA:=match args with
 | [(.agg [(.int .i64 aa),(.int .i64 ac),(.sl ah)]),(.int .i64 af)]=>g aa ac ah af H
 | _=>none
noncomputable def dJ.cs (F:Nat) (lI:Sl→Int→Hp→OA):List (FuncId×(List AV→Hp→OA)):=[(71,ed.mk lI)]
theorem dJ.loops (F:Nat) (lI:Sl→Int→Hp→OA):LoopsOk tabs (mkOrc (dJ.cs F lI)) dJ.pn (dJ.lh F lI) F [] 1 dJ.code (fun tm H=>aresults tabs.ty H tm Try.f23.results.toList fun v=>some (v,H)) (fun _ _ _=>none) (fun tm H=>aresults tabs.ty H tm Try.f23.results.toList fun v=>some (v,H)):=by
 exact loops_none (by kernel_rfl)
theorem dJ.eqX (F:Nat) (lI:Sl→Int→Hp→OA) (aa:Int) (ac:Int) (ah:Sl) (af:Int) (H:Hp):aCode tabs (mkOrc (dJ.cs F lI)) dJ.pn (dJ.lh F lI) F [] 1 dJ.code (argTm [(.agg [(.int .i64 aa),(.int .i64 ac),(.sl ah)]),(.int .i64 af)]) H (fun tm H=>aresults tabs.ty H tm Try.f23.results.toList fun v=>some (v,H)) (fun _ _ _=>none) (fun tm H=>aresults tabs.ty H tm Try.f23.results.toList fun v=>some (v,H)) = dJ.twX F lI aa ac ah af H:=by kernel_rfl
theorem dJ.cs_ok (F:Nat):∀ p ∈ dJ.cs F (ed.tw F),∀ args H v H',p.2 args H = some (v,H')→Go.AE.T Try.prog p.1 args H v H':=by
 intro p hp
 simp only [dJ.cs,List.mem_cons,List.not_mem_nil,or_false] at hp
 subst hp
 exact fun args H v H' h=>ed.mk_T h
theorem dJ.ok:codeOk dJ.pn Try.f23.ntmps dJ.tb dJ.code = true:=by kernel_rfl
theorem dJ.T {F:Nat} {aa:Int} {ac:Int} {ah:Sl} {af:Int} {H:Hp} {v:AV} {H':Hp} (h:dJ.tw F aa ac ah af H = some (v,H')):Go.AE.T Try.prog 23 [(.agg [(.int .i64 aa),(.int .i64 ac),(.sl ah)]),(.int .i64 af)] H v H':=
 Go.AE.T.of (Y:=tabs) (C:=mkOrc (dJ.cs F (ed.tw F))) (PN:=dJ.pn) (LH:=dJ.lh F (ed.tw F)) (F:=F) (TB:=dJ.tb) (fn:=Try.f23) (code:=dJ.code) mixed tabs_ok (mkOrc_ok (dJ.cs_ok F)) Try.func23 (by kernel_rfl) (by kernel_rfl) dJ.ok (Nat.le_of_ble_eq_true (by kernel_rfl)) (dJ.loops F (ed.tw F)) (Eq.trans (dJ.eqX F (ed.tw F) aa ac ah af H) h)
theorem dJ.mk_T {F:Nat} {args:List AV} {H:Hp} {v:AV} {H':Hp} (h:dJ.mk (dJ.tw F) args H = some (v,H')):Go.AE.T Try.prog 23 args H v H':=by
 unfold dJ.mk at h
 split at h
 ·exact dJ.T h
 ·cases h
noncomputable def cm.l29 (F:Nat) :Nat→Sl→Sl→Int→Hp→OA
 | 0,_,_,_,_=>none
 | eP + 1,cX,lj,iA,H7=>(bif (decide (iA < (cX.n:Int))) then ((Sl.idx cX iA 1).bind fun p12=>(Hp.ldI H7 .i64 p12.1 p12.2).bind fun n13=>(Sl.idx lj iA 1).bind fun p14=>(Hp.st H7 p14.1 p14.2 (.int .i64 n13)).bind fun H15=>cm.l29 F eP cX lj (IntKind.i64.wrap (iA + 1)) H15) else (some ((.sl lj),H7)))
termination_by structural n=>n
noncomputable def cm.twX (F:Nat) (aa:Sl) (H:Hp):OA:=(Hp.mk H [.int .i64 0] 8 (aa.n:Int) (aa.n:Int)).bind fun m2=>cm.l29 F F aa m2.1 0 m2.2
noncomputable def cm.tw (F:Nat) (aa:Sl) (H:Hp):OA:=cm.twX F aa H
noncomputable def cm.code:Go.Code:=(Try.f72.body).getD .skip
noncomputable def cm.lh29 (F:Nat) (ks:List Nat) (n:Nat) (tm:Tm) (H:Hp):OA:=match ks,tm 0,tm 3,tm 4 with
 | [],(.sl cX),(.sl lj),(.int .i64 iA)=>cm.l29 F n cX lj iA H
 | _,_,_,_=>none
theorem cm.lh29_inv {F:Nat} {ks:List Nat} {n:Nat} {tm:Tm} {H:Hp} {r:AV×Hp} (h:cm.lh29 F ks n tm H = some r):∃ cX:Sl,∃ lj:Sl,∃ iA:Int,ks = []∧tm 0 = (.sl cX)∧tm 3 = (.sl lj)∧tm 4 = (.int .i64 iA)∧cm.l29 F n cX lj iA H = some r:=by
 unfold cm.lh29 at h
 split at h
 ·exact ⟨_,_,_,rfl,by assumption,by assumption,by assumption,h⟩
 ·cases h
noncomputable def cm.lh (F:Nat) (p:Nat) (ks:List Nat) (n:Nat) (tm:Tm) (H:Hp):OA:=bif p.beq 29 then cm.lh29 F ks n tm H else (none)
def cm.pn:Nat→List Nat:=fun i=>(([]:List (Nat×List Nat)).lookup i).getD []
def cm.tb:Nat→List (List Nat):=fun i=>(([]:List (Nat×List (List Nat))).lookup i).getD []
noncomputable def cm.mk (g:Sl→Hp→OA) (args:List AV) (H:Hp):OA:=match args with
 | [(.sl aa)]=>g aa H
 | _=>none
noncomputable def cm.cs (F:Nat):List (FuncId×(List AV→Hp→OA)):=[]
theorem cm.loops (F:Nat):LoopsOk tabs (mkOrc (cm.cs F)) cm.pn (cm.lh F) F [] 1 cm.code (fun tm H=>aresults tabs.ty H tm Try.f72.results.toList fun v=>some (v,H)) (fun _ _ _=>none) (fun tm H=>aresults tabs.ty H tm Try.f72.results.toList fun v=>some (v,H)):=by
 refine LoopsOk.seq ?_ ?_
 ·exact loops_none (by kernel_rfl)
 ·refine LoopsOk.seq ?_ ?_
  ·exact loops_none (by kernel_rfl)
  ·refine LoopsOk.seq ?_ ?_
   ·refine LoopsOk.seq ?_ ?_
    ·exact loops_none (by kernel_rfl)
    ·refine LoopsOk.block ?_
     refine LoopsOk.loop (fun tm H=>?_) (fun k29 tm H r h0=>?_) (fun k29=>?_)
     ·refine none_of fun r h0=>?_
      obtain ⟨cX,lj,iA,hks,e0,e3,e4,h⟩:=cm.lh29_inv (show cm.lh29 F [] 0 tm H = some r from h0)
      cases h
     ·obtain ⟨cX,lj,iA,hks,e0,e3,e4,h⟩:=cm.lh29_inv (show cm.lh29 F [] (k29 + 1) tm H = some r from h0)
      have q0:(Tm.put tm 0 (.sl cX)) = tm:=by exact Tm.put_same e0
      have q1:(Tm.put (Tm.put tm 0 (.sl cX)) 3 (.sl lj)) = tm:=by rw [q0]; exact Tm.put_same e3
      have q2:(Tm.put (Tm.put (Tm.put tm 0 (.sl cX)) 3 (.sl lj)) 4 (.int .i64 iA)) = tm:=by rw [q1]; exact Tm.put_same e4
      rw [← q2]
      exact Eq.trans (by kernel_rfl) h
     ·exact loops_none (by kernel_rfl)
   ·exact loops_none (by kernel_rfl)
theorem cm.eqX (F:Nat) (aa:Sl) (H:Hp):aCode tabs (mkOrc (cm.cs F)) cm.pn (cm.lh F) F [] 1 cm.code (argTm [(.sl aa)]) H (fun tm H=>aresults tabs.ty H tm Try.f72.results.toList fun v=>some (v,H)) (fun _ _ _=>none) (fun tm H=>aresults tabs.ty H tm Try.f72.results.toList fun v=>some (v,H)) = cm.twX F aa H:=by kernel_rfl
theorem cm.cs_ok (F:Nat):∀ p ∈ cm.cs F,∀ args H v H',p.2 args H = some (v,H')→Go.AE.T Try.prog p.1 args H v H':=by
 intro p hp
 exact absurd (show p ∈ [] from hp) List.not_mem_nil
theorem cm.ok:codeOk cm.pn Try.f72.ntmps cm.tb cm.code = true:=by kernel_rfl
theorem cm.T {F:Nat} {aa:Sl} {H:Hp} {v:AV} {H':Hp} (h:cm.tw F aa H = some (v,H')):Go.AE.T Try.prog 72 [(.sl aa)] H v H':=
 Go.AE.T.of (Y:=tabs) (C:=mkOrc (cm.cs F)) (PN:=cm.pn) (LH:=cm.lh F) (F:=F) (TB:=cm.tb) (fn:=Try.f72) (code:=cm.code) mixed tabs_ok (mkOrc_ok (cm.cs_ok F)) Try.func72 (by kernel_rfl) (by kernel_rfl) cm.ok (Nat.le_of_ble_eq_true (by kernel_rfl)) (cm.loops F) (Eq.trans (cm.eqX F aa H) h)
theorem cm.mk_T {F:Nat} {args:List AV} {H:Hp} {v:AV} {H':Hp} (h:cm.mk (cm.tw F) args H = some (v,H')):Go.AE.T Try.prog 72 args H v H':=by
 unfold cm.mk at h
 split at h
 ·exact cm.T h
 ·cases h
noncomputable def du.twX (F:Nat) (lJ:Sl→Hp→OA) (aa:Int) (ac:Int) (ah:Sl) (H:Hp):OA:=(Hp.new H [(.int .i64 aa),(.int .i64 ac),(.sl ah)]).bind fun H4=>(Hp.new H4 [.int .i64 0,.int .i64 0,.sl ⟨none,0,.ex 0⟩]).bind fun H5=>(Hp.new H5 [.int .i64 0,.int .i64 0,.sl ⟨none,0,.ex 0⟩]).bind fun H6=>(Hp.ldI H6 .i64 H.length 0).bind fun n7=>(Hp.st H6 H5.length 0 (.int .i64 n7)).bind fun H8=>(Hp.ldI H8 .i64 H.length 1).bind fun n9=>(Hp.st H8 H5.length 1 (.int .i64 n9)).bind fun H10=>(Hp.ldSl H10 H.length 2).bind fun s11=>(lJ s11 H10).bind fun r12=>((r12.1).asSl).bind fun s13=>(Hp.st r12.2 H5.length 2 (.sl s13)).bind fun H14=>(Hp.ldI H14 .i64 H5.length 0).bind fun n15=>(Hp.ldI H14 .i64 H5.length (0 + 1)).bind fun n16=>(Hp.ldSl H14 H5.length (0 + 2)).bind fun s17=>(Hp.st H14 H4.length 0 (.int .i64 n15)).bind fun H18=>(Hp.st H18 H4.length (0 + 1) (.int .i64 n16)).bind fun H19=>(Hp.st H19 H4.length (0 + 1 + 1) (.sl s17)).bind fun H20=>(Hp.ldI H20 .i64 H4.length 0).bind fun n21=>(Hp.ldI H20 .i64 H4.length (0 + 1)).bind fun n22=>(Hp.ldSl H20 H4.length (0 + 2)).bind fun s23=>some ((.agg [(.int .i64 n21),(.int .i64 n22),(.sl s23)]),H20)
noncomputable def du.tw (F:Nat) (aa:Int) (ac:Int) (ah:Sl) (H:Hp):OA:=du.twX F (cm.tw F) aa ac ah H
noncomputable def du.code:Go.Code:=(Try.f25.body).getD .skip
noncomputable def du.lh (F:Nat) (lJ:Sl→Hp→OA) (p:Nat) (ks:List Nat) (n:Nat) (tm:Tm) (H:Hp):OA:=none
def du.pn:Nat→List Nat:=fun i=>(([]:List (Nat×List Nat)).lookup i).getD []
def du.tb:Nat→List (List Nat):=fun i=>(([]:List (Nat×List (List Nat))).lookup i).getD []
noncomputable def du.mk (g:Int→Int→Sl→Hp→OA) (args:List AV) (H:Hp):OA:=match args with
 | [(.agg [(.int .i64 aa),(.int .i64 ac),(.sl ah)])]=>g aa ac ah H
 | _=>none
noncomputable def du.cs (F:Nat) (lJ:Sl→Hp→OA):List (FuncId×(List AV→Hp→OA)):=[(72,cm.mk lJ)]
theorem du.loops (F:Nat) (lJ:Sl→Hp→OA):LoopsOk tabs (mkOrc (du.cs F lJ)) du.pn (du.lh F lJ) F [] 1 du.code (fun tm H=>aresults tabs.ty H tm Try.f25.results.toList fun v=>some (v,H)) (fun _ _ _=>none) (fun tm H=>aresults tabs.ty H tm Try.f25.results.toList fun v=>some (v,H)):=by
 exact loops_none (by kernel_rfl)
theorem du.eqX (F:Nat) (lJ:Sl→Hp→OA) (aa:Int) (ac:Int) (ah:Sl) (H:Hp):aCode tabs (mkOrc (du.cs F lJ)) du.pn (du.lh F lJ) F [] 1 du.code (argTm [(.agg [(.int .i64 aa),(.int .i64 ac),(.sl ah)])]) H (fun tm H=>aresults tabs.ty H tm Try.f25.results.toList fun v=>some (v,H)) (fun _ _ _=>none) (fun tm H=>aresults tabs.ty H tm Try.f25.results.toList fun v=>some (v,H)) = du.twX F lJ aa ac ah H:=by kernel_rfl
theorem du.cs_ok (F:Nat):∀ p ∈ du.cs F (cm.tw F),∀ args H v H',p.2 args H = some (v,H')→Go.AE.T Try.prog p.1 args H v H':=by
 intro p hp
 simp only [du.cs,List.mem_cons,List.not_mem_nil,or_false] at hp
 subst hp
 exact fun args H v H' h=>cm.mk_T h
theorem du.ok:codeOk du.pn Try.f25.ntmps du.tb du.code = true:=by kernel_rfl
theorem du.T {F:Nat} {aa:Int} {ac:Int} {ah:Sl} {H:Hp} {v:AV} {H':Hp} (h:du.tw F aa ac ah H = some (v,H')):Go.AE.T Try.prog 25 [(.agg [(.int .i64 aa),(.int .i64 ac),(.sl ah)])] H v H':=
 Go.AE.T.of (Y:=tabs) (C:=mkOrc (du.cs F (cm.tw F))) (PN:=du.pn) (LH:=du.lh F (cm.tw F)) (F:=F) (TB:=du.tb) (fn:=Try.f25) (code:=du.code) mixed tabs_ok (mkOrc_ok (du.cs_ok F)) Try.func25 (by kernel_rfl) (by kernel_rfl) du.ok (Nat.le_of_ble_eq_true (by kernel_rfl)) (du.loops F (cm.tw F)) (Eq.trans (du.eqX F (cm.tw F) aa ac ah H) h)
theorem du.mk_T {F:Nat} {args:List AV} {H:Hp} {v:AV} {H':Hp} (h:du.mk (du.tw F) args H = some (v,H')):Go.AE.T Try.prog 25 args H v H':=by
 unfold du.mk at h
 split at h
 ·exact du.T h
 ·cases h
noncomputable def dC.twX (F:Nat) (aa:Int) (ag:Int) (cH:Int) (H:Hp):OA:=(bif (decide (aa ≥ ag)) then (some ((.bool (decide (aa ≤ cH))),H)) else (some ((.bool false),H)))
noncomputable def dC.tw (F:Nat) (aa:Int) (ag:Int) (cH:Int) (H:Hp):OA:=dC.twX F aa ag cH H
noncomputable def dC.code:Go.Code:=(Try.f68.body).getD .skip
noncomputable def dC.lh (F:Nat) (p:Nat) (ks:List Nat) (n:Nat) (tm:Tm) (H:Hp):OA:=none
def dC.pn:Nat→List Nat:=fun i=>(([]:List (Nat×List Nat)).lookup i).getD []
def dC.tb:Nat→List (List Nat):=fun i=>(([]:List (Nat×List (List Nat))).lookup i).getD []
noncomputable def dC.mk (g:Int→Int→Int→Hp→OA) (args:List AV) (H:Hp):OA:=match args with
 | [(.int .i64 aa),(.int .i64 ag),(.int .i64 cH)]=>g aa ag cH H
 | _=>none
noncomputable def dC.cs (F:Nat):List (FuncId×(List AV→Hp→OA)):=[]
theorem dC.loops (F:Nat):LoopsOk tabs (mkOrc (dC.cs F)) dC.pn (dC.lh F) F [] 1 dC.code (fun tm H=>aresults tabs.ty H tm Try.f68.results.toList fun v=>some (v,H)) (fun _ _ _=>none) (fun tm H=>aresults tabs.ty H tm Try.f68.results.toList fun v=>some (v,H)):=by
 exact loops_none (by kernel_rfl)
theorem dC.eqX (F:Nat) (aa:Int) (ag:Int) (cH:Int) (H:Hp):aCode tabs (mkOrc (dC.cs F)) dC.pn (dC.lh F) F [] 1 dC.code (argTm [(.int .i64 aa),(.int .i64 ag),(.int .i64 cH)]) H (fun tm H=>aresults tabs.ty H tm Try.f68.results.toList fun v=>some (v,H)) (fun _ _ _=>none) (fun tm H=>aresults tabs.ty H tm Try.f68.results.toList fun v=>some (v,H)) = dC.twX F aa ag cH H:=by kernel_rfl
theorem dC.cs_ok (F:Nat):∀ p ∈ dC.cs F,∀ args H v H',p.2 args H = some (v,H')→Go.AE.T Try.prog p.1 args H v H':=by
 intro p hp
 exact absurd (show p ∈ [] from hp) List.not_mem_nil
theorem dC.ok:codeOk dC.pn Try.f68.ntmps dC.tb dC.code = true:=by kernel_rfl
theorem dC.T {F:Nat} {aa:Int} {ag:Int} {cH:Int} {H:Hp} {v:AV} {H':Hp} (h:dC.tw F aa ag cH H = some (v,H')):Go.AE.T Try.prog 68 [(.int .i64 aa),(.int .i64 ag),(.int .i64 cH)] H v H':=
 Go.AE.T.of (Y:=tabs) (C:=mkOrc (dC.cs F)) (PN:=dC.pn) (LH:=dC.lh F) (F:=F) (TB:=dC.tb) (fn:=Try.f68) (code:=dC.code) mixed tabs_ok (mkOrc_ok (dC.cs_ok F)) Try.func68 (by kernel_rfl) (by kernel_rfl) dC.ok (Nat.le_of_ble_eq_true (by kernel_rfl)) (dC.loops F) (Eq.trans (dC.eqX F aa ag cH H) h)
theorem dC.mk_T {F:Nat} {args:List AV} {H:Hp} {v:AV} {H':Hp} (h:dC.mk (dC.tw F) args H = some (v,H')):Go.AE.T Try.prog 68 args H v H':=by
 unfold dC.mk at h
 split at h
 ·exact dC.T h
 ·cases h
noncomputable def cj.l29 (F:Nat) (hN:Int→Int→Int→Hp→OA) :Nat→Nat→Nat→Int→Hp→OA
 | 0,_,_,_,_=>none
 | eP + 1,ka,lk,jk,H22=>(Hp.ldSl H22 ka (lk + 2)).bind fun s29=>(bif (decide (jk < (s29.n:Int))) then ((Hp.ldSl H22 ka (lk + 2)).bind fun s30=>(Sl.idx s30 jk 1).bind fun p31=>(Hp.ldI H22 .i64 p31.1 p31.2).bind fun n32=>(hN n32 (-1000000000000) 1000000000000 H22).bind fun r33=>((r33.1).asB).bind fun b34=>(bif (!b34) then (some ((.bool false),r33.2)) else (cj.l29 F hN eP ka lk (IntKind.i64.wrap (jk + 1)) r33.2))) else (some ((.bool true),H22)))
termination_by structural n=>n
noncomputable def cj.twX (F:Nat) (hN:Int→Int→Int→Hp→OA) (aa:Int) (ac:Int) (ah:Sl) (H:Hp):OA:=(Hp.new H [(.int .i64 aa),(.int .i64 ac),(.sl ah)]).bind fun H4=>(Hp.ldI H4 .i64 H.length 0).bind fun n5=>(hN n5 0 48 H4).bind fun r6=>((r6.1).asB).bind fun b7=>(bif (!b7) then (some ((.bool false),r6.2)) else ((Hp.ldI r6.2 .i64 H.length 1).bind fun n8=>(hN n8 0 48 r6.2).bind fun r9=>((r9.1).asB).bind fun b10=>(bif (!b10) then (some ((.bool false),r9.2)) else ((Hp.ldSl r9.2 H.length 2).bind fun s11=>(Hp.ldI r9.2 .i64 H.length 0).bind fun n12=>(Hp.ldI r9.2 .i64 H.length 1).bind fun n13=>(bif ((s11.n:Int) != (IntKind.i64.wrap (n12 * n13))) then (some ((.bool false),r9.2)) else (cj.l29 F hN F H.length 0 0 r9.2))))))
noncomputable def cj.tw (F:Nat) (aa:Int) (ac:Int) (ah:Sl) (H:Hp):OA:=cj.twX F (dC.tw F) aa ac ah H
noncomputable def cj.code:Go.Code:=(Try.f19.body).getD .skip
noncomputable def cj.lh29 (F:Nat) (hN:Int→Int→Int→Hp→OA) (ks:List Nat) (n:Nat) (tm:Tm) (H:Hp):OA:=match ks,tm 1,tm 3 with
 | [],(.ptr ka lk),(.int .i64 jk)=>cj.l29 F hN n ka lk jk H
 | _,_,_=>none
theorem cj.lh29_inv {F:Nat} {hN:Int→Int→Int→Hp→OA} {ks:List Nat} {n:Nat} {tm:Tm} {H:Hp} {r:AV×Hp} (h:cj.lh29 F hN ks n tm H = some r):∃ ka:Nat,∃ lk:Nat,∃ jk:Int,ks = []∧tm 1 = (.ptr ka lk)∧tm 3 = (.int .i64 jk)∧cj.l29 F hN n ka lk jk H = some r:=by
 unfold cj.lh29 at h
 split at h
 ·exact ⟨_,_,_,rfl,by assumption,by assumption,h⟩
 ·cases h
noncomputable def cj.lh (F:Nat) (hN:Int→Int→Int→Hp→OA) (p:Nat) (ks:List Nat) (n:Nat) (tm:Tm) (H:Hp):OA:=bif p.beq 29 then cj.lh29 F hN ks n tm H else (none)
def cj.pn:Nat→List Nat:=fun i=>(([]:List (Nat×List Nat)).lookup i).getD []
def cj.tb:Nat→List (List Nat):=fun i=>(([]:List (Nat×List (List Nat))).lookup i).getD []
noncomputable def cj.mk (g:Int→Int→Sl→Hp→OA) (args:List AV) (H:Hp):OA:=match args with
 | [(.agg [(.int .i64 aa),(.int .i64 ac),(.sl ah)])]=>g aa ac ah H
 | _=>none
noncomputable def cj.cs (F:Nat) (hN:Int→Int→Int→Hp→OA):List (FuncId×(List AV→Hp→OA)):=[(68,dC.mk hN)]
theorem cj.loops (F:Nat) (hN:Int→Int→Int→Hp→OA):LoopsOk tabs (mkOrc (cj.cs F hN)) cj.pn (cj.lh F hN) F [] 1 cj.code (fun tm H=>aresults tabs.ty H tm Try.f19.results.toList fun v=>some (v,H)) (fun _ _ _=>none) (fun tm H=>aresults tabs.ty H tm Try.f19.results.toList fun v=>some (v,H)):=by
 refine LoopsOk.seq ?_ ?_
 ·exact loops_none (by kernel_rfl)
 ·refine LoopsOk.seq ?_ ?_
  ·exact loops_none (by kernel_rfl)
  ·refine LoopsOk.seq ?_ ?_
   ·refine LoopsOk.seq ?_ ?_
    ·exact loops_none (by kernel_rfl)
    ·refine LoopsOk.block ?_
     refine LoopsOk.loop (fun tm H=>?_) (fun k29 tm H r h0=>?_) (fun k29=>?_)
     ·refine none_of fun r h0=>?_
      obtain ⟨ka,lk,jk,hks,e1,e3,h⟩:=cj.lh29_inv (show cj.lh29 F hN [] 0 tm H = some r from h0)
      cases h
     ·obtain ⟨ka,lk,jk,hks,e1,e3,h⟩:=cj.lh29_inv (show cj.lh29 F hN [] (k29 + 1) tm H = some r from h0)
      have q0:(Tm.put tm 1 (.ptr ka lk)) = tm:=by exact Tm.put_same e1
      have q1:(Tm.put (Tm.put tm 1 (.ptr ka lk)) 3 (.int .i64 jk)) = tm:=by rw [q0]; exact Tm.put_same e3
      rw [← q1]
      exact Eq.trans (by kernel_rfl) h
     ·exact loops_none (by kernel_rfl)
   ·exact loops_none (by kernel_rfl)
theorem cj.eqX (F:Nat) (hN:Int→Int→Int→Hp→OA) (aa:Int) (ac:Int) (ah:Sl) (H:Hp):aCode tabs (mkOrc (cj.cs F hN)) cj.pn (cj.lh F hN) F [] 1 cj.code (argTm [(.agg [(.int .i64 aa),(.int .i64 ac),(.sl ah)])]) H (fun tm H=>aresults tabs.ty H tm Try.f19.results.toList fun v=>some (v,H)) (fun _ _ _=>none) (fun tm H=>aresults tabs.ty H tm Try.f19.results.toList fun v=>some (v,H)) = cj.twX F hN aa ac ah H:=by kernel_rfl
theorem cj.cs_ok (F:Nat):∀ p ∈ cj.cs F (dC.tw F),∀ args H v H',p.2 args H = some (v,H')→Go.AE.T Try.prog p.1 args H v H':=by
 intro p hp
 simp only [cj.cs,List.mem_cons,List.not_mem_nil,or_false] at hp
 subst hp
 exact fun args H v H' h=>dC.mk_T h
theorem cj.ok:codeOk cj.pn Try.f19.ntmps cj.tb cj.code = true:=by kernel_rfl
theorem cj.T {F:Nat} {aa:Int} {ac:Int} {ah:Sl} {H:Hp} {v:AV} {H':Hp} (h:cj.tw F aa ac ah H = some (v,H')):Go.AE.T Try.prog 19 [(.agg [(.int .i64 aa),(.int .i64 ac),(.sl ah)])] H v H':=
 Go.AE.T.of (Y:=tabs) (C:=mkOrc (cj.cs F (dC.tw F))) (PN:=cj.pn) (LH:=cj.lh F (dC.tw F)) (F:=F) (TB:=cj.tb) (fn:=Try.f19) (code:=cj.code) mixed tabs_ok (mkOrc_ok (cj.cs_ok F)) Try.func19 (by kernel_rfl) (by kernel_rfl) cj.ok (Nat.le_of_ble_eq_true (by kernel_rfl)) (cj.loops F (dC.tw F)) (Eq.trans (cj.eqX F (dC.tw F) aa ac ah H) h)
theorem cj.mk_T {F:Nat} {args:List AV} {H:Hp} {v:AV} {H':Hp} (h:cj.mk (cj.tw F) args H = some (v,H')):Go.AE.T Try.prog 19 args H v H':=by
 unfold cj.mk at h
 split at h
 ·exact cj.T h
 ·cases h
noncomputable def dT.twX (F:Nat) (aa:Int) (ag:Int) (H:Hp):OA:=(Hp.new H [.int .i64 0,.int .i64 0,.sl ⟨none,0,.ex 0⟩]).bind fun H3=>(Hp.mk H3 [.int .i64 0] 8 (IntKind.i64.wrap (aa * ag)) (IntKind.i64.wrap (aa * ag))).bind fun m4=>(Hp.st m4.2 H.length 0 (.int .i64 aa)).bind fun H5=>(Hp.st H5 H.length (0 + 1) (.int .i64 ag)).bind fun H6=>(Hp.st H6 H.length (0 + 1 + 1) (.sl m4.1)).bind fun H7=>(Hp.ldI H7 .i64 H.length 0).bind fun n8=>(Hp.ldI H7 .i64 H.length (0 + 1)).bind fun n9=>(Hp.ldSl H7 H.length (0 + 2)).bind fun s10=>some ((.agg [(.int .i64 n8),(.int .i64 n9),(.sl s10)]),H7)
noncomputable def dT.tw (F:Nat) (aa:Int) (ag:Int) (H:Hp):OA:=dT.twX F aa ag H
noncomputable def dT.code:Go.Code:=(Try.f80.body).getD .skip
noncomputable def dT.lh (F:Nat) (p:Nat) (ks:List Nat) (n:Nat) (tm:Tm) (H:Hp):OA:=none
def dT.pn:Nat→List Nat:=fun i=>(([]:List (Nat×List Nat)).lookup i).getD []
def dT.tb:Nat→List (List Nat):=fun i=>(([]:List (Nat×List (List Nat))).lookup i).getD []
noncomputable def dT.mk (g:Int→Int→Hp→OA) (args:List AV) (H:Hp):OA:=match args with
 | [(.int .i64 aa),(.int .i64 ag)]=>g aa ag H
 | _=>none
noncomputable def dT.cs (F:Nat):List (FuncId×(List AV→Hp→OA)):=[]
theorem dT.loops (F:Nat):LoopsOk tabs (mkOrc (dT.cs F)) dT.pn (dT.lh F) F [] 1 dT.code (fun tm H=>aresults tabs.ty H tm Try.f80.results.toList fun v=>some (v,H)) (fun _ _ _=>none) (fun tm H=>aresults tabs.ty H tm Try.f80.results.toList fun v=>some (v,H)):=by
 exact loops_none (by kernel_rfl)
theorem dT.eqX (F:Nat) (aa:Int) (ag:Int) (H:Hp):aCode tabs (mkOrc (dT.cs F)) dT.pn (dT.lh F) F [] 1 dT.code (argTm [(.int .i64 aa),(.int .i64 ag)]) H (fun tm H=>aresults tabs.ty H tm Try.f80.results.toList fun v=>some (v,H)) (fun _ _ _=>none) (fun tm H=>aresults tabs.ty H tm Try.f80.results.toList fun v=>some (v,H)) = dT.twX F aa ag H:=by kernel_rfl
theorem dT.cs_ok (F:Nat):∀ p ∈ dT.cs F,∀ args H v H',p.2 args H = some (v,H')→Go.AE.T Try.prog p.1 args H v H':=by
 intro p hp
 exact absurd (show p ∈ [] from hp) List.not_mem_nil
theorem dT.ok:codeOk dT.pn Try.f80.ntmps dT.tb dT.code = true:=by kernel_rfl
theorem dT.T {F:Nat} {aa:Int} {ag:Int} {H:Hp} {v:AV} {H':Hp} (h:dT.tw F aa ag H = some (v,H')):Go.AE.T Try.prog 80 [(.int .i64 aa),(.int .i64 ag)] H v H':=
 Go.AE.T.of (Y:=tabs) (C:=mkOrc (dT.cs F)) (PN:=dT.pn) (LH:=dT.lh F) (F:=F) (TB:=dT.tb) (fn:=Try.f80) (code:=dT.code) mixed tabs_ok (mkOrc_ok (dT.cs_ok F)) Try.func80 (by kernel_rfl) (by kernel_rfl) dT.ok (Nat.le_of_ble_eq_true (by kernel_rfl)) (dT.loops F) (Eq.trans (dT.eqX F aa ag H) h)
theorem dT.mk_T {F:Nat} {args:List AV} {H:Hp} {v:AV} {H':Hp} (h:dT.mk (dT.tw F) args H = some (v,H')):Go.AE.T Try.prog 80 args H v H':=by
 unfold dT.mk at h
 split at h
 ·exact dT.T h
 ·cases h
noncomputable def bJ.l29 (F:Nat) (iB:Int→Int→Hp→OA) :Nat→Int→Nat→Nat→Nat→Nat→Int→Hp→OA
 | 0,_,_,_,_,_,_,_=>none
 | eP + 1,ig,cd,gd,fA,gw,iC,H21=>(bif (decide (iC < ig)) then ((Hp.ldSl H21 fA (gw + 2)).bind fun s34=>(Sl.idx s34 (IntKind.i64.wrap ((IntKind.i64.wrap (iC * ig)) + iC)) 1).bind fun p35=>(Hp.st H21 p35.1 p35.2 (.int .i64 1)).bind fun H36=>bJ.l29 F iB eP ig cd gd fA gw (IntKind.i64.wrap (iC + 1)) H36) else ((Hp.ldI H21 .i64 fA gw).bind fun n37=>(Hp.ldI H21 .i64 fA (gw + 1)).bind fun n38=>(Hp.ldSl H21 fA (gw + 2)).bind fun s39=>(Hp.st H21 cd gd (.int .i64 n37)).bind fun H40=>(Hp.st H40 cd (gd + 1) (.int .i64 n38)).bind fun H41=>(Hp.st H41 cd (gd + 1 + 1) (.sl s39)).bind fun H42=>(Hp.ldI H42 .i64 cd gd).bind fun n43=>(Hp.ldI H42 .i64 cd (gd + 1)).bind fun n44=>(Hp.ldSl H42 cd (gd + 2)).bind fun s45=>some ((.agg [(.int .i64 n43),(.int .i64 n44),(.sl s45)]),H42)))
termination_by structural n=>n
noncomputable def bJ.twX (F:Nat) (iB:Int→Int→Hp→OA) (aa:Int) (H:Hp):OA:=(Hp.new H [.int .i64 0,.int .i64 0,.sl ⟨none,0,.ex 0⟩]).bind fun H2=>(iB aa aa H2).bind fun r3=>((r3.1).asAgg 3).bind fun l4=>(l4[0]?).bind fun v5=>((v5).asI .i64).bind fun n6=>(l4[1]?).bind fun v7=>((v7).asI .i64).bind fun n8=>(l4[2]?).bind fun v9=>((v9).asSl).bind fun s10=>(Hp.new r3.2 [.int .i64 0,.int .i64 0,.sl ⟨none,0,.ex 0⟩]).bind fun H11=>(Hp.st H11 r3.2.length 0 (.int .i64 n6)).bind fun H12=>(Hp.st H12 r3.2.length (0 + 1) (.int .i64 n8)).bind fun H13=>(Hp.st H13 r3.2.length (0 + 1 + 1) (.sl s10)).bind fun H14=>bJ.l29 F iB F aa H.length 0 r3.2.length 0 0 H14
noncomputable def bJ.tw (F:Nat) (aa:Int) (H:Hp):OA:=bJ.twX F (dT.tw F) aa H
noncomputable def bJ.code:Go.Code:=(Try.f115.body).getD .skip
noncomputable def bJ.lh29 (F:Nat) (iB:Int→Int→Hp→OA) (ks:List Nat) (n:Nat) (tm:Tm) (H:Hp):OA:=match ks,tm 0,tm 2,tm 3,tm 4 with
 | [],(.int .i64 ig),(.ptr cd gd),(.ptr fA gw),(.int .i64 iC)=>bJ.l29 F iB n ig cd gd fA gw iC H
 | _,_,_,_,_=>none
theorem bJ.lh29_inv {F:Nat} {iB:Int→Int→Hp→OA} {ks:List Nat} {n:Nat} {tm:Tm} {H:Hp} {r:AV×Hp} (h:bJ.lh29 F iB ks n tm H = some r):∃ ig:Int,∃ cd:Nat,∃ gd:Nat,∃ fA:Nat,∃ gw:Nat,∃ iC:Int,ks = []∧tm 0 = (.int .i64 ig)∧tm 2 = (.ptr cd gd)∧tm 3 = (.ptr fA gw)∧tm 4 = (.int .i64 iC)∧bJ.l29 F iB n ig cd gd fA gw iC H = some r:=by
 unfold bJ.lh29 at h
 split at h
 ·exact ⟨_,_,_,_,_,_,rfl,by assumption,by assumption,by assumption,by assumption,h⟩
 ·cases h
noncomputable def bJ.lh (F:Nat) (iB:Int→Int→Hp→OA) (p:Nat) (ks:List Nat) (n:Nat) (tm:Tm) (H:Hp):OA:=bif p.beq 29 then bJ.lh29 F iB ks n tm H else (none)
def bJ.pn:Nat→List Nat:=fun i=>(([]:List (Nat×List Nat)).lookup i).getD []
def bJ.tb:Nat→List (List Nat):=fun i=>(([]:List (Nat×List (List Nat))).lookup i).getD []
noncomputable def bJ.mk (g:Int→Hp→OA) (args:List AV) (H:Hp):OA:=match args with
 | [(.int .i64 aa)]=>g aa H
 | _=>none
noncomputable def bJ.cs (F:Nat) (iB:Int→Int→Hp→OA):List (FuncId×(List AV→Hp→OA)):=[(80,dT.mk iB)]
theorem bJ.loops (F:Nat) (iB:Int→Int→Hp→OA):LoopsOk tabs (mkOrc (bJ.cs F iB)) bJ.pn (bJ.lh F iB) F [] 1 bJ.code (fun tm H=>aresults tabs.ty H tm Try.f115.results.toList fun v=>some (v,H)) (fun _ _ _=>none) (fun tm H=>aresults tabs.ty H tm Try.f115.results.toList fun v=>some (v,H)):=by
 refine LoopsOk.seq ?_ ?_
 ·exact loops_none (by kernel_rfl)
 ·refine LoopsOk.seq ?_ ?_
  ·exact loops_none (by kernel_rfl)
  ·refine LoopsOk.seq ?_ ?_
   ·refine LoopsOk.seq ?_ ?_
    ·exact loops_none (by kernel_rfl)
    ·refine LoopsOk.block ?_
     refine LoopsOk.loop (fun tm H=>?_) (fun k29 tm H r h0=>?_) (fun k29=>?_)
     ·refine none_of fun r h0=>?_
      obtain ⟨ig,cd,gd,fA,gw,iC,hks,e0,e2,e3,e4,h⟩:=bJ.lh29_inv (show bJ.lh29 F iB [] 0 tm H = some r from h0)
      cases h
     ·obtain ⟨ig,cd,gd,fA,gw,iC,hks,e0,e2,e3,e4,h⟩:=bJ.lh29_inv (show bJ.lh29 F iB [] (k29 + 1) tm H = some r from h0)
      have q0:(Tm.put tm 0 (.int .i64 ig)) = tm:=by exact Tm.put_same e0
      have q1:(Tm.put (Tm.put tm 0 (.int .i64 ig)) 2 (.ptr cd gd)) = tm:=by rw [q0]; exact Tm.put_same e2
      have q2:(Tm.put (Tm.put (Tm.put tm 0 (.int .i64 ig)) 2 (.ptr cd gd)) 3 (.ptr fA gw)) = tm:=by rw [q1]; exact Tm.put_same e3
      have q3:(Tm.put (Tm.put (Tm.put (Tm.put tm 0 (.int .i64 ig)) 2 (.ptr cd gd)) 3 (.ptr fA gw)) 4 (.int .i64 iC)) = tm:=by rw [q2]; exact Tm.put_same e4
      rw [← q3]
      exact Eq.trans (by kernel_rfl) h
     ·exact loops_none (by kernel_rfl)
   ·exact loops_none (by kernel_rfl)
theorem bJ.eqX (F:Nat) (iB:Int→Int→Hp→OA) (aa:Int) (H:Hp):aCode tabs (mkOrc (bJ.cs F iB)) bJ.pn (bJ.lh F iB) F [] 1 bJ.code (argTm [(.int .i64 aa)]) H (fun tm H=>aresults tabs.ty H tm Try.f115.results.toList fun v=>some (v,H)) (fun _ _ _=>none) (fun tm H=>aresults tabs.ty H tm Try.f115.results.toList fun v=>some (v,H)) = bJ.twX F iB aa H:=by kernel_rfl
theorem bJ.cs_ok (F:Nat):∀ p ∈ bJ.cs F (dT.tw F),∀ args H v H',p.2 args H = some (v,H')→Go.AE.T Try.prog p.1 args H v H':=by
 intro p hp
 simp only [bJ.cs,List.mem_cons,List.not_mem_nil,or_false] at hp
 subst hp
 exact fun args H v H' h=>dT.mk_T h
theorem bJ.ok:codeOk bJ.pn Try.f115.ntmps bJ.tb bJ.code = true:=by kernel_rfl
theorem bJ.T {F:Nat} {aa:Int} {H:Hp} {v:AV} {H':Hp} (h:bJ.tw F aa H = some (v,H')):Go.AE.T Try.prog 115 [(.int .i64 aa)] H v H':=
 Go.AE.T.of (Y:=tabs) (C:=mkOrc (bJ.cs F (dT.tw F))) (PN:=bJ.pn) (LH:=bJ.lh F (dT.tw F)) (F:=F) (TB:=bJ.tb) (fn:=Try.f115) (code:=bJ.code) mixed tabs_ok (mkOrc_ok (bJ.cs_ok F)) Try.func115 (by kernel_rfl) (by kernel_rfl) bJ.ok (Nat.le_of_ble_eq_true (by kernel_rfl)) (bJ.loops F (dT.tw F)) (Eq.trans (bJ.eqX F (dT.tw F) aa H) h)
theorem bJ.mk_T {F:Nat} {args:List AV} {H:Hp} {v:AV} {H':Hp} (h:bJ.mk (bJ.tw F) args H = some (v,H')):Go.AE.T Try.prog 115 args H v H':=by
 unfold bJ.mk at h
 split at h
 ·exact bJ.T h
 ·cases h
noncomputable def aN.twX (F:Nat) (aa:Int) (ac:Int) (ah:Sl) (af:Int) (bi:Int) (H:Hp):OA:=(Hp.new H [(.int .i64 aa),(.int .i64 ac),(.sl ah)]).bind fun H6=>(Hp.ldSl H6 H.length 2).bind fun s7=>(Hp.ldI H6 .i64 H.length 1).bind fun n8=>(Sl.idx s7 (IntKind.i64.wrap ((IntKind.i64.wrap (af * n8)) + bi)) 1).bind fun p9=>(Hp.ldI H6 .i64 p9.1 p9.2).bind fun n10=>some ((.int .i64 n10),H6)
noncomputable def aN.tw (F:Nat) (aa:Int) (ac:Int) (ah:Sl) (af:Int) (bi:Int) (H:Hp):OA:=aN.twX F aa ac ah af bi H
noncomputable def aN.code:Go.Code:=(Try.f79.body).getD .skip
noncomputable def aN.lh (F:Nat) (p:Nat) (ks:List Nat) (n:Nat) (tm:Tm) (H:Hp):OA:=none
def aN.pn:Nat→List Nat:=fun i=>(([]:List (Nat×List Nat)).lookup i).getD []
def aN.tb:Nat→List (List Nat):=fun i=>(([]:List (Nat×List (List Nat))).lookup i).getD []
noncomputable def aN.mk (g:Int→Int→Sl→Int→Int→Hp→OA) (args:List AV) (H:Hp):OA:=match args with
 | [(.agg [(.int .i64 aa),(.int .i64 ac),(.sl ah)]),(.int .i64 af),(.int .i64 bi)]=>g aa ac ah af bi H
 | _=>none
noncomputable def aN.cs (F:Nat):List (FuncId×(List AV→Hp→OA)):=[]
theorem aN.loops (F:Nat):LoopsOk tabs (mkOrc (aN.cs F)) aN.pn (aN.lh F) F [] 1 aN.code (fun tm H=>aresults tabs.ty H tm Try.f79.results.toList fun v=>some (v,H)) (fun _ _ _=>none) (fun tm H=>aresults tabs.ty H tm Try.f79.results.toList fun v=>some (v,H)):=by
 exact loops_none (by kernel_rfl)
theorem aN.eqX (F:Nat) (aa:Int) (ac:Int) (ah:Sl) (af:Int) (bi:Int) (H:Hp):aCode tabs (mkOrc (aN.cs F)) aN.pn (aN.lh F) F [] 1 aN.code (argTm [(.agg [(.int .i64 aa),(.int .i64 ac),(.sl ah)]),(.int .i64 af),(.int .i64 bi)]) H (fun tm H=>aresults tabs.ty H tm Try.f79.results.toList fun v=>some (v,H)) (fun _ _ _=>none) (fun tm H=>aresults tabs.ty H tm Try.f79.results.toList fun v=>some (v,H)) = aN.twX F aa ac ah af bi H:=by kernel_rfl
theorem aN.cs_ok (F:Nat):∀ p ∈ aN.cs F,∀ args H v H',p.2 args H = some (v,H')→Go.AE.T Try.prog p.1 args H v H':=by
 intro p hp
 exact absurd (show p ∈ [] from hp) List.not_mem_nil
theorem aN.ok:codeOk aN.pn Try.f79.ntmps aN.tb aN.code = true:=by kernel_rfl
theorem aN.T {F:Nat} {aa:Int} {ac:Int} {ah:Sl} {af:Int} {bi:Int} {H:Hp} {v:AV} {H':Hp} (h:aN.tw F aa ac ah af bi H = some (v,H')):Go.AE.T Try.prog 79 [(.agg [(.int .i64 aa),(.int .i64 ac),(.sl ah)]),(.int .i64 af),(.int .i64 bi)] H v H':=
 Go.AE.T.of (Y:=tabs) (C:=mkOrc (aN.cs F)) (PN:=aN.pn) (LH:=aN.lh F) (F:=F) (TB:=aN.tb) (fn:=Try.f79) (code:=aN.code) mixed tabs_ok (mkOrc_ok (aN.cs_ok F)) Try.func79 (by kernel_rfl) (by kernel_rfl) aN.ok (Nat.le_of_ble_eq_true (by kernel_rfl)) (aN.loops F) (Eq.trans (aN.eqX F aa ac ah af bi H) h)
theorem aN.mk_T {F:Nat} {args:List AV} {H:Hp} {v:AV} {H':Hp} (h:aN.mk (aN.tw F) args H = some (v,H')):Go.AE.T Try.prog 79 args H v H':=by
 unfold aN.mk at h
 split at h
 ·exact aN.T h
 ·cases h
noncomputable def ch.twX (F:Nat) (aa:Int) (H:Hp):OA:=some ((.int .i64 (if (IntKind.i64.wrap (0 - aa)) > aa then (IntKind.i64.wrap (0 - aa)) else aa)),H)
noncomputable def ch.tw (F:Nat) (aa:Int) (H:Hp):OA:=ch.twX F aa H
noncomputable def ch.code:Go.Code:=(Try.f114.body).getD .skip
noncomputable def ch.lh (F:Nat) (p:Nat) (ks:List Nat) (n:Nat) (tm:Tm) (H:Hp):OA:=none
def ch.pn:Nat→List Nat:=fun i=>(([]:List (Nat×List Nat)).lookup i).getD []
def ch.tb:Nat→List (List Nat):=fun i=>(([]:List (Nat×List (List Nat))).lookup i).getD []
noncomputable def ch.mk (g:Int→Hp→OA) (args:List AV) (H:Hp):OA:=match args with
 | [(.int .i64 aa)]=>g aa H
 | _=>none
noncomputable def ch.cs (F:Nat):List (FuncId×(List AV→Hp→OA)):=[]
theorem ch.loops (F:Nat):LoopsOk tabs (mkOrc (ch.cs F)) ch.pn (ch.lh F) F [] 1 ch.code (fun tm H=>aresults tabs.ty H tm Try.f114.results.toList fun v=>some (v,H)) (fun _ _ _=>none) (fun tm H=>aresults tabs.ty H tm Try.f114.results.toList fun v=>some (v,H)):=by
 exact loops_none (by kernel_rfl)
theorem ch.eqX (F:Nat) (aa:Int) (H:Hp):aCode tabs (mkOrc (ch.cs F)) ch.pn (ch.lh F) F [] 1 ch.code (argTm [(.int .i64 aa)]) H (fun tm H=>aresults tabs.ty H tm Try.f114.results.toList fun v=>some (v,H)) (fun _ _ _=>none) (fun tm H=>aresults tabs.ty H tm Try.f114.results.toList fun v=>some (v,H)) = ch.twX F aa H:=by kernel_rfl
theorem ch.cs_ok (F:Nat):∀ p ∈ ch.cs F,∀ args H v H',p.2 args H = some (v,H')→Go.AE.T Try.prog p.1 args H v H':=by
 intro p hp
 exact absurd (show p ∈ [] from hp) List.not_mem_nil
theorem ch.ok:codeOk ch.pn Try.f114.ntmps ch.tb ch.code = true:=by kernel_rfl
theorem ch.T {F:Nat} {aa:Int} {H:Hp} {v:AV} {H':Hp} (h:ch.tw F aa H = some (v,H')):Go.AE.T Try.prog 114 [(.int .i64 aa)] H v H':=
 Go.AE.T.of (Y:=tabs) (C:=mkOrc (ch.cs F)) (PN:=ch.pn) (LH:=ch.lh F) (F:=F) (TB:=ch.tb) (fn:=Try.f114) (code:=ch.code) mixed tabs_ok (mkOrc_ok (ch.cs_ok F)) Try.func114 (by kernel_rfl) (by kernel_rfl) ch.ok (Nat.le_of_ble_eq_true (by kernel_rfl)) (ch.loops F) (Eq.trans (ch.eqX F aa H) h)
theorem ch.mk_T {F:Nat} {args:List AV} {H:Hp} {v:AV} {H':Hp} (h:ch.mk (ch.tw F) args H = some (v,H')):Go.AE.T Try.prog 114 args H v H':=by
 unfold ch.mk at h
 split at h
 ·exact ch.T h
 ·cases h
noncomputable def bG.l7 (F:Nat) (ak:Int→Int→Sl→Int→Int→Hp→OA) :Nat→Int→Int→Nat→Nat→Int→Hp→OA
 | 0,_,_,_,_,_,_=>none
 | kK + 1,eQ,ff,eB,cI,eC,H15=>(Hp.ldI H15 .i64 eB (cI + 1)).bind fun n35=>(bif (decide (eC < n35)) then ((Hp.ldI H15 .i64 eB cI).bind fun n36=>(Hp.ldI H15 .i64 eB (cI + 1)).bind fun n37=>(Hp.ldSl H15 eB (cI + 2)).bind fun s38=>(ak n36 n37 s38 eQ eC H15).bind fun r39=>((r39.1).asI .i64).bind fun n40=>(Hp.ldSl r39.2 eB (cI + 2)).bind fun s41=>(Hp.ldI r39.2 .i64 eB (cI + 1)).bind fun n42=>(Hp.ldI r39.2 .i64 eB cI).bind fun n43=>(Hp.ldI r39.2 .i64 eB (cI + 1)).bind fun n44=>(Hp.ldSl r39.2 eB (cI + 2)).bind fun s45=>(ak n43 n44 s45 ff eC r39.2).bind fun r46=>((r46.1).asI .i64).bind fun n47=>(if Cons r39.2 r46.2 then ((Sl.idx s41 (IntKind.i64.wrap ((IntKind.i64.wrap (eQ * n42)) + eC)) 1).bind fun p48=>(Hp.st r46.2 p48.1 p48.2 (.int .i64 n47)).bind fun H49=>(Hp.ldSl H49 eB (cI + 2)).bind fun s50=>(Hp.ldI H49 .i64 eB (cI + 1)).bind fun n51=>(Sl.idx s50 (IntKind.i64.wrap ((IntKind.i64.wrap (ff * n51)) + eC)) 1).bind fun p52=>(Hp.st H49 p52.1 p52.2 (.int .i64 n40)).bind fun H53=>bG.l7 F ak kK eQ ff eB cI (IntKind.i64.wrap (eC + 1)) H53) else none)) else (some ((.tup []),H15)))
termination_by structural n=>n
noncomputable def bG.twX (F:Nat) (ak:Int→Int→Sl→Int→Int→Hp→OA) (aa:Int) (ac:Int) (ah:Sl) (af:Int) (bi:Int) (H:Hp):OA:=(Hp.new H [(.int .i64 aa),(.int .i64 ac),(.sl ah)]).bind fun H6=>bG.l7 F ak F af bi H.length 0 0 H6
noncomputable def bG.tw (F:Nat) (aa:Int) (ac:Int) (ah:Sl) (af:Int) (bi:Int) (H:Hp):OA:=bG.twX F (aN.tw F) aa ac ah af bi H
noncomputable def bG.code:Go.Code:=(Try.f145.body).getD .skip
noncomputable def bG.lh7 (F:Nat) (ak:Int→Int→Sl→Int→Int→Hp→OA) (ks:List Nat) (n:Nat) (tm:Tm) (H:Hp):OA:=match ks,tm 1,tm 2,tm 3,tm 6 with
 | [],(.int .i64 eQ),(.int .i64 ff),(.ptr eB cI),(.int .i64 eC)=>bG.l7 F ak n eQ ff eB cI eC H
 | _,_,_,_,_=>none
theorem bG.lh7_inv {F:Nat} {ak:Int→Int→Sl→Int→Int→Hp→OA} {ks:List Nat} {n:Nat} {tm:Tm} {H:Hp} {r:AV×Hp} (h:bG.lh7 F ak ks n tm H = some r):∃ eQ:Int,∃ ff:Int,∃ eB:Nat,∃ cI:Nat,∃ eC:Int,ks = []∧tm 1 = (.int .i64 eQ)∧tm 2 = (.int .i64 ff)∧tm 3 = (.ptr eB cI)∧tm 6 = (.int .i64 eC)∧bG.l7 F ak n eQ ff eB cI eC H = some r:=by
 unfold bG.lh7 at h
 split at h
 ·exact ⟨_,_,_,_,_,rfl,by assumption,by assumption,by assumption,by assumption,h⟩
 ·cases h
noncomputable def bG.lh (F:Nat) (ak:Int→Int→Sl→Int→Int→Hp→OA) (p:Nat) (ks:List Nat) (n:Nat) (tm:Tm) (H:Hp):OA:=bif p.beq 7 then bG.lh7 F ak ks n tm H else (none)
def bG.pn:Nat→List Nat:=fun i=>(([(5,[13])]:List (Nat×List Nat)).lookup i).getD []
def bG.tb:Nat→List (List Nat):=fun i=>(([(5,[[],[0],[],[],[3],[2,3,4],[],[2,3,4,5,6],[],[],[],[8,9,10],[0,1,2,3,4,5,6,7,8,9,10,11],[0,1,2,3,4,5,6,7,8,9,10,11,12]])]:List (Nat×List (List Nat))).lookup i).getD []
noncomputable def bG.mk (g:Int→Int→Sl→Int→Int→Hp→OA) (args:List AV) (H:Hp):OA:=match args with
 | [(.agg [(.int .i64 aa),(.int .i64 ac),(.sl ah)]),(.int .i64 af),(.int .i64 bi)]=>g aa ac ah af bi H
 | _=>none
noncomputable def bG.cs (F:Nat) (ak:Int→Int→Sl→Int→Int→Hp→OA):List (FuncId×(List AV→Hp→OA)):=[(79,aN.mk ak)]
theorem bG.loops (F:Nat) (ak:Int→Int→Sl→Int→Int→Hp→OA):LoopsOk tabs (mkOrc (bG.cs F ak)) bG.pn (bG.lh F ak) F [] 1 bG.code (fun tm H=>aresults tabs.ty H tm Try.f145.results.toList fun v=>some (v,H)) (fun _ _ _=>none) (fun tm H=>aresults tabs.ty H tm Try.f145.results.toList fun v=>some (v,H)):=by
 refine LoopsOk.seq ?_ ?_
 ·exact loops_none (by kernel_rfl)
 ·refine LoopsOk.seq ?_ ?_
  ·exact loops_none (by kernel_rfl)
  ·refine LoopsOk.block ?_
   refine LoopsOk.loop (fun tm H=>?_) (fun k7 tm H r h0=>?_) (fun k7=>?_)
   ·refine none_of fun r h0=>?_
    obtain ⟨eQ,ff,eB,cI,eC,hks,e1,e2,e3,e6,h⟩:=bG.lh7_inv (show bG.lh7 F ak [] 0 tm H = some r from h0)
    cases h
   ·obtain ⟨eQ,ff,eB,cI,eC,hks,e1,e2,e3,e6,h⟩:=bG.lh7_inv (show bG.lh7 F ak [] (k7 + 1) tm H = some r from h0)
    have q0:(Tm.put tm 1 (.int .i64 eQ)) = tm:=by exact Tm.put_same e1
    have q1:(Tm.put (Tm.put tm 1 (.int .i64 eQ)) 2 (.int .i64 ff)) = tm:=by rw [q0]; exact Tm.put_same e2
    have q2:(Tm.put (Tm.put (Tm.put tm 1 (.int .i64 eQ)) 2 (.int .i64 ff)) 3 (.ptr eB cI)) = tm:=by rw [q1]; exact Tm.put_same e3
    have q3:(Tm.put (Tm.put (Tm.put (Tm.put tm 1 (.int .i64 eQ)) 2 (.int .i64 ff)) 3 (.ptr eB cI)) 6 (.int .i64 eC)) = tm:=by rw [q2]; exact Tm.put_same e6
    rw [← q3]
    exact Eq.trans (by kernel_rfl) h
   ·exact loops_none (by kernel_rfl)
theorem bG.eqX (F:Nat) (ak:Int→Int→Sl→Int→Int→Hp→OA) (aa:Int) (ac:Int) (ah:Sl) (af:Int) (bi:Int) (H:Hp):aCode tabs (mkOrc (bG.cs F ak)) bG.pn (bG.lh F ak) F [] 1 bG.code (argTm [(.agg [(.int .i64 aa),(.int .i64 ac),(.sl ah)]),(.int .i64 af),(.int .i64 bi)]) H (fun tm H=>aresults tabs.ty H tm Try.f145.results.toList fun v=>some (v,H)) (fun _ _ _=>none) (fun tm H=>aresults tabs.ty H tm Try.f145.results.toList fun v=>some (v,H)) = bG.twX F ak aa ac ah af bi H:=by kernel_rfl
theorem bG.cs_ok (F:Nat):∀ p ∈ bG.cs F (aN.tw F),∀ args H v H',p.2 args H = some (v,H')→Go.AE.T Try.prog p.1 args H v H':=by
 intro p hp
 simp only [bG.cs,List.mem_cons,List.not_mem_nil,or_false] at hp
 subst hp
 exact fun args H v H' h=>aN.mk_T h
theorem bG.ok:codeOk bG.pn Try.f145.ntmps bG.tb bG.code = true:=by kernel_rfl
theorem bG.T {F:Nat} {aa:Int} {ac:Int} {ah:Sl} {af:Int} {bi:Int} {H:Hp} {v:AV} {H':Hp} (h:bG.tw F aa ac ah af bi H = some (v,H')):Go.AE.T Try.prog 145 [(.agg [(.int .i64 aa),(.int .i64 ac),(.sl ah)]),(.int .i64 af),(.int .i64 bi)] H v H':=
 Go.AE.T.of (Y:=tabs) (C:=mkOrc (bG.cs F (aN.tw F))) (PN:=bG.pn) (LH:=bG.lh F (aN.tw F)) (F:=F) (TB:=bG.tb) (fn:=Try.f145) (code:=bG.code) mixed tabs_ok (mkOrc_ok (bG.cs_ok F)) Try.func145 (by kernel_rfl) (by kernel_rfl) bG.ok (Nat.le_of_ble_eq_true (by kernel_rfl)) (bG.loops F (aN.tw F)) (Eq.trans (bG.eqX F (aN.tw F) aa ac ah af bi H) h)
theorem bG.mk_T {F:Nat} {args:List AV} {H:Hp} {v:AV} {H':Hp} (h:bG.mk (bG.tw F) args H = some (v,H')):Go.AE.T Try.prog 145 args H v H':=by
 unfold bG.mk at h
 split at h
 ·exact bG.T h
 ·cases h
noncomputable def bH.l7 (F:Nat) (ak:Int→Int→Sl→Int→Int→Hp→OA) :Nat→Int→Int→Nat→Nat→Int→Hp→OA
 | 0,_,_,_,_,_,_=>none
 | kK + 1,eQ,ff,eB,cI,eC,H15=>(Hp.ldI H15 .i64 eB cI).bind fun n35=>(bif (decide (eC < n35)) then ((Hp.ldI H15 .i64 eB cI).bind fun n36=>(Hp.ldI H15 .i64 eB (cI + 1)).bind fun n37=>(Hp.ldSl H15 eB (cI + 2)).bind fun s38=>(ak n36 n37 s38 eC eQ H15).bind fun r39=>((r39.1).asI .i64).bind fun n40=>(Hp.ldSl r39.2 eB (cI + 2)).bind fun s41=>(Hp.ldI r39.2 .i64 eB (cI + 1)).bind fun n42=>(Hp.ldI r39.2 .i64 eB cI).bind fun n43=>(Hp.ldI r39.2 .i64 eB (cI + 1)).bind fun n44=>(Hp.ldSl r39.2 eB (cI + 2)).bind fun s45=>(ak n43 n44 s45 eC ff r39.2).bind fun r46=>((r46.1).asI .i64).bind fun n47=>(if Cons r39.2 r46.2 then ((Sl.idx s41 (IntKind.i64.wrap ((IntKind.i64.wrap (eC * n42)) + eQ)) 1).bind fun p48=>(Hp.st r46.2 p48.1 p48.2 (.int .i64 n47)).bind fun H49=>(Hp.ldSl H49 eB (cI + 2)).bind fun s50=>(Hp.ldI H49 .i64 eB (cI + 1)).bind fun n51=>(Sl.idx s50 (IntKind.i64.wrap ((IntKind.i64.wrap (eC * n51)) + ff)) 1).bind fun p52=>(Hp.st H49 p52.1 p52.2 (.int .i64 n40)).bind fun H53=>bH.l7 F ak kK eQ ff eB cI (IntKind.i64.wrap (eC + 1)) H53) else none)) else (some ((.tup []),H15)))
termination_by structural n=>n
noncomputable def bH.twX (F:Nat) (ak:Int→Int→Sl→Int→Int→Hp→OA) (aa:Int) (ac:Int) (ah:Sl) (af:Int) (bi:Int) (H:Hp):OA:=(Hp.new H [(.int .i64 aa),(.int .i64 ac),(.sl ah)]).bind fun H6=>bH.l7 F ak F af bi H.length 0 0 H6
noncomputable def bH.tw (F:Nat) (aa:Int) (ac:Int) (ah:Sl) (af:Int) (bi:Int) (H:Hp):OA:=bH.twX F (aN.tw F) aa ac ah af bi H
noncomputable def bH.code:Go.Code:=(Try.f159.body).getD .skip
noncomputable def bH.lh7 (F:Nat) (ak:Int→Int→Sl→Int→Int→Hp→OA) (ks:List Nat) (n:Nat) (tm:Tm) (H:Hp):OA:=match ks,tm 1,tm 2,tm 3,tm 6 with
 | [],(.int .i64 eQ),(.int .i64 ff),(.ptr eB cI),(.int .i64 eC)=>bH.l7 F ak n eQ ff eB cI eC H
 | _,_,_,_,_=>none
theorem bH.lh7_inv {F:Nat} {ak:Int→Int→Sl→Int→Int→Hp→OA} {ks:List Nat} {n:Nat} {tm:Tm} {H:Hp} {r:AV×Hp} (h:bH.lh7 F ak ks n tm H = some r):∃ eQ:Int,∃ ff:Int,∃ eB:Nat,∃ cI:Nat,∃ eC:Int,ks = []∧tm 1 = (.int .i64 eQ)∧tm 2 = (.int .i64 ff)∧tm 3 = (.ptr eB cI)∧tm 6 = (.int .i64 eC)∧bH.l7 F ak n eQ ff eB cI eC H = some r:=by
 unfold bH.lh7 at h
 split at h
 ·exact ⟨_,_,_,_,_,rfl,by assumption,by assumption,by assumption,by assumption,h⟩
 ·cases h
noncomputable def bH.lh (F:Nat) (ak:Int→Int→Sl→Int→Int→Hp→OA) (p:Nat) (ks:List Nat) (n:Nat) (tm:Tm) (H:Hp):OA:=bif p.beq 7 then bH.lh7 F ak ks n tm H else (none)
def bH.pn:Nat→List Nat:=fun i=>(([(5,[13])]:List (Nat×List Nat)).lookup i).getD []
def bH.tb:Nat→List (List Nat):=fun i=>(([(5,[[],[0],[],[],[3],[2,3,4],[],[2,3,4,5,6],[],[],[],[8,9,10],[0,1,2,3,4,5,6,7,8,9,10,11],[0,1,2,3,4,5,6,7,8,9,10,11,12]])]:List (Nat×List (List Nat))).lookup i).getD []
noncomputable def bH.mk (g:Int→Int→Sl→Int→Int→Hp→OA) (args:List AV) (H:Hp):OA:=match args with
 | [(.agg [(.int .i64 aa),(.int .i64 ac),(.sl ah)]),(.int .i64 af),(.int .i64 bi)]=>g aa ac ah af bi H
 | _=>none
noncomputable def bH.cs (F:Nat) (ak:Int→Int→Sl→Int→Int→Hp→OA):List (FuncId×(List AV→Hp→OA)):=[(79,aN.mk ak)]
theorem bH.loops (F:Nat) (ak:Int→Int→Sl→Int→Int→Hp→OA):LoopsOk tabs (mkOrc (bH.cs F ak)) bH.pn (bH.lh F ak) F [] 1 bH.code (fun tm H=>aresults tabs.ty H tm Try.f159.results.toList fun v=>some (v,H)) (fun _ _ _=>none) (fun tm H=>aresults tabs.ty H tm Try.f159.results.toList fun v=>some (v,H)):=by
 refine LoopsOk.seq ?_ ?_
 ·exact loops_none (by kernel_rfl)
 ·refine LoopsOk.seq ?_ ?_
  ·exact loops_none (by kernel_rfl)
  ·refine LoopsOk.block ?_
   refine LoopsOk.loop (fun tm H=>?_) (fun k7 tm H r h0=>?_) (fun k7=>?_)
   ·refine none_of fun r h0=>?_
    obtain ⟨eQ,ff,eB,cI,eC,hks,e1,e2,e3,e6,h⟩:=bH.lh7_inv (show bH.lh7 F ak [] 0 tm H = some r from h0)
    cases h
   ·obtain ⟨eQ,ff,eB,cI,eC,hks,e1,e2,e3,e6,h⟩:=bH.lh7_inv (show bH.lh7 F ak [] (k7 + 1) tm H = some r from h0)
    have q0:(Tm.put tm 1 (.int .i64 eQ)) = tm:=by exact Tm.put_same e1
    have q1:(Tm.put (Tm.put tm 1 (.int .i64 eQ)) 2 (.int .i64 ff)) = tm:=by rw [q0]; exact Tm.put_same e2
    have q2:(Tm.put (Tm.put (Tm.put tm 1 (.int .i64 eQ)) 2 (.int .i64 ff)) 3 (.ptr eB cI)) = tm:=by rw [q1]; exact Tm.put_same e3
    have q3:(Tm.put (Tm.put (Tm.put (Tm.put tm 1 (.int .i64 eQ)) 2 (.int .i64 ff)) 3 (.ptr eB cI)) 6 (.int .i64 eC)) = tm:=by rw [q2]; exact Tm.put_same e6
    rw [← q3]
    exact Eq.trans (by kernel_rfl) h
   ·exact loops_none (by kernel_rfl)
theorem bH.eqX (F:Nat) (ak:Int→Int→Sl→Int→Int→Hp→OA) (aa:Int) (ac:Int) (ah:Sl) (af:Int) (bi:Int) (H:Hp):aCode tabs (mkOrc (bH.cs F ak)) bH.pn (bH.lh F ak) F [] 1 bH.code (argTm [(.agg [(.int .i64 aa),(.int .i64 ac),(.sl ah)]),(.int .i64 af),(.int .i64 bi)]) H (fun tm H=>aresults tabs.ty H tm Try.f159.results.toList fun v=>some (v,H)) (fun _ _ _=>none) (fun tm H=>aresults tabs.ty H tm Try.f159.results.toList fun v=>some (v,H)) = bH.twX F ak aa ac ah af bi H:=by kernel_rfl
theorem bH.cs_ok (F:Nat):∀ p ∈ bH.cs F (aN.tw F),∀ args H v H',p.2 args H = some (v,H')→Go.AE.T Try.prog p.1 args H v H':=by
 intro p hp
 simp only [bH.cs,List.mem_cons,List.not_mem_nil,or_false] at hp
 subst hp
 exact fun args H v H' h=>aN.mk_T h
theorem bH.ok:codeOk bH.pn Try.f159.ntmps bH.tb bH.code = true:=by kernel_rfl
theorem bH.T {F:Nat} {aa:Int} {ac:Int} {ah:Sl} {af:Int} {bi:Int} {H:Hp} {v:AV} {H':Hp} (h:bH.tw F aa ac ah af bi H = some (v,H')):Go.AE.T Try.prog 159 [(.agg [(.int .i64 aa),(.int .i64 ac),(.sl ah)]),(.int .i64 af),(.int .i64 bi)] H v H':=
 Go.AE.T.of (Y:=tabs) (C:=mkOrc (bH.cs F (aN.tw F))) (PN:=bH.pn) (LH:=bH.lh F (aN.tw F)) (F:=F) (TB:=bH.tb) (fn:=Try.f159) (code:=bH.code) mixed tabs_ok (mkOrc_ok (bH.cs_ok F)) Try.func159 (by kernel_rfl) (by kernel_rfl) bH.ok (Nat.le_of_ble_eq_true (by kernel_rfl)) (bH.loops F (aN.tw F)) (Eq.trans (bH.eqX F (aN.tw F) aa ac ah af bi H) h)
theorem bH.mk_T {F:Nat} {args:List AV} {H:Hp} {v:AV} {H':Hp} (h:bH.mk (bH.tw F) args H = some (v,H')):Go.AE.T Try.prog 159 args H v H':=by
 unfold bH.mk at h
 split at h
 ·exact bH.T h
 ·cases h
noncomputable def ar.l65515 (F:Nat) (ak:Int→Int→Sl→Int→Int→Hp→OA) (ce:Int→Hp→OA) (dk:Int→Int→Sl→Int→Int→Hp→OA) (dl:Int→Int→Sl→Int→Int→Hp→OA) :Nat→Nat→Nat→Int→Int→Hp→OA
 | 0,_,_,_,_,_=>none
 | vP + 1,iD,iE,hD,gZ,H187=>(Hp.ldI H187 .i64 iD ((iE + 3) + 1)).bind fun n207=>(bif (decide (gZ < n207)) then ((Hp.ldSl H187 iD ((iE + 3) + 2)).bind fun s208=>(Hp.ldI H187 .i64 iD ((iE + 3) + 1)).bind fun n209=>(Hp.ldI H187 .i64 iD (iE + 3)).bind fun n210=>(Hp.ldI H187 .i64 iD ((iE + 3) + 1)).bind fun n211=>(Hp.ldSl H187 iD ((iE + 3) + 2)).bind fun s212=>(ak n210 n211 s212 hD gZ H187).bind fun r213=>((r213.1).asI .i64).bind fun n214=>(if Cons H187 r213.2 then ((Sl.idx s208 (IntKind.i64.wrap ((IntKind.i64.wrap (hD * n209)) + gZ)) 1).bind fun p215=>(Hp.st r213.2 p215.1 p215.2 (.int .i64 (IntKind.i64.wrap (0 - n214)))).bind fun H216=>(Hp.ldSl H216 iD ((iE + 6) + 2)).bind fun s217=>(Hp.ldI H216 .i64 iD ((iE + 6) + 1)).bind fun n218=>(Hp.ldI H216 .i64 iD (iE + 6)).bind fun n219=>(Hp.ldI H216 .i64 iD ((iE + 6) + 1)).bind fun n220=>(Hp.ldSl H216 iD ((iE + 6) + 2)).bind fun s221=>(ak n219 n220 s221 gZ hD H216).bind fun r222=>((r222.1).asI .i64).bind fun n223=>(if Cons H216 r222.2 then ((Sl.idx s217 (IntKind.i64.wrap ((IntKind.i64.wrap (gZ * n218)) + hD)) 1).bind fun p224=>(Hp.st r222.2 p224.1 p224.2 (.int .i64 (IntKind.i64.wrap (0 - n223)))).bind fun H225=>ar.l65515 F ak ce dk dl vP iD iE hD (IntKind.i64.wrap (gZ + 1)) H225) else none)) else none)) else (some ((.bool true),H187)))
termination_by structural n=>n
noncomputable def ar.j5 (F:Nat) (ak:Int→Int→Sl→Int→Int→Hp→OA) (ce:Int→Hp→OA) (dk:Int→Int→Sl→Int→Int→Hp→OA) (dl:Int→Int→Sl→Int→Int→Hp→OA) (vQ:Nat) (vR:Nat) (om:Int) (H173:Hp):OA:=ar.l65515 F ak ce dk dl F vQ vR om 0 H173
noncomputable def ar.l65513 (F:Nat) (ak:Int→Int→Sl→Int→Int→Hp→OA) (ce:Int→Hp→OA) (dk:Int→Int→Sl→Int→Int→Hp→OA) (dl:Int→Int→Sl→Int→Int→Hp→OA) :Nat→Nat→Nat→Int→Int→Hp→OA
 | 0,_,_,_,_,_=>none
 | vS + 1,jS,jT,ii,iF,H150=>(Hp.ldI H150 .i64 jS (jT + 1)).bind fun n226=>(bif (decide (iF < n226)) then ((Hp.ldSl H150 jS (jT + 2)).bind fun s227=>(Hp.ldI H150 .i64 jS (jT + 1)).bind fun n228=>(Hp.ldI H150 .i64 jS jT).bind fun n229=>(Hp.ldI H150 .i64 jS (jT + 1)).bind fun n230=>(Hp.ldSl H150 jS (jT + 2)).bind fun s231=>(ak n229 n230 s231 ii iF H150).bind fun r232=>((r232.1).asI .i64).bind fun n233=>(if Cons H150 r232.2 then ((Sl.idx s227 (IntKind.i64.wrap ((IntKind.i64.wrap (ii * n228)) + iF)) 1).bind fun p234=>(Hp.st r232.2 p234.1 p234.2 (.int .i64 (IntKind.i64.wrap (0 - n233)))).bind fun H235=>ar.l65513 F ak ce dk dl vS jS jT ii (IntKind.i64.wrap (iF + 1)) H235) else none)) else (ar.j5 F ak ce dk dl jS jT ii H150))
termination_by structural n=>n
noncomputable def ar.j6 (F:Nat) (ak:Int→Int→Sl→Int→Int→Hp→OA) (ce:Int→Hp→OA) (dk:Int→Int→Sl→Int→Int→Hp→OA) (dl:Int→Int→Sl→Int→Int→Hp→OA) (iG:Nat) (iH:Nat) (iI:Int) (ll:Int) (mz:Int) (H109:Hp):OA:=(bif (decide (ll < 0)) then (some ((.bool false),H109)) else ((Hp.ldI H109 .i64 iG iH).bind fun n110=>(Hp.ldI H109 .i64 iG (iH + 1)).bind fun n111=>(Hp.ldSl H109 iG (iH + 2)).bind fun s112=>(dk n110 n111 s112 ll iI H109).bind fun r113=>(Hp.ldI r113.2 .i64 iG (iH + 3)).bind fun n114=>(Hp.ldI r113.2 .i64 iG ((iH + 3) + 1)).bind fun n115=>(Hp.ldSl r113.2 iG ((iH + 3) + 2)).bind fun s116=>(dk n114 n115 s116 ll iI r113.2).bind fun r117=>(Hp.ldI r117.2 .i64 iG (iH + 6)).bind fun n118=>(Hp.ldI r117.2 .i64 iG ((iH + 6) + 1)).bind fun n119=>(Hp.ldSl r117.2 iG ((iH + 6) + 2)).bind fun s120=>(dl n118 n119 s120 ll iI r117.2).bind fun r121=>(Hp.ldI r121.2 .i64 iG iH).bind fun n122=>(Hp.ldI r121.2 .i64 iG (iH + 1)).bind fun n123=>(Hp.ldSl r121.2 iG (iH + 2)).bind fun s124=>(dl n122 n123 s124 mz iI r121.2).bind fun r125=>(Hp.ldI r125.2 .i64 iG (iH + 9)).bind fun n126=>(Hp.ldI r125.2 .i64 iG ((iH + 9) + 1)).bind fun n127=>(Hp.ldSl r125.2 iG ((iH + 9) + 2)).bind fun s128=>(dl n126 n127 s128 mz iI r125.2).bind fun r129=>(Hp.ldI r129.2 .i64 iG (iH + 12)).bind fun n130=>(Hp.ldI r129.2 .i64 iG ((iH + 12) + 1)).bind fun n131=>(Hp.ldSl r129.2 iG ((iH + 12) + 2)).bind fun s132=>(dk n130 n131 s132 mz iI r129.2).bind fun r133=>(Hp.ldI r133.2 .i64 iG iH).bind fun n134=>(Hp.ldI r133.2 .i64 iG (iH + 1)).bind fun n135=>(Hp.ldSl r133.2 iG (iH + 2)).bind fun s136=>(ak n134 n135 s136 iI iI r133.2).bind fun r137=>((r137.1).asI .i64).bind fun n138=>(bif (decide (n138 < 0)) then (ar.l65513 F ak ce dk dl F iG iH iI 0 r137.2) else (some ((.bool true),r137.2)))))
noncomputable def ar.j8 (F:Nat) (ak:Int→Int→Sl→Int→Int→Hp→OA) (ce:Int→Hp→OA) (dk:Int→Int→Sl→Int→Int→Hp→OA) (dl:Int→Int→Sl→Int→Int→Hp→OA) (C29_:Nat→Nat→Int→Int→Int→Int→Hp→OA) (vT:Nat) (vU:Nat) (oo:Int) (oq:Int) (ot:Int) (ou:Int) (H296:Hp):OA:=C29_ vT vU oo oq ot (IntKind.i64.wrap (ou + 1)) H296
noncomputable def ar.j9 (F:Nat) (ak:Int→Int→Sl→Int→Int→Hp→OA) (ce:Int→Hp→OA) (dk:Int→Int→Sl→Int→Int→Hp→OA) (dl:Int→Int→Sl→Int→Int→Hp→OA) (C29_:Nat→Nat→Int→Int→Int→Int→Hp→OA) (vV:Nat) (vW:Nat) (ov:Int) (ox:Int) (oy:Int) (oz:Int) (H285:Hp):OA:=ar.j8 F ak ce dk dl C29_ vV vW ov ox oy oz H285
noncomputable def ar.j10 (F:Nat) (ak:Int→Int→Sl→Int→Int→Hp→OA) (ce:Int→Hp→OA) (dk:Int→Int→Sl→Int→Int→Hp→OA) (dl:Int→Int→Sl→Int→Int→Hp→OA) (C469_:Nat→Nat→Int→Int→Int→Int→Int→Hp→OA) (vX:Nat) (vY:Nat) (oA:Int) (oB:Int) (oC:Int) (oD:Int) (oE:Int) (H324:Hp):OA:=C469_ vX vY oA oB oC oD (IntKind.i64.wrap (oE + 1)) H324
noncomputable def ar.l469 (F:Nat) (ak:Int→Int→Sl→Int→Int→Hp→OA) (ce:Int→Hp→OA) (dk:Int→Int→Sl→Int→Int→Hp→OA) (dl:Int→Int→Sl→Int→Int→Hp→OA) (C29_:Nat→Nat→Int→Int→Int→Int→Hp→OA):Nat→Nat→Nat→Int→Int→Int→Int→Int→Hp→OA
 | 0,_,_,_,_,_,_,_,_=>none
 | mE + 1,hE,hG,gM,gO,hO,gx,gC,H246=>(Hp.ldI H246 .i64 hE (hG + 1)).bind fun n297=>(bif (decide (gC < n297)) then ((Hp.ldI H246 .i64 hE hG).bind fun n298=>(Hp.ldI H246 .i64 hE (hG + 1)).bind fun n299=>(Hp.ldSl H246 hE (hG + 2)).bind fun s300=>(ak n298 n299 s300 gx gC H246).bind fun r301=>((r301.1).asI .i64).bind fun n302=>(ce n302 r301.2).bind fun r303=>((r303.1).asI .i64).bind fun n304=>(bif (decide (n304 > 0)) then ((bif (decide (gO < 0)) then (ar.l469 F ak ce dk dl C29_ mE hE hG gM gx gC gx (IntKind.i64.wrap (gC + 1)) r303.2) else ((Hp.ldI r303.2 .i64 hE hG).bind fun n305=>(Hp.ldI r303.2 .i64 hE (hG + 1)).bind fun n306=>(Hp.ldSl r303.2 hE (hG + 2)).bind fun s307=>(ak n305 n306 s307 gO hO r303.2).bind fun r308=>((r308.1).asI .i64).bind fun n309=>(ce n309 r308.2).bind fun r310=>((r310.1).asI .i64).bind fun n311=>(bif (decide (n304 < n311)) then (ar.j10 F ak ce dk dl (ar.l469 F ak ce dk dl C29_ mE) hE hG gM gx gC gx gC r310.2) else (ar.j10 F ak ce dk dl (ar.l469 F ak ce dk dl C29_ mE) hE hG gM gO hO gx gC r310.2))))) else (ar.l469 F ak ce dk dl C29_ mE hE hG gM gO hO gx (IntKind.i64.wrap (gC + 1)) r303.2))) else (ar.j9 F ak ce dk dl C29_ hE hG gM gO hO gx H246))
termination_by structural n=>n
noncomputable def ar.l29 (F:Nat) (ak:Int→Int→Sl→Int→Int→Hp→OA) (ce:Int→Hp→OA) (dk:Int→Int→Sl→Int→Int→Hp→OA) (dl:Int→Int→Sl→Int→Int→Hp→OA) :Nat→Nat→Nat→Int→Int→Int→Int→Hp→OA
 | 0,_,_,_,_,_,_,_=>none
 | eP + 1,dw,fg,dE,eg,jB,jU,H11=>(Hp.ldI H11 .i64 dw fg).bind fun n236=>(bif (decide (jU < n236)) then (ar.l469 F ak ce dk dl (ar.l29 F ak ce dk dl eP) F dw fg dE eg jB jU dE H11) else (ar.j6 F ak ce dk dl dw fg dE eg jB H11))
termination_by structural n=>n
noncomputable def ar.twX (F:Nat) (ak:Int→Int→Sl→Int→Int→Hp→OA) (ce:Int→Hp→OA) (dk:Int→Int→Sl→Int→Int→Hp→OA) (dl:Int→Int→Sl→Int→Int→Hp→OA) (aa:Nat) (ac:Nat) (ae:Int) (H:Hp):OA:=ar.l29 F ak ce dk dl F aa ac ae (-1) (-1) ae H
noncomputable def ar.tw (F:Nat) (aa:Nat) (ac:Nat) (ae:Int) (H:Hp):OA:=ar.twX F (aN.tw F) (ch.tw F) (bG.tw F) (bH.tw F) aa ac ae H
noncomputable def ar.code:Go.Code:=(Try.f139.body).getD .skip
noncomputable def ar.lh29 (F:Nat) (ak:Int→Int→Sl→Int→Int→Hp→OA) (ce:Int→Hp→OA) (dk:Int→Int→Sl→Int→Int→Hp→OA) (dl:Int→Int→Sl→Int→Int→Hp→OA) (ks:List Nat) (n:Nat) (tm:Tm) (H:Hp):OA:=match ks,tm 0,tm 1,tm 5,tm 6,tm 7 with
 | [],(.ptr dw fg),(.int .i64 dE),(.int .i64 eg),(.int .i64 jB),(.int .i64 jU)=>ar.l29 F ak ce dk dl n dw fg dE eg jB jU H
 | _,_,_,_,_,_=>none
theorem ar.lh29_inv {F:Nat} {ak:Int→Int→Sl→Int→Int→Hp→OA} {ce:Int→Hp→OA} {dk:Int→Int→Sl→Int→Int→Hp→OA} {dl:Int→Int→Sl→Int→Int→Hp→OA} {ks:List Nat} {n:Nat} {tm:Tm} {H:Hp} {r:AV×Hp} (h:ar.lh29 F ak ce dk dl ks n tm H = some r):∃ dw:Nat,∃ fg:Nat,∃ dE:Int,∃ eg:Int,∃ jB:Int,∃ jU:Int,ks = []∧tm 0 = (.ptr dw fg)∧tm 1 = (.int .i64 dE)∧tm 5 = (.int .i64 eg)∧tm 6 = (.int .i64 jB)∧tm 7 = (.int .i64 jU)∧ar.l29 F ak ce dk dl n dw fg dE eg jB jU H = some r:=by
 unfold ar.lh29 at h
 split at h
 ·exact ⟨_,_,_,_,_,_,rfl,by assumption,by assumption,by assumption,by assumption,by assumption,h⟩
 ·cases h
noncomputable def ar.lh65513 (F:Nat) (ak:Int→Int→Sl→Int→Int→Hp→OA) (ce:Int→Hp→OA) (dk:Int→Int→Sl→Int→Int→Hp→OA) (dl:Int→Int→Sl→Int→Int→Hp→OA) (ks:List Nat) (n:Nat) (tm:Tm) (H:Hp):OA:=match ks,tm 0,tm 1,tm 10 with
 | [],(.ptr jS jT),(.int .i64 ii),(.int .i64 iF)=>ar.l65513 F ak ce dk dl n jS jT ii iF H
 | _,_,_,_=>none
theorem ar.lh65513_inv {F:Nat} {ak:Int→Int→Sl→Int→Int→Hp→OA} {ce:Int→Hp→OA} {dk:Int→Int→Sl→Int→Int→Hp→OA} {dl:Int→Int→Sl→Int→Int→Hp→OA} {ks:List Nat} {n:Nat} {tm:Tm} {H:Hp} {r:AV×Hp} (h:ar.lh65513 F ak ce dk dl ks n tm H = some r):∃ jS:Nat,∃ jT:Nat,∃ ii:Int,∃ iF:Int,ks = []∧tm 0 = (.ptr jS jT)∧tm 1 = (.int .i64 ii)∧tm 10 = (.int .i64 iF)∧ar.l65513 F ak ce dk dl n jS jT ii iF H = some r:=by
 unfold ar.lh65513 at h
 split at h
 ·exact ⟨_,_,_,_,rfl,by assumption,by assumption,by assumption,h⟩
 ·cases h
noncomputable def ar.lh65515 (F:Nat) (ak:Int→Int→Sl→Int→Int→Hp→OA) (ce:Int→Hp→OA) (dk:Int→Int→Sl→Int→Int→Hp→OA) (dl:Int→Int→Sl→Int→Int→Hp→OA) (ks:List Nat) (n:Nat) (tm:Tm) (H:Hp):OA:=match ks,tm 0,tm 1,tm 11 with
 | [],(.ptr iD iE),(.int .i64 hD),(.int .i64 gZ)=>ar.l65515 F ak ce dk dl n iD iE hD gZ H
 | _,_,_,_=>none
theorem ar.lh65515_inv {F:Nat} {ak:Int→Int→Sl→Int→Int→Hp→OA} {ce:Int→Hp→OA} {dk:Int→Int→Sl→Int→Int→Hp→OA} {dl:Int→Int→Sl→Int→Int→Hp→OA} {ks:List Nat} {n:Nat} {tm:Tm} {H:Hp} {r:AV×Hp} (h:ar.lh65515 F ak ce dk dl ks n tm H = some r):∃ iD:Nat,∃ iE:Nat,∃ hD:Int,∃ gZ:Int,ks = []∧tm 0 = (.ptr iD iE)∧tm 1 = (.int .i64 hD)∧tm 11 = (.int .i64 gZ)∧ar.l65515 F ak ce dk dl n iD iE hD gZ H = some r:=by
 unfold ar.lh65515 at h
 split at h
 ·exact ⟨_,_,_,_,rfl,by assumption,by assumption,by assumption,h⟩
 ·cases h
noncomputable def ar.lh469 (F:Nat) (ak:Int→Int→Sl→Int→Int→Hp→OA) (ce:Int→Hp→OA) (dk:Int→Int→Sl→Int→Int→Hp→OA) (dl:Int→Int→Sl→Int→Int→Hp→OA) (ks:List Nat) (n:Nat) (tm:Tm) (H:Hp):OA:=match ks,tm 0,tm 1,tm 5,tm 6,tm 7,tm 8 with
 | [eP],(.ptr hE hG),(.int .i64 gM),(.int .i64 gO),(.int .i64 hO),(.int .i64 gx),(.int .i64 gC)=>ar.l469 F ak ce dk dl (ar.l29 F ak ce dk dl eP) n hE hG gM gO hO gx gC H
 | _,_,_,_,_,_,_=>none
theorem ar.lh469_inv {F:Nat} {ak:Int→Int→Sl→Int→Int→Hp→OA} {ce:Int→Hp→OA} {dk:Int→Int→Sl→Int→Int→Hp→OA} {dl:Int→Int→Sl→Int→Int→Hp→OA} {ks:List Nat} {n:Nat} {tm:Tm} {H:Hp} {r:AV×Hp} (h:ar.lh469 F ak ce dk dl ks n tm H = some r):∃ eP:Nat,∃ hE:Nat,∃ hG:Nat,∃ gM:Int,∃ gO:Int,∃ hO:Int,∃ gx:Int,∃ gC:Int,ks = [eP]∧tm 0 = (.ptr hE hG)∧tm 1 = (.int .i64 gM)∧tm 5 = (.int .i64 gO)∧tm 6 = (.int .i64 hO)∧tm 7 = (.int .i64 gx)∧tm 8 = (.int .i64 gC)∧ar.l469 F ak ce dk dl (ar.l29 F ak ce dk dl eP) n hE hG gM gO hO gx gC H = some r:=by
 unfold ar.lh469 at h
 split at h
 ·exact ⟨_,_,_,_,_,_,_,_,rfl,by assumption,by assumption,by assumption,by assumption,by assumption,by assumption,h⟩
 ·cases h
noncomputable def ar.lh (F:Nat) (ak:Int→Int→Sl→Int→Int→Hp→OA) (ce:Int→Hp→OA) (dk:Int→Int→Sl→Int→Int→Hp→OA) (dl:Int→Int→Sl→Int→Int→Hp→OA) (p:Nat) (ks:List Nat) (n:Nat) (tm:Tm) (H:Hp):OA:=bif p.beq 469 then ar.lh469 F ak ce dk dl ks n tm H else (bif p.beq 65515 then ar.lh65515 F ak ce dk dl ks n tm H else (bif p.beq 65513 then ar.lh65513 F ak ce dk dl ks n tm H else (bif p.beq 29 then ar.lh29 F ak ce dk dl ks n tm H else (none))))
def ar.pn:Nat→List Nat:=fun i=>(([(23,[23]),(27,[23]),(28,[23])]:List (Nat×List Nat)).lookup i).getD []
def ar.tb:Nat→List (List Nat):=fun i=>(([(23,[[],[0],[0,1],[0,1,2],[0,1,2,3],[],[],[6],[6,7],[6,7,8],[6,7,8,9],[5,6,7,8,9,10],[],[5,6,7,8,9,10,11,12],[],[14],[14,15],[14,15,16],[],[],[14,15,16,17,18,19],[14,15,16,17,18,19,20],[0,1,2,3,4,5,6,7,8,9,10,11,12,13,14,15,16,17,18,19,20,21],[0,1,2,3,4,5,6,7,8,9,10,11,12,13,14,15,16,17,18,19,20,21,22]]),(27,[[],[0],[0,1],[0,1,2],[0,1,2,3],[],[],[6],[6,7],[6,7,8],[6,7,8,9],[5,6,7,8,9,10],[],[5,6,7,8,9,10,11,12],[],[14],[14,15],[14,15,16],[],[],[14,15,16,17,18,19],[14,15,16,17,18,19,20],[0,1,2,3,4,5,6,7,8,9,10,11,12,13,14,15,16,17,18,19,20,21],[0,1,2,3,4,5,6,7,8,9,10,11,12,13,14,15,16,17,18,19,20,21,22]]),(28,[[],[0],[0,1],[0,1,2],[0,1,2,3],[],[],[6],[6,7],[6,7,8],[6,7,8,9],[5,6,7,8,9,10],[],[5,6,7,8,9,10,11,12],[],[14],[14,15],[14,15,16],[],[],[14,15,16,17,18,19],[14,15,16,17,18,19,20],[0,1,2,3,4,5,6,7,8,9,10,11,12,13,14,15,16,17,18,19,20,21],[0,1,2,3,4,5,6,7,8,9,10,11,12,13,14,15,16,17,18,19,20,21,22]])]:List (Nat×List (List Nat))).lookup i).getD []
noncomputable def ar.mk (g:Nat→Nat→Int→Hp→OA) (args:List AV) (H:Hp):OA:=match args with
 | [(.ptr aa ac),(.int .i64 ae)]=>g aa ac ae H
 | _=>none
noncomputable def ar.cs (F:Nat) (ak:Int→Int→Sl→Int→Int→Hp→OA) (ce:Int→Hp→OA) (dk:Int→Int→Sl→Int→Int→Hp→OA) (dl:Int→Int→Sl→Int→Int→Hp→OA):List (FuncId×(List AV→Hp→OA)):=[(79,aN.mk ak),(114,ch.mk ce),(145,bG.mk dk),(159,bH.mk dl)]
theorem ar.loops (F:Nat) (ak:Int→Int→Sl→Int→Int→Hp→OA) (ce:Int→Hp→OA) (dk:Int→Int→Sl→Int→Int→Hp→OA) (dl:Int→Int→Sl→Int→Int→Hp→OA):LoopsOk tabs (mkOrc (ar.cs F ak ce dk dl)) ar.pn (ar.lh F ak ce dk dl) F [] 1 ar.code (fun tm H=>aresults tabs.ty H tm Try.f139.results.toList fun v=>some (v,H)) (fun _ _ _=>none) (fun tm H=>aresults tabs.ty H tm Try.f139.results.toList fun v=>some (v,H)):=by
 refine LoopsOk.seq ?_ ?_
 ·exact loops_none (by kernel_rfl)
 ·refine LoopsOk.seq ?_ ?_
  ·exact loops_none (by kernel_rfl)
  ·refine LoopsOk.seq ?_ ?_
   ·refine LoopsOk.seq ?_ ?_
    ·exact loops_none (by kernel_rfl)
    ·refine LoopsOk.block ?_
     refine LoopsOk.loop (fun tm H=>?_) (fun k29 tm H r h0=>?_) (fun k29=>?_)
     ·refine none_of fun r h0=>?_
      obtain ⟨dw,fg,dE,eg,jB,jU,hks,e0,e1,e5,e6,e7,h⟩:=ar.lh29_inv (show ar.lh29 F ak ce dk dl [] 0 tm H = some r from h0)
      cases h
     ·obtain ⟨dw,fg,dE,eg,jB,jU,hks,e0,e1,e5,e6,e7,h⟩:=ar.lh29_inv (show ar.lh29 F ak ce dk dl [] (k29 + 1) tm H = some r from h0)
      have q0:(Tm.put tm 0 (.ptr dw fg)) = tm:=by exact Tm.put_same e0
      have q1:(Tm.put (Tm.put tm 0 (.ptr dw fg)) 1 (.int .i64 dE)) = tm:=by rw [q0]; exact Tm.put_same e1
      have q2:(Tm.put (Tm.put (Tm.put tm 0 (.ptr dw fg)) 1 (.int .i64 dE)) 5 (.int .i64 eg)) = tm:=by rw [q1]; exact Tm.put_same e5
      have q3:(Tm.put (Tm.put (Tm.put (Tm.put tm 0 (.ptr dw fg)) 1 (.int .i64 dE)) 5 (.int .i64 eg)) 6 (.int .i64 jB)) = tm:=by rw [q2]; exact Tm.put_same e6
      have q4:(Tm.put (Tm.put (Tm.put (Tm.put (Tm.put tm 0 (.ptr dw fg)) 1 (.int .i64 dE)) 5 (.int .i64 eg)) 6 (.int .i64 jB)) 7 (.int .i64 jU)) = tm:=by rw [q3]; exact Tm.put_same e7
      rw [← q4]
      exact Eq.trans (by kernel_rfl) h
     ·refine LoopsOk.seq ?_ ?_
      ·exact loops_none (by kernel_rfl)
      ·refine LoopsOk.seq ?_ ?_
       ·refine LoopsOk.block ?_
        refine LoopsOk.seq ?_ ?_
        ·exact loops_none (by kernel_rfl)
        ·refine LoopsOk.block ?_
         refine LoopsOk.loop (fun tm H=>?_) (fun k469 tm H r h0=>?_) (fun k469=>?_)
         ·refine none_of fun r h0=>?_
          obtain ⟨eP,hE,hG,gM,gO,hO,gx,gC,hks,e0,e1,e5,e6,e7,e8,h⟩:=ar.lh469_inv (show ar.lh469 F ak ce dk dl [k29] 0 tm H = some r from h0)
          cases h
         ·obtain ⟨eP,hE,hG,gM,gO,hO,gx,gC,hks,e0,e1,e5,e6,e7,e8,h⟩:=ar.lh469_inv (show ar.lh469 F ak ce dk dl [k29] (k469 + 1) tm H = some r from h0)
          obtain rfl:eP = k29:=by simpa [eq_comm] using hks
          have q0:(Tm.put tm 0 (.ptr hE hG)) = tm:=by exact Tm.put_same e0
          have q1:(Tm.put (Tm.put tm 0 (.ptr hE hG)) 1 (.int .i64 gM)) = tm:=by rw [q0]; exact Tm.put_same e1
          have q2:(Tm.put (Tm.put (Tm.put tm 0 (.ptr hE hG)) 1 (.int .i64 gM)) 5 (.int .i64 gO)) = tm:=by rw [q1]; exact Tm.put_same e5
          have q3:(Tm.put (Tm.put (Tm.put (Tm.put tm 0 (.ptr hE hG)) 1 (.int .i64 gM)) 5 (.int .i64 gO)) 6 (.int .i64 hO)) = tm:=by rw [q2]; exact Tm.put_same e6
          have q4:(Tm.put (Tm.put (Tm.put (Tm.put (Tm.put tm 0 (.ptr hE hG)) 1 (.int .i64 gM)) 5 (.int .i64 gO)) 6 (.int .i64 hO)) 7 (.int .i64 gx)) = tm:=by rw [q3]; exact Tm.put_same e7
          have q5:(Tm.put (Tm.put (Tm.put (Tm.put (Tm.put (Tm.put tm 0 (.ptr hE hG)) 1 (.int .i64 gM)) 5 (.int .i64 gO)) 6 (.int .i64 hO)) 7 (.int .i64 gx)) 8 (.int .i64 gC)) = tm:=by rw [q4]; exact Tm.put_same e8
          rw [← q5]
          exact Eq.trans (by kernel_rfl) h
         ·exact loops_none (by kernel_rfl)
       ·exact loops_none (by kernel_rfl)
   ·refine LoopsOk.seq ?_ ?_
    ·exact loops_none (by kernel_rfl)
    ·refine LoopsOk.seq ?_ ?_
     ·exact loops_none (by kernel_rfl)
     ·refine LoopsOk.seq ?_ ?_
      ·exact loops_none (by kernel_rfl)
      ·refine LoopsOk.seq ?_ ?_
       ·exact loops_none (by kernel_rfl)
       ·refine LoopsOk.seq ?_ ?_
        ·exact loops_none (by kernel_rfl)
        ·refine LoopsOk.seq ?_ ?_
         ·exact loops_none (by kernel_rfl)
         ·refine LoopsOk.seq ?_ ?_
          ·exact loops_none (by kernel_rfl)
          ·refine LoopsOk.seq ?_ ?_
           ·refine LoopsOk.seq ?_ ?_
            ·exact loops_none (by kernel_rfl)
            ·refine LoopsOk.cond ?_ ?_
             ·refine LoopsOk.seq ?_ ?_
              ·refine LoopsOk.seq ?_ ?_
               ·exact loops_none (by kernel_rfl)
               ·refine LoopsOk.block ?_
                refine LoopsOk.loop (fun tm H=>?_) (fun k65513 tm H r h0=>?_) (fun k65513=>?_)
                ·refine none_of fun r h0=>?_
                 obtain ⟨jS,jT,ii,iF,hks,e0,e1,e10,h⟩:=ar.lh65513_inv (show ar.lh65513 F ak ce dk dl [] 0 tm H = some r from h0)
                 cases h
                ·obtain ⟨jS,jT,ii,iF,hks,e0,e1,e10,h⟩:=ar.lh65513_inv (show ar.lh65513 F ak ce dk dl [] (k65513 + 1) tm H = some r from h0)
                 have q0:(Tm.put tm 0 (.ptr jS jT)) = tm:=by exact Tm.put_same e0
                 have q1:(Tm.put (Tm.put tm 0 (.ptr jS jT)) 1 (.int .i64 ii)) = tm:=by rw [q0]; exact Tm.put_same e1
                 have q2:(Tm.put (Tm.put (Tm.put tm 0 (.ptr jS jT)) 1 (.int .i64 ii)) 10 (.int .i64 iF)) = tm:=by rw [q1]; exact Tm.put_same e10
                 rw [← q2]
                 exact Eq.trans (by kernel_rfl) h
                ·exact loops_none (by kernel_rfl)
              ·refine LoopsOk.seq ?_ ?_
               ·exact loops_none (by kernel_rfl)
               ·refine LoopsOk.block ?_
                refine LoopsOk.loop (fun tm H=>?_) (fun k65515 tm H r h0=>?_) (fun k65515=>?_)
                ·refine none_of fun r h0=>?_
                 obtain ⟨iD,iE,hD,gZ,hks,e0,e1,e11,h⟩:=ar.lh65515_inv (show ar.lh65515 F ak ce dk dl [] 0 tm H = some r from h0)
                 cases h
                ·obtain ⟨iD,iE,hD,gZ,hks,e0,e1,e11,h⟩:=ar.lh65515_inv (show ar.lh65515 F ak ce dk dl [] (k65515 + 1) tm H = some r from h0)
                 have q0:(Tm.put tm 0 (.ptr iD iE)) = tm:=by exact Tm.put_same e0
                 have q1:(Tm.put (Tm.put tm 0 (.ptr iD iE)) 1 (.int .i64 hD)) = tm:=by rw [q0]; exact Tm.put_same e1
                 have q2:(Tm.put (Tm.put (Tm.put tm 0 (.ptr iD iE)) 1 (.int .i64 hD)) 11 (.int .i64 gZ)) = tm:=by rw [q1]; exact Tm.put_same e11
                 rw [← q2]
                 exact Eq.trans (by kernel_rfl) h
                ·exact loops_none (by kernel_rfl)
             ·exact loops_none (by kernel_rfl)
           ·exact loops_none (by kernel_rfl)
theorem ar.eqX (F:Nat) (ak:Int→Int→Sl→Int→Int→Hp→OA) (ce:Int→Hp→OA) (dk:Int→Int→Sl→Int→Int→Hp→OA) (dl:Int→Int→Sl→Int→Int→Hp→OA) (aa:Nat) (ac:Nat) (ae:Int) (H:Hp):aCode tabs (mkOrc (ar.cs F ak ce dk dl)) ar.pn (ar.lh F ak ce dk dl) F [] 1 ar.code (argTm [(.ptr aa ac),(.int .i64 ae)]) H (fun tm H=>aresults tabs.ty H tm Try.f139.results.toList fun v=>some (v,H)) (fun _ _ _=>none) (fun tm H=>aresults tabs.ty H tm Try.f139.results.toList fun v=>some (v,H)) = ar.twX F ak ce dk dl aa ac ae H:=by kernel_rfl
theorem ar.cs_ok (F:Nat):∀ p ∈ ar.cs F (aN.tw F) (ch.tw F) (bG.tw F) (bH.tw F),∀ args H v H',p.2 args H = some (v,H')→Go.AE.T Try.prog p.1 args H v H':=by
 intro p hp
 simp only [ar.cs,List.mem_cons,List.not_mem_nil,or_false] at hp
 rcases hp with rfl | rfl | rfl | rfl
 ·exact fun args H v H' h=>aN.mk_T h
 ·exact fun args H v H' h=>ch.mk_T h
 ·exact fun args H v H' h=>bG.mk_T h
 ·exact fun args H v H' h=>bH.mk_T h
theorem ar.ok:codeOk ar.pn Try.f139.ntmps ar.tb ar.code = true:=by kernel_rfl
theorem ar.T {F:Nat} {aa:Nat} {ac:Nat} {ae:Int} {H:Hp} {v:AV} {H':Hp} (h:ar.tw F aa ac ae H = some (v,H')):Go.AE.T Try.prog 139 [(.ptr aa ac),(.int .i64 ae)] H v H':=
 Go.AE.T.of (Y:=tabs) (C:=mkOrc (ar.cs F (aN.tw F) (ch.tw F) (bG.tw F) (bH.tw F))) (PN:=ar.pn) (LH:=ar.lh F (aN.tw F) (ch.tw F) (bG.tw F) (bH.tw F)) (F:=F) (TB:=ar.tb) (fn:=Try.f139) (code:=ar.code) mixed tabs_ok (mkOrc_ok (ar.cs_ok F)) Try.func139 (by kernel_rfl) (by kernel_rfl) ar.ok (Nat.le_of_ble_eq_true (by kernel_rfl)) (ar.loops F (aN.tw F) (ch.tw F) (bG.tw F) (bH.tw F)) (Eq.trans (ar.eqX F (aN.tw F) (ch.tw F) (bG.tw F) (bH.tw F) aa ac ae H) h)
theorem ar.mk_T {F:Nat} {args:List AV} {H:Hp} {v:AV} {H':Hp} (h:ar.mk (ar.tw F) args H = some (v,H')):Go.AE.T Try.prog 139 args H v H':=by
 unfold ar.mk at h
 split at h
 ·exact ar.T h
 ·cases h
noncomputable def dx.twX (F:Nat) (aa:Int) (ag:Int) (H:Hp):OA:=(if ag = 0 then none else ((if ag = 0 then none else ((bif (decide ((Int.tmod aa ag) < 0)) then (some ((.int .i64 (IntKind.i64.wrap ((IntKind.i64.wrap (Int.tdiv aa ag)) - 1))),H)) else (some ((.int .i64 (IntKind.i64.wrap (Int.tdiv aa ag))),H)))))))
noncomputable def dx.tw (F:Nat) (aa:Int) (ag:Int) (H:Hp):OA:=dx.twX F aa ag H
noncomputable def dx.code:Go.Code:=(Try.f141.body).getD .skip
noncomputable def dx.lh (F:Nat) (p:Nat) (ks:List Nat) (n:Nat) (tm:Tm) (H:Hp):OA:=none
def dx.pn:Nat→List Nat:=fun i=>(([]:List (Nat×List Nat)).lookup i).getD []
def dx.tb:Nat→List (List Nat):=fun i=>(([]:List (Nat×List (List Nat))).lookup i).getD []
noncomputable def dx.mk (g:Int→Int→Hp→OA) (args:List AV) (H:Hp):OA:=match args with
 | [(.int .i64 aa),(.int .i64 ag)]=>g aa ag H
 | _=>none
noncomputable def dx.cs (F:Nat):List (FuncId×(List AV→Hp→OA)):=[]
theorem dx.loops (F:Nat):LoopsOk tabs (mkOrc (dx.cs F)) dx.pn (dx.lh F) F [] 1 dx.code (fun tm H=>aresults tabs.ty H tm Try.f141.results.toList fun v=>some (v,H)) (fun _ _ _=>none) (fun tm H=>aresults tabs.ty H tm Try.f141.results.toList fun v=>some (v,H)):=by
 exact loops_none (by kernel_rfl)
theorem dx.eqX (F:Nat) (aa:Int) (ag:Int) (H:Hp):aCode tabs (mkOrc (dx.cs F)) dx.pn (dx.lh F) F [] 1 dx.code (argTm [(.int .i64 aa),(.int .i64 ag)]) H (fun tm H=>aresults tabs.ty H tm Try.f141.results.toList fun v=>some (v,H)) (fun _ _ _=>none) (fun tm H=>aresults tabs.ty H tm Try.f141.results.toList fun v=>some (v,H)) = dx.twX F aa ag H:=by kernel_rfl
theorem dx.cs_ok (F:Nat):∀ p ∈ dx.cs F,∀ args H v H',p.2 args H = some (v,H')→Go.AE.T Try.prog p.1 args H v H':=by
 intro p hp
 exact absurd (show p ∈ [] from hp) List.not_mem_nil
theorem dx.ok:codeOk dx.pn Try.f141.ntmps dx.tb dx.code = true:=by kernel_rfl
theorem dx.T {F:Nat} {aa:Int} {ag:Int} {H:Hp} {v:AV} {H':Hp} (h:dx.tw F aa ag H = some (v,H')):Go.AE.T Try.prog 141 [(.int .i64 aa),(.int .i64 ag)] H v H':=
 Go.AE.T.of (Y:=tabs) (C:=mkOrc (dx.cs F)) (PN:=dx.pn) (LH:=dx.lh F) (F:=F) (TB:=dx.tb) (fn:=Try.f141) (code:=dx.code) mixed tabs_ok (mkOrc_ok (dx.cs_ok F)) Try.func141 (by kernel_rfl) (by kernel_rfl) dx.ok (Nat.le_of_ble_eq_true (by kernel_rfl)) (dx.loops F) (Eq.trans (dx.eqX F aa ag H) h)
theorem dx.mk_T {F:Nat} {args:List AV} {H:Hp} {v:AV} {H':Hp} (h:dx.mk (dx.tw F) args H = some (v,H')):Go.AE.T Try.prog 141 args H v H':=by
 unfold dx.mk at h
 split at h
 ·exact dx.T h
 ·cases h
noncomputable def dK.twX (F:Nat) (ce:Int→Hp→OA) (aa:Int) (ag:Int) (cH:Int) (H:Hp):OA:=(bif (aa != 0) then ((ce ag H).bind fun r4=>((r4.1).asI .i64).bind fun n5=>(ce aa r4.2).bind fun r6=>((r6.1).asI .i64).bind fun n7=>(if n7 = 0 then none else ((bif (decide (n5 > (IntKind.i64.wrap (Int.tdiv cH n7)))) then (some ((.tup [(.int .i64 0),(.bool false)]),r6.2)) else (some ((.tup [(.int .i64 (IntKind.i64.wrap (aa * ag))),(.bool true)]),r6.2)))))) else (some ((.tup [(.int .i64 (IntKind.i64.wrap (aa * ag))),(.bool true)]),H)))
noncomputable def dK.tw (F:Nat) (aa:Int) (ag:Int) (cH:Int) (H:Hp):OA:=dK.twX F (ch.tw F) aa ag cH H
noncomputable def dK.code:Go.Code:=(Try.f113.body).getD .skip
noncomputable def dK.lh (F:Nat) (ce:Int→Hp→OA) (p:Nat) (ks:List Nat) (n:Nat) (tm:Tm) (H:Hp):OA:=none
def dK.pn:Nat→List Nat:=fun i=>(([]:List (Nat×List Nat)).lookup i).getD []
def dK.tb:Nat→List (List Nat):=fun i=>(([]:List (Nat×List (List Nat))).lookup i).getD []
noncomputable def dK.mk (g:Int→Int→Int→Hp→OA) (args:List AV) (H:Hp):OA:=match args with
 | [(.int .i64 aa),(.int .i64 ag),(.int .i64 cH)]=>g aa ag cH H
 | _=>none
noncomputable def dK.cs (F:Nat) (ce:Int→Hp→OA):List (FuncId×(List AV→Hp→OA)):=[(114,ch.mk ce)]
theorem dK.loops (F:Nat) (ce:Int→Hp→OA):LoopsOk tabs (mkOrc (dK.cs F ce)) dK.pn (dK.lh F ce) F [] 1 dK.code (fun tm H=>aresults tabs.ty H tm Try.f113.results.toList fun v=>some (v,H)) (fun _ _ _=>none) (fun tm H=>aresults tabs.ty H tm Try.f113.results.toList fun v=>some (v,H)):=by
 exact loops_none (by kernel_rfl)
theorem dK.eqX (F:Nat) (ce:Int→Hp→OA) (aa:Int) (ag:Int) (cH:Int) (H:Hp):aCode tabs (mkOrc (dK.cs F ce)) dK.pn (dK.lh F ce) F [] 1 dK.code (argTm [(.int .i64 aa),(.int .i64 ag),(.int .i64 cH)]) H (fun tm H=>aresults tabs.ty H tm Try.f113.results.toList fun v=>some (v,H)) (fun _ _ _=>none) (fun tm H=>aresults tabs.ty H tm Try.f113.results.toList fun v=>some (v,H)) = dK.twX F ce aa ag cH H:=by kernel_rfl
theorem dK.cs_ok (F:Nat):∀ p ∈ dK.cs F (ch.tw F),∀ args H v H',p.2 args H = some (v,H')→Go.AE.T Try.prog p.1 args H v H':=by
 intro p hp
 simp only [dK.cs,List.mem_cons,List.not_mem_nil,or_false] at hp
 subst hp
 exact fun args H v H' h=>ch.mk_T h
theorem dK.ok:codeOk dK.pn Try.f113.ntmps dK.tb dK.code = true:=by kernel_rfl
theorem dK.T {F:Nat} {aa:Int} {ag:Int} {cH:Int} {H:Hp} {v:AV} {H':Hp} (h:dK.tw F aa ag cH H = some (v,H')):Go.AE.T Try.prog 113 [(.int .i64 aa),(.int .i64 ag),(.int .i64 cH)] H v H':=
 Go.AE.T.of (Y:=tabs) (C:=mkOrc (dK.cs F (ch.tw F))) (PN:=dK.pn) (LH:=dK.lh F (ch.tw F)) (F:=F) (TB:=dK.tb) (fn:=Try.f113) (code:=dK.code) mixed tabs_ok (mkOrc_ok (dK.cs_ok F)) Try.func113 (by kernel_rfl) (by kernel_rfl) dK.ok (Nat.le_of_ble_eq_true (by kernel_rfl)) (dK.loops F (ch.tw F)) (Eq.trans (dK.eqX F (ch.tw F) aa ag cH H) h)
theorem dK.mk_T {F:Nat} {args:List AV} {H:Hp} {v:AV} {H':Hp} (h:dK.mk (dK.tw F) args H = some (v,H')):Go.AE.T Try.prog 113 args H v H':=by
 unfold dK.mk at h
 split at h
 ·exact dK.T h
 ·cases h
noncomputable def dg.twX (F:Nat) (lK:Int→Int→Int→Hp→OA) (aa:Int) (ag:Int) (cH:Int) (H:Hp):OA:=(lK ag cH 2000000000000 H).bind fun r4=>((r4.1).asTup 2).bind fun l5=>(l5[0]?).bind fun v6=>((v6).asI .i64).bind fun n7=>(l5[1]?).bind fun v8=>((v8).asB).bind fun b9=>(bif (!b9) then (some ((.int .i64 3000000000000),r4.2)) else (some ((.int .i64 (IntKind.i64.wrap (aa - n7))),r4.2)))
noncomputable def dg.tw (F:Nat) (aa:Int) (ag:Int) (cH:Int) (H:Hp):OA:=dg.twX F (dK.tw F) aa ag cH H
noncomputable def dg.code:Go.Code:=(Try.f165.body).getD .skip
noncomputable def dg.lh (F:Nat) (lK:Int→Int→Int→Hp→OA) (p:Nat) (ks:List Nat) (n:Nat) (tm:Tm) (H:Hp):OA:=none
def dg.pn:Nat→List Nat:=fun i=>(([]:List (Nat×List Nat)).lookup i).getD []
def dg.tb:Nat→List (List Nat):=fun i=>(([]:List (Nat×List (List Nat))).lookup i).getD []
noncomputable def dg.mk (g:Int→Int→Int→Hp→OA) (args:List AV) (H:Hp):OA:=match args with
 | [(.int .i64 aa),(.int .i64 ag),(.int .i64 cH)]=>g aa ag cH H
 | _=>none
noncomputable def dg.cs (F:Nat) (lK:Int→Int→Int→Hp→OA):List (FuncId×(List AV→Hp→OA)):=[(113,dK.mk lK)]
theorem dg.loops (F:Nat) (lK:Int→Int→Int→Hp→OA):LoopsOk tabs (mkOrc (dg.cs F lK)) dg.pn (dg.lh F lK) F [] 1 dg.code (fun tm H=>aresults tabs.ty H tm Try.f165.results.toList fun v=>some (v,H)) (fun _ _ _=>none) (fun tm H=>aresults tabs.ty H tm Try.f165.results.toList fun v=>some (v,H)):=by
 exact loops_none (by kernel_rfl)
theorem dg.eqX (F:Nat) (lK:Int→Int→Int→Hp→OA) (aa:Int) (ag:Int) (cH:Int) (H:Hp):aCode tabs (mkOrc (dg.cs F lK)) dg.pn (dg.lh F lK) F [] 1 dg.code (argTm [(.int .i64 aa),(.int .i64 ag),(.int .i64 cH)]) H (fun tm H=>aresults tabs.ty H tm Try.f165.results.toList fun v=>some (v,H)) (fun _ _ _=>none) (fun tm H=>aresults tabs.ty H tm Try.f165.results.toList fun v=>some (v,H)) = dg.twX F lK aa ag cH H:=by kernel_rfl
theorem dg.cs_ok (F:Nat):∀ p ∈ dg.cs F (dK.tw F),∀ args H v H',p.2 args H = some (v,H')→Go.AE.T Try.prog p.1 args H v H':=by
 intro p hp
 simp only [dg.cs,List.mem_cons,List.not_mem_nil,or_false] at hp
 subst hp
 exact fun args H v H' h=>dK.mk_T h
theorem dg.ok:codeOk dg.pn Try.f165.ntmps dg.tb dg.code = true:=by kernel_rfl
theorem dg.T {F:Nat} {aa:Int} {ag:Int} {cH:Int} {H:Hp} {v:AV} {H':Hp} (h:dg.tw F aa ag cH H = some (v,H')):Go.AE.T Try.prog 165 [(.int .i64 aa),(.int .i64 ag),(.int .i64 cH)] H v H':=
 Go.AE.T.of (Y:=tabs) (C:=mkOrc (dg.cs F (dK.tw F))) (PN:=dg.pn) (LH:=dg.lh F (dK.tw F)) (F:=F) (TB:=dg.tb) (fn:=Try.f165) (code:=dg.code) mixed tabs_ok (mkOrc_ok (dg.cs_ok F)) Try.func165 (by kernel_rfl) (by kernel_rfl) dg.ok (Nat.le_of_ble_eq_true (by kernel_rfl)) (dg.loops F (dK.tw F)) (Eq.trans (dg.eqX F (dK.tw F) aa ag cH H) h)
theorem dg.mk_T {F:Nat} {args:List AV} {H:Hp} {v:AV} {H':Hp} (h:dg.mk (dg.tw F) args H = some (v,H')):Go.AE.T Try.prog 165 args H v H':=by
 unfold dg.mk at h
 split at h
 ·exact dg.T h
 ·cases h
noncomputable def dh.twX (F:Nat) (ce:Int→Hp→OA) (aa:Nat) (ac:Nat) (ae:Int) (af:Int) (bt:Sl) (cJ:Int) (cK:Int) (cn:Int) (H:Hp):OA:=(Hp.new H [(.int .i64 ae),(.int .i64 af),(.sl bt)]).bind fun H9=>(ce cn H9).bind fun r10=>((r10.1).asI .i64).bind fun n11=>(bif (decide (n11 > 1000000000000)) then ((Hp.st r10.2 aa (ac + 15) (.bool true)).bind fun H12=>some ((.tup []),H12)) else ((Hp.ldSl r10.2 H.length 2).bind fun s13=>(Hp.ldI r10.2 .i64 H.length 1).bind fun n14=>(Sl.idx s13 (IntKind.i64.wrap ((IntKind.i64.wrap (cJ * n14)) + cK)) 1).bind fun p15=>(Hp.st r10.2 p15.1 p15.2 (.int .i64 cn)).bind fun H16=>some ((.tup []),H16)))
noncomputable def dh.tw (F:Nat) (aa:Nat) (ac:Nat) (ae:Int) (af:Int) (bt:Sl) (cJ:Int) (cK:Int) (cn:Int) (H:Hp):OA:=dh.twX F (ch.tw F) aa ac ae af bt cJ cK cn H
noncomputable def dh.code:Go.Code:=(Try.f164.body).getD .skip
noncomputable def dh.lh (F:Nat) (ce:Int→Hp→OA) (p:Nat) (ks:List Nat) (n:Nat) (tm:Tm) (H:Hp):OA:=none
def dh.pn:Nat→List Nat:=fun i=>(([]:List (Nat×List Nat)).lookup i).getD []
def dh.tb:Nat→List (List Nat):=fun i=>(([]:List (Nat×List (List Nat))).lookup i).getD []
noncomputable def dh.mk (g:Nat→Nat→Int→Int→Sl→Int→Int→Int→Hp→OA) (args:List AV) (H:Hp):OA:=match args with
 | [(.ptr aa ac),(.agg [(.int .i64 ae),(.int .i64 af),(.sl bt)]),(.int .i64 cJ),(.int .i64 cK),(.int .i64 cn)]=>g aa ac ae af bt cJ cK cn H
 | _=>none
noncomputable def dh.cs (F:Nat) (ce:Int→Hp→OA):List (FuncId×(List AV→Hp→OA)):=[(114,ch.mk ce)]
theorem dh.loops (F:Nat) (ce:Int→Hp→OA):LoopsOk tabs (mkOrc (dh.cs F ce)) dh.pn (dh.lh F ce) F [] 1 dh.code (fun tm H=>aresults tabs.ty H tm Try.f164.results.toList fun v=>some (v,H)) (fun _ _ _=>none) (fun tm H=>aresults tabs.ty H tm Try.f164.results.toList fun v=>some (v,H)):=by
 exact loops_none (by kernel_rfl)
theorem dh.eqX (F:Nat) (ce:Int→Hp→OA) (aa:Nat) (ac:Nat) (ae:Int) (af:Int) (bt:Sl) (cJ:Int) (cK:Int) (cn:Int) (H:Hp):aCode tabs (mkOrc (dh.cs F ce)) dh.pn (dh.lh F ce) F [] 1 dh.code (argTm [(.ptr aa ac),(.agg [(.int .i64 ae),(.int .i64 af),(.sl bt)]),(.int .i64 cJ),(.int .i64 cK),(.int .i64 cn)]) H (fun tm H=>aresults tabs.ty H tm Try.f164.results.toList fun v=>some (v,H)) (fun _ _ _=>none) (fun tm H=>aresults tabs.ty H tm Try.f164.results.toList fun v=>some (v,H)) = dh.twX F ce aa ac ae af bt cJ cK cn H:=by kernel_rfl
theorem dh.cs_ok (F:Nat):∀ p ∈ dh.cs F (ch.tw F),∀ args H v H',p.2 args H = some (v,H')→Go.AE.T Try.prog p.1 args H v H':=by
 intro p hp
 simp only [dh.cs,List.mem_cons,List.not_mem_nil,or_false] at hp
 subst hp
 exact fun args H v H' h=>ch.mk_T h
theorem dh.ok:codeOk dh.pn Try.f164.ntmps dh.tb dh.code = true:=by kernel_rfl
theorem dh.T {F:Nat} {aa:Nat} {ac:Nat} {ae:Int} {af:Int} {bt:Sl} {cJ:Int} {cK:Int} {cn:Int} {H:Hp} {v:AV} {H':Hp} (h:dh.tw F aa ac ae af bt cJ cK cn H = some (v,H')):Go.AE.T Try.prog 164 [(.ptr aa ac),(.agg [(.int .i64 ae),(.int .i64 af),(.sl bt)]),(.int .i64 cJ),(.int .i64 cK),(.int .i64 cn)] H v H':=
 Go.AE.T.of (Y:=tabs) (C:=mkOrc (dh.cs F (ch.tw F))) (PN:=dh.pn) (LH:=dh.lh F (ch.tw F)) (F:=F) (TB:=dh.tb) (fn:=Try.f164) (code:=dh.code) mixed tabs_ok (mkOrc_ok (dh.cs_ok F)) Try.func164 (by kernel_rfl) (by kernel_rfl) dh.ok (Nat.le_of_ble_eq_true (by kernel_rfl)) (dh.loops F (ch.tw F)) (Eq.trans (dh.eqX F (ch.tw F) aa ac ae af bt cJ cK cn H) h)
theorem dh.mk_T {F:Nat} {args:List AV} {H:Hp} {v:AV} {H':Hp} (h:dh.mk (dh.tw F) args H = some (v,H')):Go.AE.T Try.prog 164 args H v H':=by
 unfold dh.mk at h
 split at h
 ·exact dh.T h
 ·cases h
noncomputable def bC.l7 (F:Nat) (ak:Int→Int→Sl→Int→Int→Hp→OA) (fh:Int→Int→Int→Hp→OA) (fi:Nat→Nat→Int→Int→Sl→Int→Int→Int→Hp→OA) :Nat→Nat→Nat→Int→Int→Int→Nat→Nat→Int→Hp→OA
 | 0,_,_,_,_,_,_,_,_,_=>none
 | kK + 1,gp,cO,eL,dU,fF,eH,cN,eM,H21=>(Hp.ldI H21 .i64 eH (cN + 1)).bind fun n40=>(bif (decide (eM < n40)) then ((Hp.ldB H21 gp (cO + 15)).bind fun b41=>(bif (!b41) then ((Hp.ldI H21 .i64 eH cN).bind fun n42=>(Hp.ldI H21 .i64 eH (cN + 1)).bind fun n43=>(Hp.ldSl H21 eH (cN + 2)).bind fun s44=>(Hp.ldI H21 .i64 eH cN).bind fun n45=>(Hp.ldI H21 .i64 eH (cN + 1)).bind fun n46=>(Hp.ldSl H21 eH (cN + 2)).bind fun s47=>(ak n45 n46 s47 eL eM H21).bind fun r48=>((r48.1).asI .i64).bind fun n49=>(if Cons H21 r48.2 then ((Hp.ldI r48.2 .i64 eH cN).bind fun n50=>(Hp.ldI r48.2 .i64 eH (cN + 1)).bind fun n51=>(Hp.ldSl r48.2 eH (cN + 2)).bind fun s52=>(ak n50 n51 s52 dU eM r48.2).bind fun r53=>((r53.1).asI .i64).bind fun n54=>(if Cons r48.2 r53.2 then ((fh n49 fF n54 r53.2).bind fun r55=>((r55.1).asI .i64).bind fun n56=>(if Cons r53.2 r55.2 then ((fi gp cO n42 n43 s44 eL eM n56 r55.2).bind fun r57=>bC.l7 F ak fh fi kK gp cO eL dU fF eH cN (IntKind.i64.wrap (eM + 1)) r57.2) else none)) else none)) else none)) else (some ((.tup []),H21)))) else (some ((.tup []),H21)))
termination_by structural n=>n
noncomputable def bC.twX (F:Nat) (ak:Int→Int→Sl→Int→Int→Hp→OA) (fh:Int→Int→Int→Hp→OA) (fi:Nat→Nat→Int→Int→Sl→Int→Int→Int→Hp→OA) (aa:Nat) (ac:Nat) (ae:Int) (af:Int) (bt:Sl) (cJ:Int) (cK:Int) (cn:Int) (H:Hp):OA:=(Hp.new H [(.int .i64 ae),(.int .i64 af),(.sl bt)]).bind fun H9=>bC.l7 F ak fh fi F aa ac cJ cK cn H.length 0 0 H9
noncomputable def bC.tw (F:Nat) (aa:Nat) (ac:Nat) (ae:Int) (af:Int) (bt:Sl) (cJ:Int) (cK:Int) (cn:Int) (H:Hp):OA:=bC.twX F (aN.tw F) (dg.tw F) (dh.tw F) aa ac ae af bt cJ cK cn H
noncomputable def bC.code:Go.Code:=(Try.f160.body).getD .skip
noncomputable def bC.lh7 (F:Nat) (ak:Int→Int→Sl→Int→Int→Hp→OA) (fh:Int→Int→Int→Hp→OA) (fi:Nat→Nat→Int→Int→Sl→Int→Int→Int→Hp→OA) (ks:List Nat) (n:Nat) (tm:Tm) (H:Hp):OA:=match ks,tm 0,tm 2,tm 3,tm 4,tm 6,tm 10 with
 | [],(.ptr gp cO),(.int .i64 eL),(.int .i64 dU),(.int .i64 fF),(.ptr eH cN),(.int .i64 eM)=>bC.l7 F ak fh fi n gp cO eL dU fF eH cN eM H
 | _,_,_,_,_,_,_=>none
theorem bC.lh7_inv {F:Nat} {ak:Int→Int→Sl→Int→Int→Hp→OA} {fh:Int→Int→Int→Hp→OA} {fi:Nat→Nat→Int→Int→Sl→Int→Int→Int→Hp→OA} {ks:List Nat} {n:Nat} {tm:Tm} {H:Hp} {r:AV×Hp} (h:bC.lh7 F ak fh fi ks n tm H = some r):∃ gp:Nat,∃ cO:Nat,∃ eL:Int,∃ dU:Int,∃ fF:Int,∃ eH:Nat,∃ cN:Nat,∃ eM:Int,ks = []∧tm 0 = (.ptr gp cO)∧tm 2 = (.int .i64 eL)∧tm 3 = (.int .i64 dU)∧tm 4 = (.int .i64 fF)∧tm 6 = (.ptr eH cN)∧tm 10 = (.int .i64 eM)∧bC.l7 F ak fh fi n gp cO eL dU fF eH cN eM H = some r:=by
 unfold bC.lh7 at h
 split at h
 ·exact ⟨_,_,_,_,_,_,_,_,rfl,by assumption,by assumption,by assumption,by assumption,by assumption,by assumption,h⟩
 ·cases h
noncomputable def bC.lh (F:Nat) (ak:Int→Int→Sl→Int→Int→Hp→OA) (fh:Int→Int→Int→Hp→OA) (fi:Nat→Nat→Int→Int→Sl→Int→Int→Int→Hp→OA) (p:Nat) (ks:List Nat) (n:Nat) (tm:Tm) (H:Hp):OA:=bif p.beq 7 then bC.lh7 F ak fh fi ks n tm H else (none)
def bC.pn:Nat→List Nat:=fun i=>(([(4,[14])]:List (Nat×List Nat)).lookup i).getD []
def bC.tb:Nat→List (List Nat):=fun i=>(([(4,[[],[],[],[],[],[],[],[4,5,6],[],[],[],[],[4,5,6,7,9,10,11],[4,5,6,7,8,9,10,11,12],[0,1,2,3,4,5,6,7,8,9,10,11,12,13]])]:List (Nat×List (List Nat))).lookup i).getD []
noncomputable def bC.mk (g:Nat→Nat→Int→Int→Sl→Int→Int→Int→Hp→OA) (args:List AV) (H:Hp):OA:=match args with
 | [(.ptr aa ac),(.agg [(.int .i64 ae),(.int .i64 af),(.sl bt)]),(.int .i64 cJ),(.int .i64 cK),(.int .i64 cn)]=>g aa ac ae af bt cJ cK cn H
 | _=>none
noncomputable def bC.cs (F:Nat) (ak:Int→Int→Sl→Int→Int→Hp→OA) (fh:Int→Int→Int→Hp→OA) (fi:Nat→Nat→Int→Int→Sl→Int→Int→Int→Hp→OA):List (FuncId×(List AV→Hp→OA)):=[(79,aN.mk ak),(165,dg.mk fh),(164,dh.mk fi)]
theorem bC.loops (F:Nat) (ak:Int→Int→Sl→Int→Int→Hp→OA) (fh:Int→Int→Int→Hp→OA) (fi:Nat→Nat→Int→Int→Sl→Int→Int→Int→Hp→OA):LoopsOk tabs (mkOrc (bC.cs F ak fh fi)) bC.pn (bC.lh F ak fh fi) F [] 1 bC.code (fun tm H=>aresults tabs.ty H tm Try.f160.results.toList fun v=>some (v,H)) (fun _ _ _=>none) (fun tm H=>aresults tabs.ty H tm Try.f160.results.toList fun v=>some (v,H)):=by
 refine LoopsOk.seq ?_ ?_
 ·exact loops_none (by kernel_rfl)
 ·refine LoopsOk.seq ?_ ?_
  ·exact loops_none (by kernel_rfl)
  ·refine LoopsOk.block ?_
   refine LoopsOk.loop (fun tm H=>?_) (fun k7 tm H r h0=>?_) (fun k7=>?_)
   ·refine none_of fun r h0=>?_
    obtain ⟨gp,cO,eL,dU,fF,eH,cN,eM,hks,e0,e2,e3,e4,e6,e10,h⟩:=bC.lh7_inv (show bC.lh7 F ak fh fi [] 0 tm H = some r from h0)
    cases h
   ·obtain ⟨gp,cO,eL,dU,fF,eH,cN,eM,hks,e0,e2,e3,e4,e6,e10,h⟩:=bC.lh7_inv (show bC.lh7 F ak fh fi [] (k7 + 1) tm H = some r from h0)
    have q0:(Tm.put tm 0 (.ptr gp cO)) = tm:=by exact Tm.put_same e0
    have q1:(Tm.put (Tm.put tm 0 (.ptr gp cO)) 2 (.int .i64 eL)) = tm:=by rw [q0]; exact Tm.put_same e2
    have q2:(Tm.put (Tm.put (Tm.put tm 0 (.ptr gp cO)) 2 (.int .i64 eL)) 3 (.int .i64 dU)) = tm:=by rw [q1]; exact Tm.put_same e3
    have q3:(Tm.put (Tm.put (Tm.put (Tm.put tm 0 (.ptr gp cO)) 2 (.int .i64 eL)) 3 (.int .i64 dU)) 4 (.int .i64 fF)) = tm:=by rw [q2]; exact Tm.put_same e4
    have q4:(Tm.put (Tm.put (Tm.put (Tm.put (Tm.put tm 0 (.ptr gp cO)) 2 (.int .i64 eL)) 3 (.int .i64 dU)) 4 (.int .i64 fF)) 6 (.ptr eH cN)) = tm:=by rw [q3]; exact Tm.put_same e6
    have q5:(Tm.put (Tm.put (Tm.put (Tm.put (Tm.put (Tm.put tm 0 (.ptr gp cO)) 2 (.int .i64 eL)) 3 (.int .i64 dU)) 4 (.int .i64 fF)) 6 (.ptr eH cN)) 10 (.int .i64 eM)) = tm:=by rw [q4]; exact Tm.put_same e10
    rw [← q5]
    exact Eq.trans (by kernel_rfl) h
   ·exact loops_none (by kernel_rfl)
theorem bC.eqX (F:Nat) (ak:Int→Int→Sl→Int→Int→Hp→OA) (fh:Int→Int→Int→Hp→OA) (fi:Nat→Nat→Int→Int→Sl→Int→Int→Int→Hp→OA) (aa:Nat) (ac:Nat) (ae:Int) (af:Int) (bt:Sl) (cJ:Int) (cK:Int) (cn:Int) (H:Hp):aCode tabs (mkOrc (bC.cs F ak fh fi)) bC.pn (bC.lh F ak fh fi) F [] 1 bC.code (argTm [(.ptr aa ac),(.agg [(.int .i64 ae),(.int .i64 af),(.sl bt)]),(.int .i64 cJ),(.int .i64 cK),(.int .i64 cn)]) H (fun tm H=>aresults tabs.ty H tm Try.f160.results.toList fun v=>some (v,H)) (fun _ _ _=>none) (fun tm H=>aresults tabs.ty H tm Try.f160.results.toList fun v=>some (v,H)) = bC.twX F ak fh fi aa ac ae af bt cJ cK cn H:=by kernel_rfl
theorem bC.cs_ok (F:Nat):∀ p ∈ bC.cs F (aN.tw F) (dg.tw F) (dh.tw F),∀ args H v H',p.2 args H = some (v,H')→Go.AE.T Try.prog p.1 args H v H':=by
 intro p hp
 simp only [bC.cs,List.mem_cons,List.not_mem_nil,or_false] at hp
 rcases hp with rfl | rfl | rfl
 ·exact fun args H v H' h=>aN.mk_T h
 ·exact fun args H v H' h=>dg.mk_T h
 ·exact fun args H v H' h=>dh.mk_T h
theorem bC.ok:codeOk bC.pn Try.f160.ntmps bC.tb bC.code = true:=by kernel_rfl
theorem bC.T {F:Nat} {aa:Nat} {ac:Nat} {ae:Int} {af:Int} {bt:Sl} {cJ:Int} {cK:Int} {cn:Int} {H:Hp} {v:AV} {H':Hp} (h:bC.tw F aa ac ae af bt cJ cK cn H = some (v,H')):Go.AE.T Try.prog 160 [(.ptr aa ac),(.agg [(.int .i64 ae),(.int .i64 af),(.sl bt)]),(.int .i64 cJ),(.int .i64 cK),(.int .i64 cn)] H v H':=
 Go.AE.T.of (Y:=tabs) (C:=mkOrc (bC.cs F (aN.tw F) (dg.tw F) (dh.tw F))) (PN:=bC.pn) (LH:=bC.lh F (aN.tw F) (dg.tw F) (dh.tw F)) (F:=F) (TB:=bC.tb) (fn:=Try.f160) (code:=bC.code) mixed tabs_ok (mkOrc_ok (bC.cs_ok F)) Try.func160 (by kernel_rfl) (by kernel_rfl) bC.ok (Nat.le_of_ble_eq_true (by kernel_rfl)) (bC.loops F (aN.tw F) (dg.tw F) (dh.tw F)) (Eq.trans (bC.eqX F (aN.tw F) (dg.tw F) (dh.tw F) aa ac ae af bt cJ cK cn H) h)
theorem bC.mk_T {F:Nat} {args:List AV} {H:Hp} {v:AV} {H':Hp} (h:bC.mk (bC.tw F) args H = some (v,H')):Go.AE.T Try.prog 160 args H v H':=by
 unfold bC.mk at h
 split at h
 ·exact bC.T h
 ·cases h
noncomputable def bD.l7 (F:Nat) (ak:Int→Int→Sl→Int→Int→Hp→OA) (fh:Int→Int→Int→Hp→OA) (fi:Nat→Nat→Int→Int→Sl→Int→Int→Int→Hp→OA) :Nat→Nat→Nat→Int→Int→Int→Nat→Nat→Int→Hp→OA
 | 0,_,_,_,_,_,_,_,_,_=>none
 | kK + 1,gp,cO,eL,dU,fF,eH,cN,eM,H21=>(Hp.ldI H21 .i64 eH cN).bind fun n40=>(bif (decide (eM < n40)) then ((Hp.ldB H21 gp (cO + 15)).bind fun b41=>(bif (!b41) then ((Hp.ldI H21 .i64 eH cN).bind fun n42=>(Hp.ldI H21 .i64 eH (cN + 1)).bind fun n43=>(Hp.ldSl H21 eH (cN + 2)).bind fun s44=>(Hp.ldI H21 .i64 eH cN).bind fun n45=>(Hp.ldI H21 .i64 eH (cN + 1)).bind fun n46=>(Hp.ldSl H21 eH (cN + 2)).bind fun s47=>(ak n45 n46 s47 eM eL H21).bind fun r48=>((r48.1).asI .i64).bind fun n49=>(if Cons H21 r48.2 then ((Hp.ldI r48.2 .i64 eH cN).bind fun n50=>(Hp.ldI r48.2 .i64 eH (cN + 1)).bind fun n51=>(Hp.ldSl r48.2 eH (cN + 2)).bind fun s52=>(ak n50 n51 s52 eM dU r48.2).bind fun r53=>((r53.1).asI .i64).bind fun n54=>(if Cons r48.2 r53.2 then ((fh n49 fF n54 r53.2).bind fun r55=>((r55.1).asI .i64).bind fun n56=>(if Cons r53.2 r55.2 then ((fi gp cO n42 n43 s44 eM eL n56 r55.2).bind fun r57=>bD.l7 F ak fh fi kK gp cO eL dU fF eH cN (IntKind.i64.wrap (eM + 1)) r57.2) else none)) else none)) else none)) else (some ((.tup []),H21)))) else (some ((.tup []),H21)))
termination_by structural n=>n
noncomputable def bD.twX (F:Nat) (ak:Int→Int→Sl→Int→Int→Hp→OA) (fh:Int→Int→Int→Hp→OA) (fi:Nat→Nat→Int→Int→Sl→Int→Int→Int→Hp→OA) (aa:Nat) (ac:Nat) (ae:Int) (af:Int) (bt:Sl) (cJ:Int) (cK:Int) (cn:Int) (H:Hp):OA:=(Hp.new H [(.int .i64 ae),(.int .i64 af),(.sl bt)]).bind fun H9=>bD.l7 F ak fh fi F aa ac cJ cK cn H.length 0 0 H9
noncomputable def bD.tw (F:Nat) (aa:Nat) (ac:Nat) (ae:Int) (af:Int) (bt:Sl) (cJ:Int) (cK:Int) (cn:Int) (H:Hp):OA:=bD.twX F (aN.tw F) (dg.tw F) (dh.tw F) aa ac ae af bt cJ cK cn H
noncomputable def bD.code:Go.Code:=(Try.f161.body).getD .skip
noncomputable def bD.lh7 (F:Nat) (ak:Int→Int→Sl→Int→Int→Hp→OA) (fh:Int→Int→Int→Hp→OA) (fi:Nat→Nat→Int→Int→Sl→Int→Int→Int→Hp→OA) (ks:List Nat) (n:Nat) (tm:Tm) (H:Hp):OA:=match ks,tm 0,tm 2,tm 3,tm 4,tm 6,tm 10 with
 | [],(.ptr gp cO),(.int .i64 eL),(.int .i64 dU),(.int .i64 fF),(.ptr eH cN),(.int .i64 eM)=>bD.l7 F ak fh fi n gp cO eL dU fF eH cN eM H
 | _,_,_,_,_,_,_=>none
theorem bD.lh7_inv {F:Nat} {ak:Int→Int→Sl→Int→Int→Hp→OA} {fh:Int→Int→Int→Hp→OA} {fi:Nat→Nat→Int→Int→Sl→Int→Int→Int→Hp→OA} {ks:List Nat} {n:Nat} {tm:Tm} {H:Hp} {r:AV×Hp} (h:bD.lh7 F ak fh fi ks n tm H = some r):∃ gp:Nat,∃ cO:Nat,∃ eL:Int,∃ dU:Int,∃ fF:Int,∃ eH:Nat,∃ cN:Nat,∃ eM:Int,ks = []∧tm 0 = (.ptr gp cO)∧tm 2 = (.int .i64 eL)∧tm 3 = (.int .i64 dU)∧tm 4 = (.int .i64 fF)∧tm 6 = (.ptr eH cN)∧tm 10 = (.int .i64 eM)∧bD.l7 F ak fh fi n gp cO eL dU fF eH cN eM H = some r:=by
 unfold bD.lh7 at h
 split at h
 ·exact ⟨_,_,_,_,_,_,_,_,rfl,by assumption,by assumption,by assumption,by assumption,by assumption,by assumption,h⟩
 ·cases h
noncomputable def bD.lh (F:Nat) (ak:Int→Int→Sl→Int→Int→Hp→OA) (fh:Int→Int→Int→Hp→OA) (fi:Nat→Nat→Int→Int→Sl→Int→Int→Int→Hp→OA) (p:Nat) (ks:List Nat) (n:Nat) (tm:Tm) (H:Hp):OA:=bif p.beq 7 then bD.lh7 F ak fh fi ks n tm H else (none)
def bD.pn:Nat→List Nat:=fun i=>(([(4,[14])]:List (Nat×List Nat)).lookup i).getD []
def bD.tb:Nat→List (List Nat):=fun i=>(([(4,[[],[],[],[],[],[],[],[4,5,6],[],[],[],[],[4,5,6,7,9,10,11],[4,5,6,7,8,9,10,11,12],[0,1,2,3,4,5,6,7,8,9,10,11,12,13]])]:List (Nat×List (List Nat))).lookup i).getD []
noncomputable def bD.mk (g:Nat→Nat→Int→Int→Sl→Int→Int→Int→Hp→OA) (args:List AV) (H:Hp):OA:=match args with
 | [(.ptr aa ac),(.agg [(.int .i64 ae),(.int .i64 af),(.sl bt)]),(.int .i64 cJ),(.int .i64 cK),(.int .i64 cn)]=>g aa ac ae af bt cJ cK cn H
 | _=>none
noncomputable def bD.cs (F:Nat) (ak:Int→Int→Sl→Int→Int→Hp→OA) (fh:Int→Int→Int→Hp→OA) (fi:Nat→Nat→Int→Int→Sl→Int→Int→Int→Hp→OA):List (FuncId×(List AV→Hp→OA)):=[(79,aN.mk ak),(165,dg.mk fh),(164,dh.mk fi)]
theorem bD.loops (F:Nat) (ak:Int→Int→Sl→Int→Int→Hp→OA) (fh:Int→Int→Int→Hp→OA) (fi:Nat→Nat→Int→Int→Sl→Int→Int→Int→Hp→OA):LoopsOk tabs (mkOrc (bD.cs F ak fh fi)) bD.pn (bD.lh F ak fh fi) F [] 1 bD.code (fun tm H=>aresults tabs.ty H tm Try.f161.results.toList fun v=>some (v,H)) (fun _ _ _=>none) (fun tm H=>aresults tabs.ty H tm Try.f161.results.toList fun v=>some (v,H)):=by
 refine LoopsOk.seq ?_ ?_
 ·exact loops_none (by kernel_rfl)
 ·refine LoopsOk.seq ?_ ?_
  ·exact loops_none (by kernel_rfl)
  ·refine LoopsOk.block ?_
   refine LoopsOk.loop (fun tm H=>?_) (fun k7 tm H r h0=>?_) (fun k7=>?_)
   ·refine none_of fun r h0=>?_
    obtain ⟨gp,cO,eL,dU,fF,eH,cN,eM,hks,e0,e2,e3,e4,e6,e10,h⟩:=bD.lh7_inv (show bD.lh7 F ak fh fi [] 0 tm H = some r from h0)
    cases h
   ·obtain ⟨gp,cO,eL,dU,fF,eH,cN,eM,hks,e0,e2,e3,e4,e6,e10,h⟩:=bD.lh7_inv (show bD.lh7 F ak fh fi [] (k7 + 1) tm H = some r from h0)
    have q0:(Tm.put tm 0 (.ptr gp cO)) = tm:=by exact Tm.put_same e0
    have q1:(Tm.put (Tm.put tm 0 (.ptr gp cO)) 2 (.int .i64 eL)) = tm:=by rw [q0]; exact Tm.put_same e2
    have q2:(Tm.put (Tm.put (Tm.put tm 0 (.ptr gp cO)) 2 (.int .i64 eL)) 3 (.int .i64 dU)) = tm:=by rw [q1]; exact Tm.put_same e3
    have q3:(Tm.put (Tm.put (Tm.put (Tm.put tm 0 (.ptr gp cO)) 2 (.int .i64 eL)) 3 (.int .i64 dU)) 4 (.int .i64 fF)) = tm:=by rw [q2]; exact Tm.put_same e4
    have q4:(Tm.put (Tm.put (Tm.put (Tm.put (Tm.put tm 0 (.ptr gp cO)) 2 (.int .i64 eL)) 3 (.int .i64 dU)) 4 (.int .i64 fF)) 6 (.ptr eH cN)) = tm:=by rw [q3]; exact Tm.put_same e6
    have q5:(Tm.put (Tm.put (Tm.put (Tm.put (Tm.put (Tm.put tm 0 (.ptr gp cO)) 2 (.int .i64 eL)) 3 (.int .i64 dU)) 4 (.int .i64 fF)) 6 (.ptr eH cN)) 10 (.int .i64 eM)) = tm:=by rw [q4]; exact Tm.put_same e10
    rw [← q5]
    exact Eq.trans (by kernel_rfl) h
   ·exact loops_none (by kernel_rfl)
theorem bD.eqX (F:Nat) (ak:Int→Int→Sl→Int→Int→Hp→OA) (fh:Int→Int→Int→Hp→OA) (fi:Nat→Nat→Int→Int→Sl→Int→Int→Int→Hp→OA) (aa:Nat) (ac:Nat) (ae:Int) (af:Int) (bt:Sl) (cJ:Int) (cK:Int) (cn:Int) (H:Hp):aCode tabs (mkOrc (bD.cs F ak fh fi)) bD.pn (bD.lh F ak fh fi) F [] 1 bD.code (argTm [(.ptr aa ac),(.agg [(.int .i64 ae),(.int .i64 af),(.sl bt)]),(.int .i64 cJ),(.int .i64 cK),(.int .i64 cn)]) H (fun tm H=>aresults tabs.ty H tm Try.f161.results.toList fun v=>some (v,H)) (fun _ _ _=>none) (fun tm H=>aresults tabs.ty H tm Try.f161.results.toList fun v=>some (v,H)) = bD.twX F ak fh fi aa ac ae af bt cJ cK cn H:=by kernel_rfl
theorem bD.cs_ok (F:Nat):∀ p ∈ bD.cs F (aN.tw F) (dg.tw F) (dh.tw F),∀ args H v H',p.2 args H = some (v,H')→Go.AE.T Try.prog p.1 args H v H':=by
 intro p hp
 simp only [bD.cs,List.mem_cons,List.not_mem_nil,or_false] at hp
 rcases hp with rfl | rfl | rfl
 ·exact fun args H v H' h=>aN.mk_T h
 ·exact fun args H v H' h=>dg.mk_T h
 ·exact fun args H v H' h=>dh.mk_T h
theorem bD.ok:codeOk bD.pn Try.f161.ntmps bD.tb bD.code = true:=by kernel_rfl
theorem bD.T {F:Nat} {aa:Nat} {ac:Nat} {ae:Int} {af:Int} {bt:Sl} {cJ:Int} {cK:Int} {cn:Int} {H:Hp} {v:AV} {H':Hp} (h:bD.tw F aa ac ae af bt cJ cK cn H = some (v,H')):Go.AE.T Try.prog 161 [(.ptr aa ac),(.agg [(.int .i64 ae),(.int .i64 af),(.sl bt)]),(.int .i64 cJ),(.int .i64 cK),(.int .i64 cn)] H v H':=
 Go.AE.T.of (Y:=tabs) (C:=mkOrc (bD.cs F (aN.tw F) (dg.tw F) (dh.tw F))) (PN:=bD.pn) (LH:=bD.lh F (aN.tw F) (dg.tw F) (dh.tw F)) (F:=F) (TB:=bD.tb) (fn:=Try.f161) (code:=bD.code) mixed tabs_ok (mkOrc_ok (bD.cs_ok F)) Try.func161 (by kernel_rfl) (by kernel_rfl) bD.ok (Nat.le_of_ble_eq_true (by kernel_rfl)) (bD.loops F (aN.tw F) (dg.tw F) (dh.tw F)) (Eq.trans (bD.eqX F (aN.tw F) (dg.tw F) (dh.tw F) aa ac ae af bt cJ cK cn H) h)
theorem bD.mk_T {F:Nat} {args:List AV} {H:Hp} {v:AV} {H':Hp} (h:bD.mk (bD.tw F) args H = some (v,H')):Go.AE.T Try.prog 161 args H v H':=by
 unfold bD.mk at h
 split at h
 ·exact bD.T h
 ·cases h
noncomputable def dt.twX (F:Nat) (hQ:Nat→Nat→Int→Int→Sl→Int→Int→Int→Hp→OA) (hT:Nat→Nat→Int→Int→Sl→Int→Int→Int→Hp→OA) (aa:Nat) (ac:Nat) (ae:Int) (bB:Int) (co:Int) (H:Hp):OA:=(bif (co != 0) then ((Hp.ldI H .i64 aa ac).bind fun n6=>(Hp.ldI H .i64 aa (ac + 1)).bind fun n7=>(Hp.ldSl H aa (ac + 2)).bind fun s8=>(hQ aa ac n6 n7 s8 ae bB co H).bind fun r9=>(Hp.ldI r9.2 .i64 aa (ac + 3)).bind fun n10=>(Hp.ldI r9.2 .i64 aa ((ac + 3) + 1)).bind fun n11=>(Hp.ldSl r9.2 aa ((ac + 3) + 2)).bind fun s12=>(hQ aa ac n10 n11 s12 ae bB co r9.2).bind fun r13=>(Hp.ldI r13.2 .i64 aa (ac + 6)).bind fun n14=>(Hp.ldI r13.2 .i64 aa ((ac + 6) + 1)).bind fun n15=>(Hp.ldSl r13.2 aa ((ac + 6) + 2)).bind fun s16=>(hT aa ac n14 n15 s16 bB ae (IntKind.i64.wrap (0 - co)) r13.2).bind fun r17=>some ((.tup []),r17.2)) else (some ((.tup []),H)))
noncomputable def dt.tw (F:Nat) (aa:Nat) (ac:Nat) (ae:Int) (bB:Int) (co:Int) (H:Hp):OA:=dt.twX F (bC.tw F) (bD.tw F) aa ac ae bB co H
noncomputable def dt.code:Go.Code:=(Try.f140.body).getD .skip
noncomputable def dt.lh (F:Nat) (hQ:Nat→Nat→Int→Int→Sl→Int→Int→Int→Hp→OA) (hT:Nat→Nat→Int→Int→Sl→Int→Int→Int→Hp→OA) (p:Nat) (ks:List Nat) (n:Nat) (tm:Tm) (H:Hp):OA:=none
def dt.pn:Nat→List Nat:=fun i=>(([]:List (Nat×List Nat)).lookup i).getD []
def dt.tb:Nat→List (List Nat):=fun i=>(([]:List (Nat×List (List Nat))).lookup i).getD []
noncomputable def dt.mk (g:Nat→Nat→Int→Int→Int→Hp→OA) (args:List AV) (H:Hp):OA:=match args with
 | [(.ptr aa ac),(.int .i64 ae),(.int .i64 bB),(.int .i64 co)]=>g aa ac ae bB co H
 | _=>none
noncomputable def dt.cs (F:Nat) (hQ:Nat→Nat→Int→Int→Sl→Int→Int→Int→Hp→OA) (hT:Nat→Nat→Int→Int→Sl→Int→Int→Int→Hp→OA):List (FuncId×(List AV→Hp→OA)):=[(160,bC.mk hQ),(161,bD.mk hT)]
theorem dt.loops (F:Nat) (hQ:Nat→Nat→Int→Int→Sl→Int→Int→Int→Hp→OA) (hT:Nat→Nat→Int→Int→Sl→Int→Int→Int→Hp→OA):LoopsOk tabs (mkOrc (dt.cs F hQ hT)) dt.pn (dt.lh F hQ hT) F [] 1 dt.code (fun tm H=>aresults tabs.ty H tm Try.f140.results.toList fun v=>some (v,H)) (fun _ _ _=>none) (fun tm H=>aresults tabs.ty H tm Try.f140.results.toList fun v=>some (v,H)):=by
 exact loops_none (by kernel_rfl)
theorem dt.eqX (F:Nat) (hQ:Nat→Nat→Int→Int→Sl→Int→Int→Int→Hp→OA) (hT:Nat→Nat→Int→Int→Sl→Int→Int→Int→Hp→OA) (aa:Nat) (ac:Nat) (ae:Int) (bB:Int) (co:Int) (H:Hp):aCode tabs (mkOrc (dt.cs F hQ hT)) dt.pn (dt.lh F hQ hT) F [] 1 dt.code (argTm [(.ptr aa ac),(.int .i64 ae),(.int .i64 bB),(.int .i64 co)]) H (fun tm H=>aresults tabs.ty H tm Try.f140.results.toList fun v=>some (v,H)) (fun _ _ _=>none) (fun tm H=>aresults tabs.ty H tm Try.f140.results.toList fun v=>some (v,H)) = dt.twX F hQ hT aa ac ae bB co H:=by kernel_rfl
theorem dt.cs_ok (F:Nat):∀ p ∈ dt.cs F (bC.tw F) (bD.tw F),∀ args H v H',p.2 args H = some (v,H')→Go.AE.T Try.prog p.1 args H v H':=by
 intro p hp
 simp only [dt.cs,List.mem_cons,List.not_mem_nil,or_false] at hp
 rcases hp with rfl | rfl
 ·exact fun args H v H' h=>bC.mk_T h
 ·exact fun args H v H' h=>bD.mk_T h
theorem dt.ok:codeOk dt.pn Try.f140.ntmps dt.tb dt.code = true:=by kernel_rfl
theorem dt.T {F:Nat} {aa:Nat} {ac:Nat} {ae:Int} {bB:Int} {co:Int} {H:Hp} {v:AV} {H':Hp} (h:dt.tw F aa ac ae bB co H = some (v,H')):Go.AE.T Try.prog 140 [(.ptr aa ac),(.int .i64 ae),(.int .i64 bB),(.int .i64 co)] H v H':=
 Go.AE.T.of (Y:=tabs) (C:=mkOrc (dt.cs F (bC.tw F) (bD.tw F))) (PN:=dt.pn) (LH:=dt.lh F (bC.tw F) (bD.tw F)) (F:=F) (TB:=dt.tb) (fn:=Try.f140) (code:=dt.code) mixed tabs_ok (mkOrc_ok (dt.cs_ok F)) Try.func140 (by kernel_rfl) (by kernel_rfl) dt.ok (Nat.le_of_ble_eq_true (by kernel_rfl)) (dt.loops F (bC.tw F) (bD.tw F)) (Eq.trans (dt.eqX F (bC.tw F) (bD.tw F) aa ac ae bB co H) h)
theorem dt.mk_T {F:Nat} {args:List AV} {H:Hp} {v:AV} {H':Hp} (h:dt.mk (dt.tw F) args H = some (v,H')):Go.AE.T Try.prog 140 args H v H':=by
 unfold dt.mk at h
 split at h
 ·exact dt.T h
 ·cases h
noncomputable def dy.twX (F:Nat) (hT:Nat→Nat→Int→Int→Sl→Int→Int→Int→Hp→OA) (hQ:Nat→Nat→Int→Int→Sl→Int→Int→Int→Hp→OA) (aa:Nat) (ac:Nat) (ae:Int) (bB:Int) (co:Int) (H:Hp):OA:=(bif (co != 0) then ((Hp.ldI H .i64 aa ac).bind fun n6=>(Hp.ldI H .i64 aa (ac + 1)).bind fun n7=>(Hp.ldSl H aa (ac + 2)).bind fun s8=>(hT aa ac n6 n7 s8 ae bB co H).bind fun r9=>(Hp.ldI r9.2 .i64 aa (ac + 9)).bind fun n10=>(Hp.ldI r9.2 .i64 aa ((ac + 9) + 1)).bind fun n11=>(Hp.ldSl r9.2 aa ((ac + 9) + 2)).bind fun s12=>(hT aa ac n10 n11 s12 ae bB co r9.2).bind fun r13=>(Hp.ldI r13.2 .i64 aa (ac + 12)).bind fun n14=>(Hp.ldI r13.2 .i64 aa ((ac + 12) + 1)).bind fun n15=>(Hp.ldSl r13.2 aa ((ac + 12) + 2)).bind fun s16=>(hQ aa ac n14 n15 s16 bB ae (IntKind.i64.wrap (0 - co)) r13.2).bind fun r17=>some ((.tup []),r17.2)) else (some ((.tup []),H)))
noncomputable def dy.tw (F:Nat) (aa:Nat) (ac:Nat) (ae:Int) (bB:Int) (co:Int) (H:Hp):OA:=dy.twX F (bD.tw F) (bC.tw F) aa ac ae bB co H
noncomputable def dy.code:Go.Code:=(Try.f142.body).getD .skip
noncomputable def dy.lh (F:Nat) (hT:Nat→Nat→Int→Int→Sl→Int→Int→Int→Hp→OA) (hQ:Nat→Nat→Int→Int→Sl→Int→Int→Int→Hp→OA) (p:Nat) (ks:List Nat) (n:Nat) (tm:Tm) (H:Hp):OA:=none
def dy.pn:Nat→List Nat:=fun i=>(([]:List (Nat×List Nat)).lookup i).getD []
def dy.tb:Nat→List (List Nat):=fun i=>(([]:List (Nat×List (List Nat))).lookup i).getD []
noncomputable def dy.mk (g:Nat→Nat→Int→Int→Int→Hp→OA) (args:List AV) (H:Hp):OA:=match args with
 | [(.ptr aa ac),(.int .i64 ae),(.int .i64 bB),(.int .i64 co)]=>g aa ac ae bB co H
 | _=>none
noncomputable def dy.cs (F:Nat) (hT:Nat→Nat→Int→Int→Sl→Int→Int→Int→Hp→OA) (hQ:Nat→Nat→Int→Int→Sl→Int→Int→Int→Hp→OA):List (FuncId×(List AV→Hp→OA)):=[(161,bD.mk hT),(160,bC.mk hQ)]
theorem dy.loops (F:Nat) (hT:Nat→Nat→Int→Int→Sl→Int→Int→Int→Hp→OA) (hQ:Nat→Nat→Int→Int→Sl→Int→Int→Int→Hp→OA):LoopsOk tabs (mkOrc (dy.cs F hT hQ)) dy.pn (dy.lh F hT hQ) F [] 1 dy.code (fun tm H=>aresults tabs.ty H tm Try.f142.results.toList fun v=>some (v,H)) (fun _ _ _=>none) (fun tm H=>aresults tabs.ty H tm Try.f142.results.toList fun v=>some (v,H)):=by
 exact loops_none (by kernel_rfl)
theorem dy.eqX (F:Nat) (hT:Nat→Nat→Int→Int→Sl→Int→Int→Int→Hp→OA) (hQ:Nat→Nat→Int→Int→Sl→Int→Int→Int→Hp→OA) (aa:Nat) (ac:Nat) (ae:Int) (bB:Int) (co:Int) (H:Hp):aCode tabs (mkOrc (dy.cs F hT hQ)) dy.pn (dy.lh F hT hQ) F [] 1 dy.code (argTm [(.ptr aa ac),(.int .i64 ae),(.int .i64 bB),(.int .i64 co)]) H (fun tm H=>aresults tabs.ty H tm Try.f142.results.toList fun v=>some (v,H)) (fun _ _ _=>none) (fun tm H=>aresults tabs.ty H tm Try.f142.results.toList fun v=>some (v,H)) = dy.twX F hT hQ aa ac ae bB co H:=by kernel_rfl
theorem dy.cs_ok (F:Nat):∀ p ∈ dy.cs F (bD.tw F) (bC.tw F),∀ args H v H',p.2 args H = some (v,H')→Go.AE.T Try.prog p.1 args H v H':=by
 intro p hp
 simp only [dy.cs,List.mem_cons,List.not_mem_nil,or_false] at hp
 rcases hp with rfl | rfl
 ·exact fun args H v H' h=>bD.mk_T h
 ·exact fun args H v H' h=>bC.mk_T h
theorem dy.ok:codeOk dy.pn Try.f142.ntmps dy.tb dy.code = true:=by kernel_rfl
theorem dy.T {F:Nat} {aa:Nat} {ac:Nat} {ae:Int} {bB:Int} {co:Int} {H:Hp} {v:AV} {H':Hp} (h:dy.tw F aa ac ae bB co H = some (v,H')):Go.AE.T Try.prog 142 [(.ptr aa ac),(.int .i64 ae),(.int .i64 bB),(.int .i64 co)] H v H':=
 Go.AE.T.of (Y:=tabs) (C:=mkOrc (dy.cs F (bD.tw F) (bC.tw F))) (PN:=dy.pn) (LH:=dy.lh F (bD.tw F) (bC.tw F)) (F:=F) (TB:=dy.tb) (fn:=Try.f142) (code:=dy.code) mixed tabs_ok (mkOrc_ok (dy.cs_ok F)) Try.func142 (by kernel_rfl) (by kernel_rfl) dy.ok (Nat.le_of_ble_eq_true (by kernel_rfl)) (dy.loops F (bD.tw F) (bC.tw F)) (Eq.trans (dy.eqX F (bD.tw F) (bC.tw F) aa ac ae bB co H) h)
theorem dy.mk_T {F:Nat} {args:List AV} {H:Hp} {v:AV} {H':Hp} (h:dy.mk (dy.tw F) args H = some (v,H')):Go.AE.T Try.prog 142 args H v H':=by
 unfold dy.mk at h
 split at h
 ·exact dy.T h
 ·cases h
noncomputable def bj.l29 (F:Nat) (ak:Int→Int→Sl→Int→Int→Hp→OA) :Nat→Nat→Nat→Int→Int→Hp→OA
 | 0,_,_,_,_,_=>none
 | eP + 1,kL,kM,jC,jl,H30=>(Hp.ldI H30 .i64 kL (kM + 1)).bind fun n37=>(bif (decide (jl < n37)) then ((Hp.ldI H30 .i64 kL kM).bind fun n38=>(Hp.ldI H30 .i64 kL (kM + 1)).bind fun n39=>(Hp.ldSl H30 kL (kM + 2)).bind fun s40=>(ak n38 n39 s40 jC jl H30).bind fun r41=>((r41.1).asI .i64).bind fun n42=>(bif (n42 != 0) then (some ((.bool false),r41.2)) else (bj.l29 F ak eP kL kM jC (IntKind.i64.wrap (jl + 1)) r41.2))) else (some ((.bool true),H30)))
termination_by structural n=>n
noncomputable def bj.j1 (F:Nat) (ak:Int→Int→Sl→Int→Int→Hp→OA) (vZ:Nat) (v_:Nat) (np:Int) (H22:Hp):OA:=bj.l29 F ak F vZ v_ np (IntKind.i64.wrap (np + 1)) H22
noncomputable def bj.l13 (F:Nat) (ak:Int→Int→Sl→Int→Int→Hp→OA) :Nat→Nat→Nat→Int→Int→Hp→OA
 | 0,_,_,_,_,_=>none
 | hU + 1,dw,fg,dE,eg,H9=>(Hp.ldI H9 .i64 dw fg).bind fun n43=>(bif (decide (eg < n43)) then ((Hp.ldI H9 .i64 dw fg).bind fun n44=>(Hp.ldI H9 .i64 dw (fg + 1)).bind fun n45=>(Hp.ldSl H9 dw (fg + 2)).bind fun s46=>(ak n44 n45 s46 eg dE H9).bind fun r47=>((r47.1).asI .i64).bind fun n48=>(bif (n48 != 0) then (some ((.bool false),r47.2)) else (bj.l13 F ak hU dw fg dE (IntKind.i64.wrap (eg + 1)) r47.2))) else (bj.j1 F ak dw fg dE H9))
termination_by structural n=>n
noncomputable def bj.twX (F:Nat) (ak:Int→Int→Sl→Int→Int→Hp→OA) (aa:Nat) (ac:Nat) (ae:Int) (H:Hp):OA:=bj.l13 F ak F aa ac ae (IntKind.i64.wrap (ae + 1)) H
noncomputable def bj.tw (F:Nat) (aa:Nat) (ac:Nat) (ae:Int) (H:Hp):OA:=bj.twX F (aN.tw F) aa ac ae H
noncomputable def bj.code:Go.Code:=(Try.f143.body).getD .skip
noncomputable def bj.lh13 (F:Nat) (ak:Int→Int→Sl→Int→Int→Hp→OA) (ks:List Nat) (n:Nat) (tm:Tm) (H:Hp):OA:=match ks,tm 0,tm 1,tm 5 with
 | [],(.ptr dw fg),(.int .i64 dE),(.int .i64 eg)=>bj.l13 F ak n dw fg dE eg H
 | _,_,_,_=>none
theorem bj.lh13_inv {F:Nat} {ak:Int→Int→Sl→Int→Int→Hp→OA} {ks:List Nat} {n:Nat} {tm:Tm} {H:Hp} {r:AV×Hp} (h:bj.lh13 F ak ks n tm H = some r):∃ dw:Nat,∃ fg:Nat,∃ dE:Int,∃ eg:Int,ks = []∧tm 0 = (.ptr dw fg)∧tm 1 = (.int .i64 dE)∧tm 5 = (.int .i64 eg)∧bj.l13 F ak n dw fg dE eg H = some r:=by
 unfold bj.lh13 at h
 split at h
 ·exact ⟨_,_,_,_,rfl,by assumption,by assumption,by assumption,h⟩
 ·cases h
noncomputable def bj.lh29 (F:Nat) (ak:Int→Int→Sl→Int→Int→Hp→OA) (ks:List Nat) (n:Nat) (tm:Tm) (H:Hp):OA:=match ks,tm 0,tm 1,tm 6 with
 | [],(.ptr kL kM),(.int .i64 jC),(.int .i64 jl)=>bj.l29 F ak n kL kM jC jl H
 | _,_,_,_=>none
theorem bj.lh29_inv {F:Nat} {ak:Int→Int→Sl→Int→Int→Hp→OA} {ks:List Nat} {n:Nat} {tm:Tm} {H:Hp} {r:AV×Hp} (h:bj.lh29 F ak ks n tm H = some r):∃ kL:Nat,∃ kM:Nat,∃ jC:Int,∃ jl:Int,ks = []∧tm 0 = (.ptr kL kM)∧tm 1 = (.int .i64 jC)∧tm 6 = (.int .i64 jl)∧bj.l29 F ak n kL kM jC jl H = some r:=by
 unfold bj.lh29 at h
 split at h
 ·exact ⟨_,_,_,_,rfl,by assumption,by assumption,by assumption,h⟩
 ·cases h
noncomputable def bj.lh (F:Nat) (ak:Int→Int→Sl→Int→Int→Hp→OA) (p:Nat) (ks:List Nat) (n:Nat) (tm:Tm) (H:Hp):OA:=bif p.beq 29 then bj.lh29 F ak ks n tm H else (bif p.beq 13 then bj.lh13 F ak ks n tm H else (none))
def bj.pn:Nat→List Nat:=fun i=>(([]:List (Nat×List Nat)).lookup i).getD []
def bj.tb:Nat→List (List Nat):=fun i=>(([]:List (Nat×List (List Nat))).lookup i).getD []
noncomputable def bj.mk (g:Nat→Nat→Int→Hp→OA) (args:List AV) (H:Hp):OA:=match args with
 | [(.ptr aa ac),(.int .i64 ae)]=>g aa ac ae H
 | _=>none
noncomputable def bj.cs (F:Nat) (ak:Int→Int→Sl→Int→Int→Hp→OA):List (FuncId×(List AV→Hp→OA)):=[(79,aN.mk ak)]
theorem bj.loops (F:Nat) (ak:Int→Int→Sl→Int→Int→Hp→OA):LoopsOk tabs (mkOrc (bj.cs F ak)) bj.pn (bj.lh F ak) F [] 1 bj.code (fun tm H=>aresults tabs.ty H tm Try.f143.results.toList fun v=>some (v,H)) (fun _ _ _=>none) (fun tm H=>aresults tabs.ty H tm Try.f143.results.toList fun v=>some (v,H)):=by
 refine LoopsOk.seq ?_ ?_
 ·exact loops_none (by kernel_rfl)
 ·refine LoopsOk.seq ?_ ?_
  ·refine LoopsOk.seq ?_ ?_
   ·exact loops_none (by kernel_rfl)
   ·refine LoopsOk.block ?_
    refine LoopsOk.loop (fun tm H=>?_) (fun k13 tm H r h0=>?_) (fun k13=>?_)
    ·refine none_of fun r h0=>?_
     obtain ⟨dw,fg,dE,eg,hks,e0,e1,e5,h⟩:=bj.lh13_inv (show bj.lh13 F ak [] 0 tm H = some r from h0)
     cases h
    ·obtain ⟨dw,fg,dE,eg,hks,e0,e1,e5,h⟩:=bj.lh13_inv (show bj.lh13 F ak [] (k13 + 1) tm H = some r from h0)
     have q0:(Tm.put tm 0 (.ptr dw fg)) = tm:=by exact Tm.put_same e0
     have q1:(Tm.put (Tm.put tm 0 (.ptr dw fg)) 1 (.int .i64 dE)) = tm:=by rw [q0]; exact Tm.put_same e1
     have q2:(Tm.put (Tm.put (Tm.put tm 0 (.ptr dw fg)) 1 (.int .i64 dE)) 5 (.int .i64 eg)) = tm:=by rw [q1]; exact Tm.put_same e5
     rw [← q2]
     exact Eq.trans (by kernel_rfl) h
    ·exact loops_none (by kernel_rfl)
  ·refine LoopsOk.seq ?_ ?_
   ·refine LoopsOk.seq ?_ ?_
    ·exact loops_none (by kernel_rfl)
    ·refine LoopsOk.block ?_
     refine LoopsOk.loop (fun tm H=>?_) (fun k29 tm H r h0=>?_) (fun k29=>?_)
     ·refine none_of fun r h0=>?_
      obtain ⟨kL,kM,jC,jl,hks,e0,e1,e6,h⟩:=bj.lh29_inv (show bj.lh29 F ak [] 0 tm H = some r from h0)
      cases h
     ·obtain ⟨kL,kM,jC,jl,hks,e0,e1,e6,h⟩:=bj.lh29_inv (show bj.lh29 F ak [] (k29 + 1) tm H = some r from h0)
      have q0:(Tm.put tm 0 (.ptr kL kM)) = tm:=by exact Tm.put_same e0
      have q1:(Tm.put (Tm.put tm 0 (.ptr kL kM)) 1 (.int .i64 jC)) = tm:=by rw [q0]; exact Tm.put_same e1
      have q2:(Tm.put (Tm.put (Tm.put tm 0 (.ptr kL kM)) 1 (.int .i64 jC)) 6 (.int .i64 jl)) = tm:=by rw [q1]; exact Tm.put_same e6
      rw [← q2]
      exact Eq.trans (by kernel_rfl) h
     ·exact loops_none (by kernel_rfl)
   ·exact loops_none (by kernel_rfl)
theorem bj.eqX (F:Nat) (ak:Int→Int→Sl→Int→Int→Hp→OA) (aa:Nat) (ac:Nat) (ae:Int) (H:Hp):aCode tabs (mkOrc (bj.cs F ak)) bj.pn (bj.lh F ak) F [] 1 bj.code (argTm [(.ptr aa ac),(.int .i64 ae)]) H (fun tm H=>aresults tabs.ty H tm Try.f143.results.toList fun v=>some (v,H)) (fun _ _ _=>none) (fun tm H=>aresults tabs.ty H tm Try.f143.results.toList fun v=>some (v,H)) = bj.twX F ak aa ac ae H:=by kernel_rfl
theorem bj.cs_ok (F:Nat):∀ p ∈ bj.cs F (aN.tw F),∀ args H v H',p.2 args H = some (v,H')→Go.AE.T Try.prog p.1 args H v H':=by
 intro p hp
 simp only [bj.cs,List.mem_cons,List.not_mem_nil,or_false] at hp
 subst hp
 exact fun args H v H' h=>aN.mk_T h
theorem bj.ok:codeOk bj.pn Try.f143.ntmps bj.tb bj.code = true:=by kernel_rfl
theorem bj.T {F:Nat} {aa:Nat} {ac:Nat} {ae:Int} {H:Hp} {v:AV} {H':Hp} (h:bj.tw F aa ac ae H = some (v,H')):Go.AE.T Try.prog 143 [(.ptr aa ac),(.int .i64 ae)] H v H':=
 Go.AE.T.of (Y:=tabs) (C:=mkOrc (bj.cs F (aN.tw F))) (PN:=bj.pn) (LH:=bj.lh F (aN.tw F)) (F:=F) (TB:=bj.tb) (fn:=Try.f143) (code:=bj.code) mixed tabs_ok (mkOrc_ok (bj.cs_ok F)) Try.func143 (by kernel_rfl) (by kernel_rfl) bj.ok (Nat.le_of_ble_eq_true (by kernel_rfl)) (bj.loops F (aN.tw F)) (Eq.trans (bj.eqX F (aN.tw F) aa ac ae H) h)
theorem bj.mk_T {F:Nat} {args:List AV} {H:Hp} {v:AV} {H':Hp} (h:bj.mk (bj.tw F) args H = some (v,H')):Go.AE.T Try.prog 143 args H v H':=by
 unfold bj.mk at h
 split at h
 ·exact bj.T h
 ·cases h
noncomputable def aU.j3 (F:Nat) (ak:Int→Int→Sl→Int→Int→Hp→OA) (C13_:Nat→Nat→Int→Int→Hp→OA) (wa:Nat) (wb:Nat) (oF:Int) (oG:Int) (H96:Hp):OA:=C13_ wa wb oF (IntKind.i64.wrap (oG + 1)) H96
noncomputable def aU.j4 (F:Nat) (ak:Int→Int→Sl→Int→Int→Hp→OA) (C13_:Nat→Nat→Int→Int→Hp→OA) (wc:Nat) (wd:Nat) (oH:Int) (oI:Int) (H87:Hp):OA:=aU.j3 F ak C13_ wc wd oH oI H87
noncomputable def aU.l213 (F:Nat) (ak:Int→Int→Sl→Int→Int→Hp→OA) (C13_:Nat→Nat→Int→Int→Hp→OA):Nat→Nat→Nat→Int→Int→Int→Hp→OA
 | 0,_,_,_,_,_,_=>none
 | wg + 1,jm,jn,hX,ij,jo,H67=>(Hp.ldI H67 .i64 jm (jn + 1)).bind fun n97=>(bif (decide (jo < n97)) then ((Hp.ldI H67 .i64 jm jn).bind fun n98=>(Hp.ldI H67 .i64 jm (jn + 1)).bind fun n99=>(Hp.ldSl H67 jm (jn + 2)).bind fun s100=>(ak n98 n99 s100 ij jo H67).bind fun r101=>((r101.1).asI .i64).bind fun n102=>(if Cons H67 r101.2 then ((Hp.ldI r101.2 .i64 jm jn).bind fun n103=>(Hp.ldI r101.2 .i64 jm (jn + 1)).bind fun n104=>(Hp.ldSl r101.2 jm (jn + 2)).bind fun s105=>(ak n103 n104 s105 hX hX r101.2).bind fun r106=>((r106.1).asI .i64).bind fun n107=>(if n107 = 0 then none else ((bif ((Int.tmod n102 n107) != 0) then (some ((.int .i64 ij),r106.2)) else (aU.l213 F ak C13_ wg jm jn hX ij (IntKind.i64.wrap (jo + 1)) r106.2))))) else none)) else (aU.j4 F ak C13_ jm jn hX ij H67))
termination_by structural n=>n
noncomputable def aU.l13 (F:Nat) (ak:Int→Int→Sl→Int→Int→Hp→OA) :Nat→Nat→Nat→Int→Int→Hp→OA
 | 0,_,_,_,_,_=>none
 | hU + 1,dw,fg,dE,eg,H9=>(Hp.ldI H9 .i64 dw fg).bind fun n59=>(bif (decide (eg < n59)) then (aU.l213 F ak (aU.l13 F ak hU) F dw fg dE eg (IntKind.i64.wrap (dE + 1)) H9) else (some ((.int .i64 (-1)),H9)))
termination_by structural n=>n
noncomputable def aU.twX (F:Nat) (ak:Int→Int→Sl→Int→Int→Hp→OA) (aa:Nat) (ac:Nat) (ae:Int) (H:Hp):OA:=aU.l13 F ak F aa ac ae (IntKind.i64.wrap (ae + 1)) H
noncomputable def aU.tw (F:Nat) (aa:Nat) (ac:Nat) (ae:Int) (H:Hp):OA:=aU.twX F (aN.tw F) aa ac ae H
noncomputable def aU.code:Go.Code:=(Try.f144.body).getD .skip
noncomputable def aU.lh13 (F:Nat) (ak:Int→Int→Sl→Int→Int→Hp→OA) (ks:List Nat) (n:Nat) (tm:Tm) (H:Hp):OA:=match ks,tm 0,tm 1,tm 5 with
 | [],(.ptr dw fg),(.int .i64 dE),(.int .i64 eg)=>aU.l13 F ak n dw fg dE eg H
 | _,_,_,_=>none
theorem aU.lh13_inv {F:Nat} {ak:Int→Int→Sl→Int→Int→Hp→OA} {ks:List Nat} {n:Nat} {tm:Tm} {H:Hp} {r:AV×Hp} (h:aU.lh13 F ak ks n tm H = some r):∃ dw:Nat,∃ fg:Nat,∃ dE:Int,∃ eg:Int,ks = []∧tm 0 = (.ptr dw fg)∧tm 1 = (.int .i64 dE)∧tm 5 = (.int .i64 eg)∧aU.l13 F ak n dw fg dE eg H = some r:=by
 unfold aU.lh13 at h
 split at h
 ·exact ⟨_,_,_,_,rfl,by assumption,by assumption,by assumption,h⟩
 ·cases h
noncomputable def aU.lh213 (F:Nat) (ak:Int→Int→Sl→Int→Int→Hp→OA) (ks:List Nat) (n:Nat) (tm:Tm) (H:Hp):OA:=match ks,tm 0,tm 1,tm 5,tm 6 with
 | [hU],(.ptr jm jn),(.int .i64 hX),(.int .i64 ij),(.int .i64 jo)=>aU.l213 F ak (aU.l13 F ak hU) n jm jn hX ij jo H
 | _,_,_,_,_=>none
theorem aU.lh213_inv {F:Nat} {ak:Int→Int→Sl→Int→Int→Hp→OA} {ks:List Nat} {n:Nat} {tm:Tm} {H:Hp} {r:AV×Hp} (h:aU.lh213 F ak ks n tm H = some r):∃ hU:Nat,∃ jm:Nat,∃ jn:Nat,∃ hX:Int,∃ ij:Int,∃ jo:Int,ks = [hU]∧tm 0 = (.ptr jm jn)∧tm 1 = (.int .i64 hX)∧tm 5 = (.int .i64 ij)∧tm 6 = (.int .i64 jo)∧aU.l213 F ak (aU.l13 F ak hU) n jm jn hX ij jo H = some r:=by
 unfold aU.lh213 at h
 split at h
 ·exact ⟨_,_,_,_,_,_,rfl,by assumption,by assumption,by assumption,by assumption,h⟩
 ·cases h
noncomputable def aU.lh (F:Nat) (ak:Int→Int→Sl→Int→Int→Hp→OA) (p:Nat) (ks:List Nat) (n:Nat) (tm:Tm) (H:Hp):OA:=bif p.beq 213 then aU.lh213 F ak ks n tm H else (bif p.beq 13 then aU.lh13 F ak ks n tm H else (none))
def aU.pn:Nat→List Nat:=fun i=>(([(7,[13])]:List (Nat×List Nat)).lookup i).getD []
def aU.tb:Nat→List (List Nat):=fun i=>(([(7,[[],[0],[0,1],[0,1,2],[],[],[0,1,2,3,4,5],[],[7],[7,8],[7,8,9],[],[],[0,1,2,3,4,5,6,7,8,9,10,11,12],[0,1,2,3,4,5,6,7,8,9,10,11,12,13],[0,1,2,3,4,5,6,7,8,9,10,11,12,13,14]])]:List (Nat×List (List Nat))).lookup i).getD []
noncomputable def aU.mk (g:Nat→Nat→Int→Hp→OA) (args:List AV) (H:Hp):OA:=match args with
 | [(.ptr aa ac),(.int .i64 ae)]=>g aa ac ae H
 | _=>none
noncomputable def aU.cs (F:Nat) (ak:Int→Int→Sl→Int→Int→Hp→OA):List (FuncId×(List AV→Hp→OA)):=[(79,aN.mk ak)]
theorem aU.loops (F:Nat) (ak:Int→Int→Sl→Int→Int→Hp→OA):LoopsOk tabs (mkOrc (aU.cs F ak)) aU.pn (aU.lh F ak) F [] 1 aU.code (fun tm H=>aresults tabs.ty H tm Try.f144.results.toList fun v=>some (v,H)) (fun _ _ _=>none) (fun tm H=>aresults tabs.ty H tm Try.f144.results.toList fun v=>some (v,H)):=by
 refine LoopsOk.seq ?_ ?_
 ·exact loops_none (by kernel_rfl)
 ·refine LoopsOk.seq ?_ ?_
  ·refine LoopsOk.seq ?_ ?_
   ·exact loops_none (by kernel_rfl)
   ·refine LoopsOk.block ?_
    refine LoopsOk.loop (fun tm H=>?_) (fun k13 tm H r h0=>?_) (fun k13=>?_)
    ·refine none_of fun r h0=>?_
     obtain ⟨dw,fg,dE,eg,hks,e0,e1,e5,h⟩:=aU.lh13_inv (show aU.lh13 F ak [] 0 tm H = some r from h0)
     cases h
    ·obtain ⟨dw,fg,dE,eg,hks,e0,e1,e5,h⟩:=aU.lh13_inv (show aU.lh13 F ak [] (k13 + 1) tm H = some r from h0)
     have q0:(Tm.put tm 0 (.ptr dw fg)) = tm:=by exact Tm.put_same e0
     have q1:(Tm.put (Tm.put tm 0 (.ptr dw fg)) 1 (.int .i64 dE)) = tm:=by rw [q0]; exact Tm.put_same e1
     have q2:(Tm.put (Tm.put (Tm.put tm 0 (.ptr dw fg)) 1 (.int .i64 dE)) 5 (.int .i64 eg)) = tm:=by rw [q1]; exact Tm.put_same e5
     rw [← q2]
     exact Eq.trans (by kernel_rfl) h
    ·refine LoopsOk.seq ?_ ?_
     ·exact loops_none (by kernel_rfl)
     ·refine LoopsOk.seq ?_ ?_
      ·refine LoopsOk.block ?_
       refine LoopsOk.seq ?_ ?_
       ·exact loops_none (by kernel_rfl)
       ·refine LoopsOk.block ?_
        refine LoopsOk.loop (fun tm H=>?_) (fun k213 tm H r h0=>?_) (fun k213=>?_)
        ·refine none_of fun r h0=>?_
         obtain ⟨hU,jm,jn,hX,ij,jo,hks,e0,e1,e5,e6,h⟩:=aU.lh213_inv (show aU.lh213 F ak [k13] 0 tm H = some r from h0)
         cases h
        ·obtain ⟨hU,jm,jn,hX,ij,jo,hks,e0,e1,e5,e6,h⟩:=aU.lh213_inv (show aU.lh213 F ak [k13] (k213 + 1) tm H = some r from h0)
         obtain rfl:hU = k13:=by simpa [eq_comm] using hks
         have q0:(Tm.put tm 0 (.ptr jm jn)) = tm:=by exact Tm.put_same e0
         have q1:(Tm.put (Tm.put tm 0 (.ptr jm jn)) 1 (.int .i64 hX)) = tm:=by rw [q0]; exact Tm.put_same e1
         have q2:(Tm.put (Tm.put (Tm.put tm 0 (.ptr jm jn)) 1 (.int .i64 hX)) 5 (.int .i64 ij)) = tm:=by rw [q1]; exact Tm.put_same e5
         have q3:(Tm.put (Tm.put (Tm.put (Tm.put tm 0 (.ptr jm jn)) 1 (.int .i64 hX)) 5 (.int .i64 ij)) 6 (.int .i64 jo)) = tm:=by rw [q2]; exact Tm.put_same e6
         rw [← q3]
         exact Eq.trans (by kernel_rfl) h
        ·exact loops_none (by kernel_rfl)
      ·exact loops_none (by kernel_rfl)
  ·exact loops_none (by kernel_rfl)
theorem aU.eqX (F:Nat) (ak:Int→Int→Sl→Int→Int→Hp→OA) (aa:Nat) (ac:Nat) (ae:Int) (H:Hp):aCode tabs (mkOrc (aU.cs F ak)) aU.pn (aU.lh F ak) F [] 1 aU.code (argTm [(.ptr aa ac),(.int .i64 ae)]) H (fun tm H=>aresults tabs.ty H tm Try.f144.results.toList fun v=>some (v,H)) (fun _ _ _=>none) (fun tm H=>aresults tabs.ty H tm Try.f144.results.toList fun v=>some (v,H)) = aU.twX F ak aa ac ae H:=by kernel_rfl
theorem aU.cs_ok (F:Nat):∀ p ∈ aU.cs F (aN.tw F),∀ args H v H',p.2 args H = some (v,H')→Go.AE.T Try.prog p.1 args H v H':=by
 intro p hp
 simp only [aU.cs,List.mem_cons,List.not_mem_nil,or_false] at hp
 subst hp
 exact fun args H v H' h=>aN.mk_T h
theorem aU.ok:codeOk aU.pn Try.f144.ntmps aU.tb aU.code = true:=by kernel_rfl
theorem aU.T {F:Nat} {aa:Nat} {ac:Nat} {ae:Int} {H:Hp} {v:AV} {H':Hp} (h:aU.tw F aa ac ae H = some (v,H')):Go.AE.T Try.prog 144 [(.ptr aa ac),(.int .i64 ae)] H v H':=
 Go.AE.T.of (Y:=tabs) (C:=mkOrc (aU.cs F (aN.tw F))) (PN:=aU.pn) (LH:=aU.lh F (aN.tw F)) (F:=F) (TB:=aU.tb) (fn:=Try.f144) (code:=aU.code) mixed tabs_ok (mkOrc_ok (aU.cs_ok F)) Try.func144 (by kernel_rfl) (by kernel_rfl) aU.ok (Nat.le_of_ble_eq_true (by kernel_rfl)) (aU.loops F (aN.tw F)) (Eq.trans (aU.eqX F (aN.tw F) aa ac ae H) h)
theorem aU.mk_T {F:Nat} {args:List AV} {H:Hp} {v:AV} {H':Hp} (h:aU.mk (aU.tw F) args H = some (v,H')):Go.AE.T Try.prog 144 args H v H':=by
 unfold aU.mk at h
 split at h
 ·exact aU.T h
 ·cases h
noncomputable def aO.j1 (F:Nat) (fU:Nat→Nat→Int→Hp→OA) (ak:Int→Int→Sl→Int→Int→Hp→OA) (fQ:Int→Int→Hp→OA) (fR:Nat→Nat→Int→Int→Int→Hp→OA) (fV:Nat→Nat→Int→Int→Int→Hp→OA) (fW:Nat→Nat→Int→Hp→OA) (fX:Nat→Nat→Int→Hp→OA) (oJ:Nat) (oK:Nat) (mA:Int) (H73:Hp):OA:=(Hp.ldB H73 oJ (oK + 15)).bind fun b74=>(bif b74 then (some ((.tup [(.bool false),(.bool false)]),H73)) else ((fW oJ oK mA H73).bind fun r75=>((r75.1).asB).bind fun b76=>(bif (!b76) then (some ((.tup [(.bool false),(.bool false)]),r75.2)) else ((fX oJ oK mA r75.2).bind fun r77=>((r77.1).asI .i64).bind fun n78=>(bif (decide (n78 < 0)) then (some ((.tup [(.bool true),(.bool false)]),r77.2)) else ((fR oJ oK mA n78 (-1) r77.2).bind fun r79=>some ((.tup [(.bool false),(.bool false)]),r79.2)))))))
noncomputable def aO.l61 (F:Nat) (fU:Nat→Nat→Int→Hp→OA) (ak:Int→Int→Sl→Int→Int→Hp→OA) (fQ:Int→Int→Hp→OA) (fR:Nat→Nat→Int→Int→Int→Hp→OA) (fV:Nat→Nat→Int→Int→Int→Hp→OA) (fW:Nat→Nat→Int→Hp→OA) (fX:Nat→Nat→Int→Hp→OA) :Nat→Nat→Nat→Int→Int→Hp→OA
 | 0,_,_,_,_,_=>none
 | wh + 1,iJ,iK,gH,iL,H47=>(Hp.ldI H47 .i64 iJ (iK + 1)).bind fun n80=>(bif (decide (iL < n80)) then ((Hp.ldB H47 iJ (iK + 15)).bind fun b81=>(bif (!b81) then ((Hp.ldI H47 .i64 iJ iK).bind fun n82=>(Hp.ldI H47 .i64 iJ (iK + 1)).bind fun n83=>(Hp.ldSl H47 iJ (iK + 2)).bind fun s84=>(ak n82 n83 s84 gH iL H47).bind fun r85=>((r85.1).asI .i64).bind fun n86=>(if Cons H47 r85.2 then ((Hp.ldI r85.2 .i64 iJ iK).bind fun n87=>(Hp.ldI r85.2 .i64 iJ (iK + 1)).bind fun n88=>(Hp.ldSl r85.2 iJ (iK + 2)).bind fun s89=>(ak n87 n88 s89 gH gH r85.2).bind fun r90=>((r90.1).asI .i64).bind fun n91=>(fQ n86 n91 r90.2).bind fun r92=>((r92.1).asI .i64).bind fun n93=>(fV iJ iK iL gH n93 r92.2).bind fun r94=>aO.l61 F fU ak fQ fR fV fW fX wh iJ iK gH (IntKind.i64.wrap (iL + 1)) r94.2) else none)) else (aO.j1 F fU ak fQ fR fV fW fX iJ iK gH H47))) else (aO.j1 F fU ak fQ fR fV fW fX iJ iK gH H47))
termination_by structural n=>n
noncomputable def aO.j2 (F:Nat) (fU:Nat→Nat→Int→Hp→OA) (ak:Int→Int→Sl→Int→Int→Hp→OA) (fQ:Int→Int→Hp→OA) (fR:Nat→Nat→Int→Int→Int→Hp→OA) (fV:Nat→Nat→Int→Int→Int→Hp→OA) (fW:Nat→Nat→Int→Hp→OA) (fX:Nat→Nat→Int→Hp→OA) (wi:Nat) (wj:Nat) (nq:Int) (H37:Hp):OA:=aO.l61 F fU ak fQ fR fV fW fX F wi wj nq (IntKind.i64.wrap (nq + 1)) H37
noncomputable def aO.l29 (F:Nat) (fU:Nat→Nat→Int→Hp→OA) (ak:Int→Int→Sl→Int→Int→Hp→OA) (fQ:Int→Int→Hp→OA) (fR:Nat→Nat→Int→Int→Int→Hp→OA) (fV:Nat→Nat→Int→Int→Int→Hp→OA) (fW:Nat→Nat→Int→Hp→OA) (fX:Nat→Nat→Int→Hp→OA) :Nat→Nat→Nat→Int→Int→Hp→OA
 | 0,_,_,_,_,_=>none
 | eP + 1,gf,iM,gI,iN,H13=>(Hp.ldI H13 .i64 gf iM).bind fun n95=>(bif (decide (iN < n95)) then ((Hp.ldB H13 gf (iM + 15)).bind fun b96=>(bif (!b96) then ((Hp.ldI H13 .i64 gf iM).bind fun n97=>(Hp.ldI H13 .i64 gf (iM + 1)).bind fun n98=>(Hp.ldSl H13 gf (iM + 2)).bind fun s99=>(ak n97 n98 s99 iN gI H13).bind fun r100=>((r100.1).asI .i64).bind fun n101=>(if Cons H13 r100.2 then ((Hp.ldI r100.2 .i64 gf iM).bind fun n102=>(Hp.ldI r100.2 .i64 gf (iM + 1)).bind fun n103=>(Hp.ldSl r100.2 gf (iM + 2)).bind fun s104=>(ak n102 n103 s104 gI gI r100.2).bind fun r105=>((r105.1).asI .i64).bind fun n106=>(fQ n101 n106 r105.2).bind fun r107=>((r107.1).asI .i64).bind fun n108=>(fR gf iM iN gI n108 r107.2).bind fun r109=>aO.l29 F fU ak fQ fR fV fW fX eP gf iM gI (IntKind.i64.wrap (iN + 1)) r109.2) else none)) else (aO.j2 F fU ak fQ fR fV fW fX gf iM gI H13))) else (aO.j2 F fU ak fQ fR fV fW fX gf iM gI H13))
termination_by structural n=>n
noncomputable def aO.twX (F:Nat) (fU:Nat→Nat→Int→Hp→OA) (ak:Int→Int→Sl→Int→Int→Hp→OA) (fQ:Int→Int→Hp→OA) (fR:Nat→Nat→Int→Int→Int→Hp→OA) (fV:Nat→Nat→Int→Int→Int→Hp→OA) (fW:Nat→Nat→Int→Hp→OA) (fX:Nat→Nat→Int→Hp→OA) (aa:Nat) (ac:Nat) (ae:Int) (H:Hp):OA:=(fU aa ac ae H).bind fun r4=>((r4.1).asB).bind fun b5=>(bif (!b5) then (some ((.tup [(.bool true),(.bool true)]),r4.2)) else (aO.l29 F fU ak fQ fR fV fW fX F aa ac ae (IntKind.i64.wrap (ae + 1)) r4.2))
noncomputable def aO.tw (F:Nat) (aa:Nat) (ac:Nat) (ae:Int) (H:Hp):OA:=aO.twX F (ar.tw F) (aN.tw F) (dx.tw F) (dt.tw F) (dy.tw F) (bj.tw F) (aU.tw F) aa ac ae H
noncomputable def aO.code:Go.Code:=(Try.f116.body).getD .skip
noncomputable def aO.lh29 (F:Nat) (fU:Nat→Nat→Int→Hp→OA) (ak:Int→Int→Sl→Int→Int→Hp→OA) (fQ:Int→Int→Hp→OA) (fR:Nat→Nat→Int→Int→Int→Hp→OA) (fV:Nat→Nat→Int→Int→Int→Hp→OA) (fW:Nat→Nat→Int→Hp→OA) (fX:Nat→Nat→Int→Hp→OA) (ks:List Nat) (n:Nat) (tm:Tm) (H:Hp):OA:=match ks,tm 0,tm 1,tm 6 with
 | [],(.ptr gf iM),(.int .i64 gI),(.int .i64 iN)=>aO.l29 F fU ak fQ fR fV fW fX n gf iM gI iN H
 | _,_,_,_=>none
theorem aO.lh29_inv {F:Nat} {fU:Nat→Nat→Int→Hp→OA} {ak:Int→Int→Sl→Int→Int→Hp→OA} {fQ:Int→Int→Hp→OA} {fR:Nat→Nat→Int→Int→Int→Hp→OA} {fV:Nat→Nat→Int→Int→Int→Hp→OA} {fW:Nat→Nat→Int→Hp→OA} {fX:Nat→Nat→Int→Hp→OA} {ks:List Nat} {n:Nat} {tm:Tm} {H:Hp} {r:AV×Hp} (h:aO.lh29 F fU ak fQ fR fV fW fX ks n tm H = some r):∃ gf:Nat,∃ iM:Nat,∃ gI:Int,∃ iN:Int,ks = []∧tm 0 = (.ptr gf iM)∧tm 1 = (.int .i64 gI)∧tm 6 = (.int .i64 iN)∧aO.l29 F fU ak fQ fR fV fW fX n gf iM gI iN H = some r:=by
 unfold aO.lh29 at h
 split at h
 ·exact ⟨_,_,_,_,rfl,by assumption,by assumption,by assumption,h⟩
 ·cases h
noncomputable def aO.lh61 (F:Nat) (fU:Nat→Nat→Int→Hp→OA) (ak:Int→Int→Sl→Int→Int→Hp→OA) (fQ:Int→Int→Hp→OA) (fR:Nat→Nat→Int→Int→Int→Hp→OA) (fV:Nat→Nat→Int→Int→Int→Hp→OA) (fW:Nat→Nat→Int→Hp→OA) (fX:Nat→Nat→Int→Hp→OA) (ks:List Nat) (n:Nat) (tm:Tm) (H:Hp):OA:=match ks,tm 0,tm 1,tm 7 with
 | [],(.ptr iJ iK),(.int .i64 gH),(.int .i64 iL)=>aO.l61 F fU ak fQ fR fV fW fX n iJ iK gH iL H
 | _,_,_,_=>none
theorem aO.lh61_inv {F:Nat} {fU:Nat→Nat→Int→Hp→OA} {ak:Int→Int→Sl→Int→Int→Hp→OA} {fQ:Int→Int→Hp→OA} {fR:Nat→Nat→Int→Int→Int→Hp→OA} {fV:Nat→Nat→Int→Int→Int→Hp→OA} {fW:Nat→Nat→Int→Hp→OA} {fX:Nat→Nat→Int→Hp→OA} {ks:List Nat} {n:Nat} {tm:Tm} {H:Hp} {r:AV×Hp} (h:aO.lh61 F fU ak fQ fR fV fW fX ks n tm H = some r):∃ iJ:Nat,∃ iK:Nat,∃ gH:Int,∃ iL:Int,ks = []∧tm 0 = (.ptr iJ iK)∧tm 1 = (.int .i64 gH)∧tm 7 = (.int .i64 iL)∧aO.l61 F fU ak fQ fR fV fW fX n iJ iK gH iL H = some r:=by
 unfold aO.lh61 at h
 split at h
 ·exact ⟨_,_,_,_,rfl,by assumption,by assumption,by assumption,h⟩
 ·cases h
noncomputable def aO.lh (F:Nat) (fU:Nat→Nat→Int→Hp→OA) (ak:Int→Int→Sl→Int→Int→Hp→OA) (fQ:Int→Int→Hp→OA) (fR:Nat→Nat→Int→Int→Int→Hp→OA) (fV:Nat→Nat→Int→Int→Int→Hp→OA) (fW:Nat→Nat→Int→Hp→OA) (fX:Nat→Nat→Int→Hp→OA) (p:Nat) (ks:List Nat) (n:Nat) (tm:Tm) (H:Hp):OA:=bif p.beq 61 then aO.lh61 F fU ak fQ fR fV fW fX ks n tm H else (bif p.beq 29 then aO.lh29 F fU ak fQ fR fV fW fX ks n tm H else (none))
def aO.pn:Nat→List Nat:=fun i=>(([(6,[16,17,18]),(10,[16,17,18])]:List (Nat×List Nat)).lookup i).getD []
def aO.tb:Nat→List (List Nat):=fun i=>(([(6,[[],[],[],[],[3],[3,4],[3,4,5],[],[],[3,4,5,6,7,8],[],[10],[10,11],[10,11,12],[],[],[3,4,5,6,7,8,9,10,11,12,13,14,15],[3,4,5,6,7,8,9,10,11,12,13,14,15,16],[0,1,2,3,4,5,6,7,8,9,10,11,12,13,14,15,16,17]]),(10,[[],[],[],[],[3],[3,4],[3,4,5],[],[],[3,4,5,6,7,8],[],[10],[10,11],[10,11,12],[],[],[3,4,5,6,7,8,9,10,11,12,13,14,15],[3,4,5,6,7,8,9,10,11,12,13,14,15,16],[0,1,2,3,4,5,6,7,8,9,10,11,12,13,14,15,16,17]])]:List (Nat×List (List Nat))).lookup i).getD []
noncomputable def aO.mk (g:Nat→Nat→Int→Hp→OA) (args:List AV) (H:Hp):OA:=match args with
 | [(.ptr aa ac),(.int .i64 ae)]=>g aa ac ae H
 | _=>none
noncomputable def aO.cs (F:Nat) (fU:Nat→Nat→Int→Hp→OA) (ak:Int→Int→Sl→Int→Int→Hp→OA) (fQ:Int→Int→Hp→OA) (fR:Nat→Nat→Int→Int→Int→Hp→OA) (fV:Nat→Nat→Int→Int→Int→Hp→OA) (fW:Nat→Nat→Int→Hp→OA) (fX:Nat→Nat→Int→Hp→OA):List (FuncId×(List AV→Hp→OA)):=[(139,ar.mk fU),(79,aN.mk ak),(141,dx.mk fQ),(140,dt.mk fR),(142,dy.mk fV),(143,bj.mk fW),(144,aU.mk fX)]
theorem aO.loops (F:Nat) (fU:Nat→Nat→Int→Hp→OA) (ak:Int→Int→Sl→Int→Int→Hp→OA) (fQ:Int→Int→Hp→OA) (fR:Nat→Nat→Int→Int→Int→Hp→OA) (fV:Nat→Nat→Int→Int→Int→Hp→OA) (fW:Nat→Nat→Int→Hp→OA) (fX:Nat→Nat→Int→Hp→OA):LoopsOk tabs (mkOrc (aO.cs F fU ak fQ fR fV fW fX)) aO.pn (aO.lh F fU ak fQ fR fV fW fX) F [] 1 aO.code (fun tm H=>aresults tabs.ty H tm Try.f116.results.toList fun v=>some (v,H)) (fun _ _ _=>none) (fun tm H=>aresults tabs.ty H tm Try.f116.results.toList fun v=>some (v,H)):=by
 refine LoopsOk.seq ?_ ?_
 ·exact loops_none (by kernel_rfl)
 ·refine LoopsOk.seq ?_ ?_
  ·exact loops_none (by kernel_rfl)
  ·refine LoopsOk.seq ?_ ?_
   ·refine LoopsOk.seq ?_ ?_
    ·exact loops_none (by kernel_rfl)
    ·refine LoopsOk.block ?_
     refine LoopsOk.loop (fun tm H=>?_) (fun k29 tm H r h0=>?_) (fun k29=>?_)
     ·refine none_of fun r h0=>?_
      obtain ⟨gf,iM,gI,iN,hks,e0,e1,e6,h⟩:=aO.lh29_inv (show aO.lh29 F fU ak fQ fR fV fW fX [] 0 tm H = some r from h0)
      cases h
     ·obtain ⟨gf,iM,gI,iN,hks,e0,e1,e6,h⟩:=aO.lh29_inv (show aO.lh29 F fU ak fQ fR fV fW fX [] (k29 + 1) tm H = some r from h0)
      have q0:(Tm.put tm 0 (.ptr gf iM)) = tm:=by exact Tm.put_same e0
      have q1:(Tm.put (Tm.put tm 0 (.ptr gf iM)) 1 (.int .i64 gI)) = tm:=by rw [q0]; exact Tm.put_same e1
      have q2:(Tm.put (Tm.put (Tm.put tm 0 (.ptr gf iM)) 1 (.int .i64 gI)) 6 (.int .i64 iN)) = tm:=by rw [q1]; exact Tm.put_same e6
      rw [← q2]
      exact Eq.trans (by kernel_rfl) h
     ·exact loops_none (by kernel_rfl)
   ·refine LoopsOk.seq ?_ ?_
    ·refine LoopsOk.seq ?_ ?_
     ·exact loops_none (by kernel_rfl)
     ·refine LoopsOk.block ?_
      refine LoopsOk.loop (fun tm H=>?_) (fun k61 tm H r h0=>?_) (fun k61=>?_)
      ·refine none_of fun r h0=>?_
       obtain ⟨iJ,iK,gH,iL,hks,e0,e1,e7,h⟩:=aO.lh61_inv (show aO.lh61 F fU ak fQ fR fV fW fX [] 0 tm H = some r from h0)
       cases h
      ·obtain ⟨iJ,iK,gH,iL,hks,e0,e1,e7,h⟩:=aO.lh61_inv (show aO.lh61 F fU ak fQ fR fV fW fX [] (k61 + 1) tm H = some r from h0)
       have q0:(Tm.put tm 0 (.ptr iJ iK)) = tm:=by exact Tm.put_same e0
       have q1:(Tm.put (Tm.put tm 0 (.ptr iJ iK)) 1 (.int .i64 gH)) = tm:=by rw [q0]; exact Tm.put_same e1
       have q2:(Tm.put (Tm.put (Tm.put tm 0 (.ptr iJ iK)) 1 (.int .i64 gH)) 7 (.int .i64 iL)) = tm:=by rw [q1]; exact Tm.put_same e7
       rw [← q2]
       exact Eq.trans (by kernel_rfl) h
      ·exact loops_none (by kernel_rfl)
    ·exact loops_none (by kernel_rfl)
theorem aO.eqX (F:Nat) (fU:Nat→Nat→Int→Hp→OA) (ak:Int→Int→Sl→Int→Int→Hp→OA) (fQ:Int→Int→Hp→OA) (fR:Nat→Nat→Int→Int→Int→Hp→OA) (fV:Nat→Nat→Int→Int→Int→Hp→OA) (fW:Nat→Nat→Int→Hp→OA) (fX:Nat→Nat→Int→Hp→OA) (aa:Nat) (ac:Nat) (ae:Int) (H:Hp):aCode tabs (mkOrc (aO.cs F fU ak fQ fR fV fW fX)) aO.pn (aO.lh F fU ak fQ fR fV fW fX) F [] 1 aO.code (argTm [(.ptr aa ac),(.int .i64 ae)]) H (fun tm H=>aresults tabs.ty H tm Try.f116.results.toList fun v=>some (v,H)) (fun _ _ _=>none) (fun tm H=>aresults tabs.ty H tm Try.f116.results.toList fun v=>some (v,H)) = aO.twX F fU ak fQ fR fV fW fX aa ac ae H:=by kernel_rfl
theorem aO.cs_ok (F:Nat):∀ p ∈ aO.cs F (ar.tw F) (aN.tw F) (dx.tw F) (dt.tw F) (dy.tw F) (bj.tw F) (aU.tw F),∀ args H v H',p.2 args H = some (v,H')→Go.AE.T Try.prog p.1 args H v H':=by
 intro p hp
 simp only [aO.cs,List.mem_cons,List.not_mem_nil,or_false] at hp
 rcases hp with rfl | rfl | rfl | rfl | rfl | rfl | rfl
 ·exact fun args H v H' h=>ar.mk_T h
 ·exact fun args H v H' h=>aN.mk_T h
 ·exact fun args H v H' h=>dx.mk_T h
 ·exact fun args H v H' h=>dt.mk_T h
 ·exact fun args H v H' h=>dy.mk_T h
 ·exact fun args H v H' h=>bj.mk_T h
 ·exact fun args H v H' h=>aU.mk_T h
theorem aO.ok:codeOk aO.pn Try.f116.ntmps aO.tb aO.code = true:=by kernel_rfl
theorem aO.T {F:Nat} {aa:Nat} {ac:Nat} {ae:Int} {H:Hp} {v:AV} {H':Hp} (h:aO.tw F aa ac ae H = some (v,H')):Go.AE.T Try.prog 116 [(.ptr aa ac),(.int .i64 ae)] H v H':=
 Go.AE.T.of (Y:=tabs) (C:=mkOrc (aO.cs F (ar.tw F) (aN.tw F) (dx.tw F) (dt.tw F) (dy.tw F) (bj.tw F) (aU.tw F))) (PN:=aO.pn) (LH:=aO.lh F (ar.tw F) (aN.tw F) (dx.tw F) (dt.tw F) (dy.tw F) (bj.tw F) (aU.tw F)) (F:=F) (TB:=aO.tb) (fn:=Try.f116) (code:=aO.code) mixed tabs_ok (mkOrc_ok (aO.cs_ok F)) Try.func116 (by kernel_rfl) (by kernel_rfl) aO.ok (Nat.le_of_ble_eq_true (by kernel_rfl)) (aO.loops F (ar.tw F) (aN.tw F) (dx.tw F) (dt.tw F) (dy.tw F) (bj.tw F) (aU.tw F)) (Eq.trans (aO.eqX F (ar.tw F) (aN.tw F) (dx.tw F) (dt.tw F) (dy.tw F) (bj.tw F) (aU.tw F) aa ac ae H) h)
theorem aO.mk_T {F:Nat} {args:List AV} {H:Hp} {v:AV} {H':Hp} (h:aO.mk (aO.tw F) args H = some (v,H')):Go.AE.T Try.prog 116 args H v H':=by
 unfold aO.mk at h
 split at h
 ·exact aO.T h
 ·cases h
noncomputable def aS.j3 (F:Nat) (fr:Int→Hp→OA) (fS:Nat→Nat→Int→Hp→OA) (C29_:Nat→Nat→Nat→Nat→Int→Hp→OA) (qW:Nat) (wk:Nat) (qX:Nat) (wl:Nat) (oL:Int) (H161:Hp):OA:=C29_ qW wk qX wl (IntKind.i64.wrap (oL + 1)) H161
noncomputable def aS.j4 (F:Nat) (fr:Int→Hp→OA) (fS:Nat→Nat→Int→Hp→OA) (C29_:Nat→Nat→Nat→Nat→Int→Hp→OA) (qY:Nat) (wm:Nat) (nL:Nat) (qZ:Nat) (nr:Int) (oM:Bool) (H146:Hp):OA:=(bif oM then (some ((.ptr nL qZ),H146)) else ((Hp.ldB H146 nL (qZ + 15)).bind fun b147=>(bif b147 then (some ((.ptr nL qZ),H146)) else (aS.j3 F fr fS C29_ qY wm nL qZ nr H146))))
noncomputable def aS.l938 (F:Nat) (fr:Int→Hp→OA) (fS:Nat→Nat→Int→Hp→OA) (C29_:Nat→Nat→Nat→Nat→Int→Hp→OA):Nat→Nat→Nat→Nat→Nat→Int→Bool→Bool→Hp→OA
 | 0,_,_,_,_,_,_,_,_=>none
 | wn + 1,jd,kz,je,kA,hY,kb,jV,H126=>(bif (!kb) then ((Hp.ldB H126 je (kA + 15)).bind fun b162=>(bif (!b162) then ((fS je kA hY H126).bind fun r163=>((r163.1).asTup 2).bind fun l164=>(l164[0]?).bind fun v165=>((v165).asB).bind fun b166=>(l164[1]?).bind fun v167=>((v167).asB).bind fun b168=>aS.l938 F fr fS C29_ wn jd kz je kA hY b166 b168 r163.2) else (aS.j4 F fr fS C29_ jd kz je kA hY jV H126))) else (aS.j4 F fr fS C29_ jd kz je kA hY jV H126))
termination_by structural n=>n
noncomputable def aS.l29 (F:Nat) (fr:Int→Hp→OA) (fS:Nat→Nat→Int→Hp→OA) :Nat→Nat→Nat→Nat→Nat→Int→Hp→OA
 | 0,_,_,_,_,_,_=>none
 | eP + 1,jD,kT,kB,lL,jW,H56=>(Hp.ldI H56 .i64 jD kT).bind fun n113=>(Hp.ldI H56 .i64 jD (kT + 1)).bind fun n114=>(bif (decide (jW < (if n114 < n113 then n114 else n113))) then (aS.l938 F fr fS (aS.l29 F fr fS eP) F jD kT kB lL jW false false H56) else (some ((.ptr kB lL),H56)))
termination_by structural n=>n
noncomputable def aS.twX (F:Nat) (fr:Int→Hp→OA) (fS:Nat→Nat→Int→Hp→OA) (aa:Int) (ac:Int) (ah:Sl) (H:Hp):OA:=(Hp.new H [(.int .i64 aa),(.int .i64 ac),(.sl ah)]).bind fun H4=>(Hp.ldI H4 .i64 H.length 0).bind fun n5=>(Hp.ldI H4 .i64 H.length 1).bind fun n6=>(Hp.new H4 []).bind fun H7=>(Hp.ldSl H7 H.length 2).bind fun s8=>(Sl.row H7 s8 1).bind fun xs10=>(Hp.app H7 1 8 (⟨some (H4.length,0),0,.ex 0⟩:Sl) s8.n xs10).bind fun a9=>(if Cons H7 a9.2 then ((Hp.ldI a9.2 .i64 H.length 0).bind fun n11=>(fr n11 a9.2).bind fun r12=>((r12.1).asAgg 3).bind fun l13=>(l13[0]?).bind fun v14=>((v14).asI .i64).bind fun n15=>(l13[1]?).bind fun v16=>((v16).asI .i64).bind fun n17=>(l13[2]?).bind fun v18=>((v18).asSl).bind fun s19=>(if Cons a9.2 r12.2 then ((Hp.ldI r12.2 .i64 H.length 0).bind fun n20=>(fr n20 r12.2).bind fun r21=>((r21.1).asAgg 3).bind fun l22=>(l22[0]?).bind fun v23=>((v23).asI .i64).bind fun n24=>(l22[1]?).bind fun v25=>((v25).asI .i64).bind fun n26=>(l22[2]?).bind fun v27=>((v27).asSl).bind fun s28=>(if Cons r12.2 r21.2 then ((Hp.ldI r21.2 .i64 H.length 1).bind fun n29=>(fr n29 r21.2).bind fun r30=>((r30.1).asAgg 3).bind fun l31=>(l31[0]?).bind fun v32=>((v32).asI .i64).bind fun n33=>(l31[1]?).bind fun v34=>((v34).asI .i64).bind fun n35=>(l31[2]?).bind fun v36=>((v36).asSl).bind fun s37=>(if Cons r21.2 r30.2 then ((Hp.ldI r30.2 .i64 H.length 1).bind fun n38=>(fr n38 r30.2).bind fun r39=>((r39.1).asAgg 3).bind fun l40=>(l40[0]?).bind fun v41=>((v41).asI .i64).bind fun n42=>(l40[1]?).bind fun v43=>((v43).asI .i64).bind fun n44=>(l40[2]?).bind fun v45=>((v45).asSl).bind fun s46=>(if Cons r30.2 r39.2 then ((Hp.new r39.2 [(.int .i64 n5),(.int .i64 n6),(.sl a9.1),(.int .i64 n15),(.int .i64 n17),(.sl s19),(.int .i64 n24),(.int .i64 n26),(.sl s28),(.int .i64 n33),(.int .i64 n35),(.sl s37),(.int .i64 n42),(.int .i64 n44),(.sl s46),(.bool false)]).bind fun H47=>aS.l29 F fr fS F H.length 0 r39.2.length 0 0 H47) else none)) else none)) else none)) else none)) else none)
noncomputable def aS.tw (F:Nat) (aa:Int) (ac:Int) (ah:Sl) (H:Hp):OA:=aS.twX F (bJ.tw F) (aO.tw F) aa ac ah H
noncomputable def aS.code:Go.Code:=(Try.f75.body).getD .skip
noncomputable def aS.lh29 (F:Nat) (fr:Int→Hp→OA) (fS:Nat→Nat→Int→Hp→OA) (ks:List Nat) (n:Nat) (tm:Tm) (H:Hp):OA:=match ks,tm 1,tm 2,tm 3,tm 4 with
 | [],(.ptr jD kT),.nilp,(.ptr kB lL),(.int .i64 jW)=>aS.l29 F fr fS n jD kT kB lL jW H
 | _,_,_,_,_=>none
theorem aS.lh29_inv {F:Nat} {fr:Int→Hp→OA} {fS:Nat→Nat→Int→Hp→OA} {ks:List Nat} {n:Nat} {tm:Tm} {H:Hp} {r:AV×Hp} (h:aS.lh29 F fr fS ks n tm H = some r):∃ jD:Nat,∃ kT:Nat,∃ kB:Nat,∃ lL:Nat,∃ jW:Int,ks = []∧tm 1 = (.ptr jD kT)∧tm 2 = .nilp∧tm 3 = (.ptr kB lL)∧tm 4 = (.int .i64 jW)∧aS.l29 F fr fS n jD kT kB lL jW H = some r:=by
 unfold aS.lh29 at h
 split at h
 ·exact ⟨_,_,_,_,_,rfl,by assumption,by assumption,by assumption,by assumption,h⟩
 ·cases h
noncomputable def aS.lh938 (F:Nat) (fr:Int→Hp→OA) (fS:Nat→Nat→Int→Hp→OA) (ks:List Nat) (n:Nat) (tm:Tm) (H:Hp):OA:=match ks,tm 1,tm 2,tm 3,tm 4,tm 5,tm 6 with
 | [eP],(.ptr jd kz),.nilp,(.ptr je kA),(.int .i64 hY),(.bool kb),(.bool jV)=>aS.l938 F fr fS (aS.l29 F fr fS eP) n jd kz je kA hY kb jV H
 | _,_,_,_,_,_,_=>none
theorem aS.lh938_inv {F:Nat} {fr:Int→Hp→OA} {fS:Nat→Nat→Int→Hp→OA} {ks:List Nat} {n:Nat} {tm:Tm} {H:Hp} {r:AV×Hp} (h:aS.lh938 F fr fS ks n tm H = some r):∃ eP:Nat,∃ jd:Nat,∃ kz:Nat,∃ je:Nat,∃ kA:Nat,∃ hY:Int,∃ kb:Bool,∃ jV:Bool,ks = [eP]∧tm 1 = (.ptr jd kz)∧tm 2 = .nilp∧tm 3 = (.ptr je kA)∧tm 4 = (.int .i64 hY)∧tm 5 = (.bool kb)∧tm 6 = (.bool jV)∧aS.l938 F fr fS (aS.l29 F fr fS eP) n jd kz je kA hY kb jV H = some r:=by
 unfold aS.lh938 at h
 split at h
 ·exact ⟨_,_,_,_,_,_,_,_,rfl,by assumption,by assumption,by assumption,by assumption,by assumption,by assumption,h⟩
 ·cases h
noncomputable def aS.lh (F:Nat) (fr:Int→Hp→OA) (fS:Nat→Nat→Int→Hp→OA) (p:Nat) (ks:List Nat) (n:Nat) (tm:Tm) (H:Hp):OA:=bif p.beq 938 then aS.lh938 F fr fS ks n tm H else (bif p.beq 29 then aS.lh29 F fr fS ks n tm H else (none))
def aS.pn:Nat→List Nat:=fun i=>(([(1,[])]:List (Nat×List Nat)).lookup i).getD []
def aS.tb:Nat→List (List Nat):=fun i=>(([(1,[[],[0],[],[2],[],[],[5],[4,5,6],[0,1,2,3,4,5,6,7],[],[9],[4,5,6,7,9,10],[],[12],[4,5,6,7,9,10,11,12,13],[],[15],[4,5,6,7,9,10,11,12,13,14,15,16],[],[18],[4,5,6,7,9,10,11,12,13,14,15,16,17,18,19],[0,1,2,3,4,5,6,7,8,9,10,11,12,13,14,15,16,17,18,19,20],[0,1,2,3,4,5,6,7,8,9,10,11,12,13,14,15,16,17,18,19,20,21],[0,1,2,3,4,5,6,7,8,9,10,11,12,13,14,15,16,17,18,19,20,21,22]])]:List (Nat×List (List Nat))).lookup i).getD []
noncomputable def aS.mk (g:Int→Int→Sl→Hp→OA) (args:List AV) (H:Hp):OA:=match args with
 | [(.agg [(.int .i64 aa),(.int .i64 ac),(.sl ah)])]=>g aa ac ah H
 | _=>none
noncomputable def aS.cs (F:Nat) (fr:Int→Hp→OA) (fS:Nat→Nat→Int→Hp→OA):List (FuncId×(List AV→Hp→OA)):=[(115,bJ.mk fr),(116,aO.mk fS)]
theorem aS.loops (F:Nat) (fr:Int→Hp→OA) (fS:Nat→Nat→Int→Hp→OA):LoopsOk tabs (mkOrc (aS.cs F fr fS)) aS.pn (aS.lh F fr fS) F [] 1 aS.code (fun tm H=>aresults tabs.ty H tm Try.f75.results.toList fun v=>some (v,H)) (fun _ _ _=>none) (fun tm H=>aresults tabs.ty H tm Try.f75.results.toList fun v=>some (v,H)):=by
 refine LoopsOk.seq ?_ ?_
 ·exact loops_none (by kernel_rfl)
 ·refine LoopsOk.seq ?_ ?_
  ·exact loops_none (by kernel_rfl)
  ·refine LoopsOk.seq ?_ ?_
   ·refine LoopsOk.seq ?_ ?_
    ·exact loops_none (by kernel_rfl)
    ·refine LoopsOk.block ?_
     refine LoopsOk.loop (fun tm H=>?_) (fun k29 tm H r h0=>?_) (fun k29=>?_)
     ·refine none_of fun r h0=>?_
      obtain ⟨jD,kT,kB,lL,jW,hks,e1,e2,e3,e4,h⟩:=aS.lh29_inv (show aS.lh29 F fr fS [] 0 tm H = some r from h0)
      cases h
     ·obtain ⟨jD,kT,kB,lL,jW,hks,e1,e2,e3,e4,h⟩:=aS.lh29_inv (show aS.lh29 F fr fS [] (k29 + 1) tm H = some r from h0)
      have q0:(Tm.put tm 1 (.ptr jD kT)) = tm:=by exact Tm.put_same e1
      have q1:(Tm.put (Tm.put tm 1 (.ptr jD kT)) 2 .nilp) = tm:=by rw [q0]; exact Tm.put_same e2
      have q2:(Tm.put (Tm.put (Tm.put tm 1 (.ptr jD kT)) 2 .nilp) 3 (.ptr kB lL)) = tm:=by rw [q1]; exact Tm.put_same e3
      have q3:(Tm.put (Tm.put (Tm.put (Tm.put tm 1 (.ptr jD kT)) 2 .nilp) 3 (.ptr kB lL)) 4 (.int .i64 jW)) = tm:=by rw [q2]; exact Tm.put_same e4
      rw [← q3]
      exact Eq.trans (by kernel_rfl) h
     ·refine LoopsOk.seq ?_ ?_
      ·exact loops_none (by kernel_rfl)
      ·refine LoopsOk.seq ?_ ?_
       ·refine LoopsOk.block ?_
        refine LoopsOk.seq ?_ ?_
        ·exact loops_none (by kernel_rfl)
        ·refine LoopsOk.seq ?_ ?_
         ·refine LoopsOk.block ?_
          refine LoopsOk.loop (fun tm H=>?_) (fun k938 tm H r h0=>?_) (fun k938=>?_)
          ·refine none_of fun r h0=>?_
           obtain ⟨eP,jd,kz,je,kA,hY,kb,jV,hks,e1,e2,e3,e4,e5,e6,h⟩:=aS.lh938_inv (show aS.lh938 F fr fS [k29] 0 tm H = some r from h0)
           cases h
          ·obtain ⟨eP,jd,kz,je,kA,hY,kb,jV,hks,e1,e2,e3,e4,e5,e6,h⟩:=aS.lh938_inv (show aS.lh938 F fr fS [k29] (k938 + 1) tm H = some r from h0)
           obtain rfl:eP = k29:=by simpa [eq_comm] using hks
           have q0:(Tm.put tm 1 (.ptr jd kz)) = tm:=by exact Tm.put_same e1
           have q1:(Tm.put (Tm.put tm 1 (.ptr jd kz)) 2 .nilp) = tm:=by rw [q0]; exact Tm.put_same e2
           have q2:(Tm.put (Tm.put (Tm.put tm 1 (.ptr jd kz)) 2 .nilp) 3 (.ptr je kA)) = tm:=by rw [q1]; exact Tm.put_same e3
           have q3:(Tm.put (Tm.put (Tm.put (Tm.put tm 1 (.ptr jd kz)) 2 .nilp) 3 (.ptr je kA)) 4 (.int .i64 hY)) = tm:=by rw [q2]; exact Tm.put_same e4
           have q4:(Tm.put (Tm.put (Tm.put (Tm.put (Tm.put tm 1 (.ptr jd kz)) 2 .nilp) 3 (.ptr je kA)) 4 (.int .i64 hY)) 5 (.bool kb)) = tm:=by rw [q3]; exact Tm.put_same e5
           have q5:(Tm.put (Tm.put (Tm.put (Tm.put (Tm.put (Tm.put tm 1 (.ptr jd kz)) 2 .nilp) 3 (.ptr je kA)) 4 (.int .i64 hY)) 5 (.bool kb)) 6 (.bool jV)) = tm:=by rw [q4]; exact Tm.put_same e6
           rw [← q5]
           exact Eq.trans (by kernel_rfl) h
          ·exact loops_none (by kernel_rfl)
         ·exact loops_none (by kernel_rfl)
       ·exact loops_none (by kernel_rfl)
   ·exact loops_none (by kernel_rfl)
theorem aS.eqX (F:Nat) (fr:Int→Hp→OA) (fS:Nat→Nat→Int→Hp→OA) (aa:Int) (ac:Int) (ah:Sl) (H:Hp):aCode tabs (mkOrc (aS.cs F fr fS)) aS.pn (aS.lh F fr fS) F [] 1 aS.code (argTm [(.agg [(.int .i64 aa),(.int .i64 ac),(.sl ah)])]) H (fun tm H=>aresults tabs.ty H tm Try.f75.results.toList fun v=>some (v,H)) (fun _ _ _=>none) (fun tm H=>aresults tabs.ty H tm Try.f75.results.toList fun v=>some (v,H)) = aS.twX F fr fS aa ac ah H:=by kernel_rfl
theorem aS.cs_ok (F:Nat):∀ p ∈ aS.cs F (bJ.tw F) (aO.tw F),∀ args H v H',p.2 args H = some (v,H')→Go.AE.T Try.prog p.1 args H v H':=by
 intro p hp
 simp only [aS.cs,List.mem_cons,List.not_mem_nil,or_false] at hp
 rcases hp with rfl | rfl
 ·exact fun args H v H' h=>bJ.mk_T h
 ·exact fun args H v H' h=>aO.mk_T h
theorem aS.ok:codeOk aS.pn Try.f75.ntmps aS.tb aS.code = true:=by kernel_rfl
theorem aS.T {F:Nat} {aa:Int} {ac:Int} {ah:Sl} {H:Hp} {v:AV} {H':Hp} (h:aS.tw F aa ac ah H = some (v,H')):Go.AE.T Try.prog 75 [(.agg [(.int .i64 aa),(.int .i64 ac),(.sl ah)])] H v H':=
 Go.AE.T.of (Y:=tabs) (C:=mkOrc (aS.cs F (bJ.tw F) (aO.tw F))) (PN:=aS.pn) (LH:=aS.lh F (bJ.tw F) (aO.tw F)) (F:=F) (TB:=aS.tb) (fn:=Try.f75) (code:=aS.code) mixed tabs_ok (mkOrc_ok (aS.cs_ok F)) Try.func75 (by kernel_rfl) (by kernel_rfl) aS.ok (Nat.le_of_ble_eq_true (by kernel_rfl)) (aS.loops F (bJ.tw F) (aO.tw F)) (Eq.trans (aS.eqX F (bJ.tw F) (aO.tw F) aa ac ah H) h)
theorem aS.mk_T {F:Nat} {args:List AV} {H:Hp} {v:AV} {H':Hp} (h:aS.mk (aS.tw F) args H = some (v,H')):Go.AE.T Try.prog 75 args H v H':=by
 unfold aS.mk at h
 split at h
 ·exact aS.T h
 ·cases h
noncomputable def dL.twX (F:Nat) (lM:Int→Int→Sl→Hp→OA) (lN:Int→Int→Sl→Hp→OA) (aa:Int) (ac:Int) (ah:Sl) (H:Hp):OA:=(Hp.new H [(.int .i64 aa),(.int .i64 ac),(.sl ah)]).bind fun H4=>(Hp.new H4 [.int .i64 0,.int .i64 0,.sl ⟨none,0,.ex 0⟩,.int .i64 0,.int .i64 0,.sl ⟨none,0,.ex 0⟩,.int .i64 0,.int .i64 0,.sl ⟨none,0,.ex 0⟩,.int .i64 0,.int .i64 0,.sl ⟨none,0,.ex 0⟩,.int .i64 0,.int .i64 0,.sl ⟨none,0,.ex 0⟩]).bind fun H5=>(Hp.ldI H5 .i64 H.length 0).bind fun n6=>(Hp.ldI H5 .i64 H.length (0 + 1)).bind fun n7=>(Hp.ldSl H5 H.length (0 + 2)).bind fun s8=>(lM n6 n7 s8 H5).bind fun r9=>((r9.1).asB).bind fun b10=>(bif (!b10) then ((Hp.st r9.2 H4.length 0 (.int .i64 0)).bind fun H11=>(Hp.st H11 H4.length (0 + 1) (.int .i64 0)).bind fun H12=>(Hp.st H12 H4.length (0 + 1 + 1) (.sl (⟨none,0,.ex 0⟩:Sl))).bind fun H13=>(Hp.st H13 H4.length (0 + 1 + 1 + 1) (.int .i64 0)).bind fun H14=>(Hp.st H14 H4.length (0 + 1 + 1 + 1 + 1) (.int .i64 0)).bind fun H15=>(Hp.st H15 H4.length (0 + 1 + 1 + 1 + 1 + 1) (.sl (⟨none,0,.ex 0⟩:Sl))).bind fun H16=>(Hp.st H16 H4.length (0 + 1 + 1 + 1 + 1 + 1 + 1) (.int .i64 0)).bind fun H17=>(Hp.st H17 H4.length (0 + 1 + 1 + 1 + 1 + 1 + 1 + 1) (.int .i64 0)).bind fun H18=>(Hp.st H18 H4.length (0 + 1 + 1 + 1 + 1 + 1 + 1 + 1 + 1) (.sl (⟨none,0,.ex 0⟩:Sl))).bind fun H19=>(Hp.st H19 H4.length (0 + 1 + 1 + 1 + 1 + 1 + 1 + 1 + 1 + 1) (.int .i64 0)).bind fun H20=>(Hp.st H20 H4.length (0 + 1 + 1 + 1 + 1 + 1 + 1 + 1 + 1 + 1 + 1) (.int .i64 0)).bind fun H21=>(Hp.st H21 H4.length (0 + 1 + 1 + 1 + 1 + 1 + 1 + 1 + 1 + 1 + 1 + 1) (.sl (⟨none,0,.ex 0⟩:Sl))).bind fun H22=>(Hp.st H22 H4.length (0 + 1 + 1 + 1 + 1 + 1 + 1 + 1 + 1 + 1 + 1 + 1 + 1) (.int .i64 0)).bind fun H23=>(Hp.st H23 H4.length (0 + 1 + 1 + 1 + 1 + 1 + 1 + 1 + 1 + 1 + 1 + 1 + 1 + 1) (.int .i64 0)).bind fun H24=>(Hp.st H24 H4.length (0 + 1 + 1 + 1 + 1 + 1 + 1 + 1 + 1 + 1 + 1 + 1 + 1 + 1 + 1) (.sl (⟨none,0,.ex 0⟩:Sl))).bind fun H25=>(Hp.ldI H25 .i64 H4.length 0).bind fun n26=>(Hp.ldI H25 .i64 H4.length (0 + 1)).bind fun n27=>(Hp.ldSl H25 H4.length (0 + 2)).bind fun s28=>(Hp.ldI H25 .i64 H4.length (0 + 3)).bind fun n29=>(Hp.ldI H25 .i64 H4.length (0 + 4)).bind fun n30=>(Hp.ldSl H25 H4.length (0 + 5)).bind fun s31=>(Hp.ldI H25 .i64 H4.length (0 + 6)).bind fun n32=>(Hp.ldI H25 .i64 H4.length (0 + 7)).bind fun n33=>(Hp.ldSl H25 H4.length (0 + 8)).bind fun s34=>(Hp.ldI H25 .i64 H4.length (0 + 9)).bind fun n35=>(Hp.ldI H25 .i64 H4.length (0 + 10)).bind fun n36=>(Hp.ldSl H25 H4.length (0 + 11)).bind fun s37=>(Hp.ldI H25 .i64 H4.length (0 + 12)).bind fun n38=>(Hp.ldI H25 .i64 H4.length (0 + 13)).bind fun n39=>(Hp.ldSl H25 H4.length (0 + 14)).bind fun s40=>some ((.tup [(.agg [(.int .i64 n26),(.int .i64 n27),(.sl s28),(.int .i64 n29),(.int .i64 n30),(.sl s31),(.int .i64 n32),(.int .i64 n33),(.sl s34),(.int .i64 n35),(.int .i64 n36),(.sl s37),(.int .i64 n38),(.int .i64 n39),(.sl s40)]),(.int .i64 1)]),H25)) else ((Hp.ldI r9.2 .i64 H.length 0).bind fun n41=>(Hp.ldI r9.2 .i64 H.length (0 + 1)).bind fun n42=>(Hp.ldSl r9.2 H.length (0 + 2)).bind fun s43=>(lN n41 n42 s43 r9.2).bind fun r44=>((r44.1).asP).bind fun p45=>(Hp.ldB r44.2 p45.1 (p45.2 + 15)).bind fun b46=>(bif b46 then ((Hp.st r44.2 H4.length 0 (.int .i64 0)).bind fun H47=>(Hp.st H47 H4.length (0 + 1) (.int .i64 0)).bind fun H48=>(Hp.st H48 H4.length (0 + 1 + 1) (.sl (⟨none,0,.ex 0⟩:Sl))).bind fun H49=>(Hp.st H49 H4.length (0 + 1 + 1 + 1) (.int .i64 0)).bind fun H50=>(Hp.st H50 H4.length (0 + 1 + 1 + 1 + 1) (.int .i64 0)).bind fun H51=>(Hp.st H51 H4.length (0 + 1 + 1 + 1 + 1 + 1) (.sl (⟨none,0,.ex 0⟩:Sl))).bind fun H52=>(Hp.st H52 H4.length (0 + 1 + 1 + 1 + 1 + 1 + 1) (.int .i64 0)).bind fun H53=>(Hp.st H53 H4.length (0 + 1 + 1 + 1 + 1 + 1 + 1 + 1) (.int .i64 0)).bind fun H54=>(Hp.st H54 H4.length (0 + 1 + 1 + 1 + 1 + 1 + 1 + 1 + 1) (.sl (⟨none,0,.ex 0⟩:Sl))).bind fun H55=>(Hp.st H55 H4.length (0 + 1 + 1 + 1 + 1 + 1 + 1 + 1 + 1 + 1) (.int .i64 0)).bind fun H56=>(Hp.st H56 H4.length (0 + 1 + 1 + 1 + 1 + 1 + 1 + 1 + 1 + 1 + 1) (.int .i64 0)).bind fun H57=>(Hp.st H57 H4.length (0 + 1 + 1 + 1 + 1 + 1 + 1 + 1 + 1 + 1 + 1 + 1) (.sl (⟨none,0,.ex 0⟩:Sl))).bind fun H58=>(Hp.st H58 H4.length (0 + 1 + 1 + 1 + 1 + 1 + 1 + 1 + 1 + 1 + 1 + 1 + 1) (.int .i64 0)).bind fun H59=>(Hp.st H59 H4.length (0 + 1 + 1 + 1 + 1 + 1 + 1 + 1 + 1 + 1 + 1 + 1 + 1 + 1) (.int .i64 0)).bind fun H60=>(Hp.st H60 H4.length (0 + 1 + 1 + 1 + 1 + 1 + 1 + 1 + 1 + 1 + 1 + 1 + 1 + 1 + 1) (.sl (⟨none,0,.ex 0⟩:Sl))).bind fun H61=>(Hp.ldI H61 .i64 H4.length 0).bind fun n62=>(Hp.ldI H61 .i64 H4.length (0 + 1)).bind fun n63=>(Hp.ldSl H61 H4.length (0 + 2)).bind fun s64=>(Hp.ldI H61 .i64 H4.length (0 + 3)).bind fun n65=>(Hp.ldI H61 .i64 H4.length (0 + 4)).bind fun n66=>(Hp.ldSl H61 H4.length (0 + 5)).bind fun s67=>(Hp.ldI H61 .i64 H4.length (0 + 6)).bind fun n68=>(Hp.ldI H61 .i64 H4.length (0 + 7)).bind fun n69=>(Hp.ldSl H61 H4.length (0 + 8)).bind fun s70=>(Hp.ldI H61 .i64 H4.length (0 + 9)).bind fun n71=>(Hp.ldI H61 .i64 H4.length (0 + 10)).bind fun n72=>(Hp.ldSl H61 H4.length (0 + 11)).bind fun s73=>(Hp.ldI H61 .i64 H4.length (0 + 12)).bind fun n74=>(Hp.ldI H61 .i64 H4.length (0 + 13)).bind fun n75=>(Hp.ldSl H61 H4.length (0 + 14)).bind fun s76=>some ((.tup [(.agg [(.int .i64 n62),(.int .i64 n63),(.sl s64),(.int .i64 n65),(.int .i64 n66),(.sl s67),(.int .i64 n68),(.int .i64 n69),(.sl s70),(.int .i64 n71),(.int .i64 n72),(.sl s73),(.int .i64 n74),(.int .i64 n75),(.sl s76)]),(.int .i64 3)]),H61)) else ((Hp.ldI r44.2 .i64 p45.1 (p45.2 + 3)).bind fun n77=>(Hp.ldI r44.2 .i64 p45.1 ((p45.2 + 3) + 1)).bind fun n78=>(Hp.ldSl r44.2 p45.1 ((p45.2 + 3) + 2)).bind fun s79=>(Hp.ldI r44.2 .i64 p45.1 (p45.2 + 6)).bind fun n80=>(Hp.ldI r44.2 .i64 p45.1 ((p45.2 + 6) + 1)).bind fun n81=>(Hp.ldSl r44.2 p45.1 ((p45.2 + 6) + 2)).bind fun s82=>(Hp.ldI r44.2 .i64 p45.1 p45.2).bind fun n83=>(Hp.ldI r44.2 .i64 p45.1 (p45.2 + 1)).bind fun n84=>(Hp.ldSl r44.2 p45.1 (p45.2 + 2)).bind fun s85=>(Hp.ldI r44.2 .i64 p45.1 (p45.2 + 9)).bind fun n86=>(Hp.ldI r44.2 .i64 p45.1 ((p45.2 + 9) + 1)).bind fun n87=>(Hp.ldSl r44.2 p45.1 ((p45.2 + 9) + 2)).bind fun s88=>(Hp.ldI r44.2 .i64 p45.1 (p45.2 + 12)).bind fun n89=>(Hp.ldI r44.2 .i64 p45.1 ((p45.2 + 12) + 1)).bind fun n90=>(Hp.ldSl r44.2 p45.1 ((p45.2 + 12) + 2)).bind fun s91=>(Hp.st r44.2 H4.length 0 (.int .i64 n77)).bind fun H92=>(Hp.st H92 H4.length (0 + 1) (.int .i64 n78)).bind fun H93=>(Hp.st H93 H4.length (0 + 1 + 1) (.sl s79)).bind fun H94=>(Hp.st H94 H4.length (0 + 1 + 1 + 1) (.int .i64 n80)).bind fun H95=>(Hp.st H95 H4.length (0 + 1 + 1 + 1 + 1) (.int .i64 n81)).bind fun H96=>(Hp.st H96 H4.length (0 + 1 + 1 + 1 + 1 + 1) (.sl s82)).bind fun H97=>(Hp.st H97 H4.length (0 + 1 + 1 + 1 + 1 + 1 + 1) (.int .i64 n83)).bind fun H98=>(Hp.st H98 H4.length (0 + 1 + 1 + 1 + 1 + 1 + 1 + 1) (.int .i64 n84)).bind fun H99=>(Hp.st H99 H4.length (0 + 1 + 1 + 1 + 1 + 1 + 1 + 1 + 1) (.sl s85)).bind fun H100=>(Hp.st H100 H4.length (0 + 1 + 1 + 1 + 1 + 1 + 1 + 1 + 1 + 1) (.int .i64 n86)).bind fun H101=>(Hp.st H101 H4.length (0 + 1 + 1 + 1 + 1 + 1 + 1 + 1 + 1 + 1 + 1) (.int .i64 n87)).bind fun H102=>(Hp.st H102 H4.length (0 + 1 + 1 + 1 + 1 + 1 + 1 + 1 + 1 + 1 + 1 + 1) (.sl s88)).bind fun H103=>(Hp.st H103 H4.length (0 + 1 + 1 + 1 + 1 + 1 + 1 + 1 + 1 + 1 + 1 + 1 + 1) (.int .i64 n89)).bind fun H104=>(Hp.st H104 H4.length (0 + 1 + 1 + 1 + 1 + 1 + 1 + 1 + 1 + 1 + 1 + 1 + 1 + 1) (.int .i64 n90)).bind fun H105=>(Hp.st H105 H4.length (0 + 1 + 1 + 1 + 1 + 1 + 1 + 1 + 1 + 1 + 1 + 1 + 1 + 1 + 1) (.sl s91)).bind fun H106=>(Hp.ldI H106 .i64 H4.length 0).bind fun n107=>(Hp.ldI H106 .i64 H4.length (0 + 1)).bind fun n108=>(Hp.ldSl H106 H4.length (0 + 2)).bind fun s109=>(Hp.ldI H106 .i64 H4.length (0 + 3)).bind fun n110=>(Hp.ldI H106 .i64 H4.length (0 + 4)).bind fun n111=>(Hp.ldSl H106 H4.length (0 + 5)).bind fun s112=>(Hp.ldI H106 .i64 H4.length (0 + 6)).bind fun n113=>(Hp.ldI H106 .i64 H4.length (0 + 7)).bind fun n114=>(Hp.ldSl H106 H4.length (0 + 8)).bind fun s115=>(Hp.ldI H106 .i64 H4.length (0 + 9)).bind fun n116=>(Hp.ldI H106 .i64 H4.length (0 + 10)).bind fun n117=>(Hp.ldSl H106 H4.length (0 + 11)).bind fun s118=>(Hp.ldI H106 .i64 H4.length (0 + 12)).bind fun n119=>(Hp.ldI H106 .i64 H4.length (0 + 13)).bind fun n120=>(Hp.ldSl H106 H4.length (0 + 14)).bind fun s121=>some ((.tup [(.agg [(.int .i64 n107),(.int .i64 n108),(.sl s109),(.int .i64 n110),(.int .i64 n111),(.sl s112),(.int .i64 n113),(.int .i64 n114),(.sl s115),(.int .i64 n116),(.int .i64 n117),(.sl s118),(.int .i64 n119),(.int .i64 n120),(.sl s121)]),(.int .i64 0)]),H106)))))
noncomputable def dL.tw (F:Nat) (aa:Int) (ac:Int) (ah:Sl) (H:Hp):OA:=dL.twX F (cj.tw F) (aS.tw F) aa ac ah H
noncomputable def dL.code:Go.Code:=(Try.f33.body).getD .skip
noncomputable def dL.lh (F:Nat) (lM:Int→Int→Sl→Hp→OA) (lN:Int→Int→Sl→Hp→OA) (p:Nat) (ks:List Nat) (n:Nat) (tm:Tm) (H:Hp):OA:=none
def dL.pn:Nat→List Nat:=fun i=>(([(6,[21])]:List (Nat×List Nat)).lookup i).getD []
def dL.tb:Nat→List (List Nat):=fun i=>(([(6,[[],[0],[0,1],[0,1,2],[],[4],[4,5],[4,5,6],[],[8],[8,9],[8,9,10],[],[12],[12,13],[12,13,14],[],[16],[16,17],[16,17,18],[0,1,2,3,4,5,6,7,8,9,10,11,12,13,14,15,16,17,18,19],[0,1,2,3,4,5,6,7,8,9,10,11,12,13,14,15,16,17,18,19,20],[0,1,2,3,4,5,6,7,8,9,10,11,12,13,14,15,16,17,18,19,20,21]])]:List (Nat×List (List Nat))).lookup i).getD []
noncomputable def dL.mk (g:Int→Int→Sl→Hp→OA) (args:List AV) (H:Hp):OA:=match args with
 | [(.agg [(.int .i64 aa),(.int .i64 ac),(.sl ah)])]=>g aa ac ah H
 | _=>none
noncomputable def dL.cs (F:Nat) (lM:Int→Int→Sl→Hp→OA) (lN:Int→Int→Sl→Hp→OA):List (FuncId×(List AV→Hp→OA)):=[(19,cj.mk lM),(75,aS.mk lN)]
theorem dL.loops (F:Nat) (lM:Int→Int→Sl→Hp→OA) (lN:Int→Int→Sl→Hp→OA):LoopsOk tabs (mkOrc (dL.cs F lM lN)) dL.pn (dL.lh F lM lN) F [] 1 dL.code (fun tm H=>aresults tabs.ty H tm Try.f33.results.toList fun v=>some (v,H)) (fun _ _ _=>none) (fun tm H=>aresults tabs.ty H tm Try.f33.results.toList fun v=>some (v,H)):=by
 exact loops_none (by kernel_rfl)
theorem dL.eqX (F:Nat) (lM:Int→Int→Sl→Hp→OA) (lN:Int→Int→Sl→Hp→OA) (aa:Int) (ac:Int) (ah:Sl) (H:Hp):aCode tabs (mkOrc (dL.cs F lM lN)) dL.pn (dL.lh F lM lN) F [] 1 dL.code (argTm [(.agg [(.int .i64 aa),(.int .i64 ac),(.sl ah)])]) H (fun tm H=>aresults tabs.ty H tm Try.f33.results.toList fun v=>some (v,H)) (fun _ _ _=>none) (fun tm H=>aresults tabs.ty H tm Try.f33.results.toList fun v=>some (v,H)) = dL.twX F lM lN aa ac ah H:=by kernel_rfl
theorem dL.cs_ok (F:Nat):∀ p ∈ dL.cs F (cj.tw F) (aS.tw F),∀ args H v H',p.2 args H = some (v,H')→Go.AE.T Try.prog p.1 args H v H':=by
 intro p hp
 simp only [dL.cs,List.mem_cons,List.not_mem_nil,or_false] at hp
 rcases hp with rfl | rfl
 ·exact fun args H v H' h=>cj.mk_T h
 ·exact fun args H v H' h=>aS.mk_T h
theorem dL.ok:codeOk dL.pn Try.f33.ntmps dL.tb dL.code = true:=by kernel_rfl
theorem dL.T {F:Nat} {aa:Int} {ac:Int} {ah:Sl} {H:Hp} {v:AV} {H':Hp} (h:dL.tw F aa ac ah H = some (v,H')):Go.AE.T Try.prog 33 [(.agg [(.int .i64 aa),(.int .i64 ac),(.sl ah)])] H v H':=
 Go.AE.T.of (Y:=tabs) (C:=mkOrc (dL.cs F (cj.tw F) (aS.tw F))) (PN:=dL.pn) (LH:=dL.lh F (cj.tw F) (aS.tw F)) (F:=F) (TB:=dL.tb) (fn:=Try.f33) (code:=dL.code) mixed tabs_ok (mkOrc_ok (dL.cs_ok F)) Try.func33 (by kernel_rfl) (by kernel_rfl) dL.ok (Nat.le_of_ble_eq_true (by kernel_rfl)) (dL.loops F (cj.tw F) (aS.tw F)) (Eq.trans (dL.eqX F (cj.tw F) (aS.tw F) aa ac ah H) h)
theorem dL.mk_T {F:Nat} {args:List AV} {H:Hp} {v:AV} {H':Hp} (h:dL.mk (dL.tw F) args H = some (v,H')):Go.AE.T Try.prog 33 args H v H':=by
 unfold dL.mk at h
 split at h
 ·exact dL.T h
 ·cases h
noncomputable def dj.twX (F:Nat) (aa:Int) (ag:Int) (cH:Int) (H:Hp):OA:=(bif (decide (ag ≤ aa)) then (some ((.bool (decide (aa ≤ cH))),H)) else (some ((.bool false),H)))
noncomputable def dj.tw (F:Nat) (aa:Int) (ag:Int) (cH:Int) (H:Hp):OA:=dj.twX F aa ag cH H
noncomputable def dj.code:Go.Code:=(Try.f106.body).getD .skip
noncomputable def dj.lh (F:Nat) (p:Nat) (ks:List Nat) (n:Nat) (tm:Tm) (H:Hp):OA:=none
def dj.pn:Nat→List Nat:=fun i=>(([]:List (Nat×List Nat)).lookup i).getD []
def dj.tb:Nat→List (List Nat):=fun i=>(([]:List (Nat×List (List Nat))).lookup i).getD []
noncomputable def dj.mk (g:Int→Int→Int→Hp→OA) (args:List AV) (H:Hp):OA:=match args with
 | [(.int .i64 aa),(.int .i64 ag),(.int .i64 cH)]=>g aa ag cH H
 | _=>none
noncomputable def dj.cs (F:Nat):List (FuncId×(List AV→Hp→OA)):=[]
theorem dj.loops (F:Nat):LoopsOk tabs (mkOrc (dj.cs F)) dj.pn (dj.lh F) F [] 1 dj.code (fun tm H=>aresults tabs.ty H tm Try.f106.results.toList fun v=>some (v,H)) (fun _ _ _=>none) (fun tm H=>aresults tabs.ty H tm Try.f106.results.toList fun v=>some (v,H)):=by
 exact loops_none (by kernel_rfl)
theorem dj.eqX (F:Nat) (aa:Int) (ag:Int) (cH:Int) (H:Hp):aCode tabs (mkOrc (dj.cs F)) dj.pn (dj.lh F) F [] 1 dj.code (argTm [(.int .i64 aa),(.int .i64 ag),(.int .i64 cH)]) H (fun tm H=>aresults tabs.ty H tm Try.f106.results.toList fun v=>some (v,H)) (fun _ _ _=>none) (fun tm H=>aresults tabs.ty H tm Try.f106.results.toList fun v=>some (v,H)) = dj.twX F aa ag cH H:=by kernel_rfl
theorem dj.cs_ok (F:Nat):∀ p ∈ dj.cs F,∀ args H v H',p.2 args H = some (v,H')→Go.AE.T Try.prog p.1 args H v H':=by
 intro p hp
 exact absurd (show p ∈ [] from hp) List.not_mem_nil
theorem dj.ok:codeOk dj.pn Try.f106.ntmps dj.tb dj.code = true:=by kernel_rfl
theorem dj.T {F:Nat} {aa:Int} {ag:Int} {cH:Int} {H:Hp} {v:AV} {H':Hp} (h:dj.tw F aa ag cH H = some (v,H')):Go.AE.T Try.prog 106 [(.int .i64 aa),(.int .i64 ag),(.int .i64 cH)] H v H':=
 Go.AE.T.of (Y:=tabs) (C:=mkOrc (dj.cs F)) (PN:=dj.pn) (LH:=dj.lh F) (F:=F) (TB:=dj.tb) (fn:=Try.f106) (code:=dj.code) mixed tabs_ok (mkOrc_ok (dj.cs_ok F)) Try.func106 (by kernel_rfl) (by kernel_rfl) dj.ok (Nat.le_of_ble_eq_true (by kernel_rfl)) (dj.loops F) (Eq.trans (dj.eqX F aa ag cH H) h)
theorem dj.mk_T {F:Nat} {args:List AV} {H:Hp} {v:AV} {H':Hp} (h:dj.mk (dj.tw F) args H = some (v,H')):Go.AE.T Try.prog 106 args H v H':=by
 unfold dj.mk at h
 split at h
 ·exact dj.T h
 ·cases h
noncomputable def ee.twX (F:Nat) (aa:Sl) (H:Hp):OA:=some ((.int .i64 (aa.n:Int)),H)
noncomputable def ee.tw (F:Nat) (aa:Sl) (H:Hp):OA:=ee.twX F aa H
noncomputable def ee.code:Go.Code:=(Try.f73.body).getD .skip
noncomputable def ee.lh (F:Nat) (p:Nat) (ks:List Nat) (n:Nat) (tm:Tm) (H:Hp):OA:=none
def ee.pn:Nat→List Nat:=fun i=>(([]:List (Nat×List Nat)).lookup i).getD []
def ee.tb:Nat→List (List Nat):=fun i=>(([]:List (Nat×List (List Nat))).lookup i).getD []
noncomputable def ee.mk (g:Sl→Hp→OA) (args:List AV) (H:Hp):OA:=match args with
 | [(.sl aa)]=>g aa H
 | _=>none
noncomputable def ee.cs (F:Nat):List (FuncId×(List AV→Hp→OA)):=[]
theorem ee.loops (F:Nat):LoopsOk tabs (mkOrc (ee.cs F)) ee.pn (ee.lh F) F [] 1 ee.code (fun tm H=>aresults tabs.ty H tm Try.f73.results.toList fun v=>some (v,H)) (fun _ _ _=>none) (fun tm H=>aresults tabs.ty H tm Try.f73.results.toList fun v=>some (v,H)):=by
 exact loops_none (by kernel_rfl)
theorem ee.eqX (F:Nat) (aa:Sl) (H:Hp):aCode tabs (mkOrc (ee.cs F)) ee.pn (ee.lh F) F [] 1 ee.code (argTm [(.sl aa)]) H (fun tm H=>aresults tabs.ty H tm Try.f73.results.toList fun v=>some (v,H)) (fun _ _ _=>none) (fun tm H=>aresults tabs.ty H tm Try.f73.results.toList fun v=>some (v,H)) = ee.twX F aa H:=by kernel_rfl
theorem ee.cs_ok (F:Nat):∀ p ∈ ee.cs F,∀ args H v H',p.2 args H = some (v,H')→Go.AE.T Try.prog p.1 args H v H':=by
 intro p hp
 exact absurd (show p ∈ [] from hp) List.not_mem_nil
theorem ee.ok:codeOk ee.pn Try.f73.ntmps ee.tb ee.code = true:=by kernel_rfl
theorem ee.T {F:Nat} {aa:Sl} {H:Hp} {v:AV} {H':Hp} (h:ee.tw F aa H = some (v,H')):Go.AE.T Try.prog 73 [(.sl aa)] H v H':=
 Go.AE.T.of (Y:=tabs) (C:=mkOrc (ee.cs F)) (PN:=ee.pn) (LH:=ee.lh F) (F:=F) (TB:=ee.tb) (fn:=Try.f73) (code:=ee.code) mixed tabs_ok (mkOrc_ok (ee.cs_ok F)) Try.func73 (by kernel_rfl) (by kernel_rfl) ee.ok (Nat.le_of_ble_eq_true (by kernel_rfl)) (ee.loops F) (Eq.trans (ee.eqX F aa H) h)
theorem ee.mk_T {F:Nat} {args:List AV} {H:Hp} {v:AV} {H':Hp} (h:ee.mk (ee.tw F) args H = some (v,H')):Go.AE.T Try.prog 73 args H v H':=by
 unfold ee.mk at h
 split at h
 ·exact ee.T h
 ·cases h
noncomputable def dM.twX (F:Nat) (hZ:Int→Int→Int→Hp→OA) (aa:Int) (H:Hp):OA:=(hZ aa (-1000000000000) 1000000000000 H).bind fun r2=>((r2.1).asB).bind fun b3=>some ((.bool (!b3)),r2.2)
noncomputable def dM.tw (F:Nat) (aa:Int) (H:Hp):OA:=dM.twX F (dj.tw F) aa H
noncomputable def dM.code:Go.Code:=(Try.f107.body).getD .skip
noncomputable def dM.lh (F:Nat) (hZ:Int→Int→Int→Hp→OA) (p:Nat) (ks:List Nat) (n:Nat) (tm:Tm) (H:Hp):OA:=none
def dM.pn:Nat→List Nat:=fun i=>(([]:List (Nat×List Nat)).lookup i).getD []
def dM.tb:Nat→List (List Nat):=fun i=>(([]:List (Nat×List (List Nat))).lookup i).getD []
noncomputable def dM.mk (g:Int→Hp→OA) (args:List AV) (H:Hp):OA:=match args with
 | [(.int .i64 aa)]=>g aa H
 | _=>none
noncomputable def dM.cs (F:Nat) (hZ:Int→Int→Int→Hp→OA):List (FuncId×(List AV→Hp→OA)):=[(106,dj.mk hZ)]
theorem dM.loops (F:Nat) (hZ:Int→Int→Int→Hp→OA):LoopsOk tabs (mkOrc (dM.cs F hZ)) dM.pn (dM.lh F hZ) F [] 1 dM.code (fun tm H=>aresults tabs.ty H tm Try.f107.results.toList fun v=>some (v,H)) (fun _ _ _=>none) (fun tm H=>aresults tabs.ty H tm Try.f107.results.toList fun v=>some (v,H)):=by
 exact loops_none (by kernel_rfl)
theorem dM.eqX (F:Nat) (hZ:Int→Int→Int→Hp→OA) (aa:Int) (H:Hp):aCode tabs (mkOrc (dM.cs F hZ)) dM.pn (dM.lh F hZ) F [] 1 dM.code (argTm [(.int .i64 aa)]) H (fun tm H=>aresults tabs.ty H tm Try.f107.results.toList fun v=>some (v,H)) (fun _ _ _=>none) (fun tm H=>aresults tabs.ty H tm Try.f107.results.toList fun v=>some (v,H)) = dM.twX F hZ aa H:=by kernel_rfl
theorem dM.cs_ok (F:Nat):∀ p ∈ dM.cs F (dj.tw F),∀ args H v H',p.2 args H = some (v,H')→Go.AE.T Try.prog p.1 args H v H':=by
 intro p hp
 simp only [dM.cs,List.mem_cons,List.not_mem_nil,or_false] at hp
 subst hp
 exact fun args H v H' h=>dj.mk_T h
theorem dM.ok:codeOk dM.pn Try.f107.ntmps dM.tb dM.code = true:=by kernel_rfl
theorem dM.T {F:Nat} {aa:Int} {H:Hp} {v:AV} {H':Hp} (h:dM.tw F aa H = some (v,H')):Go.AE.T Try.prog 107 [(.int .i64 aa)] H v H':=
 Go.AE.T.of (Y:=tabs) (C:=mkOrc (dM.cs F (dj.tw F))) (PN:=dM.pn) (LH:=dM.lh F (dj.tw F)) (F:=F) (TB:=dM.tb) (fn:=Try.f107) (code:=dM.code) mixed tabs_ok (mkOrc_ok (dM.cs_ok F)) Try.func107 (by kernel_rfl) (by kernel_rfl) dM.ok (Nat.le_of_ble_eq_true (by kernel_rfl)) (dM.loops F (dj.tw F)) (Eq.trans (dM.eqX F (dj.tw F) aa H) h)
theorem dM.mk_T {F:Nat} {args:List AV} {H:Hp} {v:AV} {H':Hp} (h:dM.mk (dM.tw F) args H = some (v,H')):Go.AE.T Try.prog 107 args H v H':=by
 unfold dM.mk at h
 split at h
 ·exact dM.T h
 ·cases h
noncomputable def cp.l13 (F:Nat) (iO:Int→Hp→OA) :Nat→Sl→Int→Int→Hp→OA
 | 0,_,_,_,_=>none
 | hU + 1,gN,fY,fj,H6=>(bif (decide (fj < fY)) then ((Sl.idx gN fj 1).bind fun p11=>(Hp.ldI H6 .i64 p11.1 p11.2).bind fun n12=>(iO n12 H6).bind fun r13=>((r13.1).asB).bind fun b14=>(bif b14 then (some ((.int .i64 fj),r13.2)) else (cp.l13 F iO hU gN fY (IntKind.i64.wrap (fj + 1)) r13.2))) else (some ((.int .i64 (-1)),H6)))
termination_by structural n=>n
noncomputable def cp.twX (F:Nat) (iO:Int→Hp→OA) (aa:Sl) (H:Hp):OA:=cp.l13 F iO F aa (aa.n:Int) 0 H
noncomputable def cp.tw (F:Nat) (aa:Sl) (H:Hp):OA:=cp.twX F (dM.tw F) aa H
noncomputable def cp.code:Go.Code:=(Try.f117.body).getD .skip
noncomputable def cp.lh13 (F:Nat) (iO:Int→Hp→OA) (ks:List Nat) (n:Nat) (tm:Tm) (H:Hp):OA:=match ks,tm 0,tm 1,tm 7,tm 8 with
 | [],(.sl gN),(.fn 107 []),(.int .i64 fY),(.int .i64 fj)=>cp.l13 F iO n gN fY fj H
 | _,_,_,_,_=>none
theorem cp.lh13_inv {F:Nat} {iO:Int→Hp→OA} {ks:List Nat} {n:Nat} {tm:Tm} {H:Hp} {r:AV×Hp} (h:cp.lh13 F iO ks n tm H = some r):∃ gN:Sl,∃ fY:Int,∃ fj:Int,ks = []∧tm 0 = (.sl gN)∧tm 1 = (.fn 107 [])∧tm 7 = (.int .i64 fY)∧tm 8 = (.int .i64 fj)∧cp.l13 F iO n gN fY fj H = some r:=by
 unfold cp.lh13 at h
 split at h
 ·exact ⟨_,_,_,rfl,by assumption,by assumption,by assumption,by assumption,h⟩
 ·cases h
noncomputable def cp.lh (F:Nat) (iO:Int→Hp→OA) (p:Nat) (ks:List Nat) (n:Nat) (tm:Tm) (H:Hp):OA:=bif p.beq 13 then cp.lh13 F iO ks n tm H else (none)
def cp.pn:Nat→List Nat:=fun i=>(([]:List (Nat×List Nat)).lookup i).getD []
def cp.tb:Nat→List (List Nat):=fun i=>(([]:List (Nat×List (List Nat))).lookup i).getD []
noncomputable def cp.mk (g:Sl→Hp→OA) (args:List AV) (H:Hp):OA:=match args with
 | [(.sl aa),(.fn 107 [])]=>g aa H
 | _=>none
noncomputable def cp.cs (F:Nat) (iO:Int→Hp→OA):List (FuncId×(List AV→Hp→OA)):=[(107,dM.mk iO)]
theorem cp.loops (F:Nat) (iO:Int→Hp→OA):LoopsOk tabs (mkOrc (cp.cs F iO)) cp.pn (cp.lh F iO) F [] 1 cp.code (fun tm H=>aresults tabs.ty H tm Try.f117.results.toList fun v=>some (v,H)) (fun _ _ _=>none) (fun tm H=>aresults tabs.ty H tm Try.f117.results.toList fun v=>some (v,H)):=by
 refine LoopsOk.seq ?_ ?_
 ·exact loops_none (by kernel_rfl)
 ·refine LoopsOk.seq ?_ ?_
  ·refine LoopsOk.seq ?_ ?_
   ·exact loops_none (by kernel_rfl)
   ·refine LoopsOk.block ?_
    refine LoopsOk.loop (fun tm H=>?_) (fun k13 tm H r h0=>?_) (fun k13=>?_)
    ·refine none_of fun r h0=>?_
     obtain ⟨gN,fY,fj,hks,e0,e1,e7,e8,h⟩:=cp.lh13_inv (show cp.lh13 F iO [] 0 tm H = some r from h0)
     cases h
    ·obtain ⟨gN,fY,fj,hks,e0,e1,e7,e8,h⟩:=cp.lh13_inv (show cp.lh13 F iO [] (k13 + 1) tm H = some r from h0)
     have q0:(Tm.put tm 0 (.sl gN)) = tm:=by exact Tm.put_same e0
     have q1:(Tm.put (Tm.put tm 0 (.sl gN)) 1 (.fn 107 [])) = tm:=by rw [q0]; exact Tm.put_same e1
     have q2:(Tm.put (Tm.put (Tm.put tm 0 (.sl gN)) 1 (.fn 107 [])) 7 (.int .i64 fY)) = tm:=by rw [q1]; exact Tm.put_same e7
     have q3:(Tm.put (Tm.put (Tm.put (Tm.put tm 0 (.sl gN)) 1 (.fn 107 [])) 7 (.int .i64 fY)) 8 (.int .i64 fj)) = tm:=by rw [q2]; exact Tm.put_same e8
     rw [← q3]
     exact Eq.trans (by kernel_rfl) h
    ·exact loops_none (by kernel_rfl)
  ·exact loops_none (by kernel_rfl)
theorem cp.eqX (F:Nat) (iO:Int→Hp→OA) (aa:Sl) (H:Hp):aCode tabs (mkOrc (cp.cs F iO)) cp.pn (cp.lh F iO) F [] 1 cp.code (argTm [(.sl aa),(.fn 107 [])]) H (fun tm H=>aresults tabs.ty H tm Try.f117.results.toList fun v=>some (v,H)) (fun _ _ _=>none) (fun tm H=>aresults tabs.ty H tm Try.f117.results.toList fun v=>some (v,H)) = cp.twX F iO aa H:=by kernel_rfl
theorem cp.cs_ok (F:Nat):∀ p ∈ cp.cs F (dM.tw F),∀ args H v H',p.2 args H = some (v,H')→Go.AE.T Try.prog p.1 args H v H':=by
 intro p hp
 simp only [cp.cs,List.mem_cons,List.not_mem_nil,or_false] at hp
 subst hp
 exact fun args H v H' h=>dM.mk_T h
theorem cp.ok:codeOk cp.pn Try.f117.ntmps cp.tb cp.code = true:=by kernel_rfl
theorem cp.T {F:Nat} {aa:Sl} {H:Hp} {v:AV} {H':Hp} (h:cp.tw F aa H = some (v,H')):Go.AE.T Try.prog 117 [(.sl aa),(.fn 107 [])] H v H':=
 Go.AE.T.of (Y:=tabs) (C:=mkOrc (cp.cs F (dM.tw F))) (PN:=cp.pn) (LH:=cp.lh F (dM.tw F)) (F:=F) (TB:=cp.tb) (fn:=Try.f117) (code:=cp.code) mixed tabs_ok (mkOrc_ok (cp.cs_ok F)) Try.func117 (by kernel_rfl) (by kernel_rfl) cp.ok (Nat.le_of_ble_eq_true (by kernel_rfl)) (cp.loops F (dM.tw F)) (Eq.trans (cp.eqX F (dM.tw F) aa H) h)
theorem cp.mk_T {F:Nat} {args:List AV} {H:Hp} {v:AV} {H':Hp} (h:cp.mk (cp.tw F) args H = some (v,H')):Go.AE.T Try.prog 117 args H v H':=by
 unfold cp.mk at h
 split at h
 ·exact cp.T h
 ·cases h
noncomputable def dV.twX (F:Nat) (lO:Sl→Hp→OA) (aa:Sl) (H:Hp):OA:=(lO aa H).bind fun r2=>((r2.1).asI .i64).bind fun n3=>some ((.bool (decide (n3 ≥ 0))),r2.2)
noncomputable def dV.tw (F:Nat) (aa:Sl) (H:Hp):OA:=dV.twX F (cp.tw F) aa H
noncomputable def dV.code:Go.Code:=(Try.f81.body).getD .skip
noncomputable def dV.lh (F:Nat) (lO:Sl→Hp→OA) (p:Nat) (ks:List Nat) (n:Nat) (tm:Tm) (H:Hp):OA:=none
def dV.pn:Nat→List Nat:=fun i=>(([]:List (Nat×List Nat)).lookup i).getD []
def dV.tb:Nat→List (List Nat):=fun i=>(([]:List (Nat×List (List Nat))).lookup i).getD []
noncomputable def dV.mk (g:Sl→Hp→OA) (args:List AV) (H:Hp):OA:=match args with
 | [(.sl aa),(.fn 107 [])]=>g aa H
 | _=>none
noncomputable def dV.cs (F:Nat) (lO:Sl→Hp→OA):List (FuncId×(List AV→Hp→OA)):=[(117,cp.mk lO)]
theorem dV.loops (F:Nat) (lO:Sl→Hp→OA):LoopsOk tabs (mkOrc (dV.cs F lO)) dV.pn (dV.lh F lO) F [] 1 dV.code (fun tm H=>aresults tabs.ty H tm Try.f81.results.toList fun v=>some (v,H)) (fun _ _ _=>none) (fun tm H=>aresults tabs.ty H tm Try.f81.results.toList fun v=>some (v,H)):=by
 exact loops_none (by kernel_rfl)
theorem dV.eqX (F:Nat) (lO:Sl→Hp→OA) (aa:Sl) (H:Hp):aCode tabs (mkOrc (dV.cs F lO)) dV.pn (dV.lh F lO) F [] 1 dV.code (argTm [(.sl aa),(.fn 107 [])]) H (fun tm H=>aresults tabs.ty H tm Try.f81.results.toList fun v=>some (v,H)) (fun _ _ _=>none) (fun tm H=>aresults tabs.ty H tm Try.f81.results.toList fun v=>some (v,H)) = dV.twX F lO aa H:=by kernel_rfl
theorem dV.cs_ok (F:Nat):∀ p ∈ dV.cs F (cp.tw F),∀ args H v H',p.2 args H = some (v,H')→Go.AE.T Try.prog p.1 args H v H':=by
 intro p hp
 simp only [dV.cs,List.mem_cons,List.not_mem_nil,or_false] at hp
 subst hp
 exact fun args H v H' h=>cp.mk_T h
theorem dV.ok:codeOk dV.pn Try.f81.ntmps dV.tb dV.code = true:=by kernel_rfl
theorem dV.T {F:Nat} {aa:Sl} {H:Hp} {v:AV} {H':Hp} (h:dV.tw F aa H = some (v,H')):Go.AE.T Try.prog 81 [(.sl aa),(.fn 107 [])] H v H':=
 Go.AE.T.of (Y:=tabs) (C:=mkOrc (dV.cs F (cp.tw F))) (PN:=dV.pn) (LH:=dV.lh F (cp.tw F)) (F:=F) (TB:=dV.tb) (fn:=Try.f81) (code:=dV.code) mixed tabs_ok (mkOrc_ok (dV.cs_ok F)) Try.func81 (by kernel_rfl) (by kernel_rfl) dV.ok (Nat.le_of_ble_eq_true (by kernel_rfl)) (dV.loops F (cp.tw F)) (Eq.trans (dV.eqX F (cp.tw F) aa H) h)
theorem dV.mk_T {F:Nat} {args:List AV} {H:Hp} {v:AV} {H':Hp} (h:dV.mk (dV.tw F) args H = some (v,H')):Go.AE.T Try.prog 81 args H v H':=by
 unfold dV.mk at h
 split at h
 ·exact dV.T h
 ·cases h
noncomputable def dN.twX (F:Nat) (hZ:Int→Int→Int→Hp→OA) (lP:Sl→Hp→OA) (lQ:Sl→Hp→OA) (aa:Int) (ac:Int) (ah:Sl) (H:Hp):OA:=(Hp.new H [(.int .i64 aa),(.int .i64 ac),(.sl ah)]).bind fun H4=>(Hp.ldI H4 .i64 H.length 0).bind fun n5=>(hZ n5 0 48 H4).bind fun r6=>((r6.1).asB).bind fun b7=>(bif b7 then ((Hp.ldI r6.2 .i64 H.length 1).bind fun n8=>(hZ n8 0 48 r6.2).bind fun r9=>((r9.1).asB).bind fun b10=>(bif b10 then ((Hp.ldSl r9.2 H.length 2).bind fun s11=>(lP s11 r9.2).bind fun r12=>((r12.1).asI .i64).bind fun n13=>(if Cons r9.2 r12.2 then ((Hp.ldI r12.2 .i64 H.length 0).bind fun n14=>(Hp.ldI r12.2 .i64 H.length 1).bind fun n15=>(bif (n13 == (IntKind.i64.wrap (n14 * n15))) then ((Hp.ldSl r12.2 H.length 2).bind fun s16=>(lQ s16 r12.2).bind fun r17=>((r17.1).asB).bind fun b18=>some ((.bool (!b18)),r17.2)) else (some ((.bool false),r12.2)))) else none)) else (some ((.bool false),r9.2)))) else (some ((.bool false),r6.2)))
noncomputable def dN.tw (F:Nat) (aa:Int) (ac:Int) (ah:Sl) (H:Hp):OA:=dN.twX F (dj.tw F) (ee.tw F) (dV.tw F) aa ac ah H
noncomputable def dN.code:Go.Code:=(Try.f61.body).getD .skip
noncomputable def dN.lh (F:Nat) (hZ:Int→Int→Int→Hp→OA) (lP:Sl→Hp→OA) (lQ:Sl→Hp→OA) (p:Nat) (ks:List Nat) (n:Nat) (tm:Tm) (H:Hp):OA:=none
def dN.pn:Nat→List Nat:=fun i=>(([(1,[2,6,22])]:List (Nat×List Nat)).lookup i).getD []
def dN.tb:Nat→List (List Nat):=fun i=>(([(1,[[],[0],[0,1],[0,1,2],[0,1,2,3],[0,1,2,3,4],[0,1,2,3,4,5],[0,1,2,3,4,5,6],[0,1,2,3,4,5,6,7],[0,1,2,3,4,5,6,7,8],[0,1,2,3,4,5,6,7,8,9],[0,1,2,3,4,5,6,7,8,9,10],[0,1,2,3,4,5,6,7,8],[0,1,2,3,4,5,6,7,8,12],[0,1,2,3,4,5,6,7,8],[0,1,2,3,4,5,6,7,8,14],[0,1,2,3,4,5,6,7,8,12,13,14,15],[0,1,2,3,4,5,6,7,8,9,10,11,12,13,14,15,16],[0,1,2,3,4,5,6,7,8,9,10,11,12,13,14,15,16,17],[0,1,2,3,4,5,6,7,8,9,10,11,12,13,14,15,16,17,18],[0,1,2,3,4,5,6,7,8,9,10,11,12,13,14,15,16,17,18,19],[0,1,2,3,4,5,6,7,8,9,10,11,12,13,14,15,16,17,18,19,20],[0,1,2,3,4,5,6,7,8,9,10,11,12,13,14,15,16,17,18,19,20,21],[0,1,2,3,4,5,6,7,8,9,10,11,12,13,14,15,16,17,18,19,20,21,22],[0,1,2,3,4,5,6,7,8,9,10,11,12,13,14,15,16,17,18,19,20,21,22,23],[0,1,2,3,4,5,6,7,8,9,10,11,12,13,14,15,16,17,18,19,20,21,22,23,24]])]:List (Nat×List (List Nat))).lookup i).getD []
noncomputable def dN.mk (g:Int→Int→Sl→Hp→OA) (args:List AV) (H:Hp):OA:=match args with
 | [(.agg [(.int .i64 aa),(.int .i64 ac),(.sl ah)])]=>g aa ac ah H
 | _=>none
noncomputable def dN.cs (F:Nat) (hZ:Int→Int→Int→Hp→OA) (lP:Sl→Hp→OA) (lQ:Sl→Hp→OA):List (FuncId×(List AV→Hp→OA)):=[(106,dj.mk hZ),(73,ee.mk lP),(81,dV.mk lQ)]
theorem dN.loops (F:Nat) (hZ:Int→Int→Int→Hp→OA) (lP:Sl→Hp→OA) (lQ:Sl→Hp→OA):LoopsOk tabs (mkOrc (dN.cs F hZ lP lQ)) dN.pn (dN.lh F hZ lP lQ) F [] 1 dN.code (fun tm H=>aresults tabs.ty H tm Try.f61.results.toList fun v=>some (v,H)) (fun _ _ _=>none) (fun tm H=>aresults tabs.ty H tm Try.f61.results.toList fun v=>some (v,H)):=by
 exact loops_none (by kernel_rfl)
theorem dN.eqX (F:Nat) (hZ:Int→Int→Int→Hp→OA) (lP:Sl→Hp→OA) (lQ:Sl→Hp→OA) (aa:Int) (ac:Int) (ah:Sl) (H:Hp):aCode tabs (mkOrc (dN.cs F hZ lP lQ)) dN.pn (dN.lh F hZ lP lQ) F [] 1 dN.code (argTm [(.agg [(.int .i64 aa),(.int .i64 ac),(.sl ah)])]) H (fun tm H=>aresults tabs.ty H tm Try.f61.results.toList fun v=>some (v,H)) (fun _ _ _=>none) (fun tm H=>aresults tabs.ty H tm Try.f61.results.toList fun v=>some (v,H)) = dN.twX F hZ lP lQ aa ac ah H:=by kernel_rfl
theorem dN.cs_ok (F:Nat):∀ p ∈ dN.cs F (dj.tw F) (ee.tw F) (dV.tw F),∀ args H v H',p.2 args H = some (v,H')→Go.AE.T Try.prog p.1 args H v H':=by
 intro p hp
 simp only [dN.cs,List.mem_cons,List.not_mem_nil,or_false] at hp
 rcases hp with rfl | rfl | rfl
 ·exact fun args H v H' h=>dj.mk_T h
 ·exact fun args H v H' h=>ee.mk_T h
 ·exact fun args H v H' h=>dV.mk_T h
theorem dN.ok:codeOk dN.pn Try.f61.ntmps dN.tb dN.code = true:=by kernel_rfl
theorem dN.T {F:Nat} {aa:Int} {ac:Int} {ah:Sl} {H:Hp} {v:AV} {H':Hp} (h:dN.tw F aa ac ah H = some (v,H')):Go.AE.T Try.prog 61 [(.agg [(.int .i64 aa),(.int .i64 ac),(.sl ah)])] H v H':=
 Go.AE.T.of (Y:=tabs) (C:=mkOrc (dN.cs F (dj.tw F) (ee.tw F) (dV.tw F))) (PN:=dN.pn) (LH:=dN.lh F (dj.tw F) (ee.tw F) (dV.tw F)) (F:=F) (TB:=dN.tb) (fn:=Try.f61) (code:=dN.code) mixed tabs_ok (mkOrc_ok (dN.cs_ok F)) Try.func61 (by kernel_rfl) (by kernel_rfl) dN.ok (Nat.le_of_ble_eq_true (by kernel_rfl)) (dN.loops F (dj.tw F) (ee.tw F) (dV.tw F)) (Eq.trans (dN.eqX F (dj.tw F) (ee.tw F) (dV.tw F) aa ac ah H) h)
theorem dN.mk_T {F:Nat} {args:List AV} {H:Hp} {v:AV} {H':Hp} (h:dN.mk (dN.tw F) args H = some (v,H')):Go.AE.T Try.prog 61 args H v H':=by
 unfold dN.mk at h
 split at h
 ·exact dN.T h
 ·cases h
noncomputable def dW.twX (F:Nat) (aa:Int) (ag:Int) (H:Hp):OA:=(Hp.new H [.int .i64 0,.int .i64 0,.sl ⟨none,0,.ex 0⟩]).bind fun H3=>(Hp.mk H3 [.int .i64 0] 8 (IntKind.i64.wrap (aa * ag)) (IntKind.i64.wrap (aa * ag))).bind fun m4=>(Hp.st m4.2 H.length 0 (.int .i64 aa)).bind fun H5=>(Hp.st H5 H.length (0 + 1) (.int .i64 ag)).bind fun H6=>(Hp.st H6 H.length (0 + 1 + 1) (.sl m4.1)).bind fun H7=>(Hp.ldI H7 .i64 H.length 0).bind fun n8=>(Hp.ldI H7 .i64 H.length (0 + 1)).bind fun n9=>(Hp.ldSl H7 H.length (0 + 2)).bind fun s10=>some ((.agg [(.int .i64 n8),(.int .i64 n9),(.sl s10)]),H7)
noncomputable def dW.tw (F:Nat) (aa:Int) (ag:Int) (H:Hp):OA:=dW.twX F aa ag H
noncomputable def dW.code:Go.Code:=(Try.f94.body).getD .skip
noncomputable def dW.lh (F:Nat) (p:Nat) (ks:List Nat) (n:Nat) (tm:Tm) (H:Hp):OA:=none
def dW.pn:Nat→List Nat:=fun i=>(([]:List (Nat×List Nat)).lookup i).getD []
def dW.tb:Nat→List (List Nat):=fun i=>(([]:List (Nat×List (List Nat))).lookup i).getD []
noncomputable def dW.mk (g:Int→Int→Hp→OA) (args:List AV) (H:Hp):OA:=match args with
 | [(.int .i64 aa),(.int .i64 ag)]=>g aa ag H
 | _=>none
noncomputable def dW.cs (F:Nat):List (FuncId×(List AV→Hp→OA)):=[]
theorem dW.loops (F:Nat):LoopsOk tabs (mkOrc (dW.cs F)) dW.pn (dW.lh F) F [] 1 dW.code (fun tm H=>aresults tabs.ty H tm Try.f94.results.toList fun v=>some (v,H)) (fun _ _ _=>none) (fun tm H=>aresults tabs.ty H tm Try.f94.results.toList fun v=>some (v,H)):=by
 exact loops_none (by kernel_rfl)
theorem dW.eqX (F:Nat) (aa:Int) (ag:Int) (H:Hp):aCode tabs (mkOrc (dW.cs F)) dW.pn (dW.lh F) F [] 1 dW.code (argTm [(.int .i64 aa),(.int .i64 ag)]) H (fun tm H=>aresults tabs.ty H tm Try.f94.results.toList fun v=>some (v,H)) (fun _ _ _=>none) (fun tm H=>aresults tabs.ty H tm Try.f94.results.toList fun v=>some (v,H)) = dW.twX F aa ag H:=by kernel_rfl
theorem dW.cs_ok (F:Nat):∀ p ∈ dW.cs F,∀ args H v H',p.2 args H = some (v,H')→Go.AE.T Try.prog p.1 args H v H':=by
 intro p hp
 exact absurd (show p ∈ [] from hp) List.not_mem_nil
theorem dW.ok:codeOk dW.pn Try.f94.ntmps dW.tb dW.code = true:=by kernel_rfl
theorem dW.T {F:Nat} {aa:Int} {ag:Int} {H:Hp} {v:AV} {H':Hp} (h:dW.tw F aa ag H = some (v,H')):Go.AE.T Try.prog 94 [(.int .i64 aa),(.int .i64 ag)] H v H':=
 Go.AE.T.of (Y:=tabs) (C:=mkOrc (dW.cs F)) (PN:=dW.pn) (LH:=dW.lh F) (F:=F) (TB:=dW.tb) (fn:=Try.f94) (code:=dW.code) mixed tabs_ok (mkOrc_ok (dW.cs_ok F)) Try.func94 (by kernel_rfl) (by kernel_rfl) dW.ok (Nat.le_of_ble_eq_true (by kernel_rfl)) (dW.loops F) (Eq.trans (dW.eqX F aa ag H) h)
theorem dW.mk_T {F:Nat} {args:List AV} {H:Hp} {v:AV} {H':Hp} (h:dW.mk (dW.tw F) args H = some (v,H')):Go.AE.T Try.prog 94 args H v H':=by
 unfold dW.mk at h
 split at h
 ·exact dW.T h
 ·cases h
noncomputable def aP.twX (F:Nat) (aa:Int) (ac:Int) (ah:Sl) (af:Int) (bi:Int) (H:Hp):OA:=(Hp.new H [(.int .i64 aa),(.int .i64 ac),(.sl ah)]).bind fun H6=>(Hp.ldSl H6 H.length 2).bind fun s7=>(Hp.ldI H6 .i64 H.length 1).bind fun n8=>(Sl.idx s7 (IntKind.i64.wrap ((IntKind.i64.wrap (af * n8)) + bi)) 1).bind fun p9=>some ((.ptr p9.1 p9.2),H6)
noncomputable def aP.tw (F:Nat) (aa:Int) (ac:Int) (ah:Sl) (af:Int) (bi:Int) (H:Hp):OA:=aP.twX F aa ac ah af bi H
noncomputable def aP.code:Go.Code:=(Try.f95.body).getD .skip
noncomputable def aP.lh (F:Nat) (p:Nat) (ks:List Nat) (n:Nat) (tm:Tm) (H:Hp):OA:=none
def aP.pn:Nat→List Nat:=fun i=>(([]:List (Nat×List Nat)).lookup i).getD []
def aP.tb:Nat→List (List Nat):=fun i=>(([]:List (Nat×List (List Nat))).lookup i).getD []
noncomputable def aP.mk (g:Int→Int→Sl→Int→Int→Hp→OA) (args:List AV) (H:Hp):OA:=match args with
 | [(.agg [(.int .i64 aa),(.int .i64 ac),(.sl ah)]),(.int .i64 af),(.int .i64 bi)]=>g aa ac ah af bi H
 | _=>none
noncomputable def aP.cs (F:Nat):List (FuncId×(List AV→Hp→OA)):=[]
theorem aP.loops (F:Nat):LoopsOk tabs (mkOrc (aP.cs F)) aP.pn (aP.lh F) F [] 1 aP.code (fun tm H=>aresults tabs.ty H tm Try.f95.results.toList fun v=>some (v,H)) (fun _ _ _=>none) (fun tm H=>aresults tabs.ty H tm Try.f95.results.toList fun v=>some (v,H)):=by
 exact loops_none (by kernel_rfl)
theorem aP.eqX (F:Nat) (aa:Int) (ac:Int) (ah:Sl) (af:Int) (bi:Int) (H:Hp):aCode tabs (mkOrc (aP.cs F)) aP.pn (aP.lh F) F [] 1 aP.code (argTm [(.agg [(.int .i64 aa),(.int .i64 ac),(.sl ah)]),(.int .i64 af),(.int .i64 bi)]) H (fun tm H=>aresults tabs.ty H tm Try.f95.results.toList fun v=>some (v,H)) (fun _ _ _=>none) (fun tm H=>aresults tabs.ty H tm Try.f95.results.toList fun v=>some (v,H)) = aP.twX F aa ac ah af bi H:=by kernel_rfl
theorem aP.cs_ok (F:Nat):∀ p ∈ aP.cs F,∀ args H v H',p.2 args H = some (v,H')→Go.AE.T Try.prog p.1 args H v H':=by
 intro p hp
 exact absurd (show p ∈ [] from hp) List.not_mem_nil
theorem aP.ok:codeOk aP.pn Try.f95.ntmps aP.tb aP.code = true:=by kernel_rfl
theorem aP.T {F:Nat} {aa:Int} {ac:Int} {ah:Sl} {af:Int} {bi:Int} {H:Hp} {v:AV} {H':Hp} (h:aP.tw F aa ac ah af bi H = some (v,H')):Go.AE.T Try.prog 95 [(.agg [(.int .i64 aa),(.int .i64 ac),(.sl ah)]),(.int .i64 af),(.int .i64 bi)] H v H':=
 Go.AE.T.of (Y:=tabs) (C:=mkOrc (aP.cs F)) (PN:=aP.pn) (LH:=aP.lh F) (F:=F) (TB:=aP.tb) (fn:=Try.f95) (code:=aP.code) mixed tabs_ok (mkOrc_ok (aP.cs_ok F)) Try.func95 (by kernel_rfl) (by kernel_rfl) aP.ok (Nat.le_of_ble_eq_true (by kernel_rfl)) (aP.loops F) (Eq.trans (aP.eqX F aa ac ah af bi H) h)
theorem aP.mk_T {F:Nat} {args:List AV} {H:Hp} {v:AV} {H':Hp} (h:aP.mk (aP.tw F) args H = some (v,H')):Go.AE.T Try.prog 95 args H v H':=by
 unfold aP.mk at h
 split at h
 ·exact aP.T h
 ·cases h
noncomputable def bK.l29 (F:Nat) (iR:Int→Int→Hp→OA) (ai:Int→Int→Sl→Int→Int→Hp→OA) :Nat→Nat→Nat→Nat→Nat→Int→Int→Hp→OA
 | 0,_,_,_,_,_,_,_=>none
 | eP + 1,cd,gd,fA,gw,jE,iS,H22=>(bif (decide (iS < jE)) then ((Hp.ldI H22 .i64 fA gw).bind fun n38=>(Hp.ldI H22 .i64 fA (gw + 1)).bind fun n39=>(Hp.ldSl H22 fA (gw + 2)).bind fun s40=>(ai n38 n39 s40 iS iS H22).bind fun r41=>((r41.1).asP).bind fun p42=>(Hp.st r41.2 p42.1 p42.2 (.int .i64 1)).bind fun H43=>bK.l29 F iR ai eP cd gd fA gw jE (IntKind.i64.wrap (iS + 1)) H43) else ((Hp.ldI H22 .i64 fA gw).bind fun n44=>(Hp.ldI H22 .i64 fA (gw + 1)).bind fun n45=>(Hp.ldSl H22 fA (gw + 2)).bind fun s46=>(Hp.st H22 cd gd (.int .i64 n44)).bind fun H47=>(Hp.st H47 cd (gd + 1) (.int .i64 n45)).bind fun H48=>(Hp.st H48 cd (gd + 1 + 1) (.sl s46)).bind fun H49=>(Hp.ldI H49 .i64 cd gd).bind fun n50=>(Hp.ldI H49 .i64 cd (gd + 1)).bind fun n51=>(Hp.ldSl H49 cd (gd + 2)).bind fun s52=>some ((.agg [(.int .i64 n50),(.int .i64 n51),(.sl s52)]),H49)))
termination_by structural n=>n
noncomputable def bK.twX (F:Nat) (iR:Int→Int→Hp→OA) (ai:Int→Int→Sl→Int→Int→Hp→OA) (aa:Int) (H:Hp):OA:=(Hp.new H [.int .i64 0,.int .i64 0,.sl ⟨none,0,.ex 0⟩]).bind fun H2=>(iR aa aa H2).bind fun r3=>((r3.1).asAgg 3).bind fun l4=>(l4[0]?).bind fun v5=>((v5).asI .i64).bind fun n6=>(l4[1]?).bind fun v7=>((v7).asI .i64).bind fun n8=>(l4[2]?).bind fun v9=>((v9).asSl).bind fun s10=>(Hp.new r3.2 [.int .i64 0,.int .i64 0,.sl ⟨none,0,.ex 0⟩]).bind fun H11=>(Hp.st H11 r3.2.length 0 (.int .i64 n6)).bind fun H12=>(Hp.st H12 r3.2.length (0 + 1) (.int .i64 n8)).bind fun H13=>(Hp.st H13 r3.2.length (0 + 1 + 1) (.sl s10)).bind fun H14=>bK.l29 F iR ai F H.length 0 r3.2.length 0 aa 0 H14
noncomputable def bK.tw (F:Nat) (aa:Int) (H:Hp):OA:=bK.twX F (dW.tw F) (aP.tw F) aa H
noncomputable def bK.code:Go.Code:=(Try.f110.body).getD .skip
noncomputable def bK.lh29 (F:Nat) (iR:Int→Int→Hp→OA) (ai:Int→Int→Sl→Int→Int→Hp→OA) (ks:List Nat) (n:Nat) (tm:Tm) (H:Hp):OA:=match ks,tm 2,tm 3,tm 8,tm 9 with
 | [],(.ptr cd gd),(.ptr fA gw),(.int .i64 jE),(.int .i64 iS)=>bK.l29 F iR ai n cd gd fA gw jE iS H
 | _,_,_,_,_=>none
theorem bK.lh29_inv {F:Nat} {iR:Int→Int→Hp→OA} {ai:Int→Int→Sl→Int→Int→Hp→OA} {ks:List Nat} {n:Nat} {tm:Tm} {H:Hp} {r:AV×Hp} (h:bK.lh29 F iR ai ks n tm H = some r):∃ cd:Nat,∃ gd:Nat,∃ fA:Nat,∃ gw:Nat,∃ jE:Int,∃ iS:Int,ks = []∧tm 2 = (.ptr cd gd)∧tm 3 = (.ptr fA gw)∧tm 8 = (.int .i64 jE)∧tm 9 = (.int .i64 iS)∧bK.l29 F iR ai n cd gd fA gw jE iS H = some r:=by
 unfold bK.lh29 at h
 split at h
 ·exact ⟨_,_,_,_,_,_,rfl,by assumption,by assumption,by assumption,by assumption,h⟩
 ·cases h
noncomputable def bK.lh (F:Nat) (iR:Int→Int→Hp→OA) (ai:Int→Int→Sl→Int→Int→Hp→OA) (p:Nat) (ks:List Nat) (n:Nat) (tm:Tm) (H:Hp):OA:=bif p.beq 29 then bK.lh29 F iR ai ks n tm H else (none)
def bK.pn:Nat→List Nat:=fun i=>(([]:List (Nat×List Nat)).lookup i).getD []
def bK.tb:Nat→List (List Nat):=fun i=>(([]:List (Nat×List (List Nat))).lookup i).getD []
noncomputable def bK.mk (g:Int→Hp→OA) (args:List AV) (H:Hp):OA:=match args with
 | [(.int .i64 aa)]=>g aa H
 | _=>none
noncomputable def bK.cs (F:Nat) (iR:Int→Int→Hp→OA) (ai:Int→Int→Sl→Int→Int→Hp→OA):List (FuncId×(List AV→Hp→OA)):=[(94,dW.mk iR),(95,aP.mk ai)]
theorem bK.loops (F:Nat) (iR:Int→Int→Hp→OA) (ai:Int→Int→Sl→Int→Int→Hp→OA):LoopsOk tabs (mkOrc (bK.cs F iR ai)) bK.pn (bK.lh F iR ai) F [] 1 bK.code (fun tm H=>aresults tabs.ty H tm Try.f110.results.toList fun v=>some (v,H)) (fun _ _ _=>none) (fun tm H=>aresults tabs.ty H tm Try.f110.results.toList fun v=>some (v,H)):=by
 refine LoopsOk.seq ?_ ?_
 ·exact loops_none (by kernel_rfl)
 ·refine LoopsOk.seq ?_ ?_
  ·exact loops_none (by kernel_rfl)
  ·refine LoopsOk.seq ?_ ?_
   ·refine LoopsOk.seq ?_ ?_
    ·exact loops_none (by kernel_rfl)
    ·refine LoopsOk.block ?_
     refine LoopsOk.loop (fun tm H=>?_) (fun k29 tm H r h0=>?_) (fun k29=>?_)
     ·refine none_of fun r h0=>?_
      obtain ⟨cd,gd,fA,gw,jE,iS,hks,e2,e3,e8,e9,h⟩:=bK.lh29_inv (show bK.lh29 F iR ai [] 0 tm H = some r from h0)
      cases h
     ·obtain ⟨cd,gd,fA,gw,jE,iS,hks,e2,e3,e8,e9,h⟩:=bK.lh29_inv (show bK.lh29 F iR ai [] (k29 + 1) tm H = some r from h0)
      have q0:(Tm.put tm 2 (.ptr cd gd)) = tm:=by exact Tm.put_same e2
      have q1:(Tm.put (Tm.put tm 2 (.ptr cd gd)) 3 (.ptr fA gw)) = tm:=by rw [q0]; exact Tm.put_same e3
      have q2:(Tm.put (Tm.put (Tm.put tm 2 (.ptr cd gd)) 3 (.ptr fA gw)) 8 (.int .i64 jE)) = tm:=by rw [q1]; exact Tm.put_same e8
      have q3:(Tm.put (Tm.put (Tm.put (Tm.put tm 2 (.ptr cd gd)) 3 (.ptr fA gw)) 8 (.int .i64 jE)) 9 (.int .i64 iS)) = tm:=by rw [q2]; exact Tm.put_same e9
      rw [← q3]
      exact Eq.trans (by kernel_rfl) h
     ·exact loops_none (by kernel_rfl)
   ·exact loops_none (by kernel_rfl)
theorem bK.eqX (F:Nat) (iR:Int→Int→Hp→OA) (ai:Int→Int→Sl→Int→Int→Hp→OA) (aa:Int) (H:Hp):aCode tabs (mkOrc (bK.cs F iR ai)) bK.pn (bK.lh F iR ai) F [] 1 bK.code (argTm [(.int .i64 aa)]) H (fun tm H=>aresults tabs.ty H tm Try.f110.results.toList fun v=>some (v,H)) (fun _ _ _=>none) (fun tm H=>aresults tabs.ty H tm Try.f110.results.toList fun v=>some (v,H)) = bK.twX F iR ai aa H:=by kernel_rfl
theorem bK.cs_ok (F:Nat):∀ p ∈ bK.cs F (dW.tw F) (aP.tw F),∀ args H v H',p.2 args H = some (v,H')→Go.AE.T Try.prog p.1 args H v H':=by
 intro p hp
 simp only [bK.cs,List.mem_cons,List.not_mem_nil,or_false] at hp
 rcases hp with rfl | rfl
 ·exact fun args H v H' h=>dW.mk_T h
 ·exact fun args H v H' h=>aP.mk_T h
theorem bK.ok:codeOk bK.pn Try.f110.ntmps bK.tb bK.code = true:=by kernel_rfl
theorem bK.T {F:Nat} {aa:Int} {H:Hp} {v:AV} {H':Hp} (h:bK.tw F aa H = some (v,H')):Go.AE.T Try.prog 110 [(.int .i64 aa)] H v H':=
 Go.AE.T.of (Y:=tabs) (C:=mkOrc (bK.cs F (dW.tw F) (aP.tw F))) (PN:=bK.pn) (LH:=bK.lh F (dW.tw F) (aP.tw F)) (F:=F) (TB:=bK.tb) (fn:=Try.f110) (code:=bK.code) mixed tabs_ok (mkOrc_ok (bK.cs_ok F)) Try.func110 (by kernel_rfl) (by kernel_rfl) bK.ok (Nat.le_of_ble_eq_true (by kernel_rfl)) (bK.loops F (dW.tw F) (aP.tw F)) (Eq.trans (bK.eqX F (dW.tw F) (aP.tw F) aa H) h)
theorem bK.mk_T {F:Nat} {args:List AV} {H:Hp} {v:AV} {H':Hp} (h:bK.mk (bK.tw F) args H = some (v,H')):Go.AE.T Try.prog 110 args H v H':=by
 unfold bK.mk at h
 split at h
 ·exact bK.T h
 ·cases h
noncomputable def ef.twX (F:Nat) (aa:Sl) (H:Hp):OA:=(bif (aa.a.isNone) then (some ((.sl (⟨none,0,.ex 0⟩:Sl)),H)) else ((Hp.new H []).bind fun H2=>(Sl.row H2 aa 1).bind fun xs4=>(Hp.app H2 1 8 (⟨some (H.length,0),0,.ex 0⟩:Sl) aa.n xs4).bind fun a3=>some ((.sl a3.1),a3.2)))
noncomputable def ef.tw (F:Nat) (aa:Sl) (H:Hp):OA:=ef.twX F aa H
noncomputable def ef.code:Go.Code:=(Try.f149.body).getD .skip
noncomputable def ef.lh (F:Nat) (p:Nat) (ks:List Nat) (n:Nat) (tm:Tm) (H:Hp):OA:=none
def ef.pn:Nat→List Nat:=fun i=>(([]:List (Nat×List Nat)).lookup i).getD []
def ef.tb:Nat→List (List Nat):=fun i=>(([]:List (Nat×List (List Nat))).lookup i).getD []
noncomputable def ef.mk (g:Sl→Hp→OA) (args:List AV) (H:Hp):OA:=match args with
 | [(.sl aa)]=>g aa H
 | _=>none
noncomputable def ef.cs (F:Nat):List (FuncId×(List AV→Hp→OA)):=[]
theorem ef.loops (F:Nat):LoopsOk tabs (mkOrc (ef.cs F)) ef.pn (ef.lh F) F [] 1 ef.code (fun tm H=>aresults tabs.ty H tm Try.f149.results.toList fun v=>some (v,H)) (fun _ _ _=>none) (fun tm H=>aresults tabs.ty H tm Try.f149.results.toList fun v=>some (v,H)):=by
 exact loops_none (by kernel_rfl)
theorem ef.eqX (F:Nat) (aa:Sl) (H:Hp):aCode tabs (mkOrc (ef.cs F)) ef.pn (ef.lh F) F [] 1 ef.code (argTm [(.sl aa)]) H (fun tm H=>aresults tabs.ty H tm Try.f149.results.toList fun v=>some (v,H)) (fun _ _ _=>none) (fun tm H=>aresults tabs.ty H tm Try.f149.results.toList fun v=>some (v,H)) = ef.twX F aa H:=by kernel_rfl
theorem ef.cs_ok (F:Nat):∀ p ∈ ef.cs F,∀ args H v H',p.2 args H = some (v,H')→Go.AE.T Try.prog p.1 args H v H':=by
 intro p hp
 exact absurd (show p ∈ [] from hp) List.not_mem_nil
theorem ef.ok:codeOk ef.pn Try.f149.ntmps ef.tb ef.code = true:=by kernel_rfl
theorem ef.T {F:Nat} {aa:Sl} {H:Hp} {v:AV} {H':Hp} (h:ef.tw F aa H = some (v,H')):Go.AE.T Try.prog 149 [(.sl aa)] H v H':=
 Go.AE.T.of (Y:=tabs) (C:=mkOrc (ef.cs F)) (PN:=ef.pn) (LH:=ef.lh F) (F:=F) (TB:=ef.tb) (fn:=Try.f149) (code:=ef.code) mixed tabs_ok (mkOrc_ok (ef.cs_ok F)) Try.func149 (by kernel_rfl) (by kernel_rfl) ef.ok (Nat.le_of_ble_eq_true (by kernel_rfl)) (ef.loops F) (Eq.trans (ef.eqX F aa H) h)
theorem ef.mk_T {F:Nat} {args:List AV} {H:Hp} {v:AV} {H':Hp} (h:ef.mk (ef.tw F) args H = some (v,H')):Go.AE.T Try.prog 149 args H v H':=by
 unfold ef.mk at h
 split at h
 ·exact ef.T h
 ·cases h
noncomputable def dO.twX (F:Nat) (lR:Sl→Hp→OA) (aa:Int) (ac:Int) (ah:Sl) (H:Hp):OA:=(Hp.new H [(.int .i64 aa),(.int .i64 ac),(.sl ah)]).bind fun H4=>(Hp.new H4 [.int .i64 0,.int .i64 0,.sl ⟨none,0,.ex 0⟩]).bind fun H5=>(Hp.ldSl H5 H.length 2).bind fun s6=>(lR s6 H5).bind fun r7=>((r7.1).asSl).bind fun s8=>(Hp.st r7.2 H.length 2 (.sl s8)).bind fun H9=>(Hp.ldI H9 .i64 H.length 0).bind fun n10=>(Hp.ldI H9 .i64 H.length (0 + 1)).bind fun n11=>(Hp.ldSl H9 H.length (0 + 2)).bind fun s12=>(Hp.st H9 H4.length 0 (.int .i64 n10)).bind fun H13=>(Hp.st H13 H4.length (0 + 1) (.int .i64 n11)).bind fun H14=>(Hp.st H14 H4.length (0 + 1 + 1) (.sl s12)).bind fun H15=>(Hp.ldI H15 .i64 H4.length 0).bind fun n16=>(Hp.ldI H15 .i64 H4.length (0 + 1)).bind fun n17=>(Hp.ldSl H15 H4.length (0 + 2)).bind fun s18=>some ((.agg [(.int .i64 n16),(.int .i64 n17),(.sl s18)]),H15)
noncomputable def dO.tw (F:Nat) (aa:Int) (ac:Int) (ah:Sl) (H:Hp):OA:=dO.twX F (ef.tw F) aa ac ah H
noncomputable def dO.code:Go.Code:=(Try.f132.body).getD .skip
noncomputable def dO.lh (F:Nat) (lR:Sl→Hp→OA) (p:Nat) (ks:List Nat) (n:Nat) (tm:Tm) (H:Hp):OA:=none
def dO.pn:Nat→List Nat:=fun i=>(([]:List (Nat×List Nat)).lookup i).getD []
def dO.tb:Nat→List (List Nat):=fun i=>(([]:List (Nat×List (List Nat))).lookup i).getD []
noncomputable def dO.mk (g:Int→Int→Sl→Hp→OA) (args:List AV) (H:Hp):OA:=match args with
 | [(.agg [(.int .i64 aa),(.int .i64 ac),(.sl ah)])]=>g aa ac ah H
 | _=>none
noncomputable def dO.cs (F:Nat) (lR:Sl→Hp→OA):List (FuncId×(List AV→Hp→OA)):=[(149,ef.mk lR)]
theorem dO.loops (F:Nat) (lR:Sl→Hp→OA):LoopsOk tabs (mkOrc (dO.cs F lR)) dO.pn (dO.lh F lR) F [] 1 dO.code (fun tm H=>aresults tabs.ty H tm Try.f132.results.toList fun v=>some (v,H)) (fun _ _ _=>none) (fun tm H=>aresults tabs.ty H tm Try.f132.results.toList fun v=>some (v,H)):=by
 exact loops_none (by kernel_rfl)
theorem dO.eqX (F:Nat) (lR:Sl→Hp→OA) (aa:Int) (ac:Int) (ah:Sl) (H:Hp):aCode tabs (mkOrc (dO.cs F lR)) dO.pn (dO.lh F lR) F [] 1 dO.code (argTm [(.agg [(.int .i64 aa),(.int .i64 ac),(.sl ah)])]) H (fun tm H=>aresults tabs.ty H tm Try.f132.results.toList fun v=>some (v,H)) (fun _ _ _=>none) (fun tm H=>aresults tabs.ty H tm Try.f132.results.toList fun v=>some (v,H)) = dO.twX F lR aa ac ah H:=by kernel_rfl
theorem dO.cs_ok (F:Nat):∀ p ∈ dO.cs F (ef.tw F),∀ args H v H',p.2 args H = some (v,H')→Go.AE.T Try.prog p.1 args H v H':=by
 intro p hp
 simp only [dO.cs,List.mem_cons,List.not_mem_nil,or_false] at hp
 subst hp
 exact fun args H v H' h=>ef.mk_T h
theorem dO.ok:codeOk dO.pn Try.f132.ntmps dO.tb dO.code = true:=by kernel_rfl
theorem dO.T {F:Nat} {aa:Int} {ac:Int} {ah:Sl} {H:Hp} {v:AV} {H':Hp} (h:dO.tw F aa ac ah H = some (v,H')):Go.AE.T Try.prog 132 [(.agg [(.int .i64 aa),(.int .i64 ac),(.sl ah)])] H v H':=
 Go.AE.T.of (Y:=tabs) (C:=mkOrc (dO.cs F (ef.tw F))) (PN:=dO.pn) (LH:=dO.lh F (ef.tw F)) (F:=F) (TB:=dO.tb) (fn:=Try.f132) (code:=dO.code) mixed tabs_ok (mkOrc_ok (dO.cs_ok F)) Try.func132 (by kernel_rfl) (by kernel_rfl) dO.ok (Nat.le_of_ble_eq_true (by kernel_rfl)) (dO.loops F (ef.tw F)) (Eq.trans (dO.eqX F (ef.tw F) aa ac ah H) h)
theorem dO.mk_T {F:Nat} {args:List AV} {H:Hp} {v:AV} {H':Hp} (h:dO.mk (dO.tw F) args H = some (v,H')):Go.AE.T Try.prog 132 args H v H':=by
 unfold dO.mk at h
 split at h
 ·exact dO.T h
 ·cases h
noncomputable def eD.twX (F:Nat) (kU:Int→Hp→OA) (lS:Int→Int→Sl→Hp→OA) (aa:Int) (ac:Int) (ah:Sl) (H:Hp):OA:=(Hp.new H [(.int .i64 aa),(.int .i64 ac),(.sl ah)]).bind fun H4=>(Hp.ldI H4 .i64 H.length 0).bind fun n5=>(kU n5 H4).bind fun r6=>((r6.1).asAgg 3).bind fun l7=>(l7[0]?).bind fun v8=>((v8).asI .i64).bind fun n9=>(l7[1]?).bind fun v10=>((v10).asI .i64).bind fun n11=>(l7[2]?).bind fun v12=>((v12).asSl).bind fun s13=>(if Cons H4 r6.2 then ((Hp.ldI r6.2 .i64 H.length 0).bind fun n14=>(kU n14 r6.2).bind fun r15=>((r15.1).asAgg 3).bind fun l16=>(l16[0]?).bind fun v17=>((v17).asI .i64).bind fun n18=>(l16[1]?).bind fun v19=>((v19).asI .i64).bind fun n20=>(l16[2]?).bind fun v21=>((v21).asSl).bind fun s22=>(if Cons r6.2 r15.2 then ((Hp.ldI r15.2 .i64 H.length 0).bind fun n23=>(Hp.ldI r15.2 .i64 H.length (0 + 1)).bind fun n24=>(Hp.ldSl r15.2 H.length (0 + 2)).bind fun s25=>(lS n23 n24 s25 r15.2).bind fun r26=>((r26.1).asAgg 3).bind fun l27=>(l27[0]?).bind fun v28=>((v28).asI .i64).bind fun n29=>(l27[1]?).bind fun v30=>((v30).asI .i64).bind fun n31=>(l27[2]?).bind fun v32=>((v32).asSl).bind fun s33=>(if Cons r15.2 r26.2 then ((Hp.ldI r26.2 .i64 H.length 1).bind fun n34=>(kU n34 r26.2).bind fun r35=>((r35.1).asAgg 3).bind fun l36=>(l36[0]?).bind fun v37=>((v37).asI .i64).bind fun n38=>(l36[1]?).bind fun v39=>((v39).asI .i64).bind fun n40=>(l36[2]?).bind fun v41=>((v41).asSl).bind fun s42=>(if Cons r26.2 r35.2 then ((Hp.ldI r35.2 .i64 H.length 1).bind fun n43=>(kU n43 r35.2).bind fun r44=>((r44.1).asAgg 3).bind fun l45=>(l45[0]?).bind fun v46=>((v46).asI .i64).bind fun n47=>(l45[1]?).bind fun v48=>((v48).asI .i64).bind fun n49=>(l45[2]?).bind fun v50=>((v50).asSl).bind fun s51=>(Hp.new r44.2 [(.int .i64 n9),(.int .i64 n11),(.sl s13),(.int .i64 n18),(.int .i64 n20),(.sl s22),(.int .i64 n29),(.int .i64 n31),(.sl s33),(.int .i64 n38),(.int .i64 n40),(.sl s42),(.int .i64 n47),(.int .i64 n49),(.sl s51),(.bool false)]).bind fun H52=>some ((.ptr r44.2.length 0),H52)) else none)) else none)) else none)) else none)
noncomputable def eD.tw (F:Nat) (aa:Int) (ac:Int) (ah:Sl) (H:Hp):OA:=eD.twX F (bK.tw F) (dO.tw F) aa ac ah H
noncomputable def eD.code:Go.Code:=(Try.f108.body).getD .skip
noncomputable def eD.lh (F:Nat) (kU:Int→Hp→OA) (lS:Int→Int→Sl→Hp→OA) (p:Nat) (ks:List Nat) (n:Nat) (tm:Tm) (H:Hp):OA:=none
def eD.pn:Nat→List Nat:=fun i=>(([(1,[13])]:List (Nat×List Nat)).lookup i).getD []
def eD.tb:Nat→List (List Nat):=fun i=>(([(1,[[],[0],[0,1],[],[3],[0,1,2,3,4],[],[0,1,2,3,4,5,6],[],[8],[0,1,2,3,4,5,6,7,8,9],[],[11],[0,1,2,3,4,5,6,7,8,9,10,11,12],[0,1,2,3,4,5,6,7,8,9,10,11,12,13],[0,1,2,3,4,5,6,7,8,9,10,11,12,13,14],[0,1,2,3,4,5,6,7,8,9,10,11,12,13,14,15],[0,1,2,3,4,5,6,7,8,9,10,11,12,13,14,15,16]])]:List (Nat×List (List Nat))).lookup i).getD []
noncomputable def eD.mk (g:Int→Int→Sl→Hp→OA) (args:List AV) (H:Hp):OA:=match args with
 | [(.agg [(.int .i64 aa),(.int .i64 ac),(.sl ah)])]=>g aa ac ah H
 | _=>none
noncomputable def eD.cs (F:Nat) (kU:Int→Hp→OA) (lS:Int→Int→Sl→Hp→OA):List (FuncId×(List AV→Hp→OA)):=[(110,bK.mk kU),(132,dO.mk lS)]
theorem eD.loops (F:Nat) (kU:Int→Hp→OA) (lS:Int→Int→Sl→Hp→OA):LoopsOk tabs (mkOrc (eD.cs F kU lS)) eD.pn (eD.lh F kU lS) F [] 1 eD.code (fun tm H=>aresults tabs.ty H tm Try.f108.results.toList fun v=>some (v,H)) (fun _ _ _=>none) (fun tm H=>aresults tabs.ty H tm Try.f108.results.toList fun v=>some (v,H)):=by
 exact loops_none (by kernel_rfl)
theorem eD.eqX (F:Nat) (kU:Int→Hp→OA) (lS:Int→Int→Sl→Hp→OA) (aa:Int) (ac:Int) (ah:Sl) (H:Hp):aCode tabs (mkOrc (eD.cs F kU lS)) eD.pn (eD.lh F kU lS) F [] 1 eD.code (argTm [(.agg [(.int .i64 aa),(.int .i64 ac),(.sl ah)])]) H (fun tm H=>aresults tabs.ty H tm Try.f108.results.toList fun v=>some (v,H)) (fun _ _ _=>none) (fun tm H=>aresults tabs.ty H tm Try.f108.results.toList fun v=>some (v,H)) = eD.twX F kU lS aa ac ah H:=by kernel_rfl
theorem eD.cs_ok (F:Nat):∀ p ∈ eD.cs F (bK.tw F) (dO.tw F),∀ args H v H',p.2 args H = some (v,H')→Go.AE.T Try.prog p.1 args H v H':=by
 intro p hp
 simp only [eD.cs,List.mem_cons,List.not_mem_nil,or_false] at hp
 rcases hp with rfl | rfl
 ·exact fun args H v H' h=>bK.mk_T h
 ·exact fun args H v H' h=>dO.mk_T h
theorem eD.ok:codeOk eD.pn Try.f108.ntmps eD.tb eD.code = true:=by kernel_rfl
theorem eD.T {F:Nat} {aa:Int} {ac:Int} {ah:Sl} {H:Hp} {v:AV} {H':Hp} (h:eD.tw F aa ac ah H = some (v,H')):Go.AE.T Try.prog 108 [(.agg [(.int .i64 aa),(.int .i64 ac),(.sl ah)])] H v H':=
 Go.AE.T.of (Y:=tabs) (C:=mkOrc (eD.cs F (bK.tw F) (dO.tw F))) (PN:=eD.pn) (LH:=eD.lh F (bK.tw F) (dO.tw F)) (F:=F) (TB:=eD.tb) (fn:=Try.f108) (code:=eD.code) mixed tabs_ok (mkOrc_ok (eD.cs_ok F)) Try.func108 (by kernel_rfl) (by kernel_rfl) eD.ok (Nat.le_of_ble_eq_true (by kernel_rfl)) (eD.loops F (bK.tw F) (dO.tw F)) (Eq.trans (eD.eqX F (bK.tw F) (dO.tw F) aa ac ah H) h)
theorem eD.mk_T {F:Nat} {args:List AV} {H:Hp} {v:AV} {H':Hp} (h:eD.mk (eD.tw F) args H = some (v,H')):Go.AE.T Try.prog 108 args H v H':=by
 unfold eD.mk at h
 split at h
 ·exact eD.T h
 ·cases h
noncomputable def cf.twX (F:Nat) (aa:Int) (H:Hp):OA:=(bif (decide (aa < 0)) then (some ((.int .i64 (IntKind.i64.wrap (0 - aa))),H)) else (some ((.int .i64 aa),H)))
noncomputable def cf.tw (F:Nat) (aa:Int) (H:Hp):OA:=cf.twX F aa H
noncomputable def cf.code:Go.Code:=(Try.f102.body).getD .skip
noncomputable def cf.lh (F:Nat) (p:Nat) (ks:List Nat) (n:Nat) (tm:Tm) (H:Hp):OA:=none
def cf.pn:Nat→List Nat:=fun i=>(([]:List (Nat×List Nat)).lookup i).getD []
def cf.tb:Nat→List (List Nat):=fun i=>(([]:List (Nat×List (List Nat))).lookup i).getD []
noncomputable def cf.mk (g:Int→Hp→OA) (args:List AV) (H:Hp):OA:=match args with
 | [(.int .i64 aa)]=>g aa H
 | _=>none
noncomputable def cf.cs (F:Nat):List (FuncId×(List AV→Hp→OA)):=[]
theorem cf.loops (F:Nat):LoopsOk tabs (mkOrc (cf.cs F)) cf.pn (cf.lh F) F [] 1 cf.code (fun tm H=>aresults tabs.ty H tm Try.f102.results.toList fun v=>some (v,H)) (fun _ _ _=>none) (fun tm H=>aresults tabs.ty H tm Try.f102.results.toList fun v=>some (v,H)):=by
 exact loops_none (by kernel_rfl)
theorem cf.eqX (F:Nat) (aa:Int) (H:Hp):aCode tabs (mkOrc (cf.cs F)) cf.pn (cf.lh F) F [] 1 cf.code (argTm [(.int .i64 aa)]) H (fun tm H=>aresults tabs.ty H tm Try.f102.results.toList fun v=>some (v,H)) (fun _ _ _=>none) (fun tm H=>aresults tabs.ty H tm Try.f102.results.toList fun v=>some (v,H)) = cf.twX F aa H:=by kernel_rfl
theorem cf.cs_ok (F:Nat):∀ p ∈ cf.cs F,∀ args H v H',p.2 args H = some (v,H')→Go.AE.T Try.prog p.1 args H v H':=by
 intro p hp
 exact absurd (show p ∈ [] from hp) List.not_mem_nil
theorem cf.ok:codeOk cf.pn Try.f102.ntmps cf.tb cf.code = true:=by kernel_rfl
theorem cf.T {F:Nat} {aa:Int} {H:Hp} {v:AV} {H':Hp} (h:cf.tw F aa H = some (v,H')):Go.AE.T Try.prog 102 [(.int .i64 aa)] H v H':=
 Go.AE.T.of (Y:=tabs) (C:=mkOrc (cf.cs F)) (PN:=cf.pn) (LH:=cf.lh F) (F:=F) (TB:=cf.tb) (fn:=Try.f102) (code:=cf.code) mixed tabs_ok (mkOrc_ok (cf.cs_ok F)) Try.func102 (by kernel_rfl) (by kernel_rfl) cf.ok (Nat.le_of_ble_eq_true (by kernel_rfl)) (cf.loops F) (Eq.trans (cf.eqX F aa H) h)
theorem cf.mk_T {F:Nat} {args:List AV} {H:Hp} {v:AV} {H':Hp} (h:cf.mk (cf.tw F) args H = some (v,H')):Go.AE.T Try.prog 102 args H v H':=by
 unfold cf.mk at h
 split at h
 ·exact cf.T h
 ·cases h
noncomputable def aH.j5 (F:Nat) (ai:Int→Int→Sl→Int→Int→Hp→OA) (dm:Int→Hp→OA) (oN:Int) (oO:Int) (oP:Bool) (H134:Hp):OA:=some ((.tup [(.int .i64 oN),(.int .i64 oO),(.bool oP)]),H134)
noncomputable def aH.j7 (F:Nat) (ai:Int→Int→Sl→Int→Int→Hp→OA) (dm:Int→Hp→OA) (C29_:Int→Int→Int→Bool→Nat→Nat→Int→Hp→OA) (oQ:Int) (oR:Int) (oS:Int) (oT:Bool) (q_:Nat) (wo:Nat) (oU:Int) (H205:Hp):OA:=C29_ oQ oR oS oT q_ wo (IntKind.i64.wrap (oU + 1)) H205
noncomputable def aH.j8 (F:Nat) (ai:Int→Int→Sl→Int→Int→Hp→OA) (dm:Int→Hp→OA) (C29_:Int→Int→Int→Bool→Nat→Nat→Int→Hp→OA) (oV:Int) (oW:Int) (oX:Int) (oY:Bool) (ra:Nat) (wp:Nat) (oZ:Int) (H192:Hp):OA:=aH.j7 F ai dm C29_ oV oW oX oY ra wp oZ H192
noncomputable def aH.j9 (F:Nat) (ai:Int→Int→Sl→Int→Int→Hp→OA) (dm:Int→Hp→OA) (C469_:Int→Int→Int→Bool→Nat→Nat→Int→Int→Hp→OA) (o_:Int) (pa:Int) (pb:Int) (pc:Bool) (rb:Nat) (wq:Nat) (pd:Int) (pe:Int) (H237:Hp):OA:=C469_ o_ pa pb pc rb wq pd (IntKind.i64.wrap (pe + 1)) H237
noncomputable def aH.l469 (F:Nat) (ai:Int→Int→Sl→Int→Int→Hp→OA) (dm:Int→Hp→OA) (C29_:Int→Int→Int→Bool→Nat→Nat→Int→Hp→OA):Nat→Int→Int→Int→Bool→Nat→Nat→Int→Int→Hp→OA
 | 0,_,_,_,_,_,_,_,_,_=>none
 | mE + 1,gD,gP,g_,hH,gQ,iT,gy,gE,H147=>(Hp.ldI H147 .i64 gQ (iT + 1)).bind fun n206=>(bif (decide (gE < n206)) then ((Hp.ldI H147 .i64 gQ iT).bind fun n207=>(Hp.ldI H147 .i64 gQ (iT + 1)).bind fun n208=>(Hp.ldSl H147 gQ (iT + 2)).bind fun s209=>(ai n207 n208 s209 gy gE H147).bind fun r210=>((r210.1).asP).bind fun p211=>(Hp.ldI r210.2 .i64 p211.1 p211.2).bind fun n212=>(dm n212 r210.2).bind fun r213=>((r213.1).asI .i64).bind fun n214=>(bif (n214 != 0) then ((bif (!hH) then (aH.l469 F ai dm C29_ mE gD gy gE true gQ iT gy (IntKind.i64.wrap (gE + 1)) r213.2) else ((Hp.ldI r213.2 .i64 gQ iT).bind fun n215=>(Hp.ldI r213.2 .i64 gQ (iT + 1)).bind fun n216=>(Hp.ldSl r213.2 gQ (iT + 2)).bind fun s217=>(ai n215 n216 s217 gP g_ r213.2).bind fun r218=>((r218.1).asP).bind fun p219=>(Hp.ldI r218.2 .i64 p219.1 p219.2).bind fun n220=>(dm n220 r218.2).bind fun r221=>((r221.1).asI .i64).bind fun n222=>(bif (decide (n214 < n222)) then (aH.j9 F ai dm (aH.l469 F ai dm C29_ mE) gD gy gE true gQ iT gy gE r221.2) else (aH.j9 F ai dm (aH.l469 F ai dm C29_ mE) gD gP g_ hH gQ iT gy gE r221.2))))) else (aH.l469 F ai dm C29_ mE gD gP g_ hH gQ iT gy (IntKind.i64.wrap (gE + 1)) r213.2))) else (aH.j8 F ai dm C29_ gD gP g_ hH gQ iT gy H147))
termination_by structural n=>n
noncomputable def aH.l29 (F:Nat) (ai:Int→Int→Sl→Int→Int→Hp→OA) (dm:Int→Hp→OA) :Nat→Int→Int→Int→Bool→Nat→Nat→Int→Hp→OA
 | 0,_,_,_,_,_,_,_,_=>none
 | eP + 1,cW,eO,fB,jp,kC,lT,jX,H20=>(Hp.ldI H20 .i64 kC lT).bind fun n135=>(bif (decide (jX < n135)) then (aH.l469 F ai dm (aH.l29 F ai dm eP) F cW eO fB jp kC lT jX cW H20) else (aH.j5 F ai dm eO fB jp H20))
termination_by structural n=>n
noncomputable def aH.twX (F:Nat) (ai:Int→Int→Sl→Int→Int→Hp→OA) (dm:Int→Hp→OA) (aa:Nat) (ac:Nat) (ae:Int) (H:Hp):OA:=(Hp.ldI H .i64 aa (ac + 6)).bind fun n4=>(Hp.ldI H .i64 aa ((ac + 6) + 1)).bind fun n5=>(Hp.ldSl H aa ((ac + 6) + 2)).bind fun s6=>(Hp.new H [.int .i64 0,.int .i64 0,.sl ⟨none,0,.ex 0⟩]).bind fun H7=>(Hp.st H7 H.length 0 (.int .i64 n4)).bind fun H8=>(Hp.st H8 H.length (0 + 1) (.int .i64 n5)).bind fun H9=>(Hp.st H9 H.length (0 + 1 + 1) (.sl s6)).bind fun H10=>aH.l29 F ai dm F ae 0 0 false H.length 0 ae H10
noncomputable def aH.tw (F:Nat) (aa:Nat) (ac:Nat) (ae:Int) (H:Hp):OA:=aH.twX F (aP.tw F) (cf.tw F) aa ac ae H
noncomputable def aH.code:Go.Code:=(Try.f150.body).getD .skip
noncomputable def aH.lh29 (F:Nat) (ai:Int→Int→Sl→Int→Int→Hp→OA) (dm:Int→Hp→OA) (ks:List Nat) (n:Nat) (tm:Tm) (H:Hp):OA:=match ks,tm 1,tm 4,tm 5,tm 6,tm 7,tm 8 with
 | [],(.int .i64 cW),(.int .i64 eO),(.int .i64 fB),(.bool jp),(.ptr kC lT),(.int .i64 jX)=>aH.l29 F ai dm n cW eO fB jp kC lT jX H
 | _,_,_,_,_,_,_=>none
theorem aH.lh29_inv {F:Nat} {ai:Int→Int→Sl→Int→Int→Hp→OA} {dm:Int→Hp→OA} {ks:List Nat} {n:Nat} {tm:Tm} {H:Hp} {r:AV×Hp} (h:aH.lh29 F ai dm ks n tm H = some r):∃ cW:Int,∃ eO:Int,∃ fB:Int,∃ jp:Bool,∃ kC:Nat,∃ lT:Nat,∃ jX:Int,ks = []∧tm 1 = (.int .i64 cW)∧tm 4 = (.int .i64 eO)∧tm 5 = (.int .i64 fB)∧tm 6 = (.bool jp)∧tm 7 = (.ptr kC lT)∧tm 8 = (.int .i64 jX)∧aH.l29 F ai dm n cW eO fB jp kC lT jX H = some r:=by
 unfold aH.lh29 at h
 split at h
 ·exact ⟨_,_,_,_,_,_,_,rfl,by assumption,by assumption,by assumption,by assumption,by assumption,by assumption,h⟩
 ·cases h
noncomputable def aH.lh469 (F:Nat) (ai:Int→Int→Sl→Int→Int→Hp→OA) (dm:Int→Hp→OA) (ks:List Nat) (n:Nat) (tm:Tm) (H:Hp):OA:=match ks,tm 1,tm 4,tm 5,tm 6,tm 7,tm 8,tm 9 with
 | [eP],(.int .i64 gD),(.int .i64 gP),(.int .i64 g_),(.bool hH),(.ptr gQ iT),(.int .i64 gy),(.int .i64 gE)=>aH.l469 F ai dm (aH.l29 F ai dm eP) n gD gP g_ hH gQ iT gy gE H
 | _,_,_,_,_,_,_,_=>none
theorem aH.lh469_inv {F:Nat} {ai:Int→Int→Sl→Int→Int→Hp→OA} {dm:Int→Hp→OA} {ks:List Nat} {n:Nat} {tm:Tm} {H:Hp} {r:AV×Hp} (h:aH.lh469 F ai dm ks n tm H = some r):∃ eP:Nat,∃ gD:Int,∃ gP:Int,∃ g_:Int,∃ hH:Bool,∃ gQ:Nat,∃ iT:Nat,∃ gy:Int,∃ gE:Int,ks = [eP]∧tm 1 = (.int .i64 gD)∧tm 4 = (.int .i64 gP)∧tm 5 = (.int .i64 g_)∧tm 6 = (.bool hH)∧tm 7 = (.ptr gQ iT)∧tm 8 = (.int .i64 gy)∧tm 9 = (.int .i64 gE)∧aH.l469 F ai dm (aH.l29 F ai dm eP) n gD gP g_ hH gQ iT gy gE H = some r:=by
 unfold aH.lh469 at h
 split at h
 ·exact ⟨_,_,_,_,_,_,_,_,_,rfl,by assumption,by assumption,by assumption,by assumption,by assumption,by assumption,by assumption,h⟩
 ·cases h
noncomputable def aH.lh (F:Nat) (ai:Int→Int→Sl→Int→Int→Hp→OA) (dm:Int→Hp→OA) (p:Nat) (ks:List Nat) (n:Nat) (tm:Tm) (H:Hp):OA:=bif p.beq 469 then aH.lh469 F ai dm ks n tm H else (bif p.beq 29 then aH.lh29 F ai dm ks n tm H else (none))
def aH.pn:Nat→List Nat:=fun i=>(([]:List (Nat×List Nat)).lookup i).getD []
def aH.tb:Nat→List (List Nat):=fun i=>(([]:List (Nat×List (List Nat))).lookup i).getD []
noncomputable def aH.mk (g:Nat→Nat→Int→Hp→OA) (args:List AV) (H:Hp):OA:=match args with
 | [(.ptr aa ac),(.int .i64 ae)]=>g aa ac ae H
 | _=>none
noncomputable def aH.cs (F:Nat) (ai:Int→Int→Sl→Int→Int→Hp→OA) (dm:Int→Hp→OA):List (FuncId×(List AV→Hp→OA)):=[(95,aP.mk ai),(102,cf.mk dm)]
theorem aH.loops (F:Nat) (ai:Int→Int→Sl→Int→Int→Hp→OA) (dm:Int→Hp→OA):LoopsOk tabs (mkOrc (aH.cs F ai dm)) aH.pn (aH.lh F ai dm) F [] 1 aH.code (fun tm H=>aresults tabs.ty H tm Try.f150.results.toList fun v=>some (v,H)) (fun _ _ _=>none) (fun tm H=>aresults tabs.ty H tm Try.f150.results.toList fun v=>some (v,H)):=by
 refine LoopsOk.seq ?_ ?_
 ·exact loops_none (by kernel_rfl)
 ·refine LoopsOk.seq ?_ ?_
  ·exact loops_none (by kernel_rfl)
  ·refine LoopsOk.seq ?_ ?_
   ·refine LoopsOk.seq ?_ ?_
    ·exact loops_none (by kernel_rfl)
    ·refine LoopsOk.block ?_
     refine LoopsOk.loop (fun tm H=>?_) (fun k29 tm H r h0=>?_) (fun k29=>?_)
     ·refine none_of fun r h0=>?_
      obtain ⟨cW,eO,fB,jp,kC,lT,jX,hks,e1,e4,e5,e6,e7,e8,h⟩:=aH.lh29_inv (show aH.lh29 F ai dm [] 0 tm H = some r from h0)
      cases h
     ·obtain ⟨cW,eO,fB,jp,kC,lT,jX,hks,e1,e4,e5,e6,e7,e8,h⟩:=aH.lh29_inv (show aH.lh29 F ai dm [] (k29 + 1) tm H = some r from h0)
      have q0:(Tm.put tm 1 (.int .i64 cW)) = tm:=by exact Tm.put_same e1
      have q1:(Tm.put (Tm.put tm 1 (.int .i64 cW)) 4 (.int .i64 eO)) = tm:=by rw [q0]; exact Tm.put_same e4
      have q2:(Tm.put (Tm.put (Tm.put tm 1 (.int .i64 cW)) 4 (.int .i64 eO)) 5 (.int .i64 fB)) = tm:=by rw [q1]; exact Tm.put_same e5
      have q3:(Tm.put (Tm.put (Tm.put (Tm.put tm 1 (.int .i64 cW)) 4 (.int .i64 eO)) 5 (.int .i64 fB)) 6 (.bool jp)) = tm:=by rw [q2]; exact Tm.put_same e6
      have q4:(Tm.put (Tm.put (Tm.put (Tm.put (Tm.put tm 1 (.int .i64 cW)) 4 (.int .i64 eO)) 5 (.int .i64 fB)) 6 (.bool jp)) 7 (.ptr kC lT)) = tm:=by rw [q3]; exact Tm.put_same e7
      have q5:(Tm.put (Tm.put (Tm.put (Tm.put (Tm.put (Tm.put tm 1 (.int .i64 cW)) 4 (.int .i64 eO)) 5 (.int .i64 fB)) 6 (.bool jp)) 7 (.ptr kC lT)) 8 (.int .i64 jX)) = tm:=by rw [q4]; exact Tm.put_same e8
      rw [← q5]
      exact Eq.trans (by kernel_rfl) h
     ·refine LoopsOk.seq ?_ ?_
      ·exact loops_none (by kernel_rfl)
      ·refine LoopsOk.seq ?_ ?_
       ·refine LoopsOk.block ?_
        refine LoopsOk.seq ?_ ?_
        ·exact loops_none (by kernel_rfl)
        ·refine LoopsOk.block ?_
         refine LoopsOk.loop (fun tm H=>?_) (fun k469 tm H r h0=>?_) (fun k469=>?_)
         ·refine none_of fun r h0=>?_
          obtain ⟨eP,gD,gP,g_,hH,gQ,iT,gy,gE,hks,e1,e4,e5,e6,e7,e8,e9,h⟩:=aH.lh469_inv (show aH.lh469 F ai dm [k29] 0 tm H = some r from h0)
          cases h
         ·obtain ⟨eP,gD,gP,g_,hH,gQ,iT,gy,gE,hks,e1,e4,e5,e6,e7,e8,e9,h⟩:=aH.lh469_inv (show aH.lh469 F ai dm [k29] (k469 + 1) tm H = some r from h0)
          obtain rfl:eP = k29:=by simpa [eq_comm] using hks
          have q0:(Tm.put tm 1 (.int .i64 gD)) = tm:=by exact Tm.put_same e1
          have q1:(Tm.put (Tm.put tm 1 (.int .i64 gD)) 4 (.int .i64 gP)) = tm:=by rw [q0]; exact Tm.put_same e4
          have q2:(Tm.put (Tm.put (Tm.put tm 1 (.int .i64 gD)) 4 (.int .i64 gP)) 5 (.int .i64 g_)) = tm:=by rw [q1]; exact Tm.put_same e5
          have q3:(Tm.put (Tm.put (Tm.put (Tm.put tm 1 (.int .i64 gD)) 4 (.int .i64 gP)) 5 (.int .i64 g_)) 6 (.bool hH)) = tm:=by rw [q2]; exact Tm.put_same e6
          have q4:(Tm.put (Tm.put (Tm.put (Tm.put (Tm.put tm 1 (.int .i64 gD)) 4 (.int .i64 gP)) 5 (.int .i64 g_)) 6 (.bool hH)) 7 (.ptr gQ iT)) = tm:=by rw [q3]; exact Tm.put_same e7
          have q5:(Tm.put (Tm.put (Tm.put (Tm.put (Tm.put (Tm.put tm 1 (.int .i64 gD)) 4 (.int .i64 gP)) 5 (.int .i64 g_)) 6 (.bool hH)) 7 (.ptr gQ iT)) 8 (.int .i64 gy)) = tm:=by rw [q4]; exact Tm.put_same e8
          have q6:(Tm.put (Tm.put (Tm.put (Tm.put (Tm.put (Tm.put (Tm.put tm 1 (.int .i64 gD)) 4 (.int .i64 gP)) 5 (.int .i64 g_)) 6 (.bool hH)) 7 (.ptr gQ iT)) 8 (.int .i64 gy)) 9 (.int .i64 gE)) = tm:=by rw [q5]; exact Tm.put_same e9
          rw [← q6]
          exact Eq.trans (by kernel_rfl) h
         ·exact loops_none (by kernel_rfl)
       ·exact loops_none (by kernel_rfl)
   ·exact loops_none (by kernel_rfl)
theorem aH.eqX (F:Nat) (ai:Int→Int→Sl→Int→Int→Hp→OA) (dm:Int→Hp→OA) (aa:Nat) (ac:Nat) (ae:Int) (H:Hp):aCode tabs (mkOrc (aH.cs F ai dm)) aH.pn (aH.lh F ai dm) F [] 1 aH.code (argTm [(.ptr aa ac),(.int .i64 ae)]) H (fun tm H=>aresults tabs.ty H tm Try.f150.results.toList fun v=>some (v,H)) (fun _ _ _=>none) (fun tm H=>aresults tabs.ty H tm Try.f150.results.toList fun v=>some (v,H)) = aH.twX F ai dm aa ac ae H:=by kernel_rfl
theorem aH.cs_ok (F:Nat):∀ p ∈ aH.cs F (aP.tw F) (cf.tw F),∀ args H v H',p.2 args H = some (v,H')→Go.AE.T Try.prog p.1 args H v H':=by
 intro p hp
 simp only [aH.cs,List.mem_cons,List.not_mem_nil,or_false] at hp
 rcases hp with rfl | rfl
 ·exact fun args H v H' h=>aP.mk_T h
 ·exact fun args H v H' h=>cf.mk_T h
theorem aH.ok:codeOk aH.pn Try.f150.ntmps aH.tb aH.code = true:=by kernel_rfl
theorem aH.T {F:Nat} {aa:Nat} {ac:Nat} {ae:Int} {H:Hp} {v:AV} {H':Hp} (h:aH.tw F aa ac ae H = some (v,H')):Go.AE.T Try.prog 150 [(.ptr aa ac),(.int .i64 ae)] H v H':=
 Go.AE.T.of (Y:=tabs) (C:=mkOrc (aH.cs F (aP.tw F) (cf.tw F))) (PN:=aH.pn) (LH:=aH.lh F (aP.tw F) (cf.tw F)) (F:=F) (TB:=aH.tb) (fn:=Try.f150) (code:=aH.code) mixed tabs_ok (mkOrc_ok (aH.cs_ok F)) Try.func150 (by kernel_rfl) (by kernel_rfl) aH.ok (Nat.le_of_ble_eq_true (by kernel_rfl)) (aH.loops F (aP.tw F) (cf.tw F)) (Eq.trans (aH.eqX F (aP.tw F) (cf.tw F) aa ac ae H) h)
theorem aH.mk_T {F:Nat} {args:List AV} {H:Hp} {v:AV} {H':Hp} (h:aH.mk (aH.tw F) args H = some (v,H')):Go.AE.T Try.prog 150 args H v H':=by
 unfold aH.mk at h
 split at h
 ·exact aH.T h
 ·cases h
noncomputable def bM.l7 (F:Nat) (ai:Int→Int→Sl→Int→Int→Hp→OA) :Nat→Int→Int→Nat→Nat→Int→Int→Hp→OA
 | 0,_,_,_,_,_,_,_=>none
 | kK + 1,fk,ft,cI,gg,fZ,fl,H17=>(bif (decide (fl < fZ)) then ((Hp.ldI H17 .i64 cI gg).bind fun n32=>(Hp.ldI H17 .i64 cI (gg + 1)).bind fun n33=>(Hp.ldSl H17 cI (gg + 2)).bind fun s34=>(ai n32 n33 s34 fk fl H17).bind fun r35=>((r35.1).asP).bind fun p36=>(if Cons H17 r35.2 then ((Hp.ldI r35.2 .i64 cI gg).bind fun n37=>(Hp.ldI r35.2 .i64 cI (gg + 1)).bind fun n38=>(Hp.ldSl r35.2 cI (gg + 2)).bind fun s39=>(ai n37 n38 s39 ft fl r35.2).bind fun r40=>((r40.1).asP).bind fun p41=>(Hp.ldI r40.2 .i64 p41.1 p41.2).bind fun n42=>(Hp.ldI r40.2 .i64 p36.1 p36.2).bind fun n43=>(Hp.st r40.2 p36.1 p36.2 (.int .i64 n42)).bind fun H44=>(Hp.st H44 p41.1 p41.2 (.int .i64 n43)).bind fun H45=>bM.l7 F ai kK fk ft cI gg fZ (IntKind.i64.wrap (fl + 1)) H45) else none)) else (some ((.tup []),H17)))
termination_by structural n=>n
noncomputable def bM.twX (F:Nat) (ai:Int→Int→Sl→Int→Int→Hp→OA) (aa:Int) (ac:Int) (ah:Sl) (af:Int) (bi:Int) (H:Hp):OA:=(Hp.new H [(.int .i64 aa),(.int .i64 ac),(.sl ah)]).bind fun H6=>(Hp.ldI H6 .i64 H.length 1).bind fun n7=>bM.l7 F ai F af bi H.length 0 n7 0 H6
noncomputable def bM.tw (F:Nat) (aa:Int) (ac:Int) (ah:Sl) (af:Int) (bi:Int) (H:Hp):OA:=bM.twX F (aP.tw F) aa ac ah af bi H
noncomputable def bM.code:Go.Code:=(Try.f151.body).getD .skip
noncomputable def bM.lh7 (F:Nat) (ai:Int→Int→Sl→Int→Int→Hp→OA) (ks:List Nat) (n:Nat) (tm:Tm) (H:Hp):OA:=match ks,tm 1,tm 2,tm 3,tm 10,tm 11 with
 | [],(.int .i64 fk),(.int .i64 ft),(.ptr cI gg),(.int .i64 fZ),(.int .i64 fl)=>bM.l7 F ai n fk ft cI gg fZ fl H
 | _,_,_,_,_,_=>none
theorem bM.lh7_inv {F:Nat} {ai:Int→Int→Sl→Int→Int→Hp→OA} {ks:List Nat} {n:Nat} {tm:Tm} {H:Hp} {r:AV×Hp} (h:bM.lh7 F ai ks n tm H = some r):∃ fk:Int,∃ ft:Int,∃ cI:Nat,∃ gg:Nat,∃ fZ:Int,∃ fl:Int,ks = []∧tm 1 = (.int .i64 fk)∧tm 2 = (.int .i64 ft)∧tm 3 = (.ptr cI gg)∧tm 10 = (.int .i64 fZ)∧tm 11 = (.int .i64 fl)∧bM.l7 F ai n fk ft cI gg fZ fl H = some r:=by
 unfold bM.lh7 at h
 split at h
 ·exact ⟨_,_,_,_,_,_,rfl,by assumption,by assumption,by assumption,by assumption,by assumption,h⟩
 ·cases h
noncomputable def bM.lh (F:Nat) (ai:Int→Int→Sl→Int→Int→Hp→OA) (p:Nat) (ks:List Nat) (n:Nat) (tm:Tm) (H:Hp):OA:=bif p.beq 7 then bM.lh7 F ai ks n tm H else (none)
def bM.pn:Nat→List Nat:=fun i=>(([(4,[7]),(5,[9,11])]:List (Nat×List Nat)).lookup i).getD []
def bM.tb:Nat→List (List Nat):=fun i=>(([(4,[[],[],[],[0,1,2],[],[],[],[0,1,2,3,4,5,6],[0,1,2,3,4,5,6,7],[0,1,2,3,4,5,6,7,8]]),(5,[[],[],[],[2],[2,3],[],[5],[5,6],[0,2,3,4,5,6,7],[0,2,3,4,5,6,7,8],[0,1,2,3,4,5,6,7,8,9],[0,1,2,3,4,5,6,7,8,9,10]])]:List (Nat×List (List Nat))).lookup i).getD []
noncomputable def bM.mk (g:Int→Int→Sl→Int→Int→Hp→OA) (args:List AV) (H:Hp):OA:=match args with
 | [(.agg [(.int .i64 aa),(.int .i64 ac),(.sl ah)]),(.int .i64 af),(.int .i64 bi)]=>g aa ac ah af bi H
 | _=>none
noncomputable def bM.cs (F:Nat) (ai:Int→Int→Sl→Int→Int→Hp→OA):List (FuncId×(List AV→Hp→OA)):=[(95,aP.mk ai)]
theorem bM.loops (F:Nat) (ai:Int→Int→Sl→Int→Int→Hp→OA):LoopsOk tabs (mkOrc (bM.cs F ai)) bM.pn (bM.lh F ai) F [] 1 bM.code (fun tm H=>aresults tabs.ty H tm Try.f151.results.toList fun v=>some (v,H)) (fun _ _ _=>none) (fun tm H=>aresults tabs.ty H tm Try.f151.results.toList fun v=>some (v,H)):=by
 refine LoopsOk.seq ?_ ?_
 ·exact loops_none (by kernel_rfl)
 ·refine LoopsOk.seq ?_ ?_
  ·exact loops_none (by kernel_rfl)
  ·refine LoopsOk.block ?_
   refine LoopsOk.loop (fun tm H=>?_) (fun k7 tm H r h0=>?_) (fun k7=>?_)
   ·refine none_of fun r h0=>?_
    obtain ⟨fk,ft,cI,gg,fZ,fl,hks,e1,e2,e3,e10,e11,h⟩:=bM.lh7_inv (show bM.lh7 F ai [] 0 tm H = some r from h0)
    cases h
   ·obtain ⟨fk,ft,cI,gg,fZ,fl,hks,e1,e2,e3,e10,e11,h⟩:=bM.lh7_inv (show bM.lh7 F ai [] (k7 + 1) tm H = some r from h0)
    have q0:(Tm.put tm 1 (.int .i64 fk)) = tm:=by exact Tm.put_same e1
    have q1:(Tm.put (Tm.put tm 1 (.int .i64 fk)) 2 (.int .i64 ft)) = tm:=by rw [q0]; exact Tm.put_same e2
    have q2:(Tm.put (Tm.put (Tm.put tm 1 (.int .i64 fk)) 2 (.int .i64 ft)) 3 (.ptr cI gg)) = tm:=by rw [q1]; exact Tm.put_same e3
    have q3:(Tm.put (Tm.put (Tm.put (Tm.put tm 1 (.int .i64 fk)) 2 (.int .i64 ft)) 3 (.ptr cI gg)) 10 (.int .i64 fZ)) = tm:=by rw [q2]; exact Tm.put_same e10
    have q4:(Tm.put (Tm.put (Tm.put (Tm.put (Tm.put tm 1 (.int .i64 fk)) 2 (.int .i64 ft)) 3 (.ptr cI gg)) 10 (.int .i64 fZ)) 11 (.int .i64 fl)) = tm:=by rw [q3]; exact Tm.put_same e11
    rw [← q4]
    exact Eq.trans (by kernel_rfl) h
   ·exact loops_none (by kernel_rfl)
theorem bM.eqX (F:Nat) (ai:Int→Int→Sl→Int→Int→Hp→OA) (aa:Int) (ac:Int) (ah:Sl) (af:Int) (bi:Int) (H:Hp):aCode tabs (mkOrc (bM.cs F ai)) bM.pn (bM.lh F ai) F [] 1 bM.code (argTm [(.agg [(.int .i64 aa),(.int .i64 ac),(.sl ah)]),(.int .i64 af),(.int .i64 bi)]) H (fun tm H=>aresults tabs.ty H tm Try.f151.results.toList fun v=>some (v,H)) (fun _ _ _=>none) (fun tm H=>aresults tabs.ty H tm Try.f151.results.toList fun v=>some (v,H)) = bM.twX F ai aa ac ah af bi H:=by kernel_rfl
theorem bM.cs_ok (F:Nat):∀ p ∈ bM.cs F (aP.tw F),∀ args H v H',p.2 args H = some (v,H')→Go.AE.T Try.prog p.1 args H v H':=by
 intro p hp
 simp only [bM.cs,List.mem_cons,List.not_mem_nil,or_false] at hp
 subst hp
 exact fun args H v H' h=>aP.mk_T h
theorem bM.ok:codeOk bM.pn Try.f151.ntmps bM.tb bM.code = true:=by kernel_rfl
theorem bM.T {F:Nat} {aa:Int} {ac:Int} {ah:Sl} {af:Int} {bi:Int} {H:Hp} {v:AV} {H':Hp} (h:bM.tw F aa ac ah af bi H = some (v,H')):Go.AE.T Try.prog 151 [(.agg [(.int .i64 aa),(.int .i64 ac),(.sl ah)]),(.int .i64 af),(.int .i64 bi)] H v H':=
 Go.AE.T.of (Y:=tabs) (C:=mkOrc (bM.cs F (aP.tw F))) (PN:=bM.pn) (LH:=bM.lh F (aP.tw F)) (F:=F) (TB:=bM.tb) (fn:=Try.f151) (code:=bM.code) mixed tabs_ok (mkOrc_ok (bM.cs_ok F)) Try.func151 (by kernel_rfl) (by kernel_rfl) bM.ok (Nat.le_of_ble_eq_true (by kernel_rfl)) (bM.loops F (aP.tw F)) (Eq.trans (bM.eqX F (aP.tw F) aa ac ah af bi H) h)
theorem bM.mk_T {F:Nat} {args:List AV} {H:Hp} {v:AV} {H':Hp} (h:bM.mk (bM.tw F) args H = some (v,H')):Go.AE.T Try.prog 151 args H v H':=by
 unfold bM.mk at h
 split at h
 ·exact bM.T h
 ·cases h
noncomputable def bN.l7 (F:Nat) (ai:Int→Int→Sl→Int→Int→Hp→OA) :Nat→Int→Int→Nat→Nat→Int→Int→Hp→OA
 | 0,_,_,_,_,_,_,_=>none
 | kK + 1,fk,ft,cI,gg,fZ,fl,H17=>(bif (decide (fl < fZ)) then ((Hp.ldI H17 .i64 cI gg).bind fun n32=>(Hp.ldI H17 .i64 cI (gg + 1)).bind fun n33=>(Hp.ldSl H17 cI (gg + 2)).bind fun s34=>(ai n32 n33 s34 fl fk H17).bind fun r35=>((r35.1).asP).bind fun p36=>(if Cons H17 r35.2 then ((Hp.ldI r35.2 .i64 cI gg).bind fun n37=>(Hp.ldI r35.2 .i64 cI (gg + 1)).bind fun n38=>(Hp.ldSl r35.2 cI (gg + 2)).bind fun s39=>(ai n37 n38 s39 fl ft r35.2).bind fun r40=>((r40.1).asP).bind fun p41=>(Hp.ldI r40.2 .i64 p41.1 p41.2).bind fun n42=>(Hp.ldI r40.2 .i64 p36.1 p36.2).bind fun n43=>(Hp.st r40.2 p36.1 p36.2 (.int .i64 n42)).bind fun H44=>(Hp.st H44 p41.1 p41.2 (.int .i64 n43)).bind fun H45=>bN.l7 F ai kK fk ft cI gg fZ (IntKind.i64.wrap (fl + 1)) H45) else none)) else (some ((.tup []),H17)))
termination_by structural n=>n
noncomputable def bN.twX (F:Nat) (ai:Int→Int→Sl→Int→Int→Hp→OA) (aa:Int) (ac:Int) (ah:Sl) (af:Int) (bi:Int) (H:Hp):OA:=(Hp.new H [(.int .i64 aa),(.int .i64 ac),(.sl ah)]).bind fun H6=>(Hp.ldI H6 .i64 H.length 0).bind fun n7=>bN.l7 F ai F af bi H.length 0 n7 0 H6
noncomputable def bN.tw (F:Nat) (aa:Int) (ac:Int) (ah:Sl) (af:Int) (bi:Int) (H:Hp):OA:=bN.twX F (aP.tw F) aa ac ah af bi H
noncomputable def bN.code:Go.Code:=(Try.f152.body).getD .skip
noncomputable def bN.lh7 (F:Nat) (ai:Int→Int→Sl→Int→Int→Hp→OA) (ks:List Nat) (n:Nat) (tm:Tm) (H:Hp):OA:=match ks,tm 1,tm 2,tm 3,tm 10,tm 11 with
 | [],(.int .i64 fk),(.int .i64 ft),(.ptr cI gg),(.int .i64 fZ),(.int .i64 fl)=>bN.l7 F ai n fk ft cI gg fZ fl H
 | _,_,_,_,_,_=>none
theorem bN.lh7_inv {F:Nat} {ai:Int→Int→Sl→Int→Int→Hp→OA} {ks:List Nat} {n:Nat} {tm:Tm} {H:Hp} {r:AV×Hp} (h:bN.lh7 F ai ks n tm H = some r):∃ fk:Int,∃ ft:Int,∃ cI:Nat,∃ gg:Nat,∃ fZ:Int,∃ fl:Int,ks = []∧tm 1 = (.int .i64 fk)∧tm 2 = (.int .i64 ft)∧tm 3 = (.ptr cI gg)∧tm 10 = (.int .i64 fZ)∧tm 11 = (.int .i64 fl)∧bN.l7 F ai n fk ft cI gg fZ fl H = some r:=by
 unfold bN.lh7 at h
 split at h
 ·exact ⟨_,_,_,_,_,_,rfl,by assumption,by assumption,by assumption,by assumption,by assumption,h⟩
 ·cases h
noncomputable def bN.lh (F:Nat) (ai:Int→Int→Sl→Int→Int→Hp→OA) (p:Nat) (ks:List Nat) (n:Nat) (tm:Tm) (H:Hp):OA:=bif p.beq 7 then bN.lh7 F ai ks n tm H else (none)
def bN.pn:Nat→List Nat:=fun i=>(([(4,[7]),(5,[9,11])]:List (Nat×List Nat)).lookup i).getD []
def bN.tb:Nat→List (List Nat):=fun i=>(([(4,[[],[],[],[0,1,2],[],[],[],[0,1,2,3,4,5,6],[0,1,2,3,4,5,6,7],[0,1,2,3,4,5,6,7,8]]),(5,[[],[],[],[2],[2,3],[],[5],[5,6],[0,2,3,4,5,6,7],[0,2,3,4,5,6,7,8],[0,1,2,3,4,5,6,7,8,9],[0,1,2,3,4,5,6,7,8,9,10]])]:List (Nat×List (List Nat))).lookup i).getD []
noncomputable def bN.mk (g:Int→Int→Sl→Int→Int→Hp→OA) (args:List AV) (H:Hp):OA:=match args with
 | [(.agg [(.int .i64 aa),(.int .i64 ac),(.sl ah)]),(.int .i64 af),(.int .i64 bi)]=>g aa ac ah af bi H
 | _=>none
noncomputable def bN.cs (F:Nat) (ai:Int→Int→Sl→Int→Int→Hp→OA):List (FuncId×(List AV→Hp→OA)):=[(95,aP.mk ai)]
theorem bN.loops (F:Nat) (ai:Int→Int→Sl→Int→Int→Hp→OA):LoopsOk tabs (mkOrc (bN.cs F ai)) bN.pn (bN.lh F ai) F [] 1 bN.code (fun tm H=>aresults tabs.ty H tm Try.f152.results.toList fun v=>some (v,H)) (fun _ _ _=>none) (fun tm H=>aresults tabs.ty H tm Try.f152.results.toList fun v=>some (v,H)):=by
 refine LoopsOk.seq ?_ ?_
 ·exact loops_none (by kernel_rfl)
 ·refine LoopsOk.seq ?_ ?_
  ·exact loops_none (by kernel_rfl)
  ·refine LoopsOk.block ?_
   refine LoopsOk.loop (fun tm H=>?_) (fun k7 tm H r h0=>?_) (fun k7=>?_)
   ·refine none_of fun r h0=>?_
    obtain ⟨fk,ft,cI,gg,fZ,fl,hks,e1,e2,e3,e10,e11,h⟩:=bN.lh7_inv (show bN.lh7 F ai [] 0 tm H = some r from h0)
    cases h
   ·obtain ⟨fk,ft,cI,gg,fZ,fl,hks,e1,e2,e3,e10,e11,h⟩:=bN.lh7_inv (show bN.lh7 F ai [] (k7 + 1) tm H = some r from h0)
    have q0:(Tm.put tm 1 (.int .i64 fk)) = tm:=by exact Tm.put_same e1
    have q1:(Tm.put (Tm.put tm 1 (.int .i64 fk)) 2 (.int .i64 ft)) = tm:=by rw [q0]; exact Tm.put_same e2
    have q2:(Tm.put (Tm.put (Tm.put tm 1 (.int .i64 fk)) 2 (.int .i64 ft)) 3 (.ptr cI gg)) = tm:=by rw [q1]; exact Tm.put_same e3
    have q3:(Tm.put (Tm.put (Tm.put (Tm.put tm 1 (.int .i64 fk)) 2 (.int .i64 ft)) 3 (.ptr cI gg)) 10 (.int .i64 fZ)) = tm:=by rw [q2]; exact Tm.put_same e10
    have q4:(Tm.put (Tm.put (Tm.put (Tm.put (Tm.put tm 1 (.int .i64 fk)) 2 (.int .i64 ft)) 3 (.ptr cI gg)) 10 (.int .i64 fZ)) 11 (.int .i64 fl)) = tm:=by rw [q3]; exact Tm.put_same e11
    rw [← q4]
    exact Eq.trans (by kernel_rfl) h
   ·exact loops_none (by kernel_rfl)
theorem bN.eqX (F:Nat) (ai:Int→Int→Sl→Int→Int→Hp→OA) (aa:Int) (ac:Int) (ah:Sl) (af:Int) (bi:Int) (H:Hp):aCode tabs (mkOrc (bN.cs F ai)) bN.pn (bN.lh F ai) F [] 1 bN.code (argTm [(.agg [(.int .i64 aa),(.int .i64 ac),(.sl ah)]),(.int .i64 af),(.int .i64 bi)]) H (fun tm H=>aresults tabs.ty H tm Try.f152.results.toList fun v=>some (v,H)) (fun _ _ _=>none) (fun tm H=>aresults tabs.ty H tm Try.f152.results.toList fun v=>some (v,H)) = bN.twX F ai aa ac ah af bi H:=by kernel_rfl
theorem bN.cs_ok (F:Nat):∀ p ∈ bN.cs F (aP.tw F),∀ args H v H',p.2 args H = some (v,H')→Go.AE.T Try.prog p.1 args H v H':=by
 intro p hp
 simp only [bN.cs,List.mem_cons,List.not_mem_nil,or_false] at hp
 subst hp
 exact fun args H v H' h=>aP.mk_T h
theorem bN.ok:codeOk bN.pn Try.f152.ntmps bN.tb bN.code = true:=by kernel_rfl
theorem bN.T {F:Nat} {aa:Int} {ac:Int} {ah:Sl} {af:Int} {bi:Int} {H:Hp} {v:AV} {H':Hp} (h:bN.tw F aa ac ah af bi H = some (v,H')):Go.AE.T Try.prog 152 [(.agg [(.int .i64 aa),(.int .i64 ac),(.sl ah)]),(.int .i64 af),(.int .i64 bi)] H v H':=
 Go.AE.T.of (Y:=tabs) (C:=mkOrc (bN.cs F (aP.tw F))) (PN:=bN.pn) (LH:=bN.lh F (aP.tw F)) (F:=F) (TB:=bN.tb) (fn:=Try.f152) (code:=bN.code) mixed tabs_ok (mkOrc_ok (bN.cs_ok F)) Try.func152 (by kernel_rfl) (by kernel_rfl) bN.ok (Nat.le_of_ble_eq_true (by kernel_rfl)) (bN.loops F (aP.tw F)) (Eq.trans (bN.eqX F (aP.tw F) aa ac ah af bi H) h)
theorem bN.mk_T {F:Nat} {args:List AV} {H:Hp} {v:AV} {H':Hp} (h:bN.mk (bN.tw F) args H = some (v,H')):Go.AE.T Try.prog 152 args H v H':=by
 unfold bN.mk at h
 split at h
 ·exact bN.T h
 ·cases h
noncomputable def cq.twX (F:Nat) (aa:Int) (ac:Int) (ah:Sl) (af:Int) (H:Hp):OA:=(Hp.new H [(.int .i64 aa),(.int .i64 ac),(.sl ah)]).bind fun H5=>(Hp.ldSl H5 H.length 2).bind fun s6=>(Hp.ldI H5 .i64 H.length 1).bind fun n7=>(Hp.ldI H5 .i64 H.length 1).bind fun n8=>(Sl.cut s6 1 (IntKind.i64.wrap (af * n7)) (IntKind.i64.wrap ((IntKind.i64.wrap (af + 1)) * n8))).bind fun s9=>some ((.sl s9),H5)
noncomputable def cq.tw (F:Nat) (aa:Int) (ac:Int) (ah:Sl) (af:Int) (H:Hp):OA:=cq.twX F aa ac ah af H
noncomputable def cq.code:Go.Code:=(Try.f120.body).getD .skip
noncomputable def cq.lh (F:Nat) (p:Nat) (ks:List Nat) (n:Nat) (tm:Tm) (H:Hp):OA:=none
def cq.pn:Nat→List Nat:=fun i=>(([]:List (Nat×List Nat)).lookup i).getD []
def cq.tb:Nat→List (List Nat):=fun i=>(([]:List (Nat×List (List Nat))).lookup i).getD []
noncomputable def cq.mk (g:Int→Int→Sl→Int→Hp→OA) (args:List AV) (H:Hp):OA:=match args with
 | [(.agg [(.int .i64 aa),(.int .i64 ac),(.sl ah)]),(.int .i64 af)]=>g aa ac ah af H
 | _=>none
noncomputable def cq.cs (F:Nat):List (FuncId×(List AV→Hp→OA)):=[]
theorem cq.loops (F:Nat):LoopsOk tabs (mkOrc (cq.cs F)) cq.pn (cq.lh F) F [] 1 cq.code (fun tm H=>aresults tabs.ty H tm Try.f120.results.toList fun v=>some (v,H)) (fun _ _ _=>none) (fun tm H=>aresults tabs.ty H tm Try.f120.results.toList fun v=>some (v,H)):=by
 exact loops_none (by kernel_rfl)
theorem cq.eqX (F:Nat) (aa:Int) (ac:Int) (ah:Sl) (af:Int) (H:Hp):aCode tabs (mkOrc (cq.cs F)) cq.pn (cq.lh F) F [] 1 cq.code (argTm [(.agg [(.int .i64 aa),(.int .i64 ac),(.sl ah)]),(.int .i64 af)]) H (fun tm H=>aresults tabs.ty H tm Try.f120.results.toList fun v=>some (v,H)) (fun _ _ _=>none) (fun tm H=>aresults tabs.ty H tm Try.f120.results.toList fun v=>some (v,H)) = cq.twX F aa ac ah af H:=by kernel_rfl
theorem cq.cs_ok (F:Nat):∀ p ∈ cq.cs F,∀ args H v H',p.2 args H = some (v,H')→Go.AE.T Try.prog p.1 args H v H':=by
 intro p hp
 exact absurd (show p ∈ [] from hp) List.not_mem_nil
theorem cq.ok:codeOk cq.pn Try.f120.ntmps cq.tb cq.code = true:=by kernel_rfl
theorem cq.T {F:Nat} {aa:Int} {ac:Int} {ah:Sl} {af:Int} {H:Hp} {v:AV} {H':Hp} (h:cq.tw F aa ac ah af H = some (v,H')):Go.AE.T Try.prog 120 [(.agg [(.int .i64 aa),(.int .i64 ac),(.sl ah)]),(.int .i64 af)] H v H':=
 Go.AE.T.of (Y:=tabs) (C:=mkOrc (cq.cs F)) (PN:=cq.pn) (LH:=cq.lh F) (F:=F) (TB:=cq.tb) (fn:=Try.f120) (code:=cq.code) mixed tabs_ok (mkOrc_ok (cq.cs_ok F)) Try.func120 (by kernel_rfl) (by kernel_rfl) cq.ok (Nat.le_of_ble_eq_true (by kernel_rfl)) (cq.loops F) (Eq.trans (cq.eqX F aa ac ah af H) h)
theorem cq.mk_T {F:Nat} {args:List AV} {H:Hp} {v:AV} {H':Hp} (h:cq.mk (cq.tw F) args H = some (v,H')):Go.AE.T Try.prog 120 args H v H':=by
 unfold cq.mk at h
 split at h
 ·exact cq.T h
 ·cases h
noncomputable def aW.l32747 (F:Nat) (eG:Nat→Nat→Int→Hp→OA) (eu:Int→Int→Sl→Int→Int→Hp→OA) (ev:Int→Int→Sl→Int→Int→Hp→OA) (ai:Int→Int→Sl→Int→Int→Hp→OA) (bL:Int→Int→Sl→Int→Hp→OA) :Nat→Nat→Nat→Int→Int→Int→Hp→OA
 | 0,_,_,_,_,_,_=>none
 | wr + 1,jY,jZ,iU,jF,iV,H159=>(bif (decide (iV < jF)) then ((Hp.ldI H159 .i64 jY (jZ + 3)).bind fun n172=>(Hp.ldI H159 .i64 jY ((jZ + 3) + 1)).bind fun n173=>(Hp.ldSl H159 jY ((jZ + 3) + 2)).bind fun s174=>(ai n172 n173 s174 iV iU H159).bind fun r175=>((r175.1).asP).bind fun p176=>(if Cons H159 r175.2 then ((Hp.ldI r175.2 .i64 jY (jZ + 3)).bind fun n177=>(Hp.ldI r175.2 .i64 jY ((jZ + 3) + 1)).bind fun n178=>(Hp.ldSl r175.2 jY ((jZ + 3) + 2)).bind fun s179=>(ai n177 n178 s179 iV iU r175.2).bind fun r180=>((r180.1).asP).bind fun p181=>(Hp.ldI r180.2 .i64 p181.1 p181.2).bind fun n182=>(Hp.st r180.2 p176.1 p176.2 (.int .i64 (IntKind.i64.wrap (0 - n182)))).bind fun H183=>aW.l32747 F eG eu ev ai bL wr jY jZ iU jF (IntKind.i64.wrap (iV + 1)) H183) else none)) else (some ((.bool true),H159)))
termination_by structural n=>n
noncomputable def aW.j3 (F:Nat) (eG:Nat→Nat→Int→Hp→OA) (eu:Int→Int→Sl→Int→Int→Hp→OA) (ev:Int→Int→Sl→Int→Int→Hp→OA) (ai:Int→Int→Sl→Int→Int→Hp→OA) (bL:Int→Int→Sl→Int→Hp→OA) (t_:Nat) (ua:Nat) (pf:Int) (H142:Hp):OA:=(Hp.ldI H142 .i64 t_ (ua + 3)).bind fun n143=>aW.l32747 F eG eu ev ai bL F t_ ua pf n143 0 H142
noncomputable def aW.j4 (F:Nat) (eG:Nat→Nat→Int→Hp→OA) (eu:Int→Int→Sl→Int→Int→Hp→OA) (ev:Int→Int→Sl→Int→Int→Hp→OA) (ai:Int→Int→Sl→Int→Int→Hp→OA) (bL:Int→Int→Sl→Int→Hp→OA) (C32745_:Nat→Nat→Int→Sl→Int→Int→Hp→OA) (ws:Nat) (wt:Nat) (wu:Int) (wv:Sl) (ww:Int) (wx:Int) (H242:Hp):OA:=C32745_ ws wt wu wv ww (IntKind.i64.wrap (wx + 1)) H242
noncomputable def aW.j5 (F:Nat) (eG:Nat→Nat→Int→Hp→OA) (eu:Int→Int→Sl→Int→Int→Hp→OA) (ev:Int→Int→Sl→Int→Int→Hp→OA) (ai:Int→Int→Sl→Int→Int→Hp→OA) (bL:Int→Int→Sl→Int→Hp→OA) (C32745_:Nat→Nat→Int→Sl→Int→Int→Hp→OA) (wy:Nat) (wz:Nat) (wA:Int) (wB:Sl) (wC:Int) (wD:Int) (H224:Hp):OA:=aW.j4 F eG eu ev ai bL C32745_ wy wz wA wB wC wD H224
noncomputable def aW.l2095707 (F:Nat) (eG:Nat→Nat→Int→Hp→OA) (eu:Int→Int→Sl→Int→Int→Hp→OA) (ev:Int→Int→Sl→Int→Int→Hp→OA) (ai:Int→Int→Sl→Int→Int→Hp→OA) (bL:Int→Int→Sl→Int→Hp→OA) (C32745_:Nat→Nat→Int→Sl→Int→Int→Hp→OA):Nat→Nat→Nat→Int→Sl→Int→Int→Sl→Int→Int→Hp→OA
 | 0,_,_,_,_,_,_,_,_,_,_=>none
 | wE + 1,kc,kd,kD,kV,la,lm,kE,lU,ln,H202=>(bif (decide (ln < lU)) then ((Sl.idx kE ln 1).bind fun p243=>(Hp.ldI H202 .i64 p243.1 p243.2).bind fun n244=>(Sl.idx kE ln 1).bind fun p245=>(Hp.st H202 p245.1 p245.2 (.int .i64 (IntKind.i64.wrap (0 - n244)))).bind fun H246=>aW.l2095707 F eG eu ev ai bL C32745_ wE kc kd kD kV la lm kE lU (IntKind.i64.wrap (ln + 1)) H246) else (aW.j5 F eG eu ev ai bL C32745_ kc kd kD kV la lm H202))
termination_by structural n=>n
noncomputable def aW.l32745 (F:Nat) (eG:Nat→Nat→Int→Hp→OA) (eu:Int→Int→Sl→Int→Int→Hp→OA) (ev:Int→Int→Sl→Int→Int→Hp→OA) (ai:Int→Int→Sl→Int→Int→Hp→OA) (bL:Int→Int→Sl→Int→Hp→OA) :Nat→Nat→Nat→Int→Sl→Int→Int→Hp→OA
 | 0,_,_,_,_,_,_,_=>none
 | mF + 1,gF,gG,fC,lp,lV,lW,H65=>(bif (decide (lW < lV)) then ((Sl.idx lp lW 1).bind fun p184=>(Hp.ldSl H65 p184.1 p184.2).bind fun s185=>aW.l2095707 F eG eu ev ai bL (aW.l32745 F eG eu ev ai bL mF) F gF gG fC lp lV lW s185 (s185.n:Int) 0 H65) else (aW.j3 F eG eu ev ai bL gF gG fC H65))
termination_by structural n=>n
noncomputable def aW.twX (F:Nat) (eG:Nat→Nat→Int→Hp→OA) (eu:Int→Int→Sl→Int→Int→Hp→OA) (ev:Int→Int→Sl→Int→Int→Hp→OA) (ai:Int→Int→Sl→Int→Int→Hp→OA) (bL:Int→Int→Sl→Int→Hp→OA) (aa:Nat) (ac:Nat) (ae:Int) (H:Hp):OA:=(eG aa ac ae H).bind fun r4=>((r4.1).asTup 3).bind fun l5=>(l5[0]?).bind fun v6=>((v6).asI .i64).bind fun n7=>(l5[1]?).bind fun v8=>((v8).asI .i64).bind fun n9=>(l5[2]?).bind fun v10=>((v10).asB).bind fun b11=>(bif (!b11) then (some ((.bool false),r4.2)) else ((Hp.ldI r4.2 .i64 aa (ac + 6)).bind fun n12=>(Hp.ldI r4.2 .i64 aa ((ac + 6) + 1)).bind fun n13=>(Hp.ldSl r4.2 aa ((ac + 6) + 2)).bind fun s14=>(eu n12 n13 s14 n7 ae r4.2).bind fun r15=>(Hp.ldI r15.2 .i64 aa ac).bind fun n16=>(Hp.ldI r15.2 .i64 aa (ac + 1)).bind fun n17=>(Hp.ldSl r15.2 aa (ac + 2)).bind fun s18=>(eu n16 n17 s18 n7 ae r15.2).bind fun r19=>(Hp.ldI r19.2 .i64 aa (ac + 3)).bind fun n20=>(Hp.ldI r19.2 .i64 aa ((ac + 3) + 1)).bind fun n21=>(Hp.ldSl r19.2 aa ((ac + 3) + 2)).bind fun s22=>(ev n20 n21 s22 n7 ae r19.2).bind fun r23=>(Hp.ldI r23.2 .i64 aa (ac + 6)).bind fun n24=>(Hp.ldI r23.2 .i64 aa ((ac + 6) + 1)).bind fun n25=>(Hp.ldSl r23.2 aa ((ac + 6) + 2)).bind fun s26=>(ev n24 n25 s26 n9 ae r23.2).bind fun r27=>(Hp.ldI r27.2 .i64 aa (ac + 9)).bind fun n28=>(Hp.ldI r27.2 .i64 aa ((ac + 9) + 1)).bind fun n29=>(Hp.ldSl r27.2 aa ((ac + 9) + 2)).bind fun s30=>(ev n28 n29 s30 n9 ae r27.2).bind fun r31=>(Hp.ldI r31.2 .i64 aa (ac + 12)).bind fun n32=>(Hp.ldI r31.2 .i64 aa ((ac + 12) + 1)).bind fun n33=>(Hp.ldSl r31.2 aa ((ac + 12) + 2)).bind fun s34=>(eu n32 n33 s34 n9 ae r31.2).bind fun r35=>(Hp.ldI r35.2 .i64 aa (ac + 6)).bind fun n36=>(Hp.ldI r35.2 .i64 aa ((ac + 6) + 1)).bind fun n37=>(Hp.ldSl r35.2 aa ((ac + 6) + 2)).bind fun s38=>(ai n36 n37 s38 ae ae r35.2).bind fun r39=>((r39.1).asP).bind fun p40=>(Hp.ldI r39.2 .i64 p40.1 p40.2).bind fun n41=>(bif (decide (n41 < 0)) then ((Hp.ldI r39.2 .i64 aa (ac + 6)).bind fun n42=>(Hp.ldI r39.2 .i64 aa ((ac + 6) + 1)).bind fun n43=>(Hp.ldSl r39.2 aa ((ac + 6) + 2)).bind fun s44=>(bL n42 n43 s44 ae r39.2).bind fun r45=>((r45.1).asSl).bind fun s46=>(if Cons r39.2 r45.2 then ((Hp.ldI r45.2 .i64 aa ac).bind fun n47=>(Hp.ldI r45.2 .i64 aa (ac + 1)).bind fun n48=>(Hp.ldSl r45.2 aa (ac + 2)).bind fun s49=>(bL n47 n48 s49 ae r45.2).bind fun r50=>((r50.1).asSl).bind fun s51=>(Hp.new r50.2 [(.sl s46),(.sl s51)]).bind fun H52=>aW.l32745 F eG eu ev ai bL F aa ac ae (⟨some (r50.2.length,0),2,.ex 2⟩:Sl) ((⟨some (r50.2.length,0),2,.ex 2⟩:Sl).n:Int) 0 H52) else none)) else (some ((.bool true),r39.2)))))
noncomputable def aW.tw (F:Nat) (aa:Nat) (ac:Nat) (ae:Int) (H:Hp):OA:=aW.twX F (aH.tw F) (bM.tw F) (bN.tw F) (aP.tw F) (cq.tw F) aa ac ae H
noncomputable def aW.code:Go.Code:=(Try.f133.body).getD .skip
noncomputable def aW.lh32745 (F:Nat) (eG:Nat→Nat→Int→Hp→OA) (eu:Int→Int→Sl→Int→Int→Hp→OA) (ev:Int→Int→Sl→Int→Int→Hp→OA) (ai:Int→Int→Sl→Int→Int→Hp→OA) (bL:Int→Int→Sl→Int→Hp→OA) (ks:List Nat) (n:Nat) (tm:Tm) (H:Hp):OA:=match ks,tm 0,tm 1,tm 94,tm 95,tm 96 with
 | [],(.ptr gF gG),(.int .i64 fC),(.sl lp),(.int .i64 lV),(.int .i64 lW)=>aW.l32745 F eG eu ev ai bL n gF gG fC lp lV lW H
 | _,_,_,_,_,_=>none
theorem aW.lh32745_inv {F:Nat} {eG:Nat→Nat→Int→Hp→OA} {eu:Int→Int→Sl→Int→Int→Hp→OA} {ev:Int→Int→Sl→Int→Int→Hp→OA} {ai:Int→Int→Sl→Int→Int→Hp→OA} {bL:Int→Int→Sl→Int→Hp→OA} {ks:List Nat} {n:Nat} {tm:Tm} {H:Hp} {r:AV×Hp} (h:aW.lh32745 F eG eu ev ai bL ks n tm H = some r):∃ gF:Nat,∃ gG:Nat,∃ fC:Int,∃ lp:Sl,∃ lV:Int,∃ lW:Int,ks = []∧tm 0 = (.ptr gF gG)∧tm 1 = (.int .i64 fC)∧tm 94 = (.sl lp)∧tm 95 = (.int .i64 lV)∧tm 96 = (.int .i64 lW)∧aW.l32745 F eG eu ev ai bL n gF gG fC lp lV lW H = some r:=by
 unfold aW.lh32745 at h
 split at h
 ·exact ⟨_,_,_,_,_,_,rfl,by assumption,by assumption,by assumption,by assumption,by assumption,h⟩
 ·cases h
noncomputable def aW.lh32747 (F:Nat) (eG:Nat→Nat→Int→Hp→OA) (eu:Int→Int→Sl→Int→Int→Hp→OA) (ev:Int→Int→Sl→Int→Int→Hp→OA) (ai:Int→Int→Sl→Int→Int→Hp→OA) (bL:Int→Int→Sl→Int→Hp→OA) (ks:List Nat) (n:Nat) (tm:Tm) (H:Hp):OA:=match ks,tm 0,tm 1,tm 120,tm 121 with
 | [],(.ptr jY jZ),(.int .i64 iU),(.int .i64 jF),(.int .i64 iV)=>aW.l32747 F eG eu ev ai bL n jY jZ iU jF iV H
 | _,_,_,_,_=>none
theorem aW.lh32747_inv {F:Nat} {eG:Nat→Nat→Int→Hp→OA} {eu:Int→Int→Sl→Int→Int→Hp→OA} {ev:Int→Int→Sl→Int→Int→Hp→OA} {ai:Int→Int→Sl→Int→Int→Hp→OA} {bL:Int→Int→Sl→Int→Hp→OA} {ks:List Nat} {n:Nat} {tm:Tm} {H:Hp} {r:AV×Hp} (h:aW.lh32747 F eG eu ev ai bL ks n tm H = some r):∃ jY:Nat,∃ jZ:Nat,∃ iU:Int,∃ jF:Int,∃ iV:Int,ks = []∧tm 0 = (.ptr jY jZ)∧tm 1 = (.int .i64 iU)∧tm 120 = (.int .i64 jF)∧tm 121 = (.int .i64 iV)∧aW.l32747 F eG eu ev ai bL n jY jZ iU jF iV H = some r:=by
 unfold aW.lh32747 at h
 split at h
 ·exact ⟨_,_,_,_,_,rfl,by assumption,by assumption,by assumption,by assumption,h⟩
 ·cases h
noncomputable def aW.lh2095707 (F:Nat) (eG:Nat→Nat→Int→Hp→OA) (eu:Int→Int→Sl→Int→Int→Hp→OA) (ev:Int→Int→Sl→Int→Int→Hp→OA) (ai:Int→Int→Sl→Int→Int→Hp→OA) (bL:Int→Int→Sl→Int→Hp→OA) (ks:List Nat) (n:Nat) (tm:Tm) (H:Hp):OA:=match ks,tm 0,tm 1,tm 9,tm 94,tm 95,tm 96,tm 101,tm 102 with
 | [mF],(.ptr kc kd),(.int .i64 kD),(.sl kE),(.sl kV),(.int .i64 la),(.int .i64 lm),(.int .i64 lU),(.int .i64 ln)=>aW.l2095707 F eG eu ev ai bL (aW.l32745 F eG eu ev ai bL mF) n kc kd kD kV la lm kE lU ln H
 | _,_,_,_,_,_,_,_,_=>none
theorem aW.lh2095707_inv {F:Nat} {eG:Nat→Nat→Int→Hp→OA} {eu:Int→Int→Sl→Int→Int→Hp→OA} {ev:Int→Int→Sl→Int→Int→Hp→OA} {ai:Int→Int→Sl→Int→Int→Hp→OA} {bL:Int→Int→Sl→Int→Hp→OA} {ks:List Nat} {n:Nat} {tm:Tm} {H:Hp} {r:AV×Hp} (h:aW.lh2095707 F eG eu ev ai bL ks n tm H = some r):∃ mF:Nat,∃ kc:Nat,∃ kd:Nat,∃ kD:Int,∃ kE:Sl,∃ kV:Sl,∃ la:Int,∃ lm:Int,∃ lU:Int,∃ ln:Int,ks = [mF]∧tm 0 = (.ptr kc kd)∧tm 1 = (.int .i64 kD)∧tm 9 = (.sl kE)∧tm 94 = (.sl kV)∧tm 95 = (.int .i64 la)∧tm 96 = (.int .i64 lm)∧tm 101 = (.int .i64 lU)∧tm 102 = (.int .i64 ln)∧aW.l2095707 F eG eu ev ai bL (aW.l32745 F eG eu ev ai bL mF) n kc kd kD kV la lm kE lU ln H = some r:=by
 unfold aW.lh2095707 at h
 split at h
 ·exact ⟨_,_,_,_,_,_,_,_,_,_,rfl,by assumption,by assumption,by assumption,by assumption,by assumption,by assumption,by assumption,by assumption,h⟩
 ·cases h
noncomputable def aW.lh (F:Nat) (eG:Nat→Nat→Int→Hp→OA) (eu:Int→Int→Sl→Int→Int→Hp→OA) (ev:Int→Int→Sl→Int→Int→Hp→OA) (ai:Int→Int→Sl→Int→Int→Hp→OA) (bL:Int→Int→Sl→Int→Hp→OA) (p:Nat) (ks:List Nat) (n:Nat) (tm:Tm) (H:Hp):OA:=bif p.beq 2095707 then aW.lh2095707 F eG eu ev ai bL ks n tm H else (bif p.beq 32747 then aW.lh32747 F eG eu ev ai bL ks n tm H else (bif p.beq 32745 then aW.lh32745 F eG eu ev ai bL ks n tm H else (none)))
def aW.pn:Nat→List Nat:=fun i=>(([(11,[13]),(23,[15,20])]:List (Nat×List Nat)).lookup i).getD []
def aW.tb:Nat→List (List Nat):=fun i=>(([(11,[[],[0],[0,1],[0,1,2],[0,1,2,3],[],[0,1,2,3,4,5],[],[7],[7,8],[7,8,9],[7,8,9,10],[],[0,1,2,3,4,5,6,7,8,9,10,11,12],[0,1,2,3,4,5,6,7,8,9,10,11,12,13],[0,1,2,3,4,5,6,7,8,9,10,11,12,13,14],[]]),(23,[[],[0],[0,1],[0,1,2],[0,1,2,3],[],[],[0,1,2,3,4,5,6],[],[8],[8,9],[8,9,10],[8,9,10,11],[],[],[0,1,2,3,4,5,6,7,8,9,10,11,12,13,14],[0,1,2,3,4,5,6,7,8,9,10,11,12,13,14,15],[0,1,2,3,4,5,6,7,8,9,10,11,12,13,14,15,16],[0,1,2,3,4,5,6,7,8,9,10,11,12,13,14,15,16,17],[0,1,2,3,4,5,6,7,8,9,10,11,12,13,14,15,16,17,18],[0,1,2,3,4,5,6,7,8,9,10,11,12,13,14,15,16,17,18,19]])]:List (Nat×List (List Nat))).lookup i).getD []
noncomputable def aW.mk (g:Nat→Nat→Int→Hp→OA) (args:List AV) (H:Hp):OA:=match args with
 | [(.ptr aa ac),(.int .i64 ae)]=>g aa ac ae H
 | _=>none
noncomputable def aW.cs (F:Nat) (eG:Nat→Nat→Int→Hp→OA) (eu:Int→Int→Sl→Int→Int→Hp→OA) (ev:Int→Int→Sl→Int→Int→Hp→OA) (ai:Int→Int→Sl→Int→Int→Hp→OA) (bL:Int→Int→Sl→Int→Hp→OA):List (FuncId×(List AV→Hp→OA)):=[(150,aH.mk eG),(151,bM.mk eu),(152,bN.mk ev),(95,aP.mk ai),(120,cq.mk bL)]
theorem aW.loops (F:Nat) (eG:Nat→Nat→Int→Hp→OA) (eu:Int→Int→Sl→Int→Int→Hp→OA) (ev:Int→Int→Sl→Int→Int→Hp→OA) (ai:Int→Int→Sl→Int→Int→Hp→OA) (bL:Int→Int→Sl→Int→Hp→OA):LoopsOk tabs (mkOrc (aW.cs F eG eu ev ai bL)) aW.pn (aW.lh F eG eu ev ai bL) F [] 1 aW.code (fun tm H=>aresults tabs.ty H tm Try.f133.results.toList fun v=>some (v,H)) (fun _ _ _=>none) (fun tm H=>aresults tabs.ty H tm Try.f133.results.toList fun v=>some (v,H)):=by
 refine LoopsOk.seq ?_ ?_
 ·exact loops_none (by kernel_rfl)
 ·refine LoopsOk.seq ?_ ?_
  ·exact loops_none (by kernel_rfl)
  ·refine LoopsOk.seq ?_ ?_
   ·exact loops_none (by kernel_rfl)
   ·refine LoopsOk.seq ?_ ?_
    ·exact loops_none (by kernel_rfl)
    ·refine LoopsOk.seq ?_ ?_
     ·exact loops_none (by kernel_rfl)
     ·refine LoopsOk.seq ?_ ?_
      ·exact loops_none (by kernel_rfl)
      ·refine LoopsOk.seq ?_ ?_
       ·exact loops_none (by kernel_rfl)
       ·refine LoopsOk.seq ?_ ?_
        ·exact loops_none (by kernel_rfl)
        ·refine LoopsOk.seq ?_ ?_
         ·exact loops_none (by kernel_rfl)
         ·refine LoopsOk.seq ?_ ?_
          ·refine LoopsOk.seq ?_ ?_
           ·exact loops_none (by kernel_rfl)
           ·refine LoopsOk.cond ?_ ?_
            ·refine LoopsOk.seq ?_ ?_
             ·refine LoopsOk.seq ?_ ?_
              ·exact loops_none (by kernel_rfl)
              ·refine LoopsOk.block ?_
               refine LoopsOk.loop (fun tm H=>?_) (fun k32745 tm H r h0=>?_) (fun k32745=>?_)
               ·refine none_of fun r h0=>?_
                obtain ⟨gF,gG,fC,lp,lV,lW,hks,e0,e1,e94,e95,e96,h⟩:=aW.lh32745_inv (show aW.lh32745 F eG eu ev ai bL [] 0 tm H = some r from h0)
                cases h
               ·obtain ⟨gF,gG,fC,lp,lV,lW,hks,e0,e1,e94,e95,e96,h⟩:=aW.lh32745_inv (show aW.lh32745 F eG eu ev ai bL [] (k32745 + 1) tm H = some r from h0)
                have q0:(Tm.put tm 0 (.ptr gF gG)) = tm:=by exact Tm.put_same e0
                have q1:(Tm.put (Tm.put tm 0 (.ptr gF gG)) 1 (.int .i64 fC)) = tm:=by rw [q0]; exact Tm.put_same e1
                have q2:(Tm.put (Tm.put (Tm.put tm 0 (.ptr gF gG)) 1 (.int .i64 fC)) 94 (.sl lp)) = tm:=by rw [q1]; exact Tm.put_same e94
                have q3:(Tm.put (Tm.put (Tm.put (Tm.put tm 0 (.ptr gF gG)) 1 (.int .i64 fC)) 94 (.sl lp)) 95 (.int .i64 lV)) = tm:=by rw [q2]; exact Tm.put_same e95
                have q4:(Tm.put (Tm.put (Tm.put (Tm.put (Tm.put tm 0 (.ptr gF gG)) 1 (.int .i64 fC)) 94 (.sl lp)) 95 (.int .i64 lV)) 96 (.int .i64 lW)) = tm:=by rw [q3]; exact Tm.put_same e96
                rw [← q4]
                exact Eq.trans (by kernel_rfl) h
               ·refine LoopsOk.seq ?_ ?_
                ·exact loops_none (by kernel_rfl)
                ·refine LoopsOk.seq ?_ ?_
                 ·exact loops_none (by kernel_rfl)
                 ·refine LoopsOk.seq ?_ ?_
                  ·refine LoopsOk.block ?_
                   refine LoopsOk.seq ?_ ?_
                   ·exact loops_none (by kernel_rfl)
                   ·refine LoopsOk.seq ?_ ?_
                    ·exact loops_none (by kernel_rfl)
                    ·refine LoopsOk.block ?_
                     refine LoopsOk.loop (fun tm H=>?_) (fun k2095707 tm H r h0=>?_) (fun k2095707=>?_)
                     ·refine none_of fun r h0=>?_
                      obtain ⟨mF,kc,kd,kD,kE,kV,la,lm,lU,ln,hks,e0,e1,e9,e94,e95,e96,e101,e102,h⟩:=aW.lh2095707_inv (show aW.lh2095707 F eG eu ev ai bL [k32745] 0 tm H = some r from h0)
                      cases h
                     ·obtain ⟨mF,kc,kd,kD,kE,kV,la,lm,lU,ln,hks,e0,e1,e9,e94,e95,e96,e101,e102,h⟩:=aW.lh2095707_inv (show aW.lh2095707 F eG eu ev ai bL [k32745] (k2095707 + 1) tm H = some r from h0)
                      obtain rfl:mF = k32745:=by simpa [eq_comm] using hks
                      have q0:(Tm.put tm 0 (.ptr kc kd)) = tm:=by exact Tm.put_same e0
                      have q1:(Tm.put (Tm.put tm 0 (.ptr kc kd)) 1 (.int .i64 kD)) = tm:=by rw [q0]; exact Tm.put_same e1
                      have q2:(Tm.put (Tm.put (Tm.put tm 0 (.ptr kc kd)) 1 (.int .i64 kD)) 9 (.sl kE)) = tm:=by rw [q1]; exact Tm.put_same e9
                      have q3:(Tm.put (Tm.put (Tm.put (Tm.put tm 0 (.ptr kc kd)) 1 (.int .i64 kD)) 9 (.sl kE)) 94 (.sl kV)) = tm:=by rw [q2]; exact Tm.put_same e94
                      have q4:(Tm.put (Tm.put (Tm.put (Tm.put (Tm.put tm 0 (.ptr kc kd)) 1 (.int .i64 kD)) 9 (.sl kE)) 94 (.sl kV)) 95 (.int .i64 la)) = tm:=by rw [q3]; exact Tm.put_same e95
                      have q5:(Tm.put (Tm.put (Tm.put (Tm.put (Tm.put (Tm.put tm 0 (.ptr kc kd)) 1 (.int .i64 kD)) 9 (.sl kE)) 94 (.sl kV)) 95 (.int .i64 la)) 96 (.int .i64 lm)) = tm:=by rw [q4]; exact Tm.put_same e96
                      have q6:(Tm.put (Tm.put (Tm.put (Tm.put (Tm.put (Tm.put (Tm.put tm 0 (.ptr kc kd)) 1 (.int .i64 kD)) 9 (.sl kE)) 94 (.sl kV)) 95 (.int .i64 la)) 96 (.int .i64 lm)) 101 (.int .i64 lU)) = tm:=by rw [q5]; exact Tm.put_same e101
                      have q7:(Tm.put (Tm.put (Tm.put (Tm.put (Tm.put (Tm.put (Tm.put (Tm.put tm 0 (.ptr kc kd)) 1 (.int .i64 kD)) 9 (.sl kE)) 94 (.sl kV)) 95 (.int .i64 la)) 96 (.int .i64 lm)) 101 (.int .i64 lU)) 102 (.int .i64 ln)) = tm:=by rw [q6]; exact Tm.put_same e102
                      rw [← q7]
                      exact Eq.trans (by kernel_rfl) h
                     ·exact loops_none (by kernel_rfl)
                  ·exact loops_none (by kernel_rfl)
             ·refine LoopsOk.seq ?_ ?_
              ·exact loops_none (by kernel_rfl)
              ·refine LoopsOk.block ?_
               refine LoopsOk.loop (fun tm H=>?_) (fun k32747 tm H r h0=>?_) (fun k32747=>?_)
               ·refine none_of fun r h0=>?_
                obtain ⟨jY,jZ,iU,jF,iV,hks,e0,e1,e120,e121,h⟩:=aW.lh32747_inv (show aW.lh32747 F eG eu ev ai bL [] 0 tm H = some r from h0)
                cases h
               ·obtain ⟨jY,jZ,iU,jF,iV,hks,e0,e1,e120,e121,h⟩:=aW.lh32747_inv (show aW.lh32747 F eG eu ev ai bL [] (k32747 + 1) tm H = some r from h0)
                have q0:(Tm.put tm 0 (.ptr jY jZ)) = tm:=by exact Tm.put_same e0
                have q1:(Tm.put (Tm.put tm 0 (.ptr jY jZ)) 1 (.int .i64 iU)) = tm:=by rw [q0]; exact Tm.put_same e1
                have q2:(Tm.put (Tm.put (Tm.put tm 0 (.ptr jY jZ)) 1 (.int .i64 iU)) 120 (.int .i64 jF)) = tm:=by rw [q1]; exact Tm.put_same e120
                have q3:(Tm.put (Tm.put (Tm.put (Tm.put tm 0 (.ptr jY jZ)) 1 (.int .i64 iU)) 120 (.int .i64 jF)) 121 (.int .i64 iV)) = tm:=by rw [q2]; exact Tm.put_same e121
                rw [← q3]
                exact Eq.trans (by kernel_rfl) h
               ·exact loops_none (by kernel_rfl)
            ·exact loops_none (by kernel_rfl)
          ·exact loops_none (by kernel_rfl)
theorem aW.eqX (F:Nat) (eG:Nat→Nat→Int→Hp→OA) (eu:Int→Int→Sl→Int→Int→Hp→OA) (ev:Int→Int→Sl→Int→Int→Hp→OA) (ai:Int→Int→Sl→Int→Int→Hp→OA) (bL:Int→Int→Sl→Int→Hp→OA) (aa:Nat) (ac:Nat) (ae:Int) (H:Hp):aCode tabs (mkOrc (aW.cs F eG eu ev ai bL)) aW.pn (aW.lh F eG eu ev ai bL) F [] 1 aW.code (argTm [(.ptr aa ac),(.int .i64 ae)]) H (fun tm H=>aresults tabs.ty H tm Try.f133.results.toList fun v=>some (v,H)) (fun _ _ _=>none) (fun tm H=>aresults tabs.ty H tm Try.f133.results.toList fun v=>some (v,H)) = aW.twX F eG eu ev ai bL aa ac ae H:=by kernel_rfl
theorem aW.cs_ok (F:Nat):∀ p ∈ aW.cs F (aH.tw F) (bM.tw F) (bN.tw F) (aP.tw F) (cq.tw F),∀ args H v H',p.2 args H = some (v,H')→Go.AE.T Try.prog p.1 args H v H':=by
 intro p hp
 simp only [aW.cs,List.mem_cons,List.not_mem_nil,or_false] at hp
 rcases hp with rfl | rfl | rfl | rfl | rfl
 ·exact fun args H v H' h=>aH.mk_T h
 ·exact fun args H v H' h=>bM.mk_T h
 ·exact fun args H v H' h=>bN.mk_T h
 ·exact fun args H v H' h=>aP.mk_T h
 ·exact fun args H v H' h=>cq.mk_T h
theorem aW.ok:codeOk aW.pn Try.f133.ntmps aW.tb aW.code = true:=by kernel_rfl
theorem aW.T {F:Nat} {aa:Nat} {ac:Nat} {ae:Int} {H:Hp} {v:AV} {H':Hp} (h:aW.tw F aa ac ae H = some (v,H')):Go.AE.T Try.prog 133 [(.ptr aa ac),(.int .i64 ae)] H v H':=
 Go.AE.T.of (Y:=tabs) (C:=mkOrc (aW.cs F (aH.tw F) (bM.tw F) (bN.tw F) (aP.tw F) (cq.tw F))) (PN:=aW.pn) (LH:=aW.lh F (aH.tw F) (bM.tw F) (bN.tw F) (aP.tw F) (cq.tw F)) (F:=F) (TB:=aW.tb) (fn:=Try.f133) (code:=aW.code) mixed tabs_ok (mkOrc_ok (aW.cs_ok F)) Try.func133 (by kernel_rfl) (by kernel_rfl) aW.ok (Nat.le_of_ble_eq_true (by kernel_rfl)) (aW.loops F (aH.tw F) (bM.tw F) (bN.tw F) (aP.tw F) (cq.tw F)) (Eq.trans (aW.eqX F (aH.tw F) (bM.tw F) (bN.tw F) (aP.tw F) (cq.tw F) aa ac ae H) h)
theorem aW.mk_T {F:Nat} {args:List AV} {H:Hp} {v:AV} {H':Hp} (h:aW.mk (aW.tw F) args H = some (v,H')):Go.AE.T Try.prog 133 args H v H':=by
 unfold aW.mk at h
 split at h
 ·exact aW.T h
 ·cases h
noncomputable def dv.twX (F:Nat) (aa:Int) (ag:Int) (H:Hp):OA:=(if ag = 0 then none else ((if ag = 0 then none else ((bif (decide ((Int.tmod aa ag) < 0)) then (some ((.int .i64 (IntKind.i64.wrap ((IntKind.i64.wrap (Int.tdiv aa ag)) - 1))),H)) else (some ((.int .i64 (IntKind.i64.wrap (Int.tdiv aa ag))),H)))))))
noncomputable def dv.tw (F:Nat) (aa:Int) (ag:Int) (H:Hp):OA:=dv.twX F aa ag H
noncomputable def dv.code:Go.Code:=(Try.f153.body).getD .skip
noncomputable def dv.lh (F:Nat) (p:Nat) (ks:List Nat) (n:Nat) (tm:Tm) (H:Hp):OA:=none
def dv.pn:Nat→List Nat:=fun i=>(([]:List (Nat×List Nat)).lookup i).getD []
def dv.tb:Nat→List (List Nat):=fun i=>(([]:List (Nat×List (List Nat))).lookup i).getD []
noncomputable def dv.mk (g:Int→Int→Hp→OA) (args:List AV) (H:Hp):OA:=match args with
 | [(.int .i64 aa),(.int .i64 ag)]=>g aa ag H
 | _=>none
noncomputable def dv.cs (F:Nat):List (FuncId×(List AV→Hp→OA)):=[]
theorem dv.loops (F:Nat):LoopsOk tabs (mkOrc (dv.cs F)) dv.pn (dv.lh F) F [] 1 dv.code (fun tm H=>aresults tabs.ty H tm Try.f153.results.toList fun v=>some (v,H)) (fun _ _ _=>none) (fun tm H=>aresults tabs.ty H tm Try.f153.results.toList fun v=>some (v,H)):=by
 exact loops_none (by kernel_rfl)
theorem dv.eqX (F:Nat) (aa:Int) (ag:Int) (H:Hp):aCode tabs (mkOrc (dv.cs F)) dv.pn (dv.lh F) F [] 1 dv.code (argTm [(.int .i64 aa),(.int .i64 ag)]) H (fun tm H=>aresults tabs.ty H tm Try.f153.results.toList fun v=>some (v,H)) (fun _ _ _=>none) (fun tm H=>aresults tabs.ty H tm Try.f153.results.toList fun v=>some (v,H)) = dv.twX F aa ag H:=by kernel_rfl
theorem dv.cs_ok (F:Nat):∀ p ∈ dv.cs F,∀ args H v H',p.2 args H = some (v,H')→Go.AE.T Try.prog p.1 args H v H':=by
 intro p hp
 exact absurd (show p ∈ [] from hp) List.not_mem_nil
theorem dv.ok:codeOk dv.pn Try.f153.ntmps dv.tb dv.code = true:=by kernel_rfl
theorem dv.T {F:Nat} {aa:Int} {ag:Int} {H:Hp} {v:AV} {H':Hp} (h:dv.tw F aa ag H = some (v,H')):Go.AE.T Try.prog 153 [(.int .i64 aa),(.int .i64 ag)] H v H':=
 Go.AE.T.of (Y:=tabs) (C:=mkOrc (dv.cs F)) (PN:=dv.pn) (LH:=dv.lh F) (F:=F) (TB:=dv.tb) (fn:=Try.f153) (code:=dv.code) mixed tabs_ok (mkOrc_ok (dv.cs_ok F)) Try.func153 (by kernel_rfl) (by kernel_rfl) dv.ok (Nat.le_of_ble_eq_true (by kernel_rfl)) (dv.loops F) (Eq.trans (dv.eqX F aa ag H) h)
theorem dv.mk_T {F:Nat} {args:List AV} {H:Hp} {v:AV} {H':Hp} (h:dv.mk (dv.tw F) args H = some (v,H')):Go.AE.T Try.prog 153 args H v H':=by
 unfold dv.mk at h
 split at h
 ·exact dv.T h
 ·cases h
noncomputable def dz.twX (F:Nat) (dm:Int→Hp→OA) (aa:Int) (ag:Int) (cH:Int) (H:Hp):OA:=(bif (aa != 0) then ((dm ag H).bind fun r4=>((r4.1).asI .i64).bind fun n5=>(dm aa r4.2).bind fun r6=>((r6.1).asI .i64).bind fun n7=>(if n7 = 0 then none else ((bif (decide (n5 > (IntKind.i64.wrap (Int.tdiv cH n7)))) then (some ((.tup [(.int .i64 0),(.bool false)]),r6.2)) else (some ((.tup [(.int .i64 (IntKind.i64.wrap (aa * ag))),(.bool true)]),r6.2)))))) else (some ((.tup [(.int .i64 (IntKind.i64.wrap (aa * ag))),(.bool true)]),H)))
noncomputable def dz.tw (F:Nat) (aa:Int) (ag:Int) (cH:Int) (H:Hp):OA:=dz.twX F (cf.tw F) aa ag cH H
noncomputable def dz.code:Go.Code:=(Try.f138.body).getD .skip
noncomputable def dz.lh (F:Nat) (dm:Int→Hp→OA) (p:Nat) (ks:List Nat) (n:Nat) (tm:Tm) (H:Hp):OA:=none
def dz.pn:Nat→List Nat:=fun i=>(([]:List (Nat×List Nat)).lookup i).getD []
def dz.tb:Nat→List (List Nat):=fun i=>(([]:List (Nat×List (List Nat))).lookup i).getD []
noncomputable def dz.mk (g:Int→Int→Int→Hp→OA) (args:List AV) (H:Hp):OA:=match args with
 | [(.int .i64 aa),(.int .i64 ag),(.int .i64 cH)]=>g aa ag cH H
 | _=>none
noncomputable def dz.cs (F:Nat) (dm:Int→Hp→OA):List (FuncId×(List AV→Hp→OA)):=[(102,cf.mk dm)]
theorem dz.loops (F:Nat) (dm:Int→Hp→OA):LoopsOk tabs (mkOrc (dz.cs F dm)) dz.pn (dz.lh F dm) F [] 1 dz.code (fun tm H=>aresults tabs.ty H tm Try.f138.results.toList fun v=>some (v,H)) (fun _ _ _=>none) (fun tm H=>aresults tabs.ty H tm Try.f138.results.toList fun v=>some (v,H)):=by
 exact loops_none (by kernel_rfl)
theorem dz.eqX (F:Nat) (dm:Int→Hp→OA) (aa:Int) (ag:Int) (cH:Int) (H:Hp):aCode tabs (mkOrc (dz.cs F dm)) dz.pn (dz.lh F dm) F [] 1 dz.code (argTm [(.int .i64 aa),(.int .i64 ag),(.int .i64 cH)]) H (fun tm H=>aresults tabs.ty H tm Try.f138.results.toList fun v=>some (v,H)) (fun _ _ _=>none) (fun tm H=>aresults tabs.ty H tm Try.f138.results.toList fun v=>some (v,H)) = dz.twX F dm aa ag cH H:=by kernel_rfl
theorem dz.cs_ok (F:Nat):∀ p ∈ dz.cs F (cf.tw F),∀ args H v H',p.2 args H = some (v,H')→Go.AE.T Try.prog p.1 args H v H':=by
 intro p hp
 simp only [dz.cs,List.mem_cons,List.not_mem_nil,or_false] at hp
 subst hp
 exact fun args H v H' h=>cf.mk_T h
theorem dz.ok:codeOk dz.pn Try.f138.ntmps dz.tb dz.code = true:=by kernel_rfl
theorem dz.T {F:Nat} {aa:Int} {ag:Int} {cH:Int} {H:Hp} {v:AV} {H':Hp} (h:dz.tw F aa ag cH H = some (v,H')):Go.AE.T Try.prog 138 [(.int .i64 aa),(.int .i64 ag),(.int .i64 cH)] H v H':=
 Go.AE.T.of (Y:=tabs) (C:=mkOrc (dz.cs F (cf.tw F))) (PN:=dz.pn) (LH:=dz.lh F (cf.tw F)) (F:=F) (TB:=dz.tb) (fn:=Try.f138) (code:=dz.code) mixed tabs_ok (mkOrc_ok (dz.cs_ok F)) Try.func138 (by kernel_rfl) (by kernel_rfl) dz.ok (Nat.le_of_ble_eq_true (by kernel_rfl)) (dz.loops F (cf.tw F)) (Eq.trans (dz.eqX F (cf.tw F) aa ag cH H) h)
theorem dz.mk_T {F:Nat} {args:List AV} {H:Hp} {v:AV} {H':Hp} (h:dz.mk (dz.tw F) args H = some (v,H')):Go.AE.T Try.prog 138 args H v H':=by
 unfold dz.mk at h
 split at h
 ·exact dz.T h
 ·cases h
noncomputable def dn.twX (F:Nat) (lX:Int→Int→Int→Hp→OA) (dm:Int→Hp→OA) (aa:Nat) (ac:Nat) (ae:Nat) (af:Nat) (bi:Int) (jq:Int) (H:Hp):OA:=(lX bi jq 2000000000000 H).bind fun r7=>((r7.1).asTup 2).bind fun l8=>(l8[0]?).bind fun v9=>((v9).asI .i64).bind fun n10=>(l8[1]?).bind fun v11=>((v11).asB).bind fun b12=>(Hp.ldI r7.2 .i64 ae af).bind fun n13=>(Hp.st r7.2 ae af (.int .i64 (IntKind.i64.wrap (n13 + n10)))).bind fun H14=>(bif (!b12) then ((Hp.st H14 aa (ac + 15) (.bool true)).bind fun H15=>(Hp.st H15 ae af (.int .i64 0)).bind fun H16=>some ((.tup []),H16)) else ((Hp.ldI H14 .i64 ae af).bind fun n17=>(dm n17 H14).bind fun r18=>((r18.1).asI .i64).bind fun n19=>(bif (decide (n19 > 1000000000000)) then ((Hp.st r18.2 aa (ac + 15) (.bool true)).bind fun H20=>(Hp.st H20 ae af (.int .i64 0)).bind fun H21=>some ((.tup []),H21)) else (some ((.tup []),r18.2)))))
noncomputable def dn.tw (F:Nat) (aa:Nat) (ac:Nat) (ae:Nat) (af:Nat) (bi:Int) (jq:Int) (H:Hp):OA:=dn.twX F (dz.tw F) (cf.tw F) aa ac ae af bi jq H
noncomputable def dn.code:Go.Code:=(Try.f163.body).getD .skip
noncomputable def dn.lh (F:Nat) (lX:Int→Int→Int→Hp→OA) (dm:Int→Hp→OA) (p:Nat) (ks:List Nat) (n:Nat) (tm:Tm) (H:Hp):OA:=none
def dn.pn:Nat→List Nat:=fun i=>(([]:List (Nat×List Nat)).lookup i).getD []
def dn.tb:Nat→List (List Nat):=fun i=>(([]:List (Nat×List (List Nat))).lookup i).getD []
noncomputable def dn.mk (g:Nat→Nat→Nat→Nat→Int→Int→Hp→OA) (args:List AV) (H:Hp):OA:=match args with
 | [(.ptr aa ac),(.ptr ae af),(.int .i64 bi),(.int .i64 jq)]=>g aa ac ae af bi jq H
 | _=>none
noncomputable def dn.cs (F:Nat) (lX:Int→Int→Int→Hp→OA) (dm:Int→Hp→OA):List (FuncId×(List AV→Hp→OA)):=[(138,dz.mk lX),(102,cf.mk dm)]
theorem dn.loops (F:Nat) (lX:Int→Int→Int→Hp→OA) (dm:Int→Hp→OA):LoopsOk tabs (mkOrc (dn.cs F lX dm)) dn.pn (dn.lh F lX dm) F [] 1 dn.code (fun tm H=>aresults tabs.ty H tm Try.f163.results.toList fun v=>some (v,H)) (fun _ _ _=>none) (fun tm H=>aresults tabs.ty H tm Try.f163.results.toList fun v=>some (v,H)):=by
 exact loops_none (by kernel_rfl)
theorem dn.eqX (F:Nat) (lX:Int→Int→Int→Hp→OA) (dm:Int→Hp→OA) (aa:Nat) (ac:Nat) (ae:Nat) (af:Nat) (bi:Int) (jq:Int) (H:Hp):aCode tabs (mkOrc (dn.cs F lX dm)) dn.pn (dn.lh F lX dm) F [] 1 dn.code (argTm [(.ptr aa ac),(.ptr ae af),(.int .i64 bi),(.int .i64 jq)]) H (fun tm H=>aresults tabs.ty H tm Try.f163.results.toList fun v=>some (v,H)) (fun _ _ _=>none) (fun tm H=>aresults tabs.ty H tm Try.f163.results.toList fun v=>some (v,H)) = dn.twX F lX dm aa ac ae af bi jq H:=by kernel_rfl
theorem dn.cs_ok (F:Nat):∀ p ∈ dn.cs F (dz.tw F) (cf.tw F),∀ args H v H',p.2 args H = some (v,H')→Go.AE.T Try.prog p.1 args H v H':=by
 intro p hp
 simp only [dn.cs,List.mem_cons,List.not_mem_nil,or_false] at hp
 rcases hp with rfl | rfl
 ·exact fun args H v H' h=>dz.mk_T h
 ·exact fun args H v H' h=>cf.mk_T h
theorem dn.ok:codeOk dn.pn Try.f163.ntmps dn.tb dn.code = true:=by kernel_rfl
theorem dn.T {F:Nat} {aa:Nat} {ac:Nat} {ae:Nat} {af:Nat} {bi:Int} {jq:Int} {H:Hp} {v:AV} {H':Hp} (h:dn.tw F aa ac ae af bi jq H = some (v,H')):Go.AE.T Try.prog 163 [(.ptr aa ac),(.ptr ae af),(.int .i64 bi),(.int .i64 jq)] H v H':=
 Go.AE.T.of (Y:=tabs) (C:=mkOrc (dn.cs F (dz.tw F) (cf.tw F))) (PN:=dn.pn) (LH:=dn.lh F (dz.tw F) (cf.tw F)) (F:=F) (TB:=dn.tb) (fn:=Try.f163) (code:=dn.code) mixed tabs_ok (mkOrc_ok (dn.cs_ok F)) Try.func163 (by kernel_rfl) (by kernel_rfl) dn.ok (Nat.le_of_ble_eq_true (by kernel_rfl)) (dn.loops F (dz.tw F) (cf.tw F)) (Eq.trans (dn.eqX F (dz.tw F) (cf.tw F) aa ac ae af bi jq H) h)
theorem dn.mk_T {F:Nat} {args:List AV} {H:Hp} {v:AV} {H':Hp} (h:dn.mk (dn.tw F) args H = some (v,H')):Go.AE.T Try.prog 163 args H v H':=by
 unfold dn.mk at h
 split at h
 ·exact dn.T h
 ·cases h
noncomputable def bE.l7 (F:Nat) (ai:Int→Int→Sl→Int→Int→Hp→OA) (fm:Nat→Nat→Nat→Nat→Int→Int→Hp→OA) :Nat→Nat→Nat→Int→Int→Int→Nat→Nat→Int→Int→Hp→OA
 | 0,_,_,_,_,_,_,_,_,_,_=>none
 | kK + 1,cO,eI,cd,dP,eR,cN,gh,fu,eN,H23=>(bif (decide (eN < fu)) then ((Hp.ldI H23 .i64 cN gh).bind fun n36=>(Hp.ldI H23 .i64 cN (gh + 1)).bind fun n37=>(Hp.ldSl H23 cN (gh + 2)).bind fun s38=>(ai n36 n37 s38 cd eN H23).bind fun r39=>((r39.1).asP).bind fun p40=>(if Cons H23 r39.2 then ((Hp.ldI r39.2 .i64 cN gh).bind fun n41=>(Hp.ldI r39.2 .i64 cN (gh + 1)).bind fun n42=>(Hp.ldSl r39.2 cN (gh + 2)).bind fun s43=>(ai n41 n42 s43 dP eN r39.2).bind fun r44=>((r44.1).asP).bind fun p45=>(Hp.ldI r44.2 .i64 p45.1 p45.2).bind fun n46=>(fm cO eI p40.1 p40.2 n46 eR r44.2).bind fun r47=>bE.l7 F ai fm kK cO eI cd dP eR cN gh fu (IntKind.i64.wrap (eN + 1)) r47.2) else none)) else (some ((.tup []),H23)))
termination_by structural n=>n
noncomputable def bE.twX (F:Nat) (ai:Int→Int→Sl→Int→Int→Hp→OA) (fm:Nat→Nat→Nat→Nat→Int→Int→Hp→OA) (aa:Nat) (ac:Nat) (ae:Int) (af:Int) (bt:Sl) (cJ:Int) (cK:Int) (cn:Int) (H:Hp):OA:=(Hp.new H [(.int .i64 ae),(.int .i64 af),(.sl bt)]).bind fun H9=>(Hp.ldI H9 .i64 H.length 1).bind fun n10=>bE.l7 F ai fm F aa ac cJ cK cn H.length 0 n10 0 H9
noncomputable def bE.tw (F:Nat) (aa:Nat) (ac:Nat) (ae:Int) (af:Int) (bt:Sl) (cJ:Int) (cK:Int) (cn:Int) (H:Hp):OA:=bE.twX F (aP.tw F) (dn.tw F) aa ac ae af bt cJ cK cn H
noncomputable def bE.code:Go.Code:=(Try.f157.body).getD .skip
noncomputable def bE.lh7 (F:Nat) (ai:Int→Int→Sl→Int→Int→Hp→OA) (fm:Nat→Nat→Nat→Nat→Int→Int→Hp→OA) (ks:List Nat) (n:Nat) (tm:Tm) (H:Hp):OA:=match ks,tm 0,tm 2,tm 3,tm 4,tm 6,tm 12,tm 13 with
 | [],(.ptr cO eI),(.int .i64 cd),(.int .i64 dP),(.int .i64 eR),(.ptr cN gh),(.int .i64 fu),(.int .i64 eN)=>bE.l7 F ai fm n cO eI cd dP eR cN gh fu eN H
 | _,_,_,_,_,_,_,_=>none
theorem bE.lh7_inv {F:Nat} {ai:Int→Int→Sl→Int→Int→Hp→OA} {fm:Nat→Nat→Nat→Nat→Int→Int→Hp→OA} {ks:List Nat} {n:Nat} {tm:Tm} {H:Hp} {r:AV×Hp} (h:bE.lh7 F ai fm ks n tm H = some r):∃ cO:Nat,∃ eI:Nat,∃ cd:Int,∃ dP:Int,∃ eR:Int,∃ cN:Nat,∃ gh:Nat,∃ fu:Int,∃ eN:Int,ks = []∧tm 0 = (.ptr cO eI)∧tm 2 = (.int .i64 cd)∧tm 3 = (.int .i64 dP)∧tm 4 = (.int .i64 eR)∧tm 6 = (.ptr cN gh)∧tm 12 = (.int .i64 fu)∧tm 13 = (.int .i64 eN)∧bE.l7 F ai fm n cO eI cd dP eR cN gh fu eN H = some r:=by
 unfold bE.lh7 at h
 split at h
 ·exact ⟨_,_,_,_,_,_,_,_,_,rfl,by assumption,by assumption,by assumption,by assumption,by assumption,by assumption,by assumption,h⟩
 ·cases h
noncomputable def bE.lh (F:Nat) (ai:Int→Int→Sl→Int→Int→Hp→OA) (fm:Nat→Nat→Nat→Nat→Int→Int→Hp→OA) (p:Nat) (ks:List Nat) (n:Nat) (tm:Tm) (H:Hp):OA:=bif p.beq 7 then bE.lh7 F ai fm ks n tm H else (none)
def bE.pn:Nat→List Nat:=fun i=>(([(4,[8,12])]:List (Nat×List Nat)).lookup i).getD []
def bE.tb:Nat→List (List Nat):=fun i=>(([(4,[[],[],[],[],[1,2,3],[],[],[],[1,2,3,4,5,6,7],[1,2,3,4,5,6,7,8],[1,2,3,4,5,6,7,8,9],[],[0,1,2,3,4,5,6,7,8,9,10,11]])]:List (Nat×List (List Nat))).lookup i).getD []
noncomputable def bE.mk (g:Nat→Nat→Int→Int→Sl→Int→Int→Int→Hp→OA) (args:List AV) (H:Hp):OA:=match args with
 | [(.ptr aa ac),(.agg [(.int .i64 ae),(.int .i64 af),(.sl bt)]),(.int .i64 cJ),(.int .i64 cK),(.int .i64 cn)]=>g aa ac ae af bt cJ cK cn H
 | _=>none
noncomputable def bE.cs (F:Nat) (ai:Int→Int→Sl→Int→Int→Hp→OA) (fm:Nat→Nat→Nat→Nat→Int→Int→Hp→OA):List (FuncId×(List AV→Hp→OA)):=[(95,aP.mk ai),(163,dn.mk fm)]
theorem bE.loops (F:Nat) (ai:Int→Int→Sl→Int→Int→Hp→OA) (fm:Nat→Nat→Nat→Nat→Int→Int→Hp→OA):LoopsOk tabs (mkOrc (bE.cs F ai fm)) bE.pn (bE.lh F ai fm) F [] 1 bE.code (fun tm H=>aresults tabs.ty H tm Try.f157.results.toList fun v=>some (v,H)) (fun _ _ _=>none) (fun tm H=>aresults tabs.ty H tm Try.f157.results.toList fun v=>some (v,H)):=by
 refine LoopsOk.seq ?_ ?_
 ·exact loops_none (by kernel_rfl)
 ·refine LoopsOk.seq ?_ ?_
  ·exact loops_none (by kernel_rfl)
  ·refine LoopsOk.block ?_
   refine LoopsOk.loop (fun tm H=>?_) (fun k7 tm H r h0=>?_) (fun k7=>?_)
   ·refine none_of fun r h0=>?_
    obtain ⟨cO,eI,cd,dP,eR,cN,gh,fu,eN,hks,e0,e2,e3,e4,e6,e12,e13,h⟩:=bE.lh7_inv (show bE.lh7 F ai fm [] 0 tm H = some r from h0)
    cases h
   ·obtain ⟨cO,eI,cd,dP,eR,cN,gh,fu,eN,hks,e0,e2,e3,e4,e6,e12,e13,h⟩:=bE.lh7_inv (show bE.lh7 F ai fm [] (k7 + 1) tm H = some r from h0)
    have q0:(Tm.put tm 0 (.ptr cO eI)) = tm:=by exact Tm.put_same e0
    have q1:(Tm.put (Tm.put tm 0 (.ptr cO eI)) 2 (.int .i64 cd)) = tm:=by rw [q0]; exact Tm.put_same e2
    have q2:(Tm.put (Tm.put (Tm.put tm 0 (.ptr cO eI)) 2 (.int .i64 cd)) 3 (.int .i64 dP)) = tm:=by rw [q1]; exact Tm.put_same e3
    have q3:(Tm.put (Tm.put (Tm.put (Tm.put tm 0 (.ptr cO eI)) 2 (.int .i64 cd)) 3 (.int .i64 dP)) 4 (.int .i64 eR)) = tm:=by rw [q2]; exact Tm.put_same e4
    have q4:(Tm.put (Tm.put (Tm.put (Tm.put (Tm.put tm 0 (.ptr cO eI)) 2 (.int .i64 cd)) 3 (.int .i64 dP)) 4 (.int .i64 eR)) 6 (.ptr cN gh)) = tm:=by rw [q3]; exact Tm.put_same e6
    have q5:(Tm.put (Tm.put (Tm.put (Tm.put (Tm.put (Tm.put tm 0 (.ptr cO eI)) 2 (.int .i64 cd)) 3 (.int .i64 dP)) 4 (.int .i64 eR)) 6 (.ptr cN gh)) 12 (.int .i64 fu)) = tm:=by rw [q4]; exact Tm.put_same e12
    have q6:(Tm.put (Tm.put (Tm.put (Tm.put (Tm.put (Tm.put (Tm.put tm 0 (.ptr cO eI)) 2 (.int .i64 cd)) 3 (.int .i64 dP)) 4 (.int .i64 eR)) 6 (.ptr cN gh)) 12 (.int .i64 fu)) 13 (.int .i64 eN)) = tm:=by rw [q5]; exact Tm.put_same e13
    rw [← q6]
    exact Eq.trans (by kernel_rfl) h
   ·exact loops_none (by kernel_rfl)
theorem bE.eqX (F:Nat) (ai:Int→Int→Sl→Int→Int→Hp→OA) (fm:Nat→Nat→Nat→Nat→Int→Int→Hp→OA) (aa:Nat) (ac:Nat) (ae:Int) (af:Int) (bt:Sl) (cJ:Int) (cK:Int) (cn:Int) (H:Hp):aCode tabs (mkOrc (bE.cs F ai fm)) bE.pn (bE.lh F ai fm) F [] 1 bE.code (argTm [(.ptr aa ac),(.agg [(.int .i64 ae),(.int .i64 af),(.sl bt)]),(.int .i64 cJ),(.int .i64 cK),(.int .i64 cn)]) H (fun tm H=>aresults tabs.ty H tm Try.f157.results.toList fun v=>some (v,H)) (fun _ _ _=>none) (fun tm H=>aresults tabs.ty H tm Try.f157.results.toList fun v=>some (v,H)) = bE.twX F ai fm aa ac ae af bt cJ cK cn H:=by kernel_rfl
theorem bE.cs_ok (F:Nat):∀ p ∈ bE.cs F (aP.tw F) (dn.tw F),∀ args H v H',p.2 args H = some (v,H')→Go.AE.T Try.prog p.1 args H v H':=by
 intro p hp
 simp only [bE.cs,List.mem_cons,List.not_mem_nil,or_false] at hp
 rcases hp with rfl | rfl
 ·exact fun args H v H' h=>aP.mk_T h
 ·exact fun args H v H' h=>dn.mk_T h
theorem bE.ok:codeOk bE.pn Try.f157.ntmps bE.tb bE.code = true:=by kernel_rfl
theorem bE.T {F:Nat} {aa:Nat} {ac:Nat} {ae:Int} {af:Int} {bt:Sl} {cJ:Int} {cK:Int} {cn:Int} {H:Hp} {v:AV} {H':Hp} (h:bE.tw F aa ac ae af bt cJ cK cn H = some (v,H')):Go.AE.T Try.prog 157 [(.ptr aa ac),(.agg [(.int .i64 ae),(.int .i64 af),(.sl bt)]),(.int .i64 cJ),(.int .i64 cK),(.int .i64 cn)] H v H':=
 Go.AE.T.of (Y:=tabs) (C:=mkOrc (bE.cs F (aP.tw F) (dn.tw F))) (PN:=bE.pn) (LH:=bE.lh F (aP.tw F) (dn.tw F)) (F:=F) (TB:=bE.tb) (fn:=Try.f157) (code:=bE.code) mixed tabs_ok (mkOrc_ok (bE.cs_ok F)) Try.func157 (by kernel_rfl) (by kernel_rfl) bE.ok (Nat.le_of_ble_eq_true (by kernel_rfl)) (bE.loops F (aP.tw F) (dn.tw F)) (Eq.trans (bE.eqX F (aP.tw F) (dn.tw F) aa ac ae af bt cJ cK cn H) h)
theorem bE.mk_T {F:Nat} {args:List AV} {H:Hp} {v:AV} {H':Hp} (h:bE.mk (bE.tw F) args H = some (v,H')):Go.AE.T Try.prog 157 args H v H':=by
 unfold bE.mk at h
 split at h
 ·exact bE.T h
 ·cases h
noncomputable def bF.l7 (F:Nat) (ai:Int→Int→Sl→Int→Int→Hp→OA) (fm:Nat→Nat→Nat→Nat→Int→Int→Hp→OA) :Nat→Nat→Nat→Int→Int→Int→Nat→Nat→Int→Int→Hp→OA
 | 0,_,_,_,_,_,_,_,_,_,_=>none
 | kK + 1,cO,eI,cd,dP,eR,cN,gh,fu,eN,H23=>(bif (decide (eN < fu)) then ((Hp.ldI H23 .i64 cN gh).bind fun n36=>(Hp.ldI H23 .i64 cN (gh + 1)).bind fun n37=>(Hp.ldSl H23 cN (gh + 2)).bind fun s38=>(ai n36 n37 s38 eN cd H23).bind fun r39=>((r39.1).asP).bind fun p40=>(if Cons H23 r39.2 then ((Hp.ldI r39.2 .i64 cN gh).bind fun n41=>(Hp.ldI r39.2 .i64 cN (gh + 1)).bind fun n42=>(Hp.ldSl r39.2 cN (gh + 2)).bind fun s43=>(ai n41 n42 s43 eN dP r39.2).bind fun r44=>((r44.1).asP).bind fun p45=>(Hp.ldI r44.2 .i64 p45.1 p45.2).bind fun n46=>(fm cO eI p40.1 p40.2 n46 eR r44.2).bind fun r47=>bF.l7 F ai fm kK cO eI cd dP eR cN gh fu (IntKind.i64.wrap (eN + 1)) r47.2) else none)) else (some ((.tup []),H23)))
termination_by structural n=>n
noncomputable def bF.twX (F:Nat) (ai:Int→Int→Sl→Int→Int→Hp→OA) (fm:Nat→Nat→Nat→Nat→Int→Int→Hp→OA) (aa:Nat) (ac:Nat) (ae:Int) (af:Int) (bt:Sl) (cJ:Int) (cK:Int) (cn:Int) (H:Hp):OA:=(Hp.new H [(.int .i64 ae),(.int .i64 af),(.sl bt)]).bind fun H9=>(Hp.ldI H9 .i64 H.length 0).bind fun n10=>bF.l7 F ai fm F aa ac cJ cK cn H.length 0 n10 0 H9
noncomputable def bF.tw (F:Nat) (aa:Nat) (ac:Nat) (ae:Int) (af:Int) (bt:Sl) (cJ:Int) (cK:Int) (cn:Int) (H:Hp):OA:=bF.twX F (aP.tw F) (dn.tw F) aa ac ae af bt cJ cK cn H
noncomputable def bF.code:Go.Code:=(Try.f158.body).getD .skip
noncomputable def bF.lh7 (F:Nat) (ai:Int→Int→Sl→Int→Int→Hp→OA) (fm:Nat→Nat→Nat→Nat→Int→Int→Hp→OA) (ks:List Nat) (n:Nat) (tm:Tm) (H:Hp):OA:=match ks,tm 0,tm 2,tm 3,tm 4,tm 6,tm 12,tm 13 with
 | [],(.ptr cO eI),(.int .i64 cd),(.int .i64 dP),(.int .i64 eR),(.ptr cN gh),(.int .i64 fu),(.int .i64 eN)=>bF.l7 F ai fm n cO eI cd dP eR cN gh fu eN H
 | _,_,_,_,_,_,_,_=>none
theorem bF.lh7_inv {F:Nat} {ai:Int→Int→Sl→Int→Int→Hp→OA} {fm:Nat→Nat→Nat→Nat→Int→Int→Hp→OA} {ks:List Nat} {n:Nat} {tm:Tm} {H:Hp} {r:AV×Hp} (h:bF.lh7 F ai fm ks n tm H = some r):∃ cO:Nat,∃ eI:Nat,∃ cd:Int,∃ dP:Int,∃ eR:Int,∃ cN:Nat,∃ gh:Nat,∃ fu:Int,∃ eN:Int,ks = []∧tm 0 = (.ptr cO eI)∧tm 2 = (.int .i64 cd)∧tm 3 = (.int .i64 dP)∧tm 4 = (.int .i64 eR)∧tm 6 = (.ptr cN gh)∧tm 12 = (.int .i64 fu)∧tm 13 = (.int .i64 eN)∧bF.l7 F ai fm n cO eI cd dP eR cN gh fu eN H = some r:=by
 unfold bF.lh7 at h
 split at h
 ·exact ⟨_,_,_,_,_,_,_,_,_,rfl,by assumption,by assumption,by assumption,by assumption,by assumption,by assumption,by assumption,h⟩
 ·cases h
noncomputable def bF.lh (F:Nat) (ai:Int→Int→Sl→Int→Int→Hp→OA) (fm:Nat→Nat→Nat→Nat→Int→Int→Hp→OA) (p:Nat) (ks:List Nat) (n:Nat) (tm:Tm) (H:Hp):OA:=bif p.beq 7 then bF.lh7 F ai fm ks n tm H else (none)
def bF.pn:Nat→List Nat:=fun i=>(([(4,[8,12])]:List (Nat×List Nat)).lookup i).getD []
def bF.tb:Nat→List (List Nat):=fun i=>(([(4,[[],[],[],[],[1,2,3],[],[],[],[1,2,3,4,5,6,7],[1,2,3,4,5,6,7,8],[1,2,3,4,5,6,7,8,9],[],[0,1,2,3,4,5,6,7,8,9,10,11]])]:List (Nat×List (List Nat))).lookup i).getD []
noncomputable def bF.mk (g:Nat→Nat→Int→Int→Sl→Int→Int→Int→Hp→OA) (args:List AV) (H:Hp):OA:=match args with
 | [(.ptr aa ac),(.agg [(.int .i64 ae),(.int .i64 af),(.sl bt)]),(.int .i64 cJ),(.int .i64 cK),(.int .i64 cn)]=>g aa ac ae af bt cJ cK cn H
 | _=>none
noncomputable def bF.cs (F:Nat) (ai:Int→Int→Sl→Int→Int→Hp→OA) (fm:Nat→Nat→Nat→Nat→Int→Int→Hp→OA):List (FuncId×(List AV→Hp→OA)):=[(95,aP.mk ai),(163,dn.mk fm)]
theorem bF.loops (F:Nat) (ai:Int→Int→Sl→Int→Int→Hp→OA) (fm:Nat→Nat→Nat→Nat→Int→Int→Hp→OA):LoopsOk tabs (mkOrc (bF.cs F ai fm)) bF.pn (bF.lh F ai fm) F [] 1 bF.code (fun tm H=>aresults tabs.ty H tm Try.f158.results.toList fun v=>some (v,H)) (fun _ _ _=>none) (fun tm H=>aresults tabs.ty H tm Try.f158.results.toList fun v=>some (v,H)):=by
 refine LoopsOk.seq ?_ ?_
 ·exact loops_none (by kernel_rfl)
 ·refine LoopsOk.seq ?_ ?_
  ·exact loops_none (by kernel_rfl)
  ·refine LoopsOk.block ?_
   refine LoopsOk.loop (fun tm H=>?_) (fun k7 tm H r h0=>?_) (fun k7=>?_)
   ·refine none_of fun r h0=>?_
    obtain ⟨cO,eI,cd,dP,eR,cN,gh,fu,eN,hks,e0,e2,e3,e4,e6,e12,e13,h⟩:=bF.lh7_inv (show bF.lh7 F ai fm [] 0 tm H = some r from h0)
    cases h
   ·obtain ⟨cO,eI,cd,dP,eR,cN,gh,fu,eN,hks,e0,e2,e3,e4,e6,e12,e13,h⟩:=bF.lh7_inv (show bF.lh7 F ai fm [] (k7 + 1) tm H = some r from h0)
    have q0:(Tm.put tm 0 (.ptr cO eI)) = tm:=by exact Tm.put_same e0
    have q1:(Tm.put (Tm.put tm 0 (.ptr cO eI)) 2 (.int .i64 cd)) = tm:=by rw [q0]; exact Tm.put_same e2
    have q2:(Tm.put (Tm.put (Tm.put tm 0 (.ptr cO eI)) 2 (.int .i64 cd)) 3 (.int .i64 dP)) = tm:=by rw [q1]; exact Tm.put_same e3
    have q3:(Tm.put (Tm.put (Tm.put (Tm.put tm 0 (.ptr cO eI)) 2 (.int .i64 cd)) 3 (.int .i64 dP)) 4 (.int .i64 eR)) = tm:=by rw [q2]; exact Tm.put_same e4
    have q4:(Tm.put (Tm.put (Tm.put (Tm.put (Tm.put tm 0 (.ptr cO eI)) 2 (.int .i64 cd)) 3 (.int .i64 dP)) 4 (.int .i64 eR)) 6 (.ptr cN gh)) = tm:=by rw [q3]; exact Tm.put_same e6
    have q5:(Tm.put (Tm.put (Tm.put (Tm.put (Tm.put (Tm.put tm 0 (.ptr cO eI)) 2 (.int .i64 cd)) 3 (.int .i64 dP)) 4 (.int .i64 eR)) 6 (.ptr cN gh)) 12 (.int .i64 fu)) = tm:=by rw [q4]; exact Tm.put_same e12
    have q6:(Tm.put (Tm.put (Tm.put (Tm.put (Tm.put (Tm.put (Tm.put tm 0 (.ptr cO eI)) 2 (.int .i64 cd)) 3 (.int .i64 dP)) 4 (.int .i64 eR)) 6 (.ptr cN gh)) 12 (.int .i64 fu)) 13 (.int .i64 eN)) = tm:=by rw [q5]; exact Tm.put_same e13
    rw [← q6]
    exact Eq.trans (by kernel_rfl) h
   ·exact loops_none (by kernel_rfl)
theorem bF.eqX (F:Nat) (ai:Int→Int→Sl→Int→Int→Hp→OA) (fm:Nat→Nat→Nat→Nat→Int→Int→Hp→OA) (aa:Nat) (ac:Nat) (ae:Int) (af:Int) (bt:Sl) (cJ:Int) (cK:Int) (cn:Int) (H:Hp):aCode tabs (mkOrc (bF.cs F ai fm)) bF.pn (bF.lh F ai fm) F [] 1 bF.code (argTm [(.ptr aa ac),(.agg [(.int .i64 ae),(.int .i64 af),(.sl bt)]),(.int .i64 cJ),(.int .i64 cK),(.int .i64 cn)]) H (fun tm H=>aresults tabs.ty H tm Try.f158.results.toList fun v=>some (v,H)) (fun _ _ _=>none) (fun tm H=>aresults tabs.ty H tm Try.f158.results.toList fun v=>some (v,H)) = bF.twX F ai fm aa ac ae af bt cJ cK cn H:=by kernel_rfl
theorem bF.cs_ok (F:Nat):∀ p ∈ bF.cs F (aP.tw F) (dn.tw F),∀ args H v H',p.2 args H = some (v,H')→Go.AE.T Try.prog p.1 args H v H':=by
 intro p hp
 simp only [bF.cs,List.mem_cons,List.not_mem_nil,or_false] at hp
 rcases hp with rfl | rfl
 ·exact fun args H v H' h=>aP.mk_T h
 ·exact fun args H v H' h=>dn.mk_T h
theorem bF.ok:codeOk bF.pn Try.f158.ntmps bF.tb bF.code = true:=by kernel_rfl
theorem bF.T {F:Nat} {aa:Nat} {ac:Nat} {ae:Int} {af:Int} {bt:Sl} {cJ:Int} {cK:Int} {cn:Int} {H:Hp} {v:AV} {H':Hp} (h:bF.tw F aa ac ae af bt cJ cK cn H = some (v,H')):Go.AE.T Try.prog 158 [(.ptr aa ac),(.agg [(.int .i64 ae),(.int .i64 af),(.sl bt)]),(.int .i64 cJ),(.int .i64 cK),(.int .i64 cn)] H v H':=
 Go.AE.T.of (Y:=tabs) (C:=mkOrc (bF.cs F (aP.tw F) (dn.tw F))) (PN:=bF.pn) (LH:=bF.lh F (aP.tw F) (dn.tw F)) (F:=F) (TB:=bF.tb) (fn:=Try.f158) (code:=bF.code) mixed tabs_ok (mkOrc_ok (bF.cs_ok F)) Try.func158 (by kernel_rfl) (by kernel_rfl) bF.ok (Nat.le_of_ble_eq_true (by kernel_rfl)) (bF.loops F (aP.tw F) (dn.tw F)) (Eq.trans (bF.eqX F (aP.tw F) (dn.tw F) aa ac ae af bt cJ cK cn H) h)
theorem bF.mk_T {F:Nat} {args:List AV} {H:Hp} {v:AV} {H':Hp} (h:bF.mk (bF.tw F) args H = some (v,H')):Go.AE.T Try.prog 158 args H v H':=by
 unfold bF.mk at h
 split at h
 ·exact bF.T h
 ·cases h
noncomputable def cR.twX (F:Nat) (h_:Nat→Nat→Int→Int→Sl→Int→Int→Int→Hp→OA) (ia:Nat→Nat→Int→Int→Sl→Int→Int→Int→Hp→OA) (aa:Nat) (ac:Nat) (ae:Int) (bB:Int) (co:Int) (H:Hp):OA:=(Hp.ldI H .i64 aa (ac + 6)).bind fun n6=>(Hp.ldI H .i64 aa ((ac + 6) + 1)).bind fun n7=>(Hp.ldSl H aa ((ac + 6) + 2)).bind fun s8=>(h_ aa ac n6 n7 s8 ae bB co H).bind fun r9=>(Hp.ldI r9.2 .i64 aa ac).bind fun n10=>(Hp.ldI r9.2 .i64 aa (ac + 1)).bind fun n11=>(Hp.ldSl r9.2 aa (ac + 2)).bind fun s12=>(h_ aa ac n10 n11 s12 ae bB co r9.2).bind fun r13=>(Hp.ldI r13.2 .i64 aa (ac + 3)).bind fun n14=>(Hp.ldI r13.2 .i64 aa ((ac + 3) + 1)).bind fun n15=>(Hp.ldSl r13.2 aa ((ac + 3) + 2)).bind fun s16=>(ia aa ac n14 n15 s16 bB ae (IntKind.i64.wrap (0 - co)) r13.2).bind fun r17=>some ((.tup []),r17.2)
noncomputable def cR.tw (F:Nat) (aa:Nat) (ac:Nat) (ae:Int) (bB:Int) (co:Int) (H:Hp):OA:=cR.twX F (bE.tw F) (bF.tw F) aa ac ae bB co H
noncomputable def cR.code:Go.Code:=(Try.f137.body).getD .skip
noncomputable def cR.lh (F:Nat) (h_:Nat→Nat→Int→Int→Sl→Int→Int→Int→Hp→OA) (ia:Nat→Nat→Int→Int→Sl→Int→Int→Int→Hp→OA) (p:Nat) (ks:List Nat) (n:Nat) (tm:Tm) (H:Hp):OA:=none
def cR.pn:Nat→List Nat:=fun i=>(([]:List (Nat×List Nat)).lookup i).getD []
def cR.tb:Nat→List (List Nat):=fun i=>(([]:List (Nat×List (List Nat))).lookup i).getD []
noncomputable def cR.mk (g:Nat→Nat→Int→Int→Int→Hp→OA) (args:List AV) (H:Hp):OA:=match args with
 | [(.ptr aa ac),(.int .i64 ae),(.int .i64 bB),(.int .i64 co)]=>g aa ac ae bB co H
 | _=>none
noncomputable def cR.cs (F:Nat) (h_:Nat→Nat→Int→Int→Sl→Int→Int→Int→Hp→OA) (ia:Nat→Nat→Int→Int→Sl→Int→Int→Int→Hp→OA):List (FuncId×(List AV→Hp→OA)):=[(157,bE.mk h_),(158,bF.mk ia)]
theorem cR.loops (F:Nat) (h_:Nat→Nat→Int→Int→Sl→Int→Int→Int→Hp→OA) (ia:Nat→Nat→Int→Int→Sl→Int→Int→Int→Hp→OA):LoopsOk tabs (mkOrc (cR.cs F h_ ia)) cR.pn (cR.lh F h_ ia) F [] 1 cR.code (fun tm H=>aresults tabs.ty H tm Try.f137.results.toList fun v=>some (v,H)) (fun _ _ _=>none) (fun tm H=>aresults tabs.ty H tm Try.f137.results.toList fun v=>some (v,H)):=by
 exact loops_none (by kernel_rfl)
theorem cR.eqX (F:Nat) (h_:Nat→Nat→Int→Int→Sl→Int→Int→Int→Hp→OA) (ia:Nat→Nat→Int→Int→Sl→Int→Int→Int→Hp→OA) (aa:Nat) (ac:Nat) (ae:Int) (bB:Int) (co:Int) (H:Hp):aCode tabs (mkOrc (cR.cs F h_ ia)) cR.pn (cR.lh F h_ ia) F [] 1 cR.code (argTm [(.ptr aa ac),(.int .i64 ae),(.int .i64 bB),(.int .i64 co)]) H (fun tm H=>aresults tabs.ty H tm Try.f137.results.toList fun v=>some (v,H)) (fun _ _ _=>none) (fun tm H=>aresults tabs.ty H tm Try.f137.results.toList fun v=>some (v,H)) = cR.twX F h_ ia aa ac ae bB co H:=by kernel_rfl
theorem cR.cs_ok (F:Nat):∀ p ∈ cR.cs F (bE.tw F) (bF.tw F),∀ args H v H',p.2 args H = some (v,H')→Go.AE.T Try.prog p.1 args H v H':=by
 intro p hp
 simp only [cR.cs,List.mem_cons,List.not_mem_nil,or_false] at hp
 rcases hp with rfl | rfl
 ·exact fun args H v H' h=>bE.mk_T h
 ·exact fun args H v H' h=>bF.mk_T h
theorem cR.ok:codeOk cR.pn Try.f137.ntmps cR.tb cR.code = true:=by kernel_rfl
theorem cR.T {F:Nat} {aa:Nat} {ac:Nat} {ae:Int} {bB:Int} {co:Int} {H:Hp} {v:AV} {H':Hp} (h:cR.tw F aa ac ae bB co H = some (v,H')):Go.AE.T Try.prog 137 [(.ptr aa ac),(.int .i64 ae),(.int .i64 bB),(.int .i64 co)] H v H':=
 Go.AE.T.of (Y:=tabs) (C:=mkOrc (cR.cs F (bE.tw F) (bF.tw F))) (PN:=cR.pn) (LH:=cR.lh F (bE.tw F) (bF.tw F)) (F:=F) (TB:=cR.tb) (fn:=Try.f137) (code:=cR.code) mixed tabs_ok (mkOrc_ok (cR.cs_ok F)) Try.func137 (by kernel_rfl) (by kernel_rfl) cR.ok (Nat.le_of_ble_eq_true (by kernel_rfl)) (cR.loops F (bE.tw F) (bF.tw F)) (Eq.trans (cR.eqX F (bE.tw F) (bF.tw F) aa ac ae bB co H) h)
theorem cR.mk_T {F:Nat} {args:List AV} {H:Hp} {v:AV} {H':Hp} (h:cR.mk (cR.tw F) args H = some (v,H')):Go.AE.T Try.prog 137 args H v H':=by
 unfold cR.mk at h
 split at h
 ·exact cR.T h
 ·cases h
noncomputable def dA.twX (F:Nat) (ia:Nat→Nat→Int→Int→Sl→Int→Int→Int→Hp→OA) (h_:Nat→Nat→Int→Int→Sl→Int→Int→Int→Hp→OA) (aa:Nat) (ac:Nat) (ae:Int) (bB:Int) (co:Int) (H:Hp):OA:=(Hp.ldI H .i64 aa (ac + 6)).bind fun n6=>(Hp.ldI H .i64 aa ((ac + 6) + 1)).bind fun n7=>(Hp.ldSl H aa ((ac + 6) + 2)).bind fun s8=>(ia aa ac n6 n7 s8 ae bB co H).bind fun r9=>(Hp.ldI r9.2 .i64 aa (ac + 9)).bind fun n10=>(Hp.ldI r9.2 .i64 aa ((ac + 9) + 1)).bind fun n11=>(Hp.ldSl r9.2 aa ((ac + 9) + 2)).bind fun s12=>(ia aa ac n10 n11 s12 ae bB co r9.2).bind fun r13=>(Hp.ldI r13.2 .i64 aa (ac + 12)).bind fun n14=>(Hp.ldI r13.2 .i64 aa ((ac + 12) + 1)).bind fun n15=>(Hp.ldSl r13.2 aa ((ac + 12) + 2)).bind fun s16=>(h_ aa ac n14 n15 s16 bB ae (IntKind.i64.wrap (0 - co)) r13.2).bind fun r17=>some ((.tup []),r17.2)
noncomputable def dA.tw (F:Nat) (aa:Nat) (ac:Nat) (ae:Int) (bB:Int) (co:Int) (H:Hp):OA:=dA.twX F (bF.tw F) (bE.tw F) aa ac ae bB co H
noncomputable def dA.code:Go.Code:=(Try.f154.body).getD .skip
noncomputable def dA.lh (F:Nat) (ia:Nat→Nat→Int→Int→Sl→Int→Int→Int→Hp→OA) (h_:Nat→Nat→Int→Int→Sl→Int→Int→Int→Hp→OA) (p:Nat) (ks:List Nat) (n:Nat) (tm:Tm) (H:Hp):OA:=none
def dA.pn:Nat→List Nat:=fun i=>(([]:List (Nat×List Nat)).lookup i).getD []
def dA.tb:Nat→List (List Nat):=fun i=>(([]:List (Nat×List (List Nat))).lookup i).getD []
noncomputable def dA.mk (g:Nat→Nat→Int→Int→Int→Hp→OA) (args:List AV) (H:Hp):OA:=match args with
 | [(.ptr aa ac),(.int .i64 ae),(.int .i64 bB),(.int .i64 co)]=>g aa ac ae bB co H
 | _=>none
noncomputable def dA.cs (F:Nat) (ia:Nat→Nat→Int→Int→Sl→Int→Int→Int→Hp→OA) (h_:Nat→Nat→Int→Int→Sl→Int→Int→Int→Hp→OA):List (FuncId×(List AV→Hp→OA)):=[(158,bF.mk ia),(157,bE.mk h_)]
theorem dA.loops (F:Nat) (ia:Nat→Nat→Int→Int→Sl→Int→Int→Int→Hp→OA) (h_:Nat→Nat→Int→Int→Sl→Int→Int→Int→Hp→OA):LoopsOk tabs (mkOrc (dA.cs F ia h_)) dA.pn (dA.lh F ia h_) F [] 1 dA.code (fun tm H=>aresults tabs.ty H tm Try.f154.results.toList fun v=>some (v,H)) (fun _ _ _=>none) (fun tm H=>aresults tabs.ty H tm Try.f154.results.toList fun v=>some (v,H)):=by
 exact loops_none (by kernel_rfl)
theorem dA.eqX (F:Nat) (ia:Nat→Nat→Int→Int→Sl→Int→Int→Int→Hp→OA) (h_:Nat→Nat→Int→Int→Sl→Int→Int→Int→Hp→OA) (aa:Nat) (ac:Nat) (ae:Int) (bB:Int) (co:Int) (H:Hp):aCode tabs (mkOrc (dA.cs F ia h_)) dA.pn (dA.lh F ia h_) F [] 1 dA.code (argTm [(.ptr aa ac),(.int .i64 ae),(.int .i64 bB),(.int .i64 co)]) H (fun tm H=>aresults tabs.ty H tm Try.f154.results.toList fun v=>some (v,H)) (fun _ _ _=>none) (fun tm H=>aresults tabs.ty H tm Try.f154.results.toList fun v=>some (v,H)) = dA.twX F ia h_ aa ac ae bB co H:=by kernel_rfl
theorem dA.cs_ok (F:Nat):∀ p ∈ dA.cs F (bF.tw F) (bE.tw F),∀ args H v H',p.2 args H = some (v,H')→Go.AE.T Try.prog p.1 args H v H':=by
 intro p hp
 simp only [dA.cs,List.mem_cons,List.not_mem_nil,or_false] at hp
 rcases hp with rfl | rfl
 ·exact fun args H v H' h=>bF.mk_T h
 ·exact fun args H v H' h=>bE.mk_T h
theorem dA.ok:codeOk dA.pn Try.f154.ntmps dA.tb dA.code = true:=by kernel_rfl
theorem dA.T {F:Nat} {aa:Nat} {ac:Nat} {ae:Int} {bB:Int} {co:Int} {H:Hp} {v:AV} {H':Hp} (h:dA.tw F aa ac ae bB co H = some (v,H')):Go.AE.T Try.prog 154 [(.ptr aa ac),(.int .i64 ae),(.int .i64 bB),(.int .i64 co)] H v H':=
 Go.AE.T.of (Y:=tabs) (C:=mkOrc (dA.cs F (bF.tw F) (bE.tw F))) (PN:=dA.pn) (LH:=dA.lh F (bF.tw F) (bE.tw F)) (F:=F) (TB:=dA.tb) (fn:=Try.f154) (code:=dA.code) mixed tabs_ok (mkOrc_ok (dA.cs_ok F)) Try.func154 (by kernel_rfl) (by kernel_rfl) dA.ok (Nat.le_of_ble_eq_true (by kernel_rfl)) (dA.loops F (bF.tw F) (bE.tw F)) (Eq.trans (dA.eqX F (bF.tw F) (bE.tw F) aa ac ae bB co H) h)
theorem dA.mk_T {F:Nat} {args:List AV} {H:Hp} {v:AV} {H':Hp} (h:dA.mk (dA.tw F) args H = some (v,H')):Go.AE.T Try.prog 154 args H v H':=by
 unfold dA.mk at h
 split at h
 ·exact dA.T h
 ·cases h
noncomputable def aI.j3 (F:Nat) (ai:Int→Int→Sl→Int→Int→Hp→OA) (fo:Int→Int→Hp→OA) (cY:Nat→Nat→Int→Int→Int→Hp→OA) (fp:Nat→Nat→Int→Int→Int→Hp→OA) (C15_:Nat→Nat→Int→Nat→Nat→Int→Hp→OA) (wF:Nat) (wG:Nat) (pg:Int) (rc:Nat) (wH:Nat) (ph:Int) (H119:Hp):OA:=C15_ wF wG pg rc wH (IntKind.i64.wrap (ph + 1)) H119
end Go.Proofs.Ytnkgeongfneafaa.AE
