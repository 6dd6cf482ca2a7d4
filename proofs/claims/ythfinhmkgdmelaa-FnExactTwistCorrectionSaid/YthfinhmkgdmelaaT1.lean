import Derived.Test.YthfinhmkgdmelaaTab1
import Derived.Test.YthfinhmkgdmelaaE2
set_option linter.unusedVariables false
set_option linter.unusedSimpArgs false
namespace Go.Proofs.Ythfinhmkgdmelaa.AE
open Go Go.AE Go.Proofs Go.RowKit Go.Maps
set_option linter.unusedVariables false
set_option maxHeartbeats 4000000
set_option maxRecDepth 100000
noncomputable def bB.twX (F:Nat) (aa:Sl) (ai:Int) (H:Hp):OA:=(bif (decide ((IntKind.i64.wrap (ai - (aa.n:Int))) < 0)) then (some ((.int .i64 (-1)),H)) else (some ((.int .i64 (IntKind.i64.wrap (ai - (aa.n:Int)))),H)))
noncomputable def bB.tw (F:Nat) (aa:Sl) (ai:Int) (H:Hp):OA:=bB.twX F aa ai H
noncomputable def bB.code:Go.Code:=(Try.f58.body).getD .skip
noncomputable def bB.lh (F:Nat) (p:Nat) (ks:List Nat) (n:Nat) (tm:Tm) (H:Hp):OA:=none
def bB.pn:Nat→List Nat:=fun i=>(([]:List (Nat×List Nat)).lookup i).getD []
def bB.tb:Nat→List (List Nat):=fun i=>(([]:List (Nat×List (List Nat))).lookup i).getD []
noncomputable def bB.mk (g:Sl→Int→Hp→OA) (args:List AV) (H:Hp):OA:=match args with
 | [(.sl aa),(.int .i64 ai)]=>g aa ai H
 | _=>none
noncomputable def bB.cs (F:Nat):List (FuncId×(List AV→Hp→OA)):=[]
theorem bB.loops (F:Nat):LoopsOk tabs (mkOrc (bB.cs F)) bB.pn (bB.lh F) F [] 1 bB.code (fun tm H=>aresults tabs.ty H tm Try.f58.results.toList fun v=>some (v,H)) (fun _ _ _=>none) (fun tm H=>aresults tabs.ty H tm Try.f58.results.toList fun v=>some (v,H)):=by
 exact loops_none (by kernel_rfl)
theorem bB.eqX (F:Nat) (aa:Sl) (ai:Int) (H:Hp):aCode tabs (mkOrc (bB.cs F)) bB.pn (bB.lh F) F [] 1 bB.code (argTm [(.sl aa),(.int .i64 ai)]) H (fun tm H=>aresults tabs.ty H tm Try.f58.results.toList fun v=>some (v,H)) (fun _ _ _=>none) (fun tm H=>aresults tabs.ty H tm Try.f58.results.toList fun v=>some (v,H)) = bB.twX F aa ai H:=by kernel_rfl
theorem bB.cs_ok (F:Nat):∀ p ∈ bB.cs F,∀ args H v H',p.2 args H = some (v,H')→Go.AE.T Try.prog p.1 args H v H':=by
 intro p hp
 exact absurd (show p ∈ [] from hp) List.not_mem_nil
theorem bB.ok:codeOk bB.pn Try.f58.ntmps bB.tb bB.code = true:=by kernel_rfl
theorem bB.T {F:Nat} {aa:Sl} {ai:Int} {H:Hp} {v:AV} {H':Hp} (h:bB.tw F aa ai H = some (v,H')):Go.AE.T Try.prog 58 [(.sl aa),(.int .i64 ai)] H v H':=
 Go.AE.T.of (Y:=tabs) (C:=mkOrc (bB.cs F)) (PN:=bB.pn) (LH:=bB.lh F) (F:=F) (TB:=bB.tb) (fn:=Try.f58) (code:=bB.code) mixed tabs_ok (mkOrc_ok (bB.cs_ok F)) Try.func58 (by kernel_rfl) (by kernel_rfl) bB.ok (Nat.le_of_ble_eq_true (by kernel_rfl)) (bB.loops F) (Eq.trans (bB.eqX F aa ai H) h)
theorem bB.mk_T {F:Nat} {args:List AV} {H:Hp} {v:AV} {H':Hp} (h:bB.mk (bB.tw F) args H = some (v,H')):Go.AE.T Try.prog 58 args H v H':=by
 unfold bB.mk at h
 split at h
 ·exact bB.T h
 ·cases h
noncomputable def bt.twX (F:Nat) (hC:Sl→Int→Hp→OA) (aa:Sl) (ab:Int) (ae:Int) (H:Hp):OA:=(Hp.new H [(.sl aa),(.int .i64 ab)]).bind fun H4=>(Hp.ldSl H4 H.length 0).bind fun s5=>(hC s5 ae H4).bind fun r6=>((r6.1).asI .i64).bind fun n7=>(bif (decide (n7 < 0)) then (some ((.int .i64 (-1)),r6.2)) else (some ((.int .i64 n7),r6.2)))
noncomputable def bt.tw (F:Nat) (aa:Sl) (ab:Int) (ae:Int) (H:Hp):OA:=bt.twX F (bB.tw F) aa ab ae H
noncomputable def bt.code:Go.Code:=(Try.f15.body).getD .skip
noncomputable def bt.lh (F:Nat) (hC:Sl→Int→Hp→OA) (p:Nat) (ks:List Nat) (n:Nat) (tm:Tm) (H:Hp):OA:=none
def bt.pn:Nat→List Nat:=fun i=>(([]:List (Nat×List Nat)).lookup i).getD []
def bt.tb:Nat→List (List Nat):=fun i=>(([]:List (Nat×List (List Nat))).lookup i).getD []
noncomputable def bt.mk (g:Sl→Int→Int→Hp→OA) (args:List AV) (H:Hp):OA:=match args with
 | [(.agg [(.sl aa),(.int .i64 ab)]),(.int .i64 ae)]=>g aa ab ae H
 | _=>none
noncomputable def bt.cs (F:Nat) (hC:Sl→Int→Hp→OA):List (FuncId×(List AV→Hp→OA)):=[(58,bB.mk hC)]
theorem bt.loops (F:Nat) (hC:Sl→Int→Hp→OA):LoopsOk tabs (mkOrc (bt.cs F hC)) bt.pn (bt.lh F hC) F [] 1 bt.code (fun tm H=>aresults tabs.ty H tm Try.f15.results.toList fun v=>some (v,H)) (fun _ _ _=>none) (fun tm H=>aresults tabs.ty H tm Try.f15.results.toList fun v=>some (v,H)):=by
 exact loops_none (by kernel_rfl)
theorem bt.eqX (F:Nat) (hC:Sl→Int→Hp→OA) (aa:Sl) (ab:Int) (ae:Int) (H:Hp):aCode tabs (mkOrc (bt.cs F hC)) bt.pn (bt.lh F hC) F [] 1 bt.code (argTm [(.agg [(.sl aa),(.int .i64 ab)]),(.int .i64 ae)]) H (fun tm H=>aresults tabs.ty H tm Try.f15.results.toList fun v=>some (v,H)) (fun _ _ _=>none) (fun tm H=>aresults tabs.ty H tm Try.f15.results.toList fun v=>some (v,H)) = bt.twX F hC aa ab ae H:=by kernel_rfl
theorem bt.cs_ok (F:Nat):∀ p ∈ bt.cs F (bB.tw F),∀ args H v H',p.2 args H = some (v,H')→Go.AE.T Try.prog p.1 args H v H':=by
 intro p hp
 simp only [bt.cs,List.mem_cons,List.not_mem_nil,or_false] at hp
 subst hp
 exact fun args H v H' h=>bB.mk_T h
theorem bt.ok:codeOk bt.pn Try.f15.ntmps bt.tb bt.code = true:=by kernel_rfl
theorem bt.T {F:Nat} {aa:Sl} {ab:Int} {ae:Int} {H:Hp} {v:AV} {H':Hp} (h:bt.tw F aa ab ae H = some (v,H')):Go.AE.T Try.prog 15 [(.agg [(.sl aa),(.int .i64 ab)]),(.int .i64 ae)] H v H':=
 Go.AE.T.of (Y:=tabs) (C:=mkOrc (bt.cs F (bB.tw F))) (PN:=bt.pn) (LH:=bt.lh F (bB.tw F)) (F:=F) (TB:=bt.tb) (fn:=Try.f15) (code:=bt.code) mixed tabs_ok (mkOrc_ok (bt.cs_ok F)) Try.func15 (by kernel_rfl) (by kernel_rfl) bt.ok (Nat.le_of_ble_eq_true (by kernel_rfl)) (bt.loops F (bB.tw F)) (Eq.trans (bt.eqX F (bB.tw F) aa ab ae H) h)
theorem bt.mk_T {F:Nat} {args:List AV} {H:Hp} {v:AV} {H':Hp} (h:bt.mk (bt.tw F) args H = some (v,H')):Go.AE.T Try.prog 15 args H v H':=by
 unfold bt.mk at h
 split at h
 ·exact bt.T h
 ·cases h
noncomputable def bC.twX (F:Nat) (aa:Int) (ab:Int) (aA:Int) (aB:Int) (az:Int) (H:Hp):OA:=(Hp.new H [(.int .i64 aa),(.int .i64 ab),(.int .i64 aA),(.int .i64 aB),(.int .i64 az)]).bind fun H6=>(Hp.new H6 [.int .i64 0,.int .i64 0,.int .i64 0,.int .i64 0,.int .i64 0]).bind fun H7=>(Hp.new H7 [.int .i64 0,.int .i64 0,.int .i64 0,.int .i64 0,.int .i64 0]).bind fun H8=>(Hp.ldI H8 .i64 H.length 0).bind fun n9=>(Hp.st H8 H7.length 0 (.int .i64 n9)).bind fun H10=>(Hp.ldI H10 .i64 H.length 1).bind fun n11=>(Hp.st H10 H7.length 1 (.int .i64 n11)).bind fun H12=>(Hp.ldI H12 .i64 H.length 2).bind fun n13=>(Hp.st H12 H7.length 2 (.int .i64 n13)).bind fun H14=>(Hp.ldI H14 .i64 H.length 3).bind fun n15=>(Hp.st H14 H7.length 3 (.int .i64 n15)).bind fun H16=>(Hp.ldI H16 .i64 H.length 4).bind fun n17=>(Hp.st H16 H7.length 4 (.int .i64 n17)).bind fun H18=>(Hp.ldI H18 .i64 H7.length 0).bind fun n19=>(Hp.ldI H18 .i64 H7.length (0 + 1)).bind fun n20=>(Hp.ldI H18 .i64 H7.length (0 + 2)).bind fun n21=>(Hp.ldI H18 .i64 H7.length (0 + 3)).bind fun n22=>(Hp.ldI H18 .i64 H7.length (0 + 4)).bind fun n23=>(Hp.st H18 H6.length 0 (.int .i64 n19)).bind fun H24=>(Hp.st H24 H6.length (0 + 1) (.int .i64 n20)).bind fun H25=>(Hp.st H25 H6.length (0 + 1 + 1) (.int .i64 n21)).bind fun H26=>(Hp.st H26 H6.length (0 + 1 + 1 + 1) (.int .i64 n22)).bind fun H27=>(Hp.st H27 H6.length (0 + 1 + 1 + 1 + 1) (.int .i64 n23)).bind fun H28=>(Hp.ldI H28 .i64 H6.length 0).bind fun n29=>(Hp.ldI H28 .i64 H6.length (0 + 1)).bind fun n30=>(Hp.ldI H28 .i64 H6.length (0 + 2)).bind fun n31=>(Hp.ldI H28 .i64 H6.length (0 + 3)).bind fun n32=>(Hp.ldI H28 .i64 H6.length (0 + 4)).bind fun n33=>some ((.agg [(.int .i64 n29),(.int .i64 n30),(.int .i64 n31),(.int .i64 n32),(.int .i64 n33)]),H28)
noncomputable def bC.tw (F:Nat) (aa:Int) (ab:Int) (aA:Int) (aB:Int) (az:Int) (H:Hp):OA:=bC.twX F aa ab aA aB az H
noncomputable def bC.code:Go.Code:=(Try.f115.body).getD .skip
noncomputable def bC.lh (F:Nat) (p:Nat) (ks:List Nat) (n:Nat) (tm:Tm) (H:Hp):OA:=none
def bC.pn:Nat→List Nat:=fun i=>(([]:List (Nat×List Nat)).lookup i).getD []
def bC.tb:Nat→List (List Nat):=fun i=>(([]:List (Nat×List (List Nat))).lookup i).getD []
noncomputable def bC.mk (g:Int→Int→Int→Int→Int→Hp→OA) (args:List AV) (H:Hp):OA:=match args with
 | [(.agg [(.int .i64 aa),(.int .i64 ab),(.int .i64 aA),(.int .i64 aB),(.int .i64 az)])]=>g aa ab aA aB az H
 | _=>none
noncomputable def bC.cs (F:Nat):List (FuncId×(List AV→Hp→OA)):=[]
theorem bC.loops (F:Nat):LoopsOk tabs (mkOrc (bC.cs F)) bC.pn (bC.lh F) F [] 1 bC.code (fun tm H=>aresults tabs.ty H tm Try.f115.results.toList fun v=>some (v,H)) (fun _ _ _=>none) (fun tm H=>aresults tabs.ty H tm Try.f115.results.toList fun v=>some (v,H)):=by
 exact loops_none (by kernel_rfl)
theorem bC.eqX (F:Nat) (aa:Int) (ab:Int) (aA:Int) (aB:Int) (az:Int) (H:Hp):aCode tabs (mkOrc (bC.cs F)) bC.pn (bC.lh F) F [] 1 bC.code (argTm [(.agg [(.int .i64 aa),(.int .i64 ab),(.int .i64 aA),(.int .i64 aB),(.int .i64 az)])]) H (fun tm H=>aresults tabs.ty H tm Try.f115.results.toList fun v=>some (v,H)) (fun _ _ _=>none) (fun tm H=>aresults tabs.ty H tm Try.f115.results.toList fun v=>some (v,H)) = bC.twX F aa ab aA aB az H:=by kernel_rfl
theorem bC.cs_ok (F:Nat):∀ p ∈ bC.cs F,∀ args H v H',p.2 args H = some (v,H')→Go.AE.T Try.prog p.1 args H v H':=by
 intro p hp
 exact absurd (show p ∈ [] from hp) List.not_mem_nil
theorem bC.ok:codeOk bC.pn Try.f115.ntmps bC.tb bC.code = true:=by kernel_rfl
theorem bC.T {F:Nat} {aa:Int} {ab:Int} {aA:Int} {aB:Int} {az:Int} {H:Hp} {v:AV} {H':Hp} (h:bC.tw F aa ab aA aB az H = some (v,H')):Go.AE.T Try.prog 115 [(.agg [(.int .i64 aa),(.int .i64 ab),(.int .i64 aA),(.int .i64 aB),(.int .i64 az)])] H v H':=
 Go.AE.T.of (Y:=tabs) (C:=mkOrc (bC.cs F)) (PN:=bC.pn) (LH:=bC.lh F) (F:=F) (TB:=bC.tb) (fn:=Try.f115) (code:=bC.code) mixed tabs_ok (mkOrc_ok (bC.cs_ok F)) Try.func115 (by kernel_rfl) (by kernel_rfl) bC.ok (Nat.le_of_ble_eq_true (by kernel_rfl)) (bC.loops F) (Eq.trans (bC.eqX F aa ab aA aB az H) h)
theorem bC.mk_T {F:Nat} {args:List AV} {H:Hp} {v:AV} {H':Hp} (h:bC.mk (bC.tw F) args H = some (v,H')):Go.AE.T Try.prog 115 args H v H':=by
 unfold bC.mk at h
 split at h
 ·exact bC.T h
 ·cases h
noncomputable def aT.l29 (F:Nat) (dE:Int→Int→Int→Int→Int→Hp→OA) :Nat→Sl→Sl→Int→Hp→OA
 | 0,_,_,_,_=>none
 | dG + 1,cK,gN,dH,H7=>(bif (decide (dH < (cK.n:Int))) then ((Sl.idx cK dH 5).bind fun p32=>(Hp.ldI H7 .i64 p32.1 p32.2).bind fun n33=>(Hp.ldI H7 .i64 p32.1 (p32.2 + 1)).bind fun n34=>(Hp.ldI H7 .i64 p32.1 (p32.2 + 2)).bind fun n35=>(Hp.ldI H7 .i64 p32.1 (p32.2 + 3)).bind fun n36=>(Hp.ldI H7 .i64 p32.1 (p32.2 + 4)).bind fun n37=>(dE n33 n34 n35 n36 n37 H7).bind fun r38=>((r38.1).asAgg 5).bind fun l39=>(l39[0]?).bind fun v40=>((v40).asI .i64).bind fun n41=>(l39[1]?).bind fun v42=>((v42).asI .i64).bind fun n43=>(l39[2]?).bind fun v44=>((v44).asI .i64).bind fun n45=>(l39[3]?).bind fun v46=>((v46).asI .i64).bind fun n47=>(l39[4]?).bind fun v48=>((v48).asI .i64).bind fun n49=>(Sl.idx gN dH 5).bind fun p50=>(Hp.st r38.2 p50.1 p50.2 (.int .i64 n41)).bind fun H51=>(Hp.st H51 p50.1 (p50.2 + 1) (.int .i64 n43)).bind fun H52=>(Hp.st H52 p50.1 (p50.2 + 1 + 1) (.int .i64 n45)).bind fun H53=>(Hp.st H53 p50.1 (p50.2 + 1 + 1 + 1) (.int .i64 n47)).bind fun H54=>(Hp.st H54 p50.1 (p50.2 + 1 + 1 + 1 + 1) (.int .i64 n49)).bind fun H55=>aT.l29 F dE dG cK gN (IntKind.i64.wrap (dH + 1)) H55) else (some ((.sl gN),H7)))
termination_by structural n=>n
noncomputable def aT.twX (F:Nat) (dE:Int→Int→Int→Int→Int→Hp→OA) (aa:Sl) (H:Hp):OA:=(Hp.mk H [.int .i64 0,.int .i64 0,.int .i64 0,.int .i64 0,.int .i64 0] 40 (aa.n:Int) (aa.n:Int)).bind fun m2=>aT.l29 F dE F aa m2.1 0 m2.2
noncomputable def aT.tw (F:Nat) (aa:Sl) (H:Hp):OA:=aT.twX F (bC.tw F) aa H
noncomputable def aT.code:Go.Code:=(Try.f60.body).getD .skip
noncomputable def aT.lh29 (F:Nat) (dE:Int→Int→Int→Int→Int→Hp→OA) (ks:List Nat) (n:Nat) (tm:Tm) (H:Hp):OA:=match ks,tm 0,tm 3,tm 4 with
 | [],(.sl cK),(.sl gN),(.int .i64 dH)=>aT.l29 F dE n cK gN dH H
 | _,_,_,_=>none
theorem aT.lh29_inv {F:Nat} {dE:Int→Int→Int→Int→Int→Hp→OA} {ks:List Nat} {n:Nat} {tm:Tm} {H:Hp} {r:AV×Hp} (h:aT.lh29 F dE ks n tm H = some r):∃ cK:Sl,∃ gN:Sl,∃ dH:Int,ks = []∧tm 0 = (.sl cK)∧tm 3 = (.sl gN)∧tm 4 = (.int .i64 dH)∧aT.l29 F dE n cK gN dH H = some r:=by
 unfold aT.lh29 at h
 split at h
 ·exact ⟨_,_,_,rfl,by assumption,by assumption,by assumption,h⟩
 ·cases h
noncomputable def aT.lh (F:Nat) (dE:Int→Int→Int→Int→Int→Hp→OA) (p:Nat) (ks:List Nat) (n:Nat) (tm:Tm) (H:Hp):OA:=bif p.beq 29 then aT.lh29 F dE ks n tm H else (none)
def aT.pn:Nat→List Nat:=fun i=>(([]:List (Nat×List Nat)).lookup i).getD []
def aT.tb:Nat→List (List Nat):=fun i=>(([]:List (Nat×List (List Nat))).lookup i).getD []
noncomputable def aT.mk (g:Sl→Hp→OA) (args:List AV) (H:Hp):OA:=match args with
 | [(.sl aa)]=>g aa H
 | _=>none
noncomputable def aT.cs (F:Nat) (dE:Int→Int→Int→Int→Int→Hp→OA):List (FuncId×(List AV→Hp→OA)):=[(115,bC.mk dE)]
theorem aT.loops (F:Nat) (dE:Int→Int→Int→Int→Int→Hp→OA):LoopsOk tabs (mkOrc (aT.cs F dE)) aT.pn (aT.lh F dE) F [] 1 aT.code (fun tm H=>aresults tabs.ty H tm Try.f60.results.toList fun v=>some (v,H)) (fun _ _ _=>none) (fun tm H=>aresults tabs.ty H tm Try.f60.results.toList fun v=>some (v,H)):=by
 refine LoopsOk.seq ?_ ?_
 ·exact loops_none (by kernel_rfl)
 ·refine LoopsOk.seq ?_ ?_
  ·exact loops_none (by kernel_rfl)
  ·refine LoopsOk.seq ?_ ?_
   ·refine LoopsOk.seq ?_ ?_
    ·exact loops_none (by kernel_rfl)
    ·refine LoopsOk.block ?_
     refine LoopsOk.loop (fun tm H=>?_) (fun k29 tm H r h0=>?_) (fun k29=>?_)
     ·refine none_of fun r h0=>?_
      obtain ⟨cK,gN,dH,hks,e0,e3,e4,h⟩:=aT.lh29_inv (show aT.lh29 F dE [] 0 tm H = some r from h0)
      cases h
     ·obtain ⟨cK,gN,dH,hks,e0,e3,e4,h⟩:=aT.lh29_inv (show aT.lh29 F dE [] (k29 + 1) tm H = some r from h0)
      have q0:(Tm.put tm 0 (.sl cK)) = tm:=by exact Tm.put_same e0
      have q1:(Tm.put (Tm.put tm 0 (.sl cK)) 3 (.sl gN)) = tm:=by rw [q0]; exact Tm.put_same e3
      have q2:(Tm.put (Tm.put (Tm.put tm 0 (.sl cK)) 3 (.sl gN)) 4 (.int .i64 dH)) = tm:=by rw [q1]; exact Tm.put_same e4
      rw [← q2]
      exact Eq.trans (by kernel_rfl) h
     ·exact loops_none (by kernel_rfl)
   ·exact loops_none (by kernel_rfl)
theorem aT.eqX (F:Nat) (dE:Int→Int→Int→Int→Int→Hp→OA) (aa:Sl) (H:Hp):aCode tabs (mkOrc (aT.cs F dE)) aT.pn (aT.lh F dE) F [] 1 aT.code (argTm [(.sl aa)]) H (fun tm H=>aresults tabs.ty H tm Try.f60.results.toList fun v=>some (v,H)) (fun _ _ _=>none) (fun tm H=>aresults tabs.ty H tm Try.f60.results.toList fun v=>some (v,H)) = aT.twX F dE aa H:=by kernel_rfl
theorem aT.cs_ok (F:Nat):∀ p ∈ aT.cs F (bC.tw F),∀ args H v H',p.2 args H = some (v,H')→Go.AE.T Try.prog p.1 args H v H':=by
 intro p hp
 simp only [aT.cs,List.mem_cons,List.not_mem_nil,or_false] at hp
 subst hp
 exact fun args H v H' h=>bC.mk_T h
theorem aT.ok:codeOk aT.pn Try.f60.ntmps aT.tb aT.code = true:=by kernel_rfl
theorem aT.T {F:Nat} {aa:Sl} {H:Hp} {v:AV} {H':Hp} (h:aT.tw F aa H = some (v,H')):Go.AE.T Try.prog 60 [(.sl aa)] H v H':=
 Go.AE.T.of (Y:=tabs) (C:=mkOrc (aT.cs F (bC.tw F))) (PN:=aT.pn) (LH:=aT.lh F (bC.tw F)) (F:=F) (TB:=aT.tb) (fn:=Try.f60) (code:=aT.code) mixed tabs_ok (mkOrc_ok (aT.cs_ok F)) Try.func60 (by kernel_rfl) (by kernel_rfl) aT.ok (Nat.le_of_ble_eq_true (by kernel_rfl)) (aT.loops F (bC.tw F)) (Eq.trans (aT.eqX F (bC.tw F) aa H) h)
theorem aT.mk_T {F:Nat} {args:List AV} {H:Hp} {v:AV} {H':Hp} (h:aT.mk (aT.tw F) args H = some (v,H')):Go.AE.T Try.prog 60 args H v H':=by
 unfold aT.mk at h
 split at h
 ·exact aT.T h
 ·cases h
noncomputable def br.twX (F:Nat) (hG:Sl→Hp→OA) (aa:Sl) (ab:Int) (H:Hp):OA:=(Hp.new H [(.sl aa),(.int .i64 ab)]).bind fun H3=>(Hp.new H3 [.sl ⟨none,0,.ex 0⟩,.int .i64 0]).bind fun H4=>(Hp.new H4 [.sl ⟨none,0,.ex 0⟩,.int .i64 0]).bind fun H5=>(Hp.ldSl H5 H.length 0).bind fun s6=>(hG s6 H5).bind fun r7=>((r7.1).asSl).bind fun s8=>(Hp.st r7.2 H4.length 0 (.sl s8)).bind fun H9=>(Hp.ldI H9 .i64 H.length 1).bind fun n10=>(Hp.st H9 H4.length 1 (.int .i64 n10)).bind fun H11=>(Hp.ldSl H11 H4.length 0).bind fun s12=>(Hp.ldI H11 .i64 H4.length (0 + 1)).bind fun n13=>(Hp.st H11 H3.length 0 (.sl s12)).bind fun H14=>(Hp.st H14 H3.length (0 + 1) (.int .i64 n13)).bind fun H15=>(Hp.ldSl H15 H3.length 0).bind fun s16=>(Hp.ldI H15 .i64 H3.length (0 + 1)).bind fun n17=>some ((.agg [(.sl s16),(.int .i64 n17)]),H15)
noncomputable def br.tw (F:Nat) (aa:Sl) (ab:Int) (H:Hp):OA:=br.twX F (aT.tw F) aa ab H
noncomputable def br.code:Go.Code:=(Try.f17.body).getD .skip
noncomputable def br.lh (F:Nat) (hG:Sl→Hp→OA) (p:Nat) (ks:List Nat) (n:Nat) (tm:Tm) (H:Hp):OA:=none
def br.pn:Nat→List Nat:=fun i=>(([]:List (Nat×List Nat)).lookup i).getD []
def br.tb:Nat→List (List Nat):=fun i=>(([]:List (Nat×List (List Nat))).lookup i).getD []
noncomputable def br.mk (g:Sl→Int→Hp→OA) (args:List AV) (H:Hp):OA:=match args with
 | [(.agg [(.sl aa),(.int .i64 ab)])]=>g aa ab H
 | _=>none
noncomputable def br.cs (F:Nat) (hG:Sl→Hp→OA):List (FuncId×(List AV→Hp→OA)):=[(60,aT.mk hG)]
theorem br.loops (F:Nat) (hG:Sl→Hp→OA):LoopsOk tabs (mkOrc (br.cs F hG)) br.pn (br.lh F hG) F [] 1 br.code (fun tm H=>aresults tabs.ty H tm Try.f17.results.toList fun v=>some (v,H)) (fun _ _ _=>none) (fun tm H=>aresults tabs.ty H tm Try.f17.results.toList fun v=>some (v,H)):=by
 exact loops_none (by kernel_rfl)
theorem br.eqX (F:Nat) (hG:Sl→Hp→OA) (aa:Sl) (ab:Int) (H:Hp):aCode tabs (mkOrc (br.cs F hG)) br.pn (br.lh F hG) F [] 1 br.code (argTm [(.agg [(.sl aa),(.int .i64 ab)])]) H (fun tm H=>aresults tabs.ty H tm Try.f17.results.toList fun v=>some (v,H)) (fun _ _ _=>none) (fun tm H=>aresults tabs.ty H tm Try.f17.results.toList fun v=>some (v,H)) = br.twX F hG aa ab H:=by kernel_rfl
theorem br.cs_ok (F:Nat):∀ p ∈ br.cs F (aT.tw F),∀ args H v H',p.2 args H = some (v,H')→Go.AE.T Try.prog p.1 args H v H':=by
 intro p hp
 simp only [br.cs,List.mem_cons,List.not_mem_nil,or_false] at hp
 subst hp
 exact fun args H v H' h=>aT.mk_T h
theorem br.ok:codeOk br.pn Try.f17.ntmps br.tb br.code = true:=by kernel_rfl
theorem br.T {F:Nat} {aa:Sl} {ab:Int} {H:Hp} {v:AV} {H':Hp} (h:br.tw F aa ab H = some (v,H')):Go.AE.T Try.prog 17 [(.agg [(.sl aa),(.int .i64 ab)])] H v H':=
 Go.AE.T.of (Y:=tabs) (C:=mkOrc (br.cs F (aT.tw F))) (PN:=br.pn) (LH:=br.lh F (aT.tw F)) (F:=F) (TB:=br.tb) (fn:=Try.f17) (code:=br.code) mixed tabs_ok (mkOrc_ok (br.cs_ok F)) Try.func17 (by kernel_rfl) (by kernel_rfl) br.ok (Nat.le_of_ble_eq_true (by kernel_rfl)) (br.loops F (aT.tw F)) (Eq.trans (br.eqX F (aT.tw F) aa ab H) h)
theorem br.mk_T {F:Nat} {args:List AV} {H:Hp} {v:AV} {H':Hp} (h:br.mk (br.tw F) args H = some (v,H')):Go.AE.T Try.prog 17 args H v H':=by
 unfold br.mk at h
 split at h
 ·exact br.T h
 ·cases h
noncomputable def aZ.twX (F:Nat) (aa:Int) (ai:Int) (bk:Int) (H:Hp):OA:=(bif (decide (aa ≥ ai)) then (some ((.bool (decide (aa ≤ bk))),H)) else (some ((.bool false),H)))
noncomputable def aZ.tw (F:Nat) (aa:Int) (ai:Int) (bk:Int) (H:Hp):OA:=aZ.twX F aa ai bk H
noncomputable def aZ.code:Go.Code:=(Try.f65.body).getD .skip
noncomputable def aZ.lh (F:Nat) (p:Nat) (ks:List Nat) (n:Nat) (tm:Tm) (H:Hp):OA:=none
def aZ.pn:Nat→List Nat:=fun i=>(([]:List (Nat×List Nat)).lookup i).getD []
def aZ.tb:Nat→List (List Nat):=fun i=>(([]:List (Nat×List (List Nat))).lookup i).getD []
noncomputable def aZ.mk (g:Int→Int→Int→Hp→OA) (args:List AV) (H:Hp):OA:=match args with
 | [(.int .i64 aa),(.int .i64 ai),(.int .i64 bk)]=>g aa ai bk H
 | _=>none
noncomputable def aZ.cs (F:Nat):List (FuncId×(List AV→Hp→OA)):=[]
theorem aZ.loops (F:Nat):LoopsOk tabs (mkOrc (aZ.cs F)) aZ.pn (aZ.lh F) F [] 1 aZ.code (fun tm H=>aresults tabs.ty H tm Try.f65.results.toList fun v=>some (v,H)) (fun _ _ _=>none) (fun tm H=>aresults tabs.ty H tm Try.f65.results.toList fun v=>some (v,H)):=by
 exact loops_none (by kernel_rfl)
theorem aZ.eqX (F:Nat) (aa:Int) (ai:Int) (bk:Int) (H:Hp):aCode tabs (mkOrc (aZ.cs F)) aZ.pn (aZ.lh F) F [] 1 aZ.code (argTm [(.int .i64 aa),(.int .i64 ai),(.int .i64 bk)]) H (fun tm H=>aresults tabs.ty H tm Try.f65.results.toList fun v=>some (v,H)) (fun _ _ _=>none) (fun tm H=>aresults tabs.ty H tm Try.f65.results.toList fun v=>some (v,H)) = aZ.twX F aa ai bk H:=by kernel_rfl
theorem aZ.cs_ok (F:Nat):∀ p ∈ aZ.cs F,∀ args H v H',p.2 args H = some (v,H')→Go.AE.T Try.prog p.1 args H v H':=by
 intro p hp
 exact absurd (show p ∈ [] from hp) List.not_mem_nil
theorem aZ.ok:codeOk aZ.pn Try.f65.ntmps aZ.tb aZ.code = true:=by kernel_rfl
theorem aZ.T {F:Nat} {aa:Int} {ai:Int} {bk:Int} {H:Hp} {v:AV} {H':Hp} (h:aZ.tw F aa ai bk H = some (v,H')):Go.AE.T Try.prog 65 [(.int .i64 aa),(.int .i64 ai),(.int .i64 bk)] H v H':=
 Go.AE.T.of (Y:=tabs) (C:=mkOrc (aZ.cs F)) (PN:=aZ.pn) (LH:=aZ.lh F) (F:=F) (TB:=aZ.tb) (fn:=Try.f65) (code:=aZ.code) mixed tabs_ok (mkOrc_ok (aZ.cs_ok F)) Try.func65 (by kernel_rfl) (by kernel_rfl) aZ.ok (Nat.le_of_ble_eq_true (by kernel_rfl)) (aZ.loops F) (Eq.trans (aZ.eqX F aa ai bk H) h)
theorem aZ.mk_T {F:Nat} {args:List AV} {H:Hp} {v:AV} {H':Hp} (h:aZ.mk (aZ.tw F) args H = some (v,H')):Go.AE.T Try.prog 65 args H v H':=by
 unfold aZ.mk at h
 split at h
 ·exact aZ.T h
 ·cases h
noncomputable def aX.twX (F:Nat) (aa:Int) (ab:Int) (aA:Int) (aB:Int) (az:Int) (bc:Int) (H:Hp):OA:=(Hp.new H [(.int .i64 aa),(.int .i64 ab),(.int .i64 aA),(.int .i64 aB),(.int .i64 az)]).bind fun H7=>(Hp.ldI H7 .i64 H.length 0).bind fun n8=>(Hp.ldI H7 .i64 H.length 1).bind fun n9=>(Hp.ldI H7 .i64 H.length 2).bind fun n10=>(Hp.ldI H7 .i64 H.length 3).bind fun n11=>(Hp.new H7 [(.int .i64 n8),(.int .i64 n9),(.int .i64 n10),(.int .i64 n11)]).bind fun H12=>(Sl.idx (⟨some (H7.length,0),4,.ex 4⟩:Sl) bc 1).bind fun p13=>(Hp.ldI H12 .i64 p13.1 p13.2).bind fun n14=>some ((.int .i64 n14),H12)
noncomputable def aX.tw (F:Nat) (aa:Int) (ab:Int) (aA:Int) (aB:Int) (az:Int) (bc:Int) (H:Hp):OA:=aX.twX F aa ab aA aB az bc H
noncomputable def aX.code:Go.Code:=(Try.f140.body).getD .skip
noncomputable def aX.lh (F:Nat) (p:Nat) (ks:List Nat) (n:Nat) (tm:Tm) (H:Hp):OA:=none
def aX.pn:Nat→List Nat:=fun i=>(([]:List (Nat×List Nat)).lookup i).getD []
def aX.tb:Nat→List (List Nat):=fun i=>(([]:List (Nat×List (List Nat))).lookup i).getD []
noncomputable def aX.mk (g:Int→Int→Int→Int→Int→Int→Hp→OA) (args:List AV) (H:Hp):OA:=match args with
 | [(.agg [(.int .i64 aa),(.int .i64 ab),(.int .i64 aA),(.int .i64 aB),(.int .i64 az)]),(.int .i64 bc)]=>g aa ab aA aB az bc H
 | _=>none
noncomputable def aX.cs (F:Nat):List (FuncId×(List AV→Hp→OA)):=[]
theorem aX.loops (F:Nat):LoopsOk tabs (mkOrc (aX.cs F)) aX.pn (aX.lh F) F [] 1 aX.code (fun tm H=>aresults tabs.ty H tm Try.f140.results.toList fun v=>some (v,H)) (fun _ _ _=>none) (fun tm H=>aresults tabs.ty H tm Try.f140.results.toList fun v=>some (v,H)):=by
 exact loops_none (by kernel_rfl)
theorem aX.eqX (F:Nat) (aa:Int) (ab:Int) (aA:Int) (aB:Int) (az:Int) (bc:Int) (H:Hp):aCode tabs (mkOrc (aX.cs F)) aX.pn (aX.lh F) F [] 1 aX.code (argTm [(.agg [(.int .i64 aa),(.int .i64 ab),(.int .i64 aA),(.int .i64 aB),(.int .i64 az)]),(.int .i64 bc)]) H (fun tm H=>aresults tabs.ty H tm Try.f140.results.toList fun v=>some (v,H)) (fun _ _ _=>none) (fun tm H=>aresults tabs.ty H tm Try.f140.results.toList fun v=>some (v,H)) = aX.twX F aa ab aA aB az bc H:=by kernel_rfl
theorem aX.cs_ok (F:Nat):∀ p ∈ aX.cs F,∀ args H v H',p.2 args H = some (v,H')→Go.AE.T Try.prog p.1 args H v H':=by
 intro p hp
 exact absurd (show p ∈ [] from hp) List.not_mem_nil
theorem aX.ok:codeOk aX.pn Try.f140.ntmps aX.tb aX.code = true:=by kernel_rfl
theorem aX.T {F:Nat} {aa:Int} {ab:Int} {aA:Int} {aB:Int} {az:Int} {bc:Int} {H:Hp} {v:AV} {H':Hp} (h:aX.tw F aa ab aA aB az bc H = some (v,H')):Go.AE.T Try.prog 140 [(.agg [(.int .i64 aa),(.int .i64 ab),(.int .i64 aA),(.int .i64 aB),(.int .i64 az)]),(.int .i64 bc)] H v H':=
 Go.AE.T.of (Y:=tabs) (C:=mkOrc (aX.cs F)) (PN:=aX.pn) (LH:=aX.lh F) (F:=F) (TB:=aX.tb) (fn:=Try.f140) (code:=aX.code) mixed tabs_ok (mkOrc_ok (aX.cs_ok F)) Try.func140 (by kernel_rfl) (by kernel_rfl) aX.ok (Nat.le_of_ble_eq_true (by kernel_rfl)) (aX.loops F) (Eq.trans (aX.eqX F aa ab aA aB az bc H) h)
theorem aX.mk_T {F:Nat} {args:List AV} {H:Hp} {v:AV} {H':Hp} (h:aX.mk (aX.tw F) args H = some (v,H')):Go.AE.T Try.prog 140 args H v H':=by
 unfold aX.mk at h
 split at h
 ·exact aX.T h
 ·cases h
noncomputable def aY.twX (F:Nat) (aa:Int) (ab:Int) (aA:Int) (aB:Int) (az:Int) (bc:Int) (H:Hp):OA:=(Hp.new H [(.int .i64 aa),(.int .i64 ab),(.int .i64 aA),(.int .i64 aB),(.int .i64 az)]).bind fun H7=>(bif (bc == 0) then (some ((.bool true),H7)) else ((bif (bc == 3) then ((Hp.ldI H7 .i64 H.length 4).bind fun n8=>(bif (n8 == 1) then (some ((.bool true),H7)) else ((bif (bc == 1) then ((Hp.ldI H7 .i64 H.length 4).bind fun n9=>some ((.bool (n9 == (-1))),H7)) else (some ((.bool false),H7)))))) else ((bif (bc == 1) then ((Hp.ldI H7 .i64 H.length 4).bind fun n10=>some ((.bool (n10 == (-1))),H7)) else (some ((.bool false),H7)))))))
noncomputable def aY.tw (F:Nat) (aa:Int) (ab:Int) (aA:Int) (aB:Int) (az:Int) (bc:Int) (H:Hp):OA:=aY.twX F aa ab aA aB az bc H
noncomputable def aY.code:Go.Code:=(Try.f141.body).getD .skip
noncomputable def aY.lh (F:Nat) (p:Nat) (ks:List Nat) (n:Nat) (tm:Tm) (H:Hp):OA:=none
def aY.pn:Nat→List Nat:=fun i=>(([]:List (Nat×List Nat)).lookup i).getD []
def aY.tb:Nat→List (List Nat):=fun i=>(([]:List (Nat×List (List Nat))).lookup i).getD []
noncomputable def aY.mk (g:Int→Int→Int→Int→Int→Int→Hp→OA) (args:List AV) (H:Hp):OA:=match args with
 | [(.agg [(.int .i64 aa),(.int .i64 ab),(.int .i64 aA),(.int .i64 aB),(.int .i64 az)]),(.int .i64 bc)]=>g aa ab aA aB az bc H
 | _=>none
noncomputable def aY.cs (F:Nat):List (FuncId×(List AV→Hp→OA)):=[]
theorem aY.loops (F:Nat):LoopsOk tabs (mkOrc (aY.cs F)) aY.pn (aY.lh F) F [] 1 aY.code (fun tm H=>aresults tabs.ty H tm Try.f141.results.toList fun v=>some (v,H)) (fun _ _ _=>none) (fun tm H=>aresults tabs.ty H tm Try.f141.results.toList fun v=>some (v,H)):=by
 exact loops_none (by kernel_rfl)
theorem aY.eqX (F:Nat) (aa:Int) (ab:Int) (aA:Int) (aB:Int) (az:Int) (bc:Int) (H:Hp):aCode tabs (mkOrc (aY.cs F)) aY.pn (aY.lh F) F [] 1 aY.code (argTm [(.agg [(.int .i64 aa),(.int .i64 ab),(.int .i64 aA),(.int .i64 aB),(.int .i64 az)]),(.int .i64 bc)]) H (fun tm H=>aresults tabs.ty H tm Try.f141.results.toList fun v=>some (v,H)) (fun _ _ _=>none) (fun tm H=>aresults tabs.ty H tm Try.f141.results.toList fun v=>some (v,H)) = aY.twX F aa ab aA aB az bc H:=by kernel_rfl
theorem aY.cs_ok (F:Nat):∀ p ∈ aY.cs F,∀ args H v H',p.2 args H = some (v,H')→Go.AE.T Try.prog p.1 args H v H':=by
 intro p hp
 exact absurd (show p ∈ [] from hp) List.not_mem_nil
theorem aY.ok:codeOk aY.pn Try.f141.ntmps aY.tb aY.code = true:=by kernel_rfl
theorem aY.T {F:Nat} {aa:Int} {ab:Int} {aA:Int} {aB:Int} {az:Int} {bc:Int} {H:Hp} {v:AV} {H':Hp} (h:aY.tw F aa ab aA aB az bc H = some (v,H')):Go.AE.T Try.prog 141 [(.agg [(.int .i64 aa),(.int .i64 ab),(.int .i64 aA),(.int .i64 aB),(.int .i64 az)]),(.int .i64 bc)] H v H':=
 Go.AE.T.of (Y:=tabs) (C:=mkOrc (aY.cs F)) (PN:=aY.pn) (LH:=aY.lh F) (F:=F) (TB:=aY.tb) (fn:=Try.f141) (code:=aY.code) mixed tabs_ok (mkOrc_ok (aY.cs_ok F)) Try.func141 (by kernel_rfl) (by kernel_rfl) aY.ok (Nat.le_of_ble_eq_true (by kernel_rfl)) (aY.loops F) (Eq.trans (aY.eqX F aa ab aA aB az bc H) h)
theorem aY.mk_T {F:Nat} {args:List AV} {H:Hp} {v:AV} {H':Hp} (h:aY.mk (aY.tw F) args H = some (v,H')):Go.AE.T Try.prog 141 args H v H':=by
 unfold aY.mk at h
 split at h
 ·exact aY.T h
 ·cases h
noncomputable def au.l3927 (F:Nat) (aU:Int→Int→Int→Int→Int→Int→Hp→OA) (bD:Int→Int→Int→Hp→OA) (aV:Int→Int→Int→Int→Int→Int→Hp→OA) (C61_:Nat→Nat→Int→Sl→Sl→Int→Hp→OA):Nat→Nat→Nat→Int→Sl→Sl→Int→Nat→Nat→Int→Hp→OA
 | 0,_,_,_,_,_,_,_,_,_,_=>none
 | xA + 1,dI,fm,cL,fo,fB,cj,cP,eg,dc,H126=>(bif (decide (dc < 4)) then ((Hp.ldI H126 .i64 cP eg).bind fun n151=>(Hp.ldI H126 .i64 cP (eg + 1)).bind fun n152=>(Hp.ldI H126 .i64 cP (eg + 2)).bind fun n153=>(Hp.ldI H126 .i64 cP (eg + 3)).bind fun n154=>(Hp.ldI H126 .i64 cP (eg + 4)).bind fun n155=>(aU n151 n152 n153 n154 n155 dc H126).bind fun r156=>((r156.1).asI .i64).bind fun n157=>(bD n157 0 (IntKind.i64.wrap (cL - 1)) r156.2).bind fun r158=>((r158.1).asB).bind fun b159=>(bif (!b159) then (some ((.bool false),r158.2)) else ((Hp.ldI r158.2 .i64 cP eg).bind fun n160=>(Hp.ldI r158.2 .i64 cP (eg + 1)).bind fun n161=>(Hp.ldI r158.2 .i64 cP (eg + 2)).bind fun n162=>(Hp.ldI r158.2 .i64 cP (eg + 3)).bind fun n163=>(Hp.ldI r158.2 .i64 cP (eg + 4)).bind fun n164=>(aV n160 n161 n162 n163 n164 dc r158.2).bind fun r165=>((r165.1).asB).bind fun b166=>(bif b166 then ((Sl.idx fo n157 1).bind fun p167=>(Hp.ldB r165.2 p167.1 p167.2).bind fun b168=>(bif b168 then (some ((.bool false),r165.2)) else ((Sl.idx fo n157 1).bind fun p169=>(Hp.st r165.2 p169.1 p169.2 (.bool true)).bind fun H170=>au.l3927 F aU bD aV C61_ xA dI fm cL fo fB cj cP eg (IntKind.i64.wrap (dc + 1)) H170))) else ((Sl.idx fB n157 1).bind fun p171=>(Hp.ldB r165.2 p171.1 p171.2).bind fun b172=>(bif b172 then (some ((.bool false),r165.2)) else ((Sl.idx fB n157 1).bind fun p173=>(Hp.st r165.2 p173.1 p173.2 (.bool true)).bind fun H174=>au.l3927 F aU bD aV C61_ xA dI fm cL fo fB cj cP eg (IntKind.i64.wrap (dc + 1)) H174))))))) else (C61_ dI fm cL fo fB (IntKind.i64.wrap (cj + 1)) H126))
termination_by structural n=>n
noncomputable def au.l61 (F:Nat) (aU:Int→Int→Int→Int→Int→Int→Hp→OA) (bD:Int→Int→Int→Hp→OA) (aV:Int→Int→Int→Int→Int→Int→Hp→OA) :Nat→Nat→Nat→Int→Sl→Sl→Int→Hp→OA
 | 0,_,_,_,_,_,_,_=>none
 | bm + 1,bV,cr,cf,cQ,cc,dJ,H16=>(Hp.ldSl H16 bV cr).bind fun s96=>(bif (decide (dJ < (s96.n:Int))) then ((Hp.ldSl H16 bV cr).bind fun s97=>(Sl.idx s97 dJ 5).bind fun p98=>(Hp.ldI H16 .i64 p98.1 p98.2).bind fun n99=>(Hp.ldI H16 .i64 p98.1 (p98.2 + 1)).bind fun n100=>(Hp.ldI H16 .i64 p98.1 (p98.2 + 2)).bind fun n101=>(Hp.ldI H16 .i64 p98.1 (p98.2 + 3)).bind fun n102=>(Hp.ldI H16 .i64 p98.1 (p98.2 + 4)).bind fun n103=>(Hp.new H16 [.int .i64 0,.int .i64 0,.int .i64 0,.int .i64 0,.int .i64 0]).bind fun H104=>(Hp.st H104 H16.length 0 (.int .i64 n99)).bind fun H105=>(Hp.st H105 H16.length (0 + 1) (.int .i64 n100)).bind fun H106=>(Hp.st H106 H16.length (0 + 1 + 1) (.int .i64 n101)).bind fun H107=>(Hp.st H107 H16.length (0 + 1 + 1 + 1) (.int .i64 n102)).bind fun H108=>(Hp.st H108 H16.length (0 + 1 + 1 + 1 + 1) (.int .i64 n103)).bind fun H109=>(Hp.ldI H109 .i64 H16.length 4).bind fun n110=>(bif (n110 != 1) then ((Hp.ldI H109 .i64 H16.length 4).bind fun n111=>(bif (n111 != (-1)) then (some ((.bool false),H109)) else (au.l3927 F aU bD aV (au.l61 F aU bD aV bm) F bV cr cf cQ cc dJ H16.length 0 0 H109))) else (au.l3927 F aU bD aV (au.l61 F aU bD aV bm) F bV cr cf cQ cc dJ H16.length 0 0 H109))) else (some ((.bool true),H16)))
termination_by structural n=>n
noncomputable def au.twX (F:Nat) (aU:Int→Int→Int→Int→Int→Int→Hp→OA) (bD:Int→Int→Int→Hp→OA) (aV:Int→Int→Int→Int→Int→Int→Hp→OA) (aa:Sl) (ab:Int) (H:Hp):OA:=(Hp.new H [(.sl aa),(.int .i64 ab)]).bind fun H3=>(Hp.ldSl H3 H.length 0).bind fun s4=>(Hp.mk H3 [.bool false] 1 (IntKind.i64.wrap (2 * (s4.n:Int))) (IntKind.i64.wrap (2 * (s4.n:Int)))).bind fun m5=>(Hp.mk m5.2 [.bool false] 1 (IntKind.i64.wrap (2 * (s4.n:Int))) (IntKind.i64.wrap (2 * (s4.n:Int)))).bind fun m6=>au.l61 F aU bD aV F H.length 0 (IntKind.i64.wrap (2 * (s4.n:Int))) m5.1 m6.1 0 m6.2
noncomputable def au.tw (F:Nat) (aa:Sl) (ab:Int) (H:Hp):OA:=au.twX F (aX.tw F) (aZ.tw F) (aY.tw F) aa ab H
noncomputable def au.code:Go.Code:=(Try.f104.body).getD .skip
noncomputable def au.lh61 (F:Nat) (aU:Int→Int→Int→Int→Int→Int→Hp→OA) (bD:Int→Int→Int→Hp→OA) (aV:Int→Int→Int→Int→Int→Int→Hp→OA) (ks:List Nat) (n:Nat) (tm:Tm) (H:Hp):OA:=match ks,tm 1,tm 3,tm 4,tm 5,tm 6 with
 | [],(.ptr bV cr),(.int .i64 cf),(.sl cQ),(.sl cc),(.int .i64 dJ)=>au.l61 F aU bD aV n bV cr cf cQ cc dJ H
 | _,_,_,_,_,_=>none
theorem au.lh61_inv {F:Nat} {aU:Int→Int→Int→Int→Int→Int→Hp→OA} {bD:Int→Int→Int→Hp→OA} {aV:Int→Int→Int→Int→Int→Int→Hp→OA} {ks:List Nat} {n:Nat} {tm:Tm} {H:Hp} {r:AV×Hp} (h:au.lh61 F aU bD aV ks n tm H = some r):∃ bV:Nat,∃ cr:Nat,∃ cf:Int,∃ cQ:Sl,∃ cc:Sl,∃ dJ:Int,ks = []∧tm 1 = (.ptr bV cr)∧tm 3 = (.int .i64 cf)∧tm 4 = (.sl cQ)∧tm 5 = (.sl cc)∧tm 6 = (.int .i64 dJ)∧au.l61 F aU bD aV n bV cr cf cQ cc dJ H = some r:=by
 unfold au.lh61 at h
 split at h
 ·exact ⟨_,_,_,_,_,_,rfl,by assumption,by assumption,by assumption,by assumption,by assumption,h⟩
 ·cases h
noncomputable def au.lh3927 (F:Nat) (aU:Int→Int→Int→Int→Int→Int→Hp→OA) (bD:Int→Int→Int→Hp→OA) (aV:Int→Int→Int→Int→Int→Int→Hp→OA) (ks:List Nat) (n:Nat) (tm:Tm) (H:Hp):OA:=match ks,tm 1,tm 3,tm 4,tm 5,tm 6,tm 7,tm 8 with
 | [bm],(.ptr dI fm),(.int .i64 cL),(.sl fo),(.sl fB),(.int .i64 cj),(.ptr cP eg),(.int .i64 dc)=>au.l3927 F aU bD aV (au.l61 F aU bD aV bm) n dI fm cL fo fB cj cP eg dc H
 | _,_,_,_,_,_,_,_=>none
theorem au.lh3927_inv {F:Nat} {aU:Int→Int→Int→Int→Int→Int→Hp→OA} {bD:Int→Int→Int→Hp→OA} {aV:Int→Int→Int→Int→Int→Int→Hp→OA} {ks:List Nat} {n:Nat} {tm:Tm} {H:Hp} {r:AV×Hp} (h:au.lh3927 F aU bD aV ks n tm H = some r):∃ bm:Nat,∃ dI:Nat,∃ fm:Nat,∃ cL:Int,∃ fo:Sl,∃ fB:Sl,∃ cj:Int,∃ cP:Nat,∃ eg:Nat,∃ dc:Int,ks = [bm]∧tm 1 = (.ptr dI fm)∧tm 3 = (.int .i64 cL)∧tm 4 = (.sl fo)∧tm 5 = (.sl fB)∧tm 6 = (.int .i64 cj)∧tm 7 = (.ptr cP eg)∧tm 8 = (.int .i64 dc)∧au.l3927 F aU bD aV (au.l61 F aU bD aV bm) n dI fm cL fo fB cj cP eg dc H = some r:=by
 unfold au.lh3927 at h
 split at h
 ·exact ⟨_,_,_,_,_,_,_,_,_,_,rfl,by assumption,by assumption,by assumption,by assumption,by assumption,by assumption,by assumption,h⟩
 ·cases h
noncomputable def au.lh (F:Nat) (aU:Int→Int→Int→Int→Int→Int→Hp→OA) (bD:Int→Int→Int→Hp→OA) (aV:Int→Int→Int→Int→Int→Int→Hp→OA) (p:Nat) (ks:List Nat) (n:Nat) (tm:Tm) (H:Hp):OA:=bif p.beq 3927 then au.lh3927 F aU bD aV ks n tm H else (bif p.beq 61 then au.lh61 F aU bD aV ks n tm H else (none))
def au.pn:Nat→List Nat:=fun i=>(([(2,[])]:List (Nat×List Nat)).lookup i).getD []
def au.tb:Nat→List (List Nat):=fun i=>(([(2,[[],[0],[],[2],[0,1],[0,1,2,3,4]])]:List (Nat×List (List Nat))).lookup i).getD []
noncomputable def au.mk (g:Sl→Int→Hp→OA) (args:List AV) (H:Hp):OA:=match args with
 | [(.agg [(.sl aa),(.int .i64 ab)])]=>g aa ab H
 | _=>none
noncomputable def au.cs (F:Nat) (aU:Int→Int→Int→Int→Int→Int→Hp→OA) (bD:Int→Int→Int→Hp→OA) (aV:Int→Int→Int→Int→Int→Int→Hp→OA):List (FuncId×(List AV→Hp→OA)):=[(140,aX.mk aU),(65,aZ.mk bD),(141,aY.mk aV)]
theorem au.loops (F:Nat) (aU:Int→Int→Int→Int→Int→Int→Hp→OA) (bD:Int→Int→Int→Hp→OA) (aV:Int→Int→Int→Int→Int→Int→Hp→OA):LoopsOk tabs (mkOrc (au.cs F aU bD aV)) au.pn (au.lh F aU bD aV) F [] 1 au.code (fun tm H=>aresults tabs.ty H tm Try.f104.results.toList fun v=>some (v,H)) (fun _ _ _=>none) (fun tm H=>aresults tabs.ty H tm Try.f104.results.toList fun v=>some (v,H)):=by
 refine LoopsOk.seq ?_ ?_
 ·exact loops_none (by kernel_rfl)
 ·refine LoopsOk.seq ?_ ?_
  ·exact loops_none (by kernel_rfl)
  ·refine LoopsOk.seq ?_ ?_
   ·exact loops_none (by kernel_rfl)
   ·refine LoopsOk.seq ?_ ?_
    ·refine LoopsOk.seq ?_ ?_
     ·exact loops_none (by kernel_rfl)
     ·refine LoopsOk.block ?_
      refine LoopsOk.loop (fun tm H=>?_) (fun k61 tm H r h0=>?_) (fun k61=>?_)
      ·refine none_of fun r h0=>?_
       obtain ⟨bV,cr,cf,cQ,cc,dJ,hks,e1,e3,e4,e5,e6,h⟩:=au.lh61_inv (show au.lh61 F aU bD aV [] 0 tm H = some r from h0)
       cases h
      ·obtain ⟨bV,cr,cf,cQ,cc,dJ,hks,e1,e3,e4,e5,e6,h⟩:=au.lh61_inv (show au.lh61 F aU bD aV [] (k61 + 1) tm H = some r from h0)
       have q0:(Tm.put tm 1 (.ptr bV cr)) = tm:=by exact Tm.put_same e1
       have q1:(Tm.put (Tm.put tm 1 (.ptr bV cr)) 3 (.int .i64 cf)) = tm:=by rw [q0]; exact Tm.put_same e3
       have q2:(Tm.put (Tm.put (Tm.put tm 1 (.ptr bV cr)) 3 (.int .i64 cf)) 4 (.sl cQ)) = tm:=by rw [q1]; exact Tm.put_same e4
       have q3:(Tm.put (Tm.put (Tm.put (Tm.put tm 1 (.ptr bV cr)) 3 (.int .i64 cf)) 4 (.sl cQ)) 5 (.sl cc)) = tm:=by rw [q2]; exact Tm.put_same e5
       have q4:(Tm.put (Tm.put (Tm.put (Tm.put (Tm.put tm 1 (.ptr bV cr)) 3 (.int .i64 cf)) 4 (.sl cQ)) 5 (.sl cc)) 6 (.int .i64 dJ)) = tm:=by rw [q3]; exact Tm.put_same e6
       rw [← q4]
       exact Eq.trans (by kernel_rfl) h
      ·refine LoopsOk.seq ?_ ?_
       ·exact loops_none (by kernel_rfl)
       ·refine LoopsOk.seq ?_ ?_
        ·refine LoopsOk.block ?_
         refine LoopsOk.seq ?_ ?_
         ·exact loops_none (by kernel_rfl)
         ·refine LoopsOk.seq ?_ ?_
          ·exact loops_none (by kernel_rfl)
          ·refine LoopsOk.seq ?_ ?_
           ·exact loops_none (by kernel_rfl)
           ·refine LoopsOk.block ?_
            refine LoopsOk.loop (fun tm H=>?_) (fun k3927 tm H r h0=>?_) (fun k3927=>?_)
            ·refine none_of fun r h0=>?_
             obtain ⟨bm,dI,fm,cL,fo,fB,cj,cP,eg,dc,hks,e1,e3,e4,e5,e6,e7,e8,h⟩:=au.lh3927_inv (show au.lh3927 F aU bD aV [k61] 0 tm H = some r from h0)
             cases h
            ·obtain ⟨bm,dI,fm,cL,fo,fB,cj,cP,eg,dc,hks,e1,e3,e4,e5,e6,e7,e8,h⟩:=au.lh3927_inv (show au.lh3927 F aU bD aV [k61] (k3927 + 1) tm H = some r from h0)
             obtain rfl:bm = k61:=by simpa [eq_comm] using hks
             have q0:(Tm.put tm 1 (.ptr dI fm)) = tm:=by exact Tm.put_same e1
             have q1:(Tm.put (Tm.put tm 1 (.ptr dI fm)) 3 (.int .i64 cL)) = tm:=by rw [q0]; exact Tm.put_same e3
             have q2:(Tm.put (Tm.put (Tm.put tm 1 (.ptr dI fm)) 3 (.int .i64 cL)) 4 (.sl fo)) = tm:=by rw [q1]; exact Tm.put_same e4
             have q3:(Tm.put (Tm.put (Tm.put (Tm.put tm 1 (.ptr dI fm)) 3 (.int .i64 cL)) 4 (.sl fo)) 5 (.sl fB)) = tm:=by rw [q2]; exact Tm.put_same e5
             have q4:(Tm.put (Tm.put (Tm.put (Tm.put (Tm.put tm 1 (.ptr dI fm)) 3 (.int .i64 cL)) 4 (.sl fo)) 5 (.sl fB)) 6 (.int .i64 cj)) = tm:=by rw [q3]; exact Tm.put_same e6
             have q5:(Tm.put (Tm.put (Tm.put (Tm.put (Tm.put (Tm.put tm 1 (.ptr dI fm)) 3 (.int .i64 cL)) 4 (.sl fo)) 5 (.sl fB)) 6 (.int .i64 cj)) 7 (.ptr cP eg)) = tm:=by rw [q4]; exact Tm.put_same e7
             have q6:(Tm.put (Tm.put (Tm.put (Tm.put (Tm.put (Tm.put (Tm.put tm 1 (.ptr dI fm)) 3 (.int .i64 cL)) 4 (.sl fo)) 5 (.sl fB)) 6 (.int .i64 cj)) 7 (.ptr cP eg)) 8 (.int .i64 dc)) = tm:=by rw [q5]; exact Tm.put_same e8
             rw [← q6]
             exact Eq.trans (by kernel_rfl) h
            ·exact loops_none (by kernel_rfl)
        ·exact loops_none (by kernel_rfl)
    ·exact loops_none (by kernel_rfl)
theorem au.eqX (F:Nat) (aU:Int→Int→Int→Int→Int→Int→Hp→OA) (bD:Int→Int→Int→Hp→OA) (aV:Int→Int→Int→Int→Int→Int→Hp→OA) (aa:Sl) (ab:Int) (H:Hp):aCode tabs (mkOrc (au.cs F aU bD aV)) au.pn (au.lh F aU bD aV) F [] 1 au.code (argTm [(.agg [(.sl aa),(.int .i64 ab)])]) H (fun tm H=>aresults tabs.ty H tm Try.f104.results.toList fun v=>some (v,H)) (fun _ _ _=>none) (fun tm H=>aresults tabs.ty H tm Try.f104.results.toList fun v=>some (v,H)) = au.twX F aU bD aV aa ab H:=by kernel_rfl
theorem au.cs_ok (F:Nat):∀ p ∈ au.cs F (aX.tw F) (aZ.tw F) (aY.tw F),∀ args H v H',p.2 args H = some (v,H')→Go.AE.T Try.prog p.1 args H v H':=by
 intro p hp
 simp only [au.cs,List.mem_cons,List.not_mem_nil,or_false] at hp
 rcases hp with rfl | rfl | rfl
 ·exact fun args H v H' h=>aX.mk_T h
 ·exact fun args H v H' h=>aZ.mk_T h
 ·exact fun args H v H' h=>aY.mk_T h
theorem au.ok:codeOk au.pn Try.f104.ntmps au.tb au.code = true:=by kernel_rfl
theorem au.T {F:Nat} {aa:Sl} {ab:Int} {H:Hp} {v:AV} {H':Hp} (h:au.tw F aa ab H = some (v,H')):Go.AE.T Try.prog 104 [(.agg [(.sl aa),(.int .i64 ab)])] H v H':=
 Go.AE.T.of (Y:=tabs) (C:=mkOrc (au.cs F (aX.tw F) (aZ.tw F) (aY.tw F))) (PN:=au.pn) (LH:=au.lh F (aX.tw F) (aZ.tw F) (aY.tw F)) (F:=F) (TB:=au.tb) (fn:=Try.f104) (code:=au.code) mixed tabs_ok (mkOrc_ok (au.cs_ok F)) Try.func104 (by kernel_rfl) (by kernel_rfl) au.ok (Nat.le_of_ble_eq_true (by kernel_rfl)) (au.loops F (aX.tw F) (aZ.tw F) (aY.tw F)) (Eq.trans (au.eqX F (aX.tw F) (aZ.tw F) (aY.tw F) aa ab H) h)
theorem au.mk_T {F:Nat} {args:List AV} {H:Hp} {v:AV} {H':Hp} (h:au.mk (au.tw F) args H = some (v,H')):Go.AE.T Try.prog 104 args H v H':=by
 unfold au.mk at h
 split at h
 ·exact au.T h
 ·cases h
noncomputable def ao.j3 (F:Nat) (aU:Int→Int→Int→Int→Int→Int→Hp→OA) (aV:Int→Int→Int→Int→Int→Int→Hp→OA) (C13_:Int→Bool→Nat→Nat→Int→Hp→OA) (jr:Int) (kq:Bool) (kr:Nat) (EJ:Nat) (kt:Int) (H147:Hp):OA:=C13_ jr kq kr EJ (IntKind.i64.wrap (kt + 1)) H147
noncomputable def ao.j4 (F:Nat) (aU:Int→Int→Int→Int→Int→Int→Hp→OA) (aV:Int→Int→Int→Int→Int→Int→Hp→OA) (C13_:Int→Bool→Nat→Nat→Int→Hp→OA) (ku:Int) (kv:Bool) (pF:Nat) (EK:Nat) (kw:Int) (H134:Hp):OA:=ao.j3 F aU aV C13_ ku kv pF EK kw H134
noncomputable def ao.l213 (F:Nat) (aU:Int→Int→Int→Int→Int→Int→Hp→OA) (aV:Int→Int→Int→Int→Int→Int→Hp→OA) (C13_:Int→Bool→Nat→Nat→Int→Hp→OA):Nat→Int→Bool→Nat→Nat→Int→Int→Hp→OA
 | 0,_,_,_,_,_,_,_=>none
 | xB + 1,cR,cZ,ew,fL,cM,cS,H103=>(bif (decide (cS < 4)) then ((Hp.ldSl H103 ew fL).bind fun s148=>(Sl.idx s148 cM 5).bind fun p149=>(Hp.ldI H103 .i64 p149.1 p149.2).bind fun n150=>(Hp.ldI H103 .i64 p149.1 (p149.2 + 1)).bind fun n151=>(Hp.ldI H103 .i64 p149.1 (p149.2 + 2)).bind fun n152=>(Hp.ldI H103 .i64 p149.1 (p149.2 + 3)).bind fun n153=>(Hp.ldI H103 .i64 p149.1 (p149.2 + 4)).bind fun n154=>(aU n150 n151 n152 n153 n154 cS H103).bind fun r155=>((r155.1).asI .i64).bind fun n156=>(bif (n156 == cR) then ((Hp.ldSl r155.2 ew fL).bind fun s157=>(Sl.idx s157 cM 5).bind fun p158=>(Hp.ldI r155.2 .i64 p158.1 p158.2).bind fun n159=>(Hp.ldI r155.2 .i64 p158.1 (p158.2 + 1)).bind fun n160=>(Hp.ldI r155.2 .i64 p158.1 (p158.2 + 2)).bind fun n161=>(Hp.ldI r155.2 .i64 p158.1 (p158.2 + 3)).bind fun n162=>(Hp.ldI r155.2 .i64 p158.1 (p158.2 + 4)).bind fun n163=>(aV n159 n160 n161 n162 n163 cS r155.2).bind fun r164=>((r164.1).asB).bind fun b165=>(bif (b165 == cZ) then (some ((.tup [(.int .i64 cM),(.int .i64 cS)]),r164.2)) else (ao.l213 F aU aV C13_ xB cR cZ ew fL cM (IntKind.i64.wrap (cS + 1)) r164.2))) else (ao.l213 F aU aV C13_ xB cR cZ ew fL cM (IntKind.i64.wrap (cS + 1)) r155.2))) else (ao.j4 F aU aV C13_ cR cZ ew fL cM H103))
termination_by structural n=>n
noncomputable def ao.l13 (F:Nat) (aU:Int→Int→Int→Int→Int→Int→Hp→OA) (aV:Int→Int→Int→Int→Int→Int→Hp→OA) :Nat→Int→Bool→Nat→Nat→Int→Hp→OA
 | 0,_,_,_,_,_,_=>none
 | hH + 1,cl,eZ,cz,cm,e_,H15=>(Hp.ldSl H15 cz cm).bind fun s91=>(bif (decide (e_ < (s91.n:Int))) then (ao.l213 F aU aV (ao.l13 F aU aV hH) F cl eZ cz cm e_ 0 H15) else (some ((.tup [(.int .i64 (-1)),(.int .i64 (-1))]),H15)))
termination_by structural n=>n
noncomputable def ao.twX (F:Nat) (aU:Int→Int→Int→Int→Int→Int→Hp→OA) (aV:Int→Int→Int→Int→Int→Int→Hp→OA) (aa:Sl) (ab:Int) (ae:Int) (fp:Bool) (H:Hp):OA:=(Hp.new H [(.sl aa),(.int .i64 ab)]).bind fun H5=>ao.l13 F aU aV F ae fp H.length 0 0 H5
noncomputable def ao.tw (F:Nat) (aa:Sl) (ab:Int) (ae:Int) (fp:Bool) (H:Hp):OA:=ao.twX F (aX.tw F) (aY.tw F) aa ab ae fp H
noncomputable def ao.code:Go.Code:=(Try.f152.body).getD .skip
noncomputable def ao.lh13 (F:Nat) (aU:Int→Int→Int→Int→Int→Int→Hp→OA) (aV:Int→Int→Int→Int→Int→Int→Hp→OA) (ks:List Nat) (n:Nat) (tm:Tm) (H:Hp):OA:=match ks,tm 1,tm 2,tm 3,tm 8 with
 | [],(.int .i64 cl),(.bool eZ),(.ptr cz cm),(.int .i64 e_)=>ao.l13 F aU aV n cl eZ cz cm e_ H
 | _,_,_,_,_=>none
theorem ao.lh13_inv {F:Nat} {aU:Int→Int→Int→Int→Int→Int→Hp→OA} {aV:Int→Int→Int→Int→Int→Int→Hp→OA} {ks:List Nat} {n:Nat} {tm:Tm} {H:Hp} {r:AV×Hp} (h:ao.lh13 F aU aV ks n tm H = some r):∃ cl:Int,∃ eZ:Bool,∃ cz:Nat,∃ cm:Nat,∃ e_:Int,ks = []∧tm 1 = (.int .i64 cl)∧tm 2 = (.bool eZ)∧tm 3 = (.ptr cz cm)∧tm 8 = (.int .i64 e_)∧ao.l13 F aU aV n cl eZ cz cm e_ H = some r:=by
 unfold ao.lh13 at h
 split at h
 ·exact ⟨_,_,_,_,_,rfl,by assumption,by assumption,by assumption,by assumption,h⟩
 ·cases h
noncomputable def ao.lh213 (F:Nat) (aU:Int→Int→Int→Int→Int→Int→Hp→OA) (aV:Int→Int→Int→Int→Int→Int→Hp→OA) (ks:List Nat) (n:Nat) (tm:Tm) (H:Hp):OA:=match ks,tm 1,tm 2,tm 3,tm 8,tm 9 with
 | [hH],(.int .i64 cR),(.bool cZ),(.ptr ew fL),(.int .i64 cM),(.int .i64 cS)=>ao.l213 F aU aV (ao.l13 F aU aV hH) n cR cZ ew fL cM cS H
 | _,_,_,_,_,_=>none
theorem ao.lh213_inv {F:Nat} {aU:Int→Int→Int→Int→Int→Int→Hp→OA} {aV:Int→Int→Int→Int→Int→Int→Hp→OA} {ks:List Nat} {n:Nat} {tm:Tm} {H:Hp} {r:AV×Hp} (h:ao.lh213 F aU aV ks n tm H = some r):∃ hH:Nat,∃ cR:Int,∃ cZ:Bool,∃ ew:Nat,∃ fL:Nat,∃ cM:Int,∃ cS:Int,ks = [hH]∧tm 1 = (.int .i64 cR)∧tm 2 = (.bool cZ)∧tm 3 = (.ptr ew fL)∧tm 8 = (.int .i64 cM)∧tm 9 = (.int .i64 cS)∧ao.l213 F aU aV (ao.l13 F aU aV hH) n cR cZ ew fL cM cS H = some r:=by
 unfold ao.lh213 at h
 split at h
 ·exact ⟨_,_,_,_,_,_,_,rfl,by assumption,by assumption,by assumption,by assumption,by assumption,h⟩
 ·cases h
noncomputable def ao.lh (F:Nat) (aU:Int→Int→Int→Int→Int→Int→Hp→OA) (aV:Int→Int→Int→Int→Int→Int→Hp→OA) (p:Nat) (ks:List Nat) (n:Nat) (tm:Tm) (H:Hp):OA:=bif p.beq 213 then ao.lh213 F aU aV ks n tm H else (bif p.beq 13 then ao.lh13 F aU aV ks n tm H else (none))
def ao.pn:Nat→List Nat:=fun i=>(([]:List (Nat×List Nat)).lookup i).getD []
def ao.tb:Nat→List (List Nat):=fun i=>(([]:List (Nat×List (List Nat))).lookup i).getD []
noncomputable def ao.mk (g:Sl→Int→Int→Bool→Hp→OA) (args:List AV) (H:Hp):OA:=match args with
 | [(.agg [(.sl aa),(.int .i64 ab)]),(.int .i64 ae),(.bool fp)]=>g aa ab ae fp H
 | _=>none
noncomputable def ao.cs (F:Nat) (aU:Int→Int→Int→Int→Int→Int→Hp→OA) (aV:Int→Int→Int→Int→Int→Int→Hp→OA):List (FuncId×(List AV→Hp→OA)):=[(140,aX.mk aU),(141,aY.mk aV)]
theorem ao.loops (F:Nat) (aU:Int→Int→Int→Int→Int→Int→Hp→OA) (aV:Int→Int→Int→Int→Int→Int→Hp→OA):LoopsOk tabs (mkOrc (ao.cs F aU aV)) ao.pn (ao.lh F aU aV) F [] 1 ao.code (fun tm H=>aresults tabs.ty H tm Try.f152.results.toList fun v=>some (v,H)) (fun _ _ _=>none) (fun tm H=>aresults tabs.ty H tm Try.f152.results.toList fun v=>some (v,H)):=by
 refine LoopsOk.seq ?_ ?_
 ·exact loops_none (by kernel_rfl)
 ·refine LoopsOk.seq ?_ ?_
  ·refine LoopsOk.seq ?_ ?_
   ·exact loops_none (by kernel_rfl)
   ·refine LoopsOk.block ?_
    refine LoopsOk.loop (fun tm H=>?_) (fun k13 tm H r h0=>?_) (fun k13=>?_)
    ·refine none_of fun r h0=>?_
     obtain ⟨cl,eZ,cz,cm,e_,hks,e1,e2,e3,e8,h⟩:=ao.lh13_inv (show ao.lh13 F aU aV [] 0 tm H = some r from h0)
     cases h
    ·obtain ⟨cl,eZ,cz,cm,e_,hks,e1,e2,e3,e8,h⟩:=ao.lh13_inv (show ao.lh13 F aU aV [] (k13 + 1) tm H = some r from h0)
     have q0:(Tm.put tm 1 (.int .i64 cl)) = tm:=by exact Tm.put_same e1
     have q1:(Tm.put (Tm.put tm 1 (.int .i64 cl)) 2 (.bool eZ)) = tm:=by rw [q0]; exact Tm.put_same e2
     have q2:(Tm.put (Tm.put (Tm.put tm 1 (.int .i64 cl)) 2 (.bool eZ)) 3 (.ptr cz cm)) = tm:=by rw [q1]; exact Tm.put_same e3
     have q3:(Tm.put (Tm.put (Tm.put (Tm.put tm 1 (.int .i64 cl)) 2 (.bool eZ)) 3 (.ptr cz cm)) 8 (.int .i64 e_)) = tm:=by rw [q2]; exact Tm.put_same e8
     rw [← q3]
     exact Eq.trans (by kernel_rfl) h
    ·refine LoopsOk.seq ?_ ?_
     ·exact loops_none (by kernel_rfl)
     ·refine LoopsOk.seq ?_ ?_
      ·refine LoopsOk.block ?_
       refine LoopsOk.seq ?_ ?_
       ·exact loops_none (by kernel_rfl)
       ·refine LoopsOk.block ?_
        refine LoopsOk.loop (fun tm H=>?_) (fun k213 tm H r h0=>?_) (fun k213=>?_)
        ·refine none_of fun r h0=>?_
         obtain ⟨hH,cR,cZ,ew,fL,cM,cS,hks,e1,e2,e3,e8,e9,h⟩:=ao.lh213_inv (show ao.lh213 F aU aV [k13] 0 tm H = some r from h0)
         cases h
        ·obtain ⟨hH,cR,cZ,ew,fL,cM,cS,hks,e1,e2,e3,e8,e9,h⟩:=ao.lh213_inv (show ao.lh213 F aU aV [k13] (k213 + 1) tm H = some r from h0)
         obtain rfl:hH = k13:=by simpa [eq_comm] using hks
         have q0:(Tm.put tm 1 (.int .i64 cR)) = tm:=by exact Tm.put_same e1
         have q1:(Tm.put (Tm.put tm 1 (.int .i64 cR)) 2 (.bool cZ)) = tm:=by rw [q0]; exact Tm.put_same e2
         have q2:(Tm.put (Tm.put (Tm.put tm 1 (.int .i64 cR)) 2 (.bool cZ)) 3 (.ptr ew fL)) = tm:=by rw [q1]; exact Tm.put_same e3
         have q3:(Tm.put (Tm.put (Tm.put (Tm.put tm 1 (.int .i64 cR)) 2 (.bool cZ)) 3 (.ptr ew fL)) 8 (.int .i64 cM)) = tm:=by rw [q2]; exact Tm.put_same e8
         have q4:(Tm.put (Tm.put (Tm.put (Tm.put (Tm.put tm 1 (.int .i64 cR)) 2 (.bool cZ)) 3 (.ptr ew fL)) 8 (.int .i64 cM)) 9 (.int .i64 cS)) = tm:=by rw [q3]; exact Tm.put_same e9
         rw [← q4]
         exact Eq.trans (by kernel_rfl) h
        ·exact loops_none (by kernel_rfl)
      ·exact loops_none (by kernel_rfl)
  ·exact loops_none (by kernel_rfl)
theorem ao.eqX (F:Nat) (aU:Int→Int→Int→Int→Int→Int→Hp→OA) (aV:Int→Int→Int→Int→Int→Int→Hp→OA) (aa:Sl) (ab:Int) (ae:Int) (fp:Bool) (H:Hp):aCode tabs (mkOrc (ao.cs F aU aV)) ao.pn (ao.lh F aU aV) F [] 1 ao.code (argTm [(.agg [(.sl aa),(.int .i64 ab)]),(.int .i64 ae),(.bool fp)]) H (fun tm H=>aresults tabs.ty H tm Try.f152.results.toList fun v=>some (v,H)) (fun _ _ _=>none) (fun tm H=>aresults tabs.ty H tm Try.f152.results.toList fun v=>some (v,H)) = ao.twX F aU aV aa ab ae fp H:=by kernel_rfl
theorem ao.cs_ok (F:Nat):∀ p ∈ ao.cs F (aX.tw F) (aY.tw F),∀ args H v H',p.2 args H = some (v,H')→Go.AE.T Try.prog p.1 args H v H':=by
 intro p hp
 simp only [ao.cs,List.mem_cons,List.not_mem_nil,or_false] at hp
 rcases hp with rfl | rfl
 ·exact fun args H v H' h=>aX.mk_T h
 ·exact fun args H v H' h=>aY.mk_T h
theorem ao.ok:codeOk ao.pn Try.f152.ntmps ao.tb ao.code = true:=by kernel_rfl
theorem ao.T {F:Nat} {aa:Sl} {ab:Int} {ae:Int} {fp:Bool} {H:Hp} {v:AV} {H':Hp} (h:ao.tw F aa ab ae fp H = some (v,H')):Go.AE.T Try.prog 152 [(.agg [(.sl aa),(.int .i64 ab)]),(.int .i64 ae),(.bool fp)] H v H':=
 Go.AE.T.of (Y:=tabs) (C:=mkOrc (ao.cs F (aX.tw F) (aY.tw F))) (PN:=ao.pn) (LH:=ao.lh F (aX.tw F) (aY.tw F)) (F:=F) (TB:=ao.tb) (fn:=Try.f152) (code:=ao.code) mixed tabs_ok (mkOrc_ok (ao.cs_ok F)) Try.func152 (by kernel_rfl) (by kernel_rfl) ao.ok (Nat.le_of_ble_eq_true (by kernel_rfl)) (ao.loops F (aX.tw F) (aY.tw F)) (Eq.trans (ao.eqX F (aX.tw F) (aY.tw F) aa ab ae fp H) h)
theorem ao.mk_T {F:Nat} {args:List AV} {H:Hp} {v:AV} {H':Hp} (h:ao.mk (ao.tw F) args H = some (v,H')):Go.AE.T Try.prog 152 args H v H':=by
 unfold ao.mk at h
 split at h
 ·exact ao.T h
 ·cases h
noncomputable def bq.twX (F:Nat) (aU:Int→Int→Int→Int→Int→Int→Hp→OA) (aV:Int→Int→Int→Int→Int→Int→Hp→OA) (bn:Sl→Int→Int→Bool→Hp→OA) (aa:Sl) (ab:Int) (ae:Int) (H:Hp):OA:=(Hp.new H [(.sl aa),(.int .i64 ab)]).bind fun H4=>(Hp.ldSl H4 H.length 0).bind fun s5=>(Sl.idx s5 (IntKind.i64.wrap (Int.tdiv ae 4)) 5).bind fun p6=>(Hp.ldI H4 .i64 p6.1 p6.2).bind fun n7=>(Hp.ldI H4 .i64 p6.1 (p6.2 + 1)).bind fun n8=>(Hp.ldI H4 .i64 p6.1 (p6.2 + 2)).bind fun n9=>(Hp.ldI H4 .i64 p6.1 (p6.2 + 3)).bind fun n10=>(Hp.ldI H4 .i64 p6.1 (p6.2 + 4)).bind fun n11=>(Hp.new H4 [.int .i64 0,.int .i64 0,.int .i64 0,.int .i64 0,.int .i64 0]).bind fun H12=>(Hp.st H12 H4.length 0 (.int .i64 n7)).bind fun H13=>(Hp.st H13 H4.length (0 + 1) (.int .i64 n8)).bind fun H14=>(Hp.st H14 H4.length (0 + 1 + 1) (.int .i64 n9)).bind fun H15=>(Hp.st H15 H4.length (0 + 1 + 1 + 1) (.int .i64 n10)).bind fun H16=>(Hp.st H16 H4.length (0 + 1 + 1 + 1 + 1) (.int .i64 n11)).bind fun H17=>(Hp.ldSl H17 H.length 0).bind fun s18=>(Hp.ldI H17 .i64 H.length (0 + 1)).bind fun n19=>(Hp.ldI H17 .i64 H4.length 0).bind fun n20=>(Hp.ldI H17 .i64 H4.length (0 + 1)).bind fun n21=>(Hp.ldI H17 .i64 H4.length (0 + 2)).bind fun n22=>(Hp.ldI H17 .i64 H4.length (0 + 3)).bind fun n23=>(Hp.ldI H17 .i64 H4.length (0 + 4)).bind fun n24=>(aU n20 n21 n22 n23 n24 (Int.tmod (IntKind.i64.wrap ((Int.tmod ae 4) + 1)) 4) H17).bind fun r25=>((r25.1).asI .i64).bind fun n26=>(if Cons H17 r25.2 then ((Hp.ldI r25.2 .i64 H4.length 0).bind fun n27=>(Hp.ldI r25.2 .i64 H4.length (0 + 1)).bind fun n28=>(Hp.ldI r25.2 .i64 H4.length (0 + 2)).bind fun n29=>(Hp.ldI r25.2 .i64 H4.length (0 + 3)).bind fun n30=>(Hp.ldI r25.2 .i64 H4.length (0 + 4)).bind fun n31=>(aV n27 n28 n29 n30 n31 (Int.tmod (IntKind.i64.wrap ((Int.tmod ae 4) + 1)) 4) r25.2).bind fun r32=>((r32.1).asB).bind fun b33=>(if Cons r25.2 r32.2 then ((bn s18 n19 n26 (!b33) r32.2).bind fun r34=>((r34.1).asTup 2).bind fun l35=>(l35[0]?).bind fun v36=>((v36).asI .i64).bind fun n37=>(l35[1]?).bind fun v38=>((v38).asI .i64).bind fun n39=>some ((.int .i64 (IntKind.i64.wrap ((IntKind.i64.wrap (4 * n37)) + n39))),r34.2)) else none)) else none)
noncomputable def bq.tw (F:Nat) (aa:Sl) (ab:Int) (ae:Int) (H:Hp):OA:=bq.twX F (aX.tw F) (aY.tw F) (ao.tw F) aa ab ae H
noncomputable def bq.code:Go.Code:=(Try.f142.body).getD .skip
noncomputable def bq.lh (F:Nat) (aU:Int→Int→Int→Int→Int→Int→Hp→OA) (aV:Int→Int→Int→Int→Int→Int→Hp→OA) (bn:Sl→Int→Int→Bool→Hp→OA) (p:Nat) (ks:List Nat) (n:Nat) (tm:Tm) (H:Hp):OA:=none
def bq.pn:Nat→List Nat:=fun i=>(([(3,[8])]:List (Nat×List Nat)).lookup i).getD []
def bq.tb:Nat→List (List Nat):=fun i=>(([(3,[[],[],[],[1,2],[],[],[1,2,3,4,5],[1,2,3,4,5,6],[0,1,2,3,4,5,6,7],[0,1,2,3,4,5,6,7,8],[0,1,2,3,4,5,6,7,8,9],[0,1,2,3,4,5,6,7,8,9],[0,1,2,3,4,5,6,7,8,9,10],[0,1,2,3,4,5,6,7,8,9,10,11,12]])]:List (Nat×List (List Nat))).lookup i).getD []
noncomputable def bq.mk (g:Sl→Int→Int→Hp→OA) (args:List AV) (H:Hp):OA:=match args with
 | [(.agg [(.sl aa),(.int .i64 ab)]),(.int .i64 ae)]=>g aa ab ae H
 | _=>none
noncomputable def bq.cs (F:Nat) (aU:Int→Int→Int→Int→Int→Int→Hp→OA) (aV:Int→Int→Int→Int→Int→Int→Hp→OA) (bn:Sl→Int→Int→Bool→Hp→OA):List (FuncId×(List AV→Hp→OA)):=[(140,aX.mk aU),(141,aY.mk aV),(152,ao.mk bn)]
theorem bq.loops (F:Nat) (aU:Int→Int→Int→Int→Int→Int→Hp→OA) (aV:Int→Int→Int→Int→Int→Int→Hp→OA) (bn:Sl→Int→Int→Bool→Hp→OA):LoopsOk tabs (mkOrc (bq.cs F aU aV bn)) bq.pn (bq.lh F aU aV bn) F [] 1 bq.code (fun tm H=>aresults tabs.ty H tm Try.f142.results.toList fun v=>some (v,H)) (fun _ _ _=>none) (fun tm H=>aresults tabs.ty H tm Try.f142.results.toList fun v=>some (v,H)):=by
 exact loops_none (by kernel_rfl)
theorem bq.eqX (F:Nat) (aU:Int→Int→Int→Int→Int→Int→Hp→OA) (aV:Int→Int→Int→Int→Int→Int→Hp→OA) (bn:Sl→Int→Int→Bool→Hp→OA) (aa:Sl) (ab:Int) (ae:Int) (H:Hp):aCode tabs (mkOrc (bq.cs F aU aV bn)) bq.pn (bq.lh F aU aV bn) F [] 1 bq.code (argTm [(.agg [(.sl aa),(.int .i64 ab)]),(.int .i64 ae)]) H (fun tm H=>aresults tabs.ty H tm Try.f142.results.toList fun v=>some (v,H)) (fun _ _ _=>none) (fun tm H=>aresults tabs.ty H tm Try.f142.results.toList fun v=>some (v,H)) = bq.twX F aU aV bn aa ab ae H:=by kernel_rfl
theorem bq.cs_ok (F:Nat):∀ p ∈ bq.cs F (aX.tw F) (aY.tw F) (ao.tw F),∀ args H v H',p.2 args H = some (v,H')→Go.AE.T Try.prog p.1 args H v H':=by
 intro p hp
 simp only [bq.cs,List.mem_cons,List.not_mem_nil,or_false] at hp
 rcases hp with rfl | rfl | rfl
 ·exact fun args H v H' h=>aX.mk_T h
 ·exact fun args H v H' h=>aY.mk_T h
 ·exact fun args H v H' h=>ao.mk_T h
theorem bq.ok:codeOk bq.pn Try.f142.ntmps bq.tb bq.code = true:=by kernel_rfl
theorem bq.T {F:Nat} {aa:Sl} {ab:Int} {ae:Int} {H:Hp} {v:AV} {H':Hp} (h:bq.tw F aa ab ae H = some (v,H')):Go.AE.T Try.prog 142 [(.agg [(.sl aa),(.int .i64 ab)]),(.int .i64 ae)] H v H':=
 Go.AE.T.of (Y:=tabs) (C:=mkOrc (bq.cs F (aX.tw F) (aY.tw F) (ao.tw F))) (PN:=bq.pn) (LH:=bq.lh F (aX.tw F) (aY.tw F) (ao.tw F)) (F:=F) (TB:=bq.tb) (fn:=Try.f142) (code:=bq.code) mixed tabs_ok (mkOrc_ok (bq.cs_ok F)) Try.func142 (by kernel_rfl) (by kernel_rfl) bq.ok (Nat.le_of_ble_eq_true (by kernel_rfl)) (bq.loops F (aX.tw F) (aY.tw F) (ao.tw F)) (Eq.trans (bq.eqX F (aX.tw F) (aY.tw F) (ao.tw F) aa ab ae H) h)
theorem bq.mk_T {F:Nat} {args:List AV} {H:Hp} {v:AV} {H':Hp} (h:bq.mk (bq.tw F) args H = some (v,H')):Go.AE.T Try.prog 142 args H v H':=by
 unfold bq.mk at h
 split at h
 ·exact bq.T h
 ·cases h
noncomputable def ah.j4 (F:Nat) (bT:Sl→Int→Int→Hp→OA) (C61_:Nat→Nat→Sl→Sl→Int→Hp→OA) (pG:Nat) (EL:Nat) (EM:Sl) (EN:Sl) (kx:Int) (H108:Hp):OA:=C61_ pG EL EM EN (IntKind.i64.wrap (kx + 1)) H108
noncomputable def ah.j5 (F:Nat) (bT:Sl→Int→Int→Hp→OA) (C61_:Nat→Nat→Sl→Sl→Int→Hp→OA) (pH:Nat) (EO:Nat) (EP:Sl) (EQ:Sl) (ky:Int) (H164:Hp):OA:=C61_ pH EO EP EQ (IntKind.i64.wrap (ky + 1)) H164
noncomputable def ah.j6 (F:Nat) (bT:Sl→Int→Int→Hp→OA) (C61_:Nat→Nat→Sl→Sl→Int→Hp→OA) (pI:Nat) (jr:Nat) (kr:Sl) (ER:Sl) (kz:Int) (ES:Sl) (H147:Hp):OA:=(Hp.new H147 [(.sl ES)]).bind fun H148=>(Sl.row H148 (⟨some (H147.length,0),1,.ex 1⟩:Sl) 1).bind fun xs150=>(Hp.app H148 1 24 kr (⟨some (H147.length,0),1,.ex 1⟩:Sl).n xs150).bind fun a149=>ah.j5 F bT C61_ pI jr a149.1 ER kz a149.2
noncomputable def ah.l7853 (F:Nat) (bT:Sl→Int→Int→Hp→OA) (C61_:Nat→Nat→Sl→Sl→Int→Hp→OA):Nat→Nat→Nat→Sl→Sl→Int→Sl→Int→Hp→OA
 | 0,_,_,_,_,_,_,_,_=>none
 | ET + 1,dK,fq,fU,fM,ey,cj,dd,H122=>(Sl.idx fM dd 1).bind fun p165=>(Hp.ldB H122 p165.1 p165.2).bind fun b166=>(bif (!b166) then ((Sl.idx fM dd 1).bind fun p167=>(Hp.st H122 p167.1 p167.2 (.bool true)).bind fun H168=>(Hp.new H168 [(.int .i64 dd)]).bind fun H169=>(Sl.row H169 (⟨some (H168.length,0),1,.ex 1⟩:Sl) 1).bind fun xs171=>(Hp.app H169 1 8 cj (⟨some (H168.length,0),1,.ex 1⟩:Sl).n xs171).bind fun a170=>(Hp.ldSl a170.2 dK fq).bind fun s172=>(Hp.ldI a170.2 .i64 dK (fq + 1)).bind fun n173=>(bT s172 n173 dd a170.2).bind fun r174=>((r174.1).asI .i64).bind fun n175=>ah.l7853 F bT C61_ ET dK fq fU fM ey a170.1 n175 r174.2) else (ah.j6 F bT C61_ dK fq fU fM ey cj H122))
termination_by structural n=>n
noncomputable def ah.l61 (F:Nat) (bT:Sl→Int→Int→Hp→OA) :Nat→Nat→Nat→Sl→Sl→Int→Hp→OA
 | 0,_,_,_,_,_,_=>none
 | bm + 1,bV,cr,cf,cQ,cc,H15=>(bif (decide (cc < (cQ.n:Int))) then ((Sl.idx cQ cc 1).bind fun p96=>(Hp.ldB H15 p96.1 p96.2).bind fun b97=>(bif b97 then (ah.j4 F bT (ah.l61 F bT bm) bV cr cf cQ cc H15) else ((Hp.new H15 []).bind fun H109=>ah.l7853 F bT (ah.l61 F bT bm) F bV cr cf cQ cc (⟨some (H15.length,0),0,.ex 0⟩:Sl) cc H109))) else (some ((.sl cf),H15)))
termination_by structural n=>n
noncomputable def ah.twX (F:Nat) (bT:Sl→Int→Int→Hp→OA) (aa:Sl) (ab:Int) (H:Hp):OA:=(Hp.new H [(.sl aa),(.int .i64 ab)]).bind fun H3=>(Hp.new H3 []).bind fun H4=>(Hp.ldSl H4 H.length 0).bind fun s5=>(Hp.mk H4 [.bool false] 1 (IntKind.i64.wrap (4 * (s5.n:Int))) (IntKind.i64.wrap (4 * (s5.n:Int)))).bind fun m6=>ah.l61 F bT F H.length 0 (⟨some (H3.length,0),0,.ex 0⟩:Sl) m6.1 0 m6.2
noncomputable def ah.tw (F:Nat) (aa:Sl) (ab:Int) (H:Hp):OA:=ah.twX F (bq.tw F) aa ab H
noncomputable def ah.code:Go.Code:=(Try.f105.body).getD .skip
noncomputable def ah.lh61 (F:Nat) (bT:Sl→Int→Int→Hp→OA) (ks:List Nat) (n:Nat) (tm:Tm) (H:Hp):OA:=match ks,tm 1,tm 3,tm 4,tm 5 with
 | [],(.ptr bV cr),(.sl cf),(.sl cQ),(.int .i64 cc)=>ah.l61 F bT n bV cr cf cQ cc H
 | _,_,_,_,_=>none
theorem ah.lh61_inv {F:Nat} {bT:Sl→Int→Int→Hp→OA} {ks:List Nat} {n:Nat} {tm:Tm} {H:Hp} {r:AV×Hp} (h:ah.lh61 F bT ks n tm H = some r):∃ bV:Nat,∃ cr:Nat,∃ cf:Sl,∃ cQ:Sl,∃ cc:Int,ks = []∧tm 1 = (.ptr bV cr)∧tm 3 = (.sl cf)∧tm 4 = (.sl cQ)∧tm 5 = (.int .i64 cc)∧ah.l61 F bT n bV cr cf cQ cc H = some r:=by
 unfold ah.lh61 at h
 split at h
 ·exact ⟨_,_,_,_,_,rfl,by assumption,by assumption,by assumption,by assumption,h⟩
 ·cases h
noncomputable def ah.lh7853 (F:Nat) (bT:Sl→Int→Int→Hp→OA) (ks:List Nat) (n:Nat) (tm:Tm) (H:Hp):OA:=match ks,tm 1,tm 3,tm 4,tm 5,tm 6,tm 7 with
 | [bm],(.ptr dK fq),(.sl fU),(.sl fM),(.int .i64 ey),(.sl cj),(.int .i64 dd)=>ah.l7853 F bT (ah.l61 F bT bm) n dK fq fU fM ey cj dd H
 | _,_,_,_,_,_,_=>none
theorem ah.lh7853_inv {F:Nat} {bT:Sl→Int→Int→Hp→OA} {ks:List Nat} {n:Nat} {tm:Tm} {H:Hp} {r:AV×Hp} (h:ah.lh7853 F bT ks n tm H = some r):∃ bm:Nat,∃ dK:Nat,∃ fq:Nat,∃ fU:Sl,∃ fM:Sl,∃ ey:Int,∃ cj:Sl,∃ dd:Int,ks = [bm]∧tm 1 = (.ptr dK fq)∧tm 3 = (.sl fU)∧tm 4 = (.sl fM)∧tm 5 = (.int .i64 ey)∧tm 6 = (.sl cj)∧tm 7 = (.int .i64 dd)∧ah.l7853 F bT (ah.l61 F bT bm) n dK fq fU fM ey cj dd H = some r:=by
 unfold ah.lh7853 at h
 split at h
 ·exact ⟨_,_,_,_,_,_,_,_,rfl,by assumption,by assumption,by assumption,by assumption,by assumption,by assumption,h⟩
 ·cases h
noncomputable def ah.lh (F:Nat) (bT:Sl→Int→Int→Hp→OA) (p:Nat) (ks:List Nat) (n:Nat) (tm:Tm) (H:Hp):OA:=bif p.beq 7853 then ah.lh7853 F bT ks n tm H else (bif p.beq 61 then ah.lh61 F bT ks n tm H else (none))
def ah.pn:Nat→List Nat:=fun i=>(([]:List (Nat×List Nat)).lookup i).getD []
def ah.tb:Nat→List (List Nat):=fun i=>(([]:List (Nat×List (List Nat))).lookup i).getD []
noncomputable def ah.mk (g:Sl→Int→Hp→OA) (args:List AV) (H:Hp):OA:=match args with
 | [(.agg [(.sl aa),(.int .i64 ab)])]=>g aa ab H
 | _=>none
noncomputable def ah.cs (F:Nat) (bT:Sl→Int→Int→Hp→OA):List (FuncId×(List AV→Hp→OA)):=[(142,bq.mk bT)]
theorem ah.loops (F:Nat) (bT:Sl→Int→Int→Hp→OA):LoopsOk tabs (mkOrc (ah.cs F bT)) ah.pn (ah.lh F bT) F [] 1 ah.code (fun tm H=>aresults tabs.ty H tm Try.f105.results.toList fun v=>some (v,H)) (fun _ _ _=>none) (fun tm H=>aresults tabs.ty H tm Try.f105.results.toList fun v=>some (v,H)):=by
 refine LoopsOk.seq ?_ ?_
 ·exact loops_none (by kernel_rfl)
 ·refine LoopsOk.seq ?_ ?_
  ·exact loops_none (by kernel_rfl)
  ·refine LoopsOk.seq ?_ ?_
   ·exact loops_none (by kernel_rfl)
   ·refine LoopsOk.seq ?_ ?_
    ·refine LoopsOk.seq ?_ ?_
     ·exact loops_none (by kernel_rfl)
     ·refine LoopsOk.block ?_
      refine LoopsOk.loop (fun tm H=>?_) (fun k61 tm H r h0=>?_) (fun k61=>?_)
      ·refine none_of fun r h0=>?_
       obtain ⟨bV,cr,cf,cQ,cc,hks,e1,e3,e4,e5,h⟩:=ah.lh61_inv (show ah.lh61 F bT [] 0 tm H = some r from h0)
       cases h
      ·obtain ⟨bV,cr,cf,cQ,cc,hks,e1,e3,e4,e5,h⟩:=ah.lh61_inv (show ah.lh61 F bT [] (k61 + 1) tm H = some r from h0)
       have q0:(Tm.put tm 1 (.ptr bV cr)) = tm:=by exact Tm.put_same e1
       have q1:(Tm.put (Tm.put tm 1 (.ptr bV cr)) 3 (.sl cf)) = tm:=by rw [q0]; exact Tm.put_same e3
       have q2:(Tm.put (Tm.put (Tm.put tm 1 (.ptr bV cr)) 3 (.sl cf)) 4 (.sl cQ)) = tm:=by rw [q1]; exact Tm.put_same e4
       have q3:(Tm.put (Tm.put (Tm.put (Tm.put tm 1 (.ptr bV cr)) 3 (.sl cf)) 4 (.sl cQ)) 5 (.int .i64 cc)) = tm:=by rw [q2]; exact Tm.put_same e5
       rw [← q3]
       exact Eq.trans (by kernel_rfl) h
      ·refine LoopsOk.seq ?_ ?_
       ·exact loops_none (by kernel_rfl)
       ·refine LoopsOk.seq ?_ ?_
        ·refine LoopsOk.block ?_
         refine LoopsOk.seq ?_ ?_
         ·exact loops_none (by kernel_rfl)
         ·refine LoopsOk.seq ?_ ?_
          ·exact loops_none (by kernel_rfl)
          ·refine LoopsOk.seq ?_ ?_
           ·refine LoopsOk.seq ?_ ?_
            ·exact loops_none (by kernel_rfl)
            ·refine LoopsOk.block ?_
             refine LoopsOk.loop (fun tm H=>?_) (fun k7853 tm H r h0=>?_) (fun k7853=>?_)
             ·refine none_of fun r h0=>?_
              obtain ⟨bm,dK,fq,fU,fM,ey,cj,dd,hks,e1,e3,e4,e5,e6,e7,h⟩:=ah.lh7853_inv (show ah.lh7853 F bT [k61] 0 tm H = some r from h0)
              cases h
             ·obtain ⟨bm,dK,fq,fU,fM,ey,cj,dd,hks,e1,e3,e4,e5,e6,e7,h⟩:=ah.lh7853_inv (show ah.lh7853 F bT [k61] (k7853 + 1) tm H = some r from h0)
              obtain rfl:bm = k61:=by simpa [eq_comm] using hks
              have q0:(Tm.put tm 1 (.ptr dK fq)) = tm:=by exact Tm.put_same e1
              have q1:(Tm.put (Tm.put tm 1 (.ptr dK fq)) 3 (.sl fU)) = tm:=by rw [q0]; exact Tm.put_same e3
              have q2:(Tm.put (Tm.put (Tm.put tm 1 (.ptr dK fq)) 3 (.sl fU)) 4 (.sl fM)) = tm:=by rw [q1]; exact Tm.put_same e4
              have q3:(Tm.put (Tm.put (Tm.put (Tm.put tm 1 (.ptr dK fq)) 3 (.sl fU)) 4 (.sl fM)) 5 (.int .i64 ey)) = tm:=by rw [q2]; exact Tm.put_same e5
              have q4:(Tm.put (Tm.put (Tm.put (Tm.put (Tm.put tm 1 (.ptr dK fq)) 3 (.sl fU)) 4 (.sl fM)) 5 (.int .i64 ey)) 6 (.sl cj)) = tm:=by rw [q3]; exact Tm.put_same e6
              have q5:(Tm.put (Tm.put (Tm.put (Tm.put (Tm.put (Tm.put tm 1 (.ptr dK fq)) 3 (.sl fU)) 4 (.sl fM)) 5 (.int .i64 ey)) 6 (.sl cj)) 7 (.int .i64 dd)) = tm:=by rw [q4]; exact Tm.put_same e7
              rw [← q5]
              exact Eq.trans (by kernel_rfl) h
             ·exact loops_none (by kernel_rfl)
           ·exact loops_none (by kernel_rfl)
        ·exact loops_none (by kernel_rfl)
    ·exact loops_none (by kernel_rfl)
theorem ah.eqX (F:Nat) (bT:Sl→Int→Int→Hp→OA) (aa:Sl) (ab:Int) (H:Hp):aCode tabs (mkOrc (ah.cs F bT)) ah.pn (ah.lh F bT) F [] 1 ah.code (argTm [(.agg [(.sl aa),(.int .i64 ab)])]) H (fun tm H=>aresults tabs.ty H tm Try.f105.results.toList fun v=>some (v,H)) (fun _ _ _=>none) (fun tm H=>aresults tabs.ty H tm Try.f105.results.toList fun v=>some (v,H)) = ah.twX F bT aa ab H:=by kernel_rfl
theorem ah.cs_ok (F:Nat):∀ p ∈ ah.cs F (bq.tw F),∀ args H v H',p.2 args H = some (v,H')→Go.AE.T Try.prog p.1 args H v H':=by
 intro p hp
 simp only [ah.cs,List.mem_cons,List.not_mem_nil,or_false] at hp
 subst hp
 exact fun args H v H' h=>bq.mk_T h
theorem ah.ok:codeOk ah.pn Try.f105.ntmps ah.tb ah.code = true:=by kernel_rfl
theorem ah.T {F:Nat} {aa:Sl} {ab:Int} {H:Hp} {v:AV} {H':Hp} (h:ah.tw F aa ab H = some (v,H')):Go.AE.T Try.prog 105 [(.agg [(.sl aa),(.int .i64 ab)])] H v H':=
 Go.AE.T.of (Y:=tabs) (C:=mkOrc (ah.cs F (bq.tw F))) (PN:=ah.pn) (LH:=ah.lh F (bq.tw F)) (F:=F) (TB:=ah.tb) (fn:=Try.f105) (code:=ah.code) mixed tabs_ok (mkOrc_ok (ah.cs_ok F)) Try.func105 (by kernel_rfl) (by kernel_rfl) ah.ok (Nat.le_of_ble_eq_true (by kernel_rfl)) (ah.loops F (bq.tw F)) (Eq.trans (ah.eqX F (bq.tw F) aa ab H) h)
theorem ah.mk_T {F:Nat} {args:List AV} {H:Hp} {v:AV} {H':Hp} (h:ah.mk (ah.tw F) args H = some (v,H')):Go.AE.T Try.prog 105 args H v H':=by
 unfold ah.mk at h
 split at h
 ·exact ah.T h
 ·cases h
noncomputable def af.j6 (F:Nat) (bn:Sl→Int→Int→Bool→Hp→OA) (C61_:Nat→Nat→Sl→Int→Hp→OA) (pJ:Nat) (EU:Nat) (EV:Sl) (kA:Int) (H243:Hp):OA:=C61_ pJ EU EV (IntKind.i64.wrap (kA + 1)) H243
noncomputable def af.j7 (F:Nat) (bn:Sl→Int→Int→Bool→Hp→OA) (C61_:Nat→Nat→Sl→Int→Hp→OA) (pK:Nat) (EW:Nat) (kB:Sl) (js:Int) (H226:Hp):OA:=af.j6 F bn C61_ pK EW kB js H226
noncomputable def af.j8 (F:Nat) (bn:Sl→Int→Int→Bool→Hp→OA) (C7855_:Nat→Nat→Sl→Int→Int→Int→Int→Hp→OA) (pL:Nat) (EX:Nat) (EY:Sl) (kC:Int) (kD:Int) (kE:Int) (kF:Int) (H265:Hp):OA:=C7855_ pL EX EY kC kD kE (IntKind.i64.wrap (kF + 1)) H265
noncomputable def af.l7855 (F:Nat) (bn:Sl→Int→Int→Bool→Hp→OA) (C61_:Nat→Nat→Sl→Int→Hp→OA):Nat→Nat→Nat→Sl→Int→Int→Int→Int→Hp→OA
 | 0,_,_,_,_,_,_,_,_=>none
 | xC + 1,eh,fC,fa,dr,cA,cN,de,H187=>(bif (decide (de < (fa.n:Int))) then ((Sl.idx fa de 1).bind fun p244=>(Hp.ldI H187 .i64 p244.1 p244.2).bind fun n245=>(bif (n245 == (if cN > cA then cN else cA)) then ((Sl.idx fa de 1).bind fun p246=>(Hp.st H187 p246.1 p246.2 (.int .i64 (if cN < cA then cN else cA))).bind fun H247=>af.j8 F bn (af.l7855 F bn C61_ xC) eh fC fa dr cA cN de H247) else (af.j8 F bn (af.l7855 F bn C61_ xC) eh fC fa dr cA cN de H187))) else (af.j7 F bn C61_ eh fC fa dr H187))
termination_by structural n=>n
noncomputable def af.l61 (F:Nat) (bn:Sl→Int→Int→Bool→Hp→OA) :Nat→Nat→Nat→Sl→Int→Hp→OA
 | 0,_,_,_,_,_=>none
 | bm + 1,ei,fD,gi,dL,H35=>(Hp.ldSl H35 ei fD).bind fun s151=>(bif (decide (dL < (IntKind.i64.wrap (2 * (s151.n:Int))))) then ((Hp.ldSl H35 ei fD).bind fun s152=>(Hp.ldI H35 .i64 ei (fD + 1)).bind fun n153=>(bn s152 n153 dL true H35).bind fun r154=>((r154.1).asTup 2).bind fun l155=>(l155[0]?).bind fun v156=>((v156).asI .i64).bind fun n157=>(l155[1]?).bind fun v158=>((v158).asI .i64).bind fun n159=>(Hp.ldSl r154.2 ei fD).bind fun s160=>(Hp.ldI r154.2 .i64 ei (fD + 1)).bind fun n161=>(bn s160 n161 dL false r154.2).bind fun r162=>((r162.1).asTup 2).bind fun l163=>(l163[0]?).bind fun v164=>((v164).asI .i64).bind fun n165=>(l163[1]?).bind fun v166=>((v166).asI .i64).bind fun n167=>(Sl.idx gi n157 1).bind fun p168=>(Hp.ldI r162.2 .i64 p168.1 p168.2).bind fun n169=>(Sl.idx gi n165 1).bind fun p170=>(Hp.ldI r162.2 .i64 p170.1 p170.2).bind fun n171=>af.l7855 F bn (af.l61 F bn bm) F ei fD gi dL n169 n171 0 r162.2) else (some ((.sl gi),H35)))
termination_by structural n=>n
noncomputable def af.j9 (F:Nat) (bn:Sl→Int→Int→Bool→Hp→OA) (pM:Nat) (EZ:Nat) (E_:Sl) (H25:Hp):OA:=af.l61 F bn F pM EZ E_ 0 H25
noncomputable def af.l29 (F:Nat) (bn:Sl→Int→Int→Bool→Hp→OA) :Nat→Nat→Nat→Sl→Int→Hp→OA
 | 0,_,_,_,_,_=>none
 | dG + 1,fb,cl,cz,dM,H12=>(Hp.ldSl H12 fb cl).bind fun s266=>(bif (decide (dM < (s266.n:Int))) then ((Hp.new H12 [(.int .i64 dM)]).bind fun H267=>(Sl.row H267 (⟨some (H12.length,0),1,.ex 1⟩:Sl) 1).bind fun xs269=>(Hp.app H267 1 8 cz (⟨some (H12.length,0),1,.ex 1⟩:Sl).n xs269).bind fun a268=>af.l29 F bn dG fb cl a268.1 (IntKind.i64.wrap (dM + 1)) a268.2) else (af.j9 F bn fb cl cz H12))
termination_by structural n=>n
noncomputable def af.twX (F:Nat) (bn:Sl→Int→Int→Bool→Hp→OA) (aa:Sl) (ab:Int) (H:Hp):OA:=(Hp.new H [(.sl aa),(.int .i64 ab)]).bind fun H3=>(Hp.new H3 []).bind fun H4=>af.l29 F bn F H.length 0 (⟨some (H3.length,0),0,.ex 0⟩:Sl) 0 H4
noncomputable def af.tw (F:Nat) (aa:Sl) (ab:Int) (H:Hp):OA:=af.twX F (ao.tw F) aa ab H
noncomputable def af.code:Go.Code:=(Try.f122.body).getD .skip
noncomputable def af.lh29 (F:Nat) (bn:Sl→Int→Int→Bool→Hp→OA) (ks:List Nat) (n:Nat) (tm:Tm) (H:Hp):OA:=match ks,tm 1,tm 3,tm 4 with
 | [],(.ptr fb cl),(.sl cz),(.int .i64 dM)=>af.l29 F bn n fb cl cz dM H
 | _,_,_,_=>none
theorem af.lh29_inv {F:Nat} {bn:Sl→Int→Int→Bool→Hp→OA} {ks:List Nat} {n:Nat} {tm:Tm} {H:Hp} {r:AV×Hp} (h:af.lh29 F bn ks n tm H = some r):∃ fb:Nat,∃ cl:Nat,∃ cz:Sl,∃ dM:Int,ks = []∧tm 1 = (.ptr fb cl)∧tm 3 = (.sl cz)∧tm 4 = (.int .i64 dM)∧af.l29 F bn n fb cl cz dM H = some r:=by
 unfold af.lh29 at h
 split at h
 ·exact ⟨_,_,_,_,rfl,by assumption,by assumption,by assumption,h⟩
 ·cases h
noncomputable def af.lh61 (F:Nat) (bn:Sl→Int→Int→Bool→Hp→OA) (ks:List Nat) (n:Nat) (tm:Tm) (H:Hp):OA:=match ks,tm 1,tm 3,tm 5 with
 | [],(.ptr ei fD),(.sl gi),(.int .i64 dL)=>af.l61 F bn n ei fD gi dL H
 | _,_,_,_=>none
theorem af.lh61_inv {F:Nat} {bn:Sl→Int→Int→Bool→Hp→OA} {ks:List Nat} {n:Nat} {tm:Tm} {H:Hp} {r:AV×Hp} (h:af.lh61 F bn ks n tm H = some r):∃ ei:Nat,∃ fD:Nat,∃ gi:Sl,∃ dL:Int,ks = []∧tm 1 = (.ptr ei fD)∧tm 3 = (.sl gi)∧tm 5 = (.int .i64 dL)∧af.l61 F bn n ei fD gi dL H = some r:=by
 unfold af.lh61 at h
 split at h
 ·exact ⟨_,_,_,_,rfl,by assumption,by assumption,by assumption,h⟩
 ·cases h
noncomputable def af.lh7855 (F:Nat) (bn:Sl→Int→Int→Bool→Hp→OA) (ks:List Nat) (n:Nat) (tm:Tm) (H:Hp):OA:=match ks,tm 1,tm 3,tm 5,tm 10,tm 11,tm 12 with
 | [bm],(.ptr eh fC),(.sl fa),(.int .i64 dr),(.int .i64 cA),(.int .i64 cN),(.int .i64 de)=>af.l7855 F bn (af.l61 F bn bm) n eh fC fa dr cA cN de H
 | _,_,_,_,_,_,_=>none
theorem af.lh7855_inv {F:Nat} {bn:Sl→Int→Int→Bool→Hp→OA} {ks:List Nat} {n:Nat} {tm:Tm} {H:Hp} {r:AV×Hp} (h:af.lh7855 F bn ks n tm H = some r):∃ bm:Nat,∃ eh:Nat,∃ fC:Nat,∃ fa:Sl,∃ dr:Int,∃ cA:Int,∃ cN:Int,∃ de:Int,ks = [bm]∧tm 1 = (.ptr eh fC)∧tm 3 = (.sl fa)∧tm 5 = (.int .i64 dr)∧tm 10 = (.int .i64 cA)∧tm 11 = (.int .i64 cN)∧tm 12 = (.int .i64 de)∧af.l7855 F bn (af.l61 F bn bm) n eh fC fa dr cA cN de H = some r:=by
 unfold af.lh7855 at h
 split at h
 ·exact ⟨_,_,_,_,_,_,_,_,rfl,by assumption,by assumption,by assumption,by assumption,by assumption,by assumption,h⟩
 ·cases h
noncomputable def af.lh (F:Nat) (bn:Sl→Int→Int→Bool→Hp→OA) (p:Nat) (ks:List Nat) (n:Nat) (tm:Tm) (H:Hp):OA:=bif p.beq 7855 then af.lh7855 F bn ks n tm H else (bif p.beq 61 then af.lh61 F bn ks n tm H else (bif p.beq 29 then af.lh29 F bn ks n tm H else (none)))
def af.pn:Nat→List Nat:=fun i=>(([(11,[])]:List (Nat×List Nat)).lookup i).getD []
def af.tb:Nat→List (List Nat):=fun i=>(([(11,[[],[],[0,1],[0,1,2],[],[],[4,5],[4,5,6],[0,1,2,3],[0,1,2,3,4,5,6,7,8]])]:List (Nat×List (List Nat))).lookup i).getD []
noncomputable def af.mk (g:Sl→Int→Hp→OA) (args:List AV) (H:Hp):OA:=match args with
 | [(.agg [(.sl aa),(.int .i64 ab)])]=>g aa ab H
 | _=>none
noncomputable def af.cs (F:Nat) (bn:Sl→Int→Int→Bool→Hp→OA):List (FuncId×(List AV→Hp→OA)):=[(152,ao.mk bn)]
theorem af.loops (F:Nat) (bn:Sl→Int→Int→Bool→Hp→OA):LoopsOk tabs (mkOrc (af.cs F bn)) af.pn (af.lh F bn) F [] 1 af.code (fun tm H=>aresults tabs.ty H tm Try.f122.results.toList fun v=>some (v,H)) (fun _ _ _=>none) (fun tm H=>aresults tabs.ty H tm Try.f122.results.toList fun v=>some (v,H)):=by
 refine LoopsOk.seq ?_ ?_
 ·exact loops_none (by kernel_rfl)
 ·refine LoopsOk.seq ?_ ?_
  ·exact loops_none (by kernel_rfl)
  ·refine LoopsOk.seq ?_ ?_
   ·refine LoopsOk.seq ?_ ?_
    ·exact loops_none (by kernel_rfl)
    ·refine LoopsOk.block ?_
     refine LoopsOk.loop (fun tm H=>?_) (fun k29 tm H r h0=>?_) (fun k29=>?_)
     ·refine none_of fun r h0=>?_
      obtain ⟨fb,cl,cz,dM,hks,e1,e3,e4,h⟩:=af.lh29_inv (show af.lh29 F bn [] 0 tm H = some r from h0)
      cases h
     ·obtain ⟨fb,cl,cz,dM,hks,e1,e3,e4,h⟩:=af.lh29_inv (show af.lh29 F bn [] (k29 + 1) tm H = some r from h0)
      have q0:(Tm.put tm 1 (.ptr fb cl)) = tm:=by exact Tm.put_same e1
      have q1:(Tm.put (Tm.put tm 1 (.ptr fb cl)) 3 (.sl cz)) = tm:=by rw [q0]; exact Tm.put_same e3
      have q2:(Tm.put (Tm.put (Tm.put tm 1 (.ptr fb cl)) 3 (.sl cz)) 4 (.int .i64 dM)) = tm:=by rw [q1]; exact Tm.put_same e4
      rw [← q2]
      exact Eq.trans (by kernel_rfl) h
     ·exact loops_none (by kernel_rfl)
   ·refine LoopsOk.seq ?_ ?_
    ·refine LoopsOk.seq ?_ ?_
     ·exact loops_none (by kernel_rfl)
     ·refine LoopsOk.block ?_
      refine LoopsOk.loop (fun tm H=>?_) (fun k61 tm H r h0=>?_) (fun k61=>?_)
      ·refine none_of fun r h0=>?_
       obtain ⟨ei,fD,gi,dL,hks,e1,e3,e5,h⟩:=af.lh61_inv (show af.lh61 F bn [] 0 tm H = some r from h0)
       cases h
      ·obtain ⟨ei,fD,gi,dL,hks,e1,e3,e5,h⟩:=af.lh61_inv (show af.lh61 F bn [] (k61 + 1) tm H = some r from h0)
       have q0:(Tm.put tm 1 (.ptr ei fD)) = tm:=by exact Tm.put_same e1
       have q1:(Tm.put (Tm.put tm 1 (.ptr ei fD)) 3 (.sl gi)) = tm:=by rw [q0]; exact Tm.put_same e3
       have q2:(Tm.put (Tm.put (Tm.put tm 1 (.ptr ei fD)) 3 (.sl gi)) 5 (.int .i64 dL)) = tm:=by rw [q1]; exact Tm.put_same e5
       rw [← q2]
       exact Eq.trans (by kernel_rfl) h
      ·refine LoopsOk.seq ?_ ?_
       ·exact loops_none (by kernel_rfl)
       ·refine LoopsOk.seq ?_ ?_
        ·refine LoopsOk.block ?_
         refine LoopsOk.seq ?_ ?_
         ·exact loops_none (by kernel_rfl)
         ·refine LoopsOk.seq ?_ ?_
          ·exact loops_none (by kernel_rfl)
          ·refine LoopsOk.seq ?_ ?_
           ·exact loops_none (by kernel_rfl)
           ·refine LoopsOk.seq ?_ ?_
            ·exact loops_none (by kernel_rfl)
            ·refine LoopsOk.block ?_
             refine LoopsOk.loop (fun tm H=>?_) (fun k7855 tm H r h0=>?_) (fun k7855=>?_)
             ·refine none_of fun r h0=>?_
              obtain ⟨bm,eh,fC,fa,dr,cA,cN,de,hks,e1,e3,e5,e10,e11,e12,h⟩:=af.lh7855_inv (show af.lh7855 F bn [k61] 0 tm H = some r from h0)
              cases h
             ·obtain ⟨bm,eh,fC,fa,dr,cA,cN,de,hks,e1,e3,e5,e10,e11,e12,h⟩:=af.lh7855_inv (show af.lh7855 F bn [k61] (k7855 + 1) tm H = some r from h0)
              obtain rfl:bm = k61:=by simpa [eq_comm] using hks
              have q0:(Tm.put tm 1 (.ptr eh fC)) = tm:=by exact Tm.put_same e1
              have q1:(Tm.put (Tm.put tm 1 (.ptr eh fC)) 3 (.sl fa)) = tm:=by rw [q0]; exact Tm.put_same e3
              have q2:(Tm.put (Tm.put (Tm.put tm 1 (.ptr eh fC)) 3 (.sl fa)) 5 (.int .i64 dr)) = tm:=by rw [q1]; exact Tm.put_same e5
              have q3:(Tm.put (Tm.put (Tm.put (Tm.put tm 1 (.ptr eh fC)) 3 (.sl fa)) 5 (.int .i64 dr)) 10 (.int .i64 cA)) = tm:=by rw [q2]; exact Tm.put_same e10
              have q4:(Tm.put (Tm.put (Tm.put (Tm.put (Tm.put tm 1 (.ptr eh fC)) 3 (.sl fa)) 5 (.int .i64 dr)) 10 (.int .i64 cA)) 11 (.int .i64 cN)) = tm:=by rw [q3]; exact Tm.put_same e11
              have q5:(Tm.put (Tm.put (Tm.put (Tm.put (Tm.put (Tm.put tm 1 (.ptr eh fC)) 3 (.sl fa)) 5 (.int .i64 dr)) 10 (.int .i64 cA)) 11 (.int .i64 cN)) 12 (.int .i64 de)) = tm:=by rw [q4]; exact Tm.put_same e12
              rw [← q5]
              exact Eq.trans (by kernel_rfl) h
             ·exact loops_none (by kernel_rfl)
        ·exact loops_none (by kernel_rfl)
    ·exact loops_none (by kernel_rfl)
theorem af.eqX (F:Nat) (bn:Sl→Int→Int→Bool→Hp→OA) (aa:Sl) (ab:Int) (H:Hp):aCode tabs (mkOrc (af.cs F bn)) af.pn (af.lh F bn) F [] 1 af.code (argTm [(.agg [(.sl aa),(.int .i64 ab)])]) H (fun tm H=>aresults tabs.ty H tm Try.f122.results.toList fun v=>some (v,H)) (fun _ _ _=>none) (fun tm H=>aresults tabs.ty H tm Try.f122.results.toList fun v=>some (v,H)) = af.twX F bn aa ab H:=by kernel_rfl
theorem af.cs_ok (F:Nat):∀ p ∈ af.cs F (ao.tw F),∀ args H v H',p.2 args H = some (v,H')→Go.AE.T Try.prog p.1 args H v H':=by
 intro p hp
 simp only [af.cs,List.mem_cons,List.not_mem_nil,or_false] at hp
 subst hp
 exact fun args H v H' h=>ao.mk_T h
theorem af.ok:codeOk af.pn Try.f122.ntmps af.tb af.code = true:=by kernel_rfl
theorem af.T {F:Nat} {aa:Sl} {ab:Int} {H:Hp} {v:AV} {H':Hp} (h:af.tw F aa ab H = some (v,H')):Go.AE.T Try.prog 122 [(.agg [(.sl aa),(.int .i64 ab)])] H v H':=
 Go.AE.T.of (Y:=tabs) (C:=mkOrc (af.cs F (ao.tw F))) (PN:=af.pn) (LH:=af.lh F (ao.tw F)) (F:=F) (TB:=af.tb) (fn:=Try.f122) (code:=af.code) mixed tabs_ok (mkOrc_ok (af.cs_ok F)) Try.func122 (by kernel_rfl) (by kernel_rfl) af.ok (Nat.le_of_ble_eq_true (by kernel_rfl)) (af.loops F (ao.tw F)) (Eq.trans (af.eqX F (ao.tw F) aa ab H) h)
theorem af.mk_T {F:Nat} {args:List AV} {H:Hp} {v:AV} {H':Hp} (h:af.mk (af.tw F) args H = some (v,H')):Go.AE.T Try.prog 122 args H v H':=by
 unfold af.mk at h
 split at h
 ·exact af.T h
 ·cases h
noncomputable def aG.j2 (F:Nat) (aC:Sl→Int→Hp→OA) (C61_:Int→Sl→Int→Hp→OA) (kG:Int) (Fa:Sl) (kH:Int) (H42:Hp):OA:=C61_ kG Fa (IntKind.i64.wrap (kH + 1)) H42
noncomputable def aG.l61 (F:Nat) (aC:Sl→Int→Hp→OA) :Nat→Int→Sl→Int→Hp→OA
 | 0,_,_,_,_=>none
 | bm + 1,dN,gj,df,H16=>(bif (decide (df < (gj.n:Int))) then ((Sl.idx gj df 1).bind fun p30=>(Hp.ldI H16 .i64 p30.1 p30.2).bind fun n31=>(bif (n31 == df) then (aG.j2 F aC (aG.l61 F aC bm) (IntKind.i64.wrap (dN + 1)) gj df H16) else (aG.j2 F aC (aG.l61 F aC bm) dN gj df H16))) else (some ((.int .i64 dN),H16)))
termination_by structural n=>n
noncomputable def aG.twX (F:Nat) (aC:Sl→Int→Hp→OA) (aa:Sl) (ab:Int) (H:Hp):OA:=(Hp.new H [(.sl aa),(.int .i64 ab)]).bind fun H3=>(Hp.ldSl H3 H.length 0).bind fun s4=>(Hp.ldI H3 .i64 H.length (0 + 1)).bind fun n5=>(aC s4 n5 H3).bind fun r6=>((r6.1).asSl).bind fun s7=>aG.l61 F aC F 0 s7 0 r6.2
noncomputable def aG.tw (F:Nat) (aa:Sl) (ab:Int) (H:Hp):OA:=aG.twX F (af.tw F) aa ab H
noncomputable def aG.code:Go.Code:=(Try.f97.body).getD .skip
noncomputable def aG.lh61 (F:Nat) (aC:Sl→Int→Hp→OA) (ks:List Nat) (n:Nat) (tm:Tm) (H:Hp):OA:=match ks,tm 3,tm 4,tm 5 with
 | [],(.int .i64 dN),(.sl gj),(.int .i64 df)=>aG.l61 F aC n dN gj df H
 | _,_,_,_=>none
theorem aG.lh61_inv {F:Nat} {aC:Sl→Int→Hp→OA} {ks:List Nat} {n:Nat} {tm:Tm} {H:Hp} {r:AV×Hp} (h:aG.lh61 F aC ks n tm H = some r):∃ dN:Int,∃ gj:Sl,∃ df:Int,ks = []∧tm 3 = (.int .i64 dN)∧tm 4 = (.sl gj)∧tm 5 = (.int .i64 df)∧aG.l61 F aC n dN gj df H = some r:=by
 unfold aG.lh61 at h
 split at h
 ·exact ⟨_,_,_,rfl,by assumption,by assumption,by assumption,h⟩
 ·cases h
noncomputable def aG.lh (F:Nat) (aC:Sl→Int→Hp→OA) (p:Nat) (ks:List Nat) (n:Nat) (tm:Tm) (H:Hp):OA:=bif p.beq 61 then aG.lh61 F aC ks n tm H else (none)
def aG.pn:Nat→List Nat:=fun i=>(([]:List (Nat×List Nat)).lookup i).getD []
def aG.tb:Nat→List (List Nat):=fun i=>(([]:List (Nat×List (List Nat))).lookup i).getD []
noncomputable def aG.mk (g:Sl→Int→Hp→OA) (args:List AV) (H:Hp):OA:=match args with
 | [(.agg [(.sl aa),(.int .i64 ab)])]=>g aa ab H
 | _=>none
noncomputable def aG.cs (F:Nat) (aC:Sl→Int→Hp→OA):List (FuncId×(List AV→Hp→OA)):=[(122,af.mk aC)]
theorem aG.loops (F:Nat) (aC:Sl→Int→Hp→OA):LoopsOk tabs (mkOrc (aG.cs F aC)) aG.pn (aG.lh F aC) F [] 1 aG.code (fun tm H=>aresults tabs.ty H tm Try.f97.results.toList fun v=>some (v,H)) (fun _ _ _=>none) (fun tm H=>aresults tabs.ty H tm Try.f97.results.toList fun v=>some (v,H)):=by
 refine LoopsOk.seq ?_ ?_
 ·exact loops_none (by kernel_rfl)
 ·refine LoopsOk.seq ?_ ?_
  ·exact loops_none (by kernel_rfl)
  ·refine LoopsOk.seq ?_ ?_
   ·exact loops_none (by kernel_rfl)
   ·refine LoopsOk.seq ?_ ?_
    ·refine LoopsOk.seq ?_ ?_
     ·exact loops_none (by kernel_rfl)
     ·refine LoopsOk.block ?_
      refine LoopsOk.loop (fun tm H=>?_) (fun k61 tm H r h0=>?_) (fun k61=>?_)
      ·refine none_of fun r h0=>?_
       obtain ⟨dN,gj,df,hks,e3,e4,e5,h⟩:=aG.lh61_inv (show aG.lh61 F aC [] 0 tm H = some r from h0)
       cases h
      ·obtain ⟨dN,gj,df,hks,e3,e4,e5,h⟩:=aG.lh61_inv (show aG.lh61 F aC [] (k61 + 1) tm H = some r from h0)
       have q0:(Tm.put tm 3 (.int .i64 dN)) = tm:=by exact Tm.put_same e3
       have q1:(Tm.put (Tm.put tm 3 (.int .i64 dN)) 4 (.sl gj)) = tm:=by rw [q0]; exact Tm.put_same e4
       have q2:(Tm.put (Tm.put (Tm.put tm 3 (.int .i64 dN)) 4 (.sl gj)) 5 (.int .i64 df)) = tm:=by rw [q1]; exact Tm.put_same e5
       rw [← q2]
       exact Eq.trans (by kernel_rfl) h
      ·exact loops_none (by kernel_rfl)
    ·exact loops_none (by kernel_rfl)
theorem aG.eqX (F:Nat) (aC:Sl→Int→Hp→OA) (aa:Sl) (ab:Int) (H:Hp):aCode tabs (mkOrc (aG.cs F aC)) aG.pn (aG.lh F aC) F [] 1 aG.code (argTm [(.agg [(.sl aa),(.int .i64 ab)])]) H (fun tm H=>aresults tabs.ty H tm Try.f97.results.toList fun v=>some (v,H)) (fun _ _ _=>none) (fun tm H=>aresults tabs.ty H tm Try.f97.results.toList fun v=>some (v,H)) = aG.twX F aC aa ab H:=by kernel_rfl
theorem aG.cs_ok (F:Nat):∀ p ∈ aG.cs F (af.tw F),∀ args H v H',p.2 args H = some (v,H')→Go.AE.T Try.prog p.1 args H v H':=by
 intro p hp
 simp only [aG.cs,List.mem_cons,List.not_mem_nil,or_false] at hp
 subst hp
 exact fun args H v H' h=>af.mk_T h
theorem aG.ok:codeOk aG.pn Try.f97.ntmps aG.tb aG.code = true:=by kernel_rfl
theorem aG.T {F:Nat} {aa:Sl} {ab:Int} {H:Hp} {v:AV} {H':Hp} (h:aG.tw F aa ab H = some (v,H')):Go.AE.T Try.prog 97 [(.agg [(.sl aa),(.int .i64 ab)])] H v H':=
 Go.AE.T.of (Y:=tabs) (C:=mkOrc (aG.cs F (af.tw F))) (PN:=aG.pn) (LH:=aG.lh F (af.tw F)) (F:=F) (TB:=aG.tb) (fn:=Try.f97) (code:=aG.code) mixed tabs_ok (mkOrc_ok (aG.cs_ok F)) Try.func97 (by kernel_rfl) (by kernel_rfl) aG.ok (Nat.le_of_ble_eq_true (by kernel_rfl)) (aG.loops F (af.tw F)) (Eq.trans (aG.eqX F (af.tw F) aa ab H) h)
theorem aG.mk_T {F:Nat} {args:List AV} {H:Hp} {v:AV} {H':Hp} (h:aG.mk (aG.tw F) args H = some (v,H')):Go.AE.T Try.prog 97 args H v H':=by
 unfold aG.mk at h
 split at h
 ·exact aG.T h
 ·cases h
noncomputable def bv.twX (F:Nat) (bD:Int→Int→Int→Hp→OA) (hI:Sl→Int→Hp→OA) (av:Sl→Int→Hp→OA) (hJ:Sl→Int→Hp→OA) (aa:Sl) (ab:Int) (H:Hp):OA:=(Hp.new H [(.sl aa),(.int .i64 ab)]).bind fun H3=>(Hp.ldSl H3 H.length 0).bind fun s4=>(bif (decide ((s4.n:Int) > 10)) then (some ((.bool false),H3)) else ((Hp.ldI H3 .i64 H.length 1).bind fun n5=>(bD n5 0 8 H3).bind fun r6=>((r6.1).asB).bind fun b7=>(bif (!b7) then (some ((.bool false),r6.2)) else ((Hp.ldSl r6.2 H.length 0).bind fun s8=>(Hp.ldI r6.2 .i64 H.length (0 + 1)).bind fun n9=>(hI s8 n9 r6.2).bind fun r10=>((r10.1).asB).bind fun b11=>(bif (!b11) then (some ((.bool false),r10.2)) else ((Hp.ldSl r10.2 H.length 0).bind fun s12=>(Hp.ldI r10.2 .i64 H.length (0 + 1)).bind fun n13=>(av s12 n13 r10.2).bind fun r14=>((r14.1).asSl).bind fun s15=>(if Cons r10.2 r14.2 then ((Hp.ldSl r14.2 H.length 0).bind fun s16=>(Hp.ldSl r14.2 H.length 0).bind fun s17=>(Hp.ldI r14.2 .i64 H.length (0 + 1)).bind fun n18=>(hJ s17 n18 r14.2).bind fun r19=>((r19.1).asI .i64).bind fun n20=>(if Cons r14.2 r19.2 then (some ((.bool ((s15.n:Int) == (IntKind.i64.wrap ((s16.n:Int) + (IntKind.i64.wrap (2 * n20)))))),r19.2)) else none)) else none)))))))
noncomputable def bv.tw (F:Nat) (aa:Sl) (ab:Int) (H:Hp):OA:=bv.twX F (aZ.tw F) (au.tw F) (ah.tw F) (aG.tw F) aa ab H
noncomputable def bv.code:Go.Code:=(Try.f50.body).getD .skip
noncomputable def bv.lh (F:Nat) (bD:Int→Int→Int→Hp→OA) (hI:Sl→Int→Hp→OA) (av:Sl→Int→Hp→OA) (hJ:Sl→Int→Hp→OA) (p:Nat) (ks:List Nat) (n:Nat) (tm:Tm) (H:Hp):OA:=none
def bv.pn:Nat→List Nat:=fun i=>(([(3,[])]:List (Nat×List Nat)).lookup i).getD []
def bv.tb:Nat→List (List Nat):=fun i=>(([(3,[[],[0],[0,1],[],[3],[3,4],[],[0,1,6],[0,1,6,7],[0,1,3,4,5,6,7,8],[0,1,2,3,4,5,6,7,8,9],[0,1,2,3,4,5,6,7,8,9,10]])]:List (Nat×List (List Nat))).lookup i).getD []
noncomputable def bv.mk (g:Sl→Int→Hp→OA) (args:List AV) (H:Hp):OA:=match args with
 | [(.agg [(.sl aa),(.int .i64 ab)])]=>g aa ab H
 | _=>none
noncomputable def bv.cs (F:Nat) (bD:Int→Int→Int→Hp→OA) (hI:Sl→Int→Hp→OA) (av:Sl→Int→Hp→OA) (hJ:Sl→Int→Hp→OA):List (FuncId×(List AV→Hp→OA)):=[(65,aZ.mk bD),(104,au.mk hI),(105,ah.mk av),(97,aG.mk hJ)]
theorem bv.loops (F:Nat) (bD:Int→Int→Int→Hp→OA) (hI:Sl→Int→Hp→OA) (av:Sl→Int→Hp→OA) (hJ:Sl→Int→Hp→OA):LoopsOk tabs (mkOrc (bv.cs F bD hI av hJ)) bv.pn (bv.lh F bD hI av hJ) F [] 1 bv.code (fun tm H=>aresults tabs.ty H tm Try.f50.results.toList fun v=>some (v,H)) (fun _ _ _=>none) (fun tm H=>aresults tabs.ty H tm Try.f50.results.toList fun v=>some (v,H)):=by
 exact loops_none (by kernel_rfl)
theorem bv.eqX (F:Nat) (bD:Int→Int→Int→Hp→OA) (hI:Sl→Int→Hp→OA) (av:Sl→Int→Hp→OA) (hJ:Sl→Int→Hp→OA) (aa:Sl) (ab:Int) (H:Hp):aCode tabs (mkOrc (bv.cs F bD hI av hJ)) bv.pn (bv.lh F bD hI av hJ) F [] 1 bv.code (argTm [(.agg [(.sl aa),(.int .i64 ab)])]) H (fun tm H=>aresults tabs.ty H tm Try.f50.results.toList fun v=>some (v,H)) (fun _ _ _=>none) (fun tm H=>aresults tabs.ty H tm Try.f50.results.toList fun v=>some (v,H)) = bv.twX F bD hI av hJ aa ab H:=by kernel_rfl
theorem bv.cs_ok (F:Nat):∀ p ∈ bv.cs F (aZ.tw F) (au.tw F) (ah.tw F) (aG.tw F),∀ args H v H',p.2 args H = some (v,H')→Go.AE.T Try.prog p.1 args H v H':=by
 intro p hp
 simp only [bv.cs,List.mem_cons,List.not_mem_nil,or_false] at hp
 rcases hp with rfl | rfl | rfl | rfl
 ·exact fun args H v H' h=>aZ.mk_T h
 ·exact fun args H v H' h=>au.mk_T h
 ·exact fun args H v H' h=>ah.mk_T h
 ·exact fun args H v H' h=>aG.mk_T h
theorem bv.ok:codeOk bv.pn Try.f50.ntmps bv.tb bv.code = true:=by kernel_rfl
theorem bv.T {F:Nat} {aa:Sl} {ab:Int} {H:Hp} {v:AV} {H':Hp} (h:bv.tw F aa ab H = some (v,H')):Go.AE.T Try.prog 50 [(.agg [(.sl aa),(.int .i64 ab)])] H v H':=
 Go.AE.T.of (Y:=tabs) (C:=mkOrc (bv.cs F (aZ.tw F) (au.tw F) (ah.tw F) (aG.tw F))) (PN:=bv.pn) (LH:=bv.lh F (aZ.tw F) (au.tw F) (ah.tw F) (aG.tw F)) (F:=F) (TB:=bv.tb) (fn:=Try.f50) (code:=bv.code) mixed tabs_ok (mkOrc_ok (bv.cs_ok F)) Try.func50 (by kernel_rfl) (by kernel_rfl) bv.ok (Nat.le_of_ble_eq_true (by kernel_rfl)) (bv.loops F (aZ.tw F) (au.tw F) (ah.tw F) (aG.tw F)) (Eq.trans (bv.eqX F (aZ.tw F) (au.tw F) (ah.tw F) (aG.tw F) aa ab H) h)
theorem bv.mk_T {F:Nat} {args:List AV} {H:Hp} {v:AV} {H':Hp} (h:bv.mk (bv.tw F) args H = some (v,H')):Go.AE.T Try.prog 50 args H v H':=by
 unfold bv.mk at h
 split at h
 ·exact bv.T h
 ·cases h
noncomputable def ak.j3 (F:Nat) (av:Sl→Int→Hp→OA) (C61_:Sl→Sl→Int→Hp→OA) (Fb:Sl) (Fc:Sl) (kI:Int) (H112:Hp):OA:=C61_ Fb Fc (IntKind.i64.wrap (kI + 1)) H112
noncomputable def ak.j4 (F:Nat) (av:Sl→Int→Hp→OA) (C61_:Sl→Sl→Int→Hp→OA) (Fd:Sl) (Fe:Sl) (kJ:Int) (H100:Hp):OA:=ak.j3 F av C61_ Fd Fe kJ H100
noncomputable def ak.l981 (F:Nat) (av:Sl→Int→Hp→OA) (C61_:Sl→Sl→Int→Hp→OA):Nat→Sl→Sl→Int→Int→Hp→OA
 | 0,_,_,_,_,_=>none
 | Ff + 1,fV,fW,c_,ez,H80=>(Sl.idx fW c_ 1).bind fun p113=>(Hp.ldSl H80 p113.1 p113.2).bind fun s114=>(bif (decide (ez < (s114.n:Int))) then ((Sl.idx fW c_ 1).bind fun p115=>(Hp.ldSl H80 p115.1 p115.2).bind fun s116=>(Sl.idx s116 ez 1).bind fun p117=>(Hp.ldI H80 .i64 p117.1 p117.2).bind fun n118=>(Sl.idx fV n118 1).bind fun p119=>(Hp.st H80 p119.1 p119.2 (.int .i64 c_)).bind fun H120=>ak.l981 F av C61_ Ff fV fW c_ (IntKind.i64.wrap (ez + 1)) H120) else (ak.j4 F av C61_ fV fW c_ H80))
termination_by structural n=>n
noncomputable def ak.l61 (F:Nat) (av:Sl→Int→Hp→OA) :Nat→Sl→Sl→Int→Hp→OA
 | 0,_,_,_,_=>none
 | bm + 1,co,hK,fd,H18=>(bif (decide (fd < (hK.n:Int))) then (ak.l981 F av (ak.l61 F av bm) F co hK fd 0 H18) else (some ((.sl co),H18)))
termination_by structural n=>n
noncomputable def ak.twX (F:Nat) (av:Sl→Int→Hp→OA) (aa:Sl) (ab:Int) (H:Hp):OA:=(Hp.new H [(.sl aa),(.int .i64 ab)]).bind fun H3=>(Hp.ldSl H3 H.length 0).bind fun s4=>(Hp.mk H3 [.int .i64 0] 8 (IntKind.i64.wrap (4 * (s4.n:Int))) (IntKind.i64.wrap (4 * (s4.n:Int)))).bind fun m5=>(Hp.ldSl m5.2 H.length 0).bind fun s6=>(Hp.ldI m5.2 .i64 H.length (0 + 1)).bind fun n7=>(av s6 n7 m5.2).bind fun r8=>((r8.1).asSl).bind fun s9=>ak.l61 F av F m5.1 s9 0 r8.2
noncomputable def ak.tw (F:Nat) (aa:Sl) (ab:Int) (H:Hp):OA:=ak.twX F (ah.tw F) aa ab H
noncomputable def ak.code:Go.Code:=(Try.f67.body).getD .skip
noncomputable def ak.lh61 (F:Nat) (av:Sl→Int→Hp→OA) (ks:List Nat) (n:Nat) (tm:Tm) (H:Hp):OA:=match ks,tm 3,tm 4,tm 5 with
 | [],(.sl co),(.sl hK),(.int .i64 fd)=>ak.l61 F av n co hK fd H
 | _,_,_,_=>none
theorem ak.lh61_inv {F:Nat} {av:Sl→Int→Hp→OA} {ks:List Nat} {n:Nat} {tm:Tm} {H:Hp} {r:AV×Hp} (h:ak.lh61 F av ks n tm H = some r):∃ co:Sl,∃ hK:Sl,∃ fd:Int,ks = []∧tm 3 = (.sl co)∧tm 4 = (.sl hK)∧tm 5 = (.int .i64 fd)∧ak.l61 F av n co hK fd H = some r:=by
 unfold ak.lh61 at h
 split at h
 ·exact ⟨_,_,_,rfl,by assumption,by assumption,by assumption,h⟩
 ·cases h
noncomputable def ak.lh981 (F:Nat) (av:Sl→Int→Hp→OA) (ks:List Nat) (n:Nat) (tm:Tm) (H:Hp):OA:=match ks,tm 3,tm 4,tm 5,tm 6 with
 | [bm],(.sl fV),(.sl fW),(.int .i64 c_),(.int .i64 ez)=>ak.l981 F av (ak.l61 F av bm) n fV fW c_ ez H
 | _,_,_,_,_=>none
theorem ak.lh981_inv {F:Nat} {av:Sl→Int→Hp→OA} {ks:List Nat} {n:Nat} {tm:Tm} {H:Hp} {r:AV×Hp} (h:ak.lh981 F av ks n tm H = some r):∃ bm:Nat,∃ fV:Sl,∃ fW:Sl,∃ c_:Int,∃ ez:Int,ks = [bm]∧tm 3 = (.sl fV)∧tm 4 = (.sl fW)∧tm 5 = (.int .i64 c_)∧tm 6 = (.int .i64 ez)∧ak.l981 F av (ak.l61 F av bm) n fV fW c_ ez H = some r:=by
 unfold ak.lh981 at h
 split at h
 ·exact ⟨_,_,_,_,_,rfl,by assumption,by assumption,by assumption,by assumption,h⟩
 ·cases h
noncomputable def ak.lh (F:Nat) (av:Sl→Int→Hp→OA) (p:Nat) (ks:List Nat) (n:Nat) (tm:Tm) (H:Hp):OA:=bif p.beq 981 then ak.lh981 F av ks n tm H else (bif p.beq 61 then ak.lh61 F av ks n tm H else (none))
def ak.pn:Nat→List Nat:=fun i=>(([]:List (Nat×List Nat)).lookup i).getD []
def ak.tb:Nat→List (List Nat):=fun i=>(([]:List (Nat×List (List Nat))).lookup i).getD []
noncomputable def ak.mk (g:Sl→Int→Hp→OA) (args:List AV) (H:Hp):OA:=match args with
 | [(.agg [(.sl aa),(.int .i64 ab)])]=>g aa ab H
 | _=>none
noncomputable def ak.cs (F:Nat) (av:Sl→Int→Hp→OA):List (FuncId×(List AV→Hp→OA)):=[(105,ah.mk av)]
theorem ak.loops (F:Nat) (av:Sl→Int→Hp→OA):LoopsOk tabs (mkOrc (ak.cs F av)) ak.pn (ak.lh F av) F [] 1 ak.code (fun tm H=>aresults tabs.ty H tm Try.f67.results.toList fun v=>some (v,H)) (fun _ _ _=>none) (fun tm H=>aresults tabs.ty H tm Try.f67.results.toList fun v=>some (v,H)):=by
 refine LoopsOk.seq ?_ ?_
 ·exact loops_none (by kernel_rfl)
 ·refine LoopsOk.seq ?_ ?_
  ·exact loops_none (by kernel_rfl)
  ·refine LoopsOk.seq ?_ ?_
   ·exact loops_none (by kernel_rfl)
   ·refine LoopsOk.seq ?_ ?_
    ·refine LoopsOk.seq ?_ ?_
     ·exact loops_none (by kernel_rfl)
     ·refine LoopsOk.block ?_
      refine LoopsOk.loop (fun tm H=>?_) (fun k61 tm H r h0=>?_) (fun k61=>?_)
      ·refine none_of fun r h0=>?_
       obtain ⟨co,hK,fd,hks,e3,e4,e5,h⟩:=ak.lh61_inv (show ak.lh61 F av [] 0 tm H = some r from h0)
       cases h
      ·obtain ⟨co,hK,fd,hks,e3,e4,e5,h⟩:=ak.lh61_inv (show ak.lh61 F av [] (k61 + 1) tm H = some r from h0)
       have q0:(Tm.put tm 3 (.sl co)) = tm:=by exact Tm.put_same e3
       have q1:(Tm.put (Tm.put tm 3 (.sl co)) 4 (.sl hK)) = tm:=by rw [q0]; exact Tm.put_same e4
       have q2:(Tm.put (Tm.put (Tm.put tm 3 (.sl co)) 4 (.sl hK)) 5 (.int .i64 fd)) = tm:=by rw [q1]; exact Tm.put_same e5
       rw [← q2]
       exact Eq.trans (by kernel_rfl) h
      ·refine LoopsOk.seq ?_ ?_
       ·exact loops_none (by kernel_rfl)
       ·refine LoopsOk.seq ?_ ?_
        ·refine LoopsOk.block ?_
         refine LoopsOk.seq ?_ ?_
         ·exact loops_none (by kernel_rfl)
         ·refine LoopsOk.block ?_
          refine LoopsOk.loop (fun tm H=>?_) (fun k981 tm H r h0=>?_) (fun k981=>?_)
          ·refine none_of fun r h0=>?_
           obtain ⟨bm,fV,fW,c_,ez,hks,e3,e4,e5,e6,h⟩:=ak.lh981_inv (show ak.lh981 F av [k61] 0 tm H = some r from h0)
           cases h
          ·obtain ⟨bm,fV,fW,c_,ez,hks,e3,e4,e5,e6,h⟩:=ak.lh981_inv (show ak.lh981 F av [k61] (k981 + 1) tm H = some r from h0)
           obtain rfl:bm = k61:=by simpa [eq_comm] using hks
           have q0:(Tm.put tm 3 (.sl fV)) = tm:=by exact Tm.put_same e3
           have q1:(Tm.put (Tm.put tm 3 (.sl fV)) 4 (.sl fW)) = tm:=by rw [q0]; exact Tm.put_same e4
           have q2:(Tm.put (Tm.put (Tm.put tm 3 (.sl fV)) 4 (.sl fW)) 5 (.int .i64 c_)) = tm:=by rw [q1]; exact Tm.put_same e5
           have q3:(Tm.put (Tm.put (Tm.put (Tm.put tm 3 (.sl fV)) 4 (.sl fW)) 5 (.int .i64 c_)) 6 (.int .i64 ez)) = tm:=by rw [q2]; exact Tm.put_same e6
           rw [← q3]
           exact Eq.trans (by kernel_rfl) h
          ·exact loops_none (by kernel_rfl)
        ·exact loops_none (by kernel_rfl)
    ·exact loops_none (by kernel_rfl)
theorem ak.eqX (F:Nat) (av:Sl→Int→Hp→OA) (aa:Sl) (ab:Int) (H:Hp):aCode tabs (mkOrc (ak.cs F av)) ak.pn (ak.lh F av) F [] 1 ak.code (argTm [(.agg [(.sl aa),(.int .i64 ab)])]) H (fun tm H=>aresults tabs.ty H tm Try.f67.results.toList fun v=>some (v,H)) (fun _ _ _=>none) (fun tm H=>aresults tabs.ty H tm Try.f67.results.toList fun v=>some (v,H)) = ak.twX F av aa ab H:=by kernel_rfl
theorem ak.cs_ok (F:Nat):∀ p ∈ ak.cs F (ah.tw F),∀ args H v H',p.2 args H = some (v,H')→Go.AE.T Try.prog p.1 args H v H':=by
 intro p hp
 simp only [ak.cs,List.mem_cons,List.not_mem_nil,or_false] at hp
 subst hp
 exact fun args H v H' h=>ah.mk_T h
theorem ak.ok:codeOk ak.pn Try.f67.ntmps ak.tb ak.code = true:=by kernel_rfl
theorem ak.T {F:Nat} {aa:Sl} {ab:Int} {H:Hp} {v:AV} {H':Hp} (h:ak.tw F aa ab H = some (v,H')):Go.AE.T Try.prog 67 [(.agg [(.sl aa),(.int .i64 ab)])] H v H':=
 Go.AE.T.of (Y:=tabs) (C:=mkOrc (ak.cs F (ah.tw F))) (PN:=ak.pn) (LH:=ak.lh F (ah.tw F)) (F:=F) (TB:=ak.tb) (fn:=Try.f67) (code:=ak.code) mixed tabs_ok (mkOrc_ok (ak.cs_ok F)) Try.func67 (by kernel_rfl) (by kernel_rfl) ak.ok (Nat.le_of_ble_eq_true (by kernel_rfl)) (ak.loops F (ah.tw F)) (Eq.trans (ak.eqX F (ah.tw F) aa ab H) h)
theorem ak.mk_T {F:Nat} {args:List AV} {H:Hp} {v:AV} {H':Hp} (h:ak.mk (ak.tw F) args H = some (v,H')):Go.AE.T Try.prog 67 args H v H':=by
 unfold ak.mk at h
 split at h
 ·exact ak.T h
 ·cases h
noncomputable def ac.j20 (F:Nat) (aD:Sl→Int→Hp→OA) (aC:Sl→Int→Hp→OA) (av:Sl→Int→Hp→OA) (C509_:Sl→Sl→Bool→Hp→OA) (Fg:Sl) (Fh:Sl) (kK:Bool) (H630:Hp):OA:=C509_ Fg Fh kK H630
noncomputable def ac.j21 (F:Nat) (aD:Sl→Int→Hp→OA) (aC:Sl→Int→Hp→OA) (av:Sl→Int→Hp→OA) (C509_:Sl→Sl→Bool→Hp→OA) (Fi:Sl) (Fj:Sl) (kL:Bool) (H613:Hp):OA:=ac.j20 F aD aC av C509_ Fi Fj kL H613
noncomputable def ac.j22 (F:Nat) (aD:Sl→Int→Hp→OA) (aC:Sl→Int→Hp→OA) (av:Sl→Int→Hp→OA) (C8151_:Sl→Sl→Bool→Int→Hp→OA) (Fk:Sl) (Fl:Sl) (kM:Bool) (kN:Int) (H696:Hp):OA:=C8151_ Fk Fl kM (IntKind.i64.wrap (kN + 1)) H696
noncomputable def ac.j23 (F:Nat) (aD:Sl→Int→Hp→OA) (aC:Sl→Int→Hp→OA) (av:Sl→Int→Hp→OA) (C8151_:Sl→Sl→Bool→Int→Hp→OA) (Fm:Sl) (Fn:Sl) (kO:Bool) (kP:Int) (H716:Hp):OA:=C8151_ Fm Fn kO (IntKind.i64.wrap (kP + 1)) H716
noncomputable def ac.j24 (F:Nat) (aD:Sl→Int→Hp→OA) (aC:Sl→Int→Hp→OA) (av:Sl→Int→Hp→OA) (C8151_:Sl→Sl→Bool→Int→Hp→OA) (lN:Sl) (kd:Sl) (jt:Bool) (fX:Int) (ju:Int) (H663:Hp):OA:=(Sl.idx kd ju 1).bind fun p664=>(Hp.ldI H663 .i64 p664.1 p664.2).bind fun n665=>(bif (decide (n665 ≥ 0)) then ((Sl.idx lN fX 1).bind fun p666=>(Hp.ldI H663 .i64 p666.1 p666.2).bind fun n667=>(Sl.idx kd n667 1).bind fun p668=>(Hp.ldI H663 .i64 p668.1 p668.2).bind fun n669=>(bif (decide (n669 < 0)) then ((Sl.idx lN fX 1).bind fun p670=>(Hp.ldI H663 .i64 p670.1 p670.2).bind fun n671=>(Sl.idx kd ju 1).bind fun p672=>(Hp.ldI H663 .i64 p672.1 p672.2).bind fun n673=>(Sl.idx kd n671 1).bind fun p674=>(Hp.st H663 p674.1 p674.2 (.int .i64 (IntKind.i64.wrap (1 - n673)))).bind fun H675=>ac.j22 F aD aC av C8151_ lN kd true fX H675) else (ac.j23 F aD aC av C8151_ lN kd jt fX H663))) else (C8151_ lN kd jt (IntKind.i64.wrap (fX + 1)) H663))
noncomputable def ac.j25 (F:Nat) (aD:Sl→Int→Hp→OA) (aC:Sl→Int→Hp→OA) (av:Sl→Int→Hp→OA) (C8151_:Sl→Sl→Bool→Int→Hp→OA) (Fo:Sl) (Fp:Sl) (kQ:Bool) (kR:Int) (H749:Hp):OA:=C8151_ Fo Fp kQ (IntKind.i64.wrap (kR + 1)) H749
noncomputable def ac.j26 (F:Nat) (aD:Sl→Int→Hp→OA) (aC:Sl→Int→Hp→OA) (av:Sl→Int→Hp→OA) (C8151_:Sl→Sl→Bool→Int→Hp→OA) (Fq:Sl) (Fr:Sl) (kS:Bool) (kT:Int) (H769:Hp):OA:=C8151_ Fq Fr kS (IntKind.i64.wrap (kT + 1)) H769
noncomputable def ac.l8151 (F:Nat) (aD:Sl→Int→Hp→OA) (aC:Sl→Int→Hp→OA) (av:Sl→Int→Hp→OA) (C509_:Sl→Sl→Bool→Hp→OA):Nat→Sl→Sl→Bool→Int→Hp→OA
 | 0,_,_,_,_,_=>none
 | lO + 1,dt,dg,du,bZ,H457=>(bif (decide (bZ < (dt.n:Int))) then ((Sl.idx dt (IntKind.i64.wrap ((IntKind.i64.wrap ((IntKind.i64.wrap (Int.tdiv bZ 4)) * 4)) + (Int.tmod (IntKind.i64.wrap (bZ + 1)) 4))) 1).bind fun p631=>(Hp.ldI H457 .i64 p631.1 p631.2).bind fun n632=>(Sl.idx dt bZ 1).bind fun p633=>(Hp.ldI H457 .i64 p633.1 p633.2).bind fun n634=>(Sl.idx dg n634 1).bind fun p635=>(Hp.ldI H457 .i64 p635.1 p635.2).bind fun n636=>(bif (decide (n636 ≥ 0)) then ((Sl.idx dg n632 1).bind fun p637=>(Hp.ldI H457 .i64 p637.1 p637.2).bind fun n638=>(bif (decide (n638 < 0)) then ((Sl.idx dt bZ 1).bind fun p639=>(Hp.ldI H457 .i64 p639.1 p639.2).bind fun n640=>(Sl.idx dg n640 1).bind fun p641=>(Hp.ldI H457 .i64 p641.1 p641.2).bind fun n642=>(Sl.idx dg n632 1).bind fun p643=>(Hp.st H457 p643.1 p643.2 (.int .i64 (IntKind.i64.wrap (1 - n642)))).bind fun H644=>ac.j24 F aD aC av (ac.l8151 F aD aC av C509_ lO) dt dg true bZ n632 H644) else (ac.j24 F aD aC av (ac.l8151 F aD aC av C509_ lO) dt dg du bZ n632 H457))) else ((Sl.idx dg n632 1).bind fun p717=>(Hp.ldI H457 .i64 p717.1 p717.2).bind fun n718=>(bif (decide (n718 ≥ 0)) then ((Sl.idx dt bZ 1).bind fun p719=>(Hp.ldI H457 .i64 p719.1 p719.2).bind fun n720=>(Sl.idx dg n720 1).bind fun p721=>(Hp.ldI H457 .i64 p721.1 p721.2).bind fun n722=>(bif (decide (n722 < 0)) then ((Sl.idx dt bZ 1).bind fun p723=>(Hp.ldI H457 .i64 p723.1 p723.2).bind fun n724=>(Sl.idx dg n632 1).bind fun p725=>(Hp.ldI H457 .i64 p725.1 p725.2).bind fun n726=>(Sl.idx dg n724 1).bind fun p727=>(Hp.st H457 p727.1 p727.2 (.int .i64 (IntKind.i64.wrap (1 - n726)))).bind fun H728=>ac.j25 F aD aC av (ac.l8151 F aD aC av C509_ lO) dt dg true bZ H728) else (ac.j26 F aD aC av (ac.l8151 F aD aC av C509_ lO) dt dg du bZ H457))) else (ac.l8151 F aD aC av C509_ lO dt dg du (IntKind.i64.wrap (bZ + 1)) H457))))) else (ac.j21 F aD aC av C509_ dt dg du H457))
termination_by structural n=>n
noncomputable def ac.l509 (F:Nat) (aD:Sl→Int→Hp→OA) (aC:Sl→Int→Hp→OA) (av:Sl→Int→Hp→OA) :Nat→Sl→Sl→Bool→Hp→OA
 | 0,_,_,_,_=>none
 | eL + 1,hL,hM,fE,H113=>(bif fE then (ac.l8151 F aD aC av (ac.l509 F aD aC av eL) F hL hM false 0 H113) else (some ((.sl hM),H113)))
termination_by structural n=>n
noncomputable def ac.j27 (F:Nat) (aD:Sl→Int→Hp→OA) (aC:Sl→Int→Hp→OA) (av:Sl→Int→Hp→OA) (Fs:Sl) (Ft:Sl) (H99:Hp):OA:=ac.l509 F aD aC av F Fs Ft true H99
noncomputable def ac.j28 (F:Nat) (aD:Sl→Int→Hp→OA) (aC:Sl→Int→Hp→OA) (av:Sl→Int→Hp→OA) (C253_:Sl→Sl→Sl→Int→Hp→OA) (Fu:Sl) (Fv:Sl) (Fw:Sl) (kU:Int) (H790:Hp):OA:=C253_ Fu Fv Fw (IntKind.i64.wrap (kU + 1)) H790
noncomputable def ac.j29 (F:Nat) (aD:Sl→Int→Hp→OA) (aC:Sl→Int→Hp→OA) (av:Sl→Int→Hp→OA) (C253_:Sl→Sl→Sl→Int→Hp→OA) (Fx:Sl) (Fy:Sl) (Fz:Sl) (kV:Int) (H804:Hp):OA:=C253_ Fx Fy Fz (IntKind.i64.wrap (kV + 1)) H804
noncomputable def ac.l253 (F:Nat) (aD:Sl→Int→Hp→OA) (aC:Sl→Int→Hp→OA) (av:Sl→Int→Hp→OA) :Nat→Sl→Sl→Sl→Int→Hp→OA
 | 0,_,_,_,_,_=>none
 | lP + 1,fN,fY,gl,cT,H51=>(bif (decide (cT < (fY.n:Int))) then ((Sl.idx fY cT 1).bind fun p770=>(Hp.ldI H51 .i64 p770.1 p770.2).bind fun n771=>(bif (n771 == cT) then ((Sl.idx fN (IntKind.i64.wrap (4 * cT)) 1).bind fun p772=>(Hp.ldI H51 .i64 p772.1 p772.2).bind fun n773=>(Sl.idx gl n773 1).bind fun p774=>(Hp.st H51 p774.1 p774.2 (.int .i64 0)).bind fun H775=>ac.j28 F aD aC av (ac.l253 F aD aC av lP) fN fY gl cT H775) else (ac.j29 F aD aC av (ac.l253 F aD aC av lP) fN fY gl cT H51))) else (ac.j27 F aD aC av fN gl H51))
termination_by structural n=>n
noncomputable def ac.j30 (F:Nat) (aD:Sl→Int→Hp→OA) (aC:Sl→Int→Hp→OA) (av:Sl→Int→Hp→OA) (FA:Sl) (FB:Sl) (FC:Sl) (H39:Hp):OA:=ac.l253 F aD aC av F FA FB FC 0 H39
noncomputable def ac.l125 (F:Nat) (aD:Sl→Int→Hp→OA) (aC:Sl→Int→Hp→OA) (av:Sl→Int→Hp→OA) :Nat→Sl→Sl→Sl→Int→Hp→OA
 | 0,_,_,_,_,_=>none
 | FD + 1,gm,gO,bQ,eA,H26=>(bif (decide (eA < (bQ.n:Int))) then ((Sl.idx bQ eA 1).bind fun p805=>(Hp.st H26 p805.1 p805.2 (.int .i64 (-1))).bind fun H806=>ac.l125 F aD aC av FD gm gO bQ (IntKind.i64.wrap (eA + 1)) H806) else (ac.j30 F aD aC av gm gO bQ H26))
termination_by structural n=>n
noncomputable def ac.twX (F:Nat) (aD:Sl→Int→Hp→OA) (aC:Sl→Int→Hp→OA) (av:Sl→Int→Hp→OA) (aa:Sl) (ab:Int) (H:Hp):OA:=(Hp.new H [(.sl aa),(.int .i64 ab)]).bind fun H3=>(Hp.ldSl H3 H.length 0).bind fun s4=>(Hp.ldI H3 .i64 H.length (0 + 1)).bind fun n5=>(aD s4 n5 H3).bind fun r6=>((r6.1).asSl).bind fun s7=>(Hp.ldSl r6.2 H.length 0).bind fun s8=>(Hp.ldI r6.2 .i64 H.length (0 + 1)).bind fun n9=>(aC s8 n9 r6.2).bind fun r10=>((r10.1).asSl).bind fun s11=>(Hp.ldSl r10.2 H.length 0).bind fun s12=>(Hp.ldI r10.2 .i64 H.length (0 + 1)).bind fun n13=>(av s12 n13 r10.2).bind fun r14=>((r14.1).asSl).bind fun s15=>(Hp.mk r14.2 [.int .i64 0] 8 (s15.n:Int) (s15.n:Int)).bind fun m16=>ac.l125 F aD aC av F s7 s11 m16.1 0 m16.2
noncomputable def ac.tw (F:Nat) (aa:Sl) (ab:Int) (H:Hp):OA:=ac.twX F (ak.tw F) (af.tw F) (ah.tw F) aa ab H
noncomputable def ac.code:Go.Code:=(Try.f68.body).getD .skip
noncomputable def ac.lh125 (F:Nat) (aD:Sl→Int→Hp→OA) (aC:Sl→Int→Hp→OA) (av:Sl→Int→Hp→OA) (ks:List Nat) (n:Nat) (tm:Tm) (H:Hp):OA:=match ks,tm 3,tm 4,tm 5,tm 6 with
 | [],(.sl gm),(.sl gO),(.sl bQ),(.int .i64 eA)=>ac.l125 F aD aC av n gm gO bQ eA H
 | _,_,_,_,_=>none
theorem ac.lh125_inv {F:Nat} {aD:Sl→Int→Hp→OA} {aC:Sl→Int→Hp→OA} {av:Sl→Int→Hp→OA} {ks:List Nat} {n:Nat} {tm:Tm} {H:Hp} {r:AV×Hp} (h:ac.lh125 F aD aC av ks n tm H = some r):∃ gm:Sl,∃ gO:Sl,∃ bQ:Sl,∃ eA:Int,ks = []∧tm 3 = (.sl gm)∧tm 4 = (.sl gO)∧tm 5 = (.sl bQ)∧tm 6 = (.int .i64 eA)∧ac.l125 F aD aC av n gm gO bQ eA H = some r:=by
 unfold ac.lh125 at h
 split at h
 ·exact ⟨_,_,_,_,rfl,by assumption,by assumption,by assumption,by assumption,h⟩
 ·cases h
noncomputable def ac.lh253 (F:Nat) (aD:Sl→Int→Hp→OA) (aC:Sl→Int→Hp→OA) (av:Sl→Int→Hp→OA) (ks:List Nat) (n:Nat) (tm:Tm) (H:Hp):OA:=match ks,tm 3,tm 4,tm 5,tm 7 with
 | [],(.sl fN),(.sl fY),(.sl gl),(.int .i64 cT)=>ac.l253 F aD aC av n fN fY gl cT H
 | _,_,_,_,_=>none
theorem ac.lh253_inv {F:Nat} {aD:Sl→Int→Hp→OA} {aC:Sl→Int→Hp→OA} {av:Sl→Int→Hp→OA} {ks:List Nat} {n:Nat} {tm:Tm} {H:Hp} {r:AV×Hp} (h:ac.lh253 F aD aC av ks n tm H = some r):∃ fN:Sl,∃ fY:Sl,∃ gl:Sl,∃ cT:Int,ks = []∧tm 3 = (.sl fN)∧tm 4 = (.sl fY)∧tm 5 = (.sl gl)∧tm 7 = (.int .i64 cT)∧ac.l253 F aD aC av n fN fY gl cT H = some r:=by
 unfold ac.lh253 at h
 split at h
 ·exact ⟨_,_,_,_,rfl,by assumption,by assumption,by assumption,by assumption,h⟩
 ·cases h
noncomputable def ac.lh509 (F:Nat) (aD:Sl→Int→Hp→OA) (aC:Sl→Int→Hp→OA) (av:Sl→Int→Hp→OA) (ks:List Nat) (n:Nat) (tm:Tm) (H:Hp):OA:=match ks,tm 3,tm 5,tm 9 with
 | [],(.sl hL),(.sl hM),(.bool fE)=>ac.l509 F aD aC av n hL hM fE H
 | _,_,_,_=>none
theorem ac.lh509_inv {F:Nat} {aD:Sl→Int→Hp→OA} {aC:Sl→Int→Hp→OA} {av:Sl→Int→Hp→OA} {ks:List Nat} {n:Nat} {tm:Tm} {H:Hp} {r:AV×Hp} (h:ac.lh509 F aD aC av ks n tm H = some r):∃ hL:Sl,∃ hM:Sl,∃ fE:Bool,ks = []∧tm 3 = (.sl hL)∧tm 5 = (.sl hM)∧tm 9 = (.bool fE)∧ac.l509 F aD aC av n hL hM fE H = some r:=by
 unfold ac.lh509 at h
 split at h
 ·exact ⟨_,_,_,rfl,by assumption,by assumption,by assumption,h⟩
 ·cases h
noncomputable def ac.lh8151 (F:Nat) (aD:Sl→Int→Hp→OA) (aC:Sl→Int→Hp→OA) (av:Sl→Int→Hp→OA) (ks:List Nat) (n:Nat) (tm:Tm) (H:Hp):OA:=match ks,tm 3,tm 5,tm 9,tm 10 with
 | [eL],(.sl dt),(.sl dg),(.bool du),(.int .i64 bZ)=>ac.l8151 F aD aC av (ac.l509 F aD aC av eL) n dt dg du bZ H
 | _,_,_,_,_=>none
theorem ac.lh8151_inv {F:Nat} {aD:Sl→Int→Hp→OA} {aC:Sl→Int→Hp→OA} {av:Sl→Int→Hp→OA} {ks:List Nat} {n:Nat} {tm:Tm} {H:Hp} {r:AV×Hp} (h:ac.lh8151 F aD aC av ks n tm H = some r):∃ eL:Nat,∃ dt:Sl,∃ dg:Sl,∃ du:Bool,∃ bZ:Int,ks = [eL]∧tm 3 = (.sl dt)∧tm 5 = (.sl dg)∧tm 9 = (.bool du)∧tm 10 = (.int .i64 bZ)∧ac.l8151 F aD aC av (ac.l509 F aD aC av eL) n dt dg du bZ H = some r:=by
 unfold ac.lh8151 at h
 split at h
 ·exact ⟨_,_,_,_,_,rfl,by assumption,by assumption,by assumption,by assumption,h⟩
 ·cases h
noncomputable def ac.lh (F:Nat) (aD:Sl→Int→Hp→OA) (aC:Sl→Int→Hp→OA) (av:Sl→Int→Hp→OA) (p:Nat) (ks:List Nat) (n:Nat) (tm:Tm) (H:Hp):OA:=bif p.beq 8151 then ac.lh8151 F aD aC av ks n tm H else (bif p.beq 509 then ac.lh509 F aD aC av ks n tm H else (bif p.beq 253 then ac.lh253 F aD aC av ks n tm H else (bif p.beq 125 then ac.lh125 F aD aC av ks n tm H else (none))))
def ac.pn:Nat→List Nat:=fun i=>(([]:List (Nat×List Nat)).lookup i).getD []
def ac.tb:Nat→List (List Nat):=fun i=>(([]:List (Nat×List (List Nat))).lookup i).getD []
noncomputable def ac.mk (g:Sl→Int→Hp→OA) (args:List AV) (H:Hp):OA:=match args with
 | [(.agg [(.sl aa),(.int .i64 ab)])]=>g aa ab H
 | _=>none
noncomputable def ac.cs (F:Nat) (aD:Sl→Int→Hp→OA) (aC:Sl→Int→Hp→OA) (av:Sl→Int→Hp→OA):List (FuncId×(List AV→Hp→OA)):=[(67,ak.mk aD),(122,af.mk aC),(105,ah.mk av)]
theorem ac.loops (F:Nat) (aD:Sl→Int→Hp→OA) (aC:Sl→Int→Hp→OA) (av:Sl→Int→Hp→OA):LoopsOk tabs (mkOrc (ac.cs F aD aC av)) ac.pn (ac.lh F aD aC av) F [] 1 ac.code (fun tm H=>aresults tabs.ty H tm Try.f68.results.toList fun v=>some (v,H)) (fun _ _ _=>none) (fun tm H=>aresults tabs.ty H tm Try.f68.results.toList fun v=>some (v,H)):=by
 refine LoopsOk.seq ?_ ?_
 ·exact loops_none (by kernel_rfl)
 ·refine LoopsOk.seq ?_ ?_
  ·exact loops_none (by kernel_rfl)
  ·refine LoopsOk.seq ?_ ?_
   ·exact loops_none (by kernel_rfl)
   ·refine LoopsOk.seq ?_ ?_
    ·exact loops_none (by kernel_rfl)
    ·refine LoopsOk.seq ?_ ?_
     ·refine LoopsOk.seq ?_ ?_
      ·exact loops_none (by kernel_rfl)
      ·refine LoopsOk.block ?_
       refine LoopsOk.loop (fun tm H=>?_) (fun k125 tm H r h0=>?_) (fun k125=>?_)
       ·refine none_of fun r h0=>?_
        obtain ⟨gm,gO,bQ,eA,hks,e3,e4,e5,e6,h⟩:=ac.lh125_inv (show ac.lh125 F aD aC av [] 0 tm H = some r from h0)
        cases h
       ·obtain ⟨gm,gO,bQ,eA,hks,e3,e4,e5,e6,h⟩:=ac.lh125_inv (show ac.lh125 F aD aC av [] (k125 + 1) tm H = some r from h0)
        have q0:(Tm.put tm 3 (.sl gm)) = tm:=by exact Tm.put_same e3
        have q1:(Tm.put (Tm.put tm 3 (.sl gm)) 4 (.sl gO)) = tm:=by rw [q0]; exact Tm.put_same e4
        have q2:(Tm.put (Tm.put (Tm.put tm 3 (.sl gm)) 4 (.sl gO)) 5 (.sl bQ)) = tm:=by rw [q1]; exact Tm.put_same e5
        have q3:(Tm.put (Tm.put (Tm.put (Tm.put tm 3 (.sl gm)) 4 (.sl gO)) 5 (.sl bQ)) 6 (.int .i64 eA)) = tm:=by rw [q2]; exact Tm.put_same e6
        rw [← q3]
        exact Eq.trans (by kernel_rfl) h
       ·exact loops_none (by kernel_rfl)
     ·refine LoopsOk.seq ?_ ?_
      ·refine LoopsOk.seq ?_ ?_
       ·exact loops_none (by kernel_rfl)
       ·refine LoopsOk.block ?_
        refine LoopsOk.loop (fun tm H=>?_) (fun k253 tm H r h0=>?_) (fun k253=>?_)
        ·refine none_of fun r h0=>?_
         obtain ⟨fN,fY,gl,cT,hks,e3,e4,e5,e7,h⟩:=ac.lh253_inv (show ac.lh253 F aD aC av [] 0 tm H = some r from h0)
         cases h
        ·obtain ⟨fN,fY,gl,cT,hks,e3,e4,e5,e7,h⟩:=ac.lh253_inv (show ac.lh253 F aD aC av [] (k253 + 1) tm H = some r from h0)
         have q0:(Tm.put tm 3 (.sl fN)) = tm:=by exact Tm.put_same e3
         have q1:(Tm.put (Tm.put tm 3 (.sl fN)) 4 (.sl fY)) = tm:=by rw [q0]; exact Tm.put_same e4
         have q2:(Tm.put (Tm.put (Tm.put tm 3 (.sl fN)) 4 (.sl fY)) 5 (.sl gl)) = tm:=by rw [q1]; exact Tm.put_same e5
         have q3:(Tm.put (Tm.put (Tm.put (Tm.put tm 3 (.sl fN)) 4 (.sl fY)) 5 (.sl gl)) 7 (.int .i64 cT)) = tm:=by rw [q2]; exact Tm.put_same e7
         rw [← q3]
         exact Eq.trans (by kernel_rfl) h
        ·exact loops_none (by kernel_rfl)
      ·refine LoopsOk.seq ?_ ?_
       ·refine LoopsOk.seq ?_ ?_
        ·exact loops_none (by kernel_rfl)
        ·refine LoopsOk.block ?_
         refine LoopsOk.loop (fun tm H=>?_) (fun k509 tm H r h0=>?_) (fun k509=>?_)
         ·refine none_of fun r h0=>?_
          obtain ⟨hL,hM,fE,hks,e3,e5,e9,h⟩:=ac.lh509_inv (show ac.lh509 F aD aC av [] 0 tm H = some r from h0)
          cases h
         ·obtain ⟨hL,hM,fE,hks,e3,e5,e9,h⟩:=ac.lh509_inv (show ac.lh509 F aD aC av [] (k509 + 1) tm H = some r from h0)
          have q0:(Tm.put tm 3 (.sl hL)) = tm:=by exact Tm.put_same e3
          have q1:(Tm.put (Tm.put tm 3 (.sl hL)) 5 (.sl hM)) = tm:=by rw [q0]; exact Tm.put_same e5
          have q2:(Tm.put (Tm.put (Tm.put tm 3 (.sl hL)) 5 (.sl hM)) 9 (.bool fE)) = tm:=by rw [q1]; exact Tm.put_same e9
          rw [← q2]
          exact Eq.trans (by kernel_rfl) h
         ·refine LoopsOk.seq ?_ ?_
          ·exact loops_none (by kernel_rfl)
          ·refine LoopsOk.block ?_
           refine LoopsOk.seq ?_ ?_
           ·exact loops_none (by kernel_rfl)
           ·refine LoopsOk.seq ?_ ?_
            ·exact loops_none (by kernel_rfl)
            ·refine LoopsOk.block ?_
             refine LoopsOk.loop (fun tm H=>?_) (fun k8151 tm H r h0=>?_) (fun k8151=>?_)
             ·refine none_of fun r h0=>?_
              obtain ⟨eL,dt,dg,du,bZ,hks,e3,e5,e9,e10,h⟩:=ac.lh8151_inv (show ac.lh8151 F aD aC av [k509] 0 tm H = some r from h0)
              cases h
             ·obtain ⟨eL,dt,dg,du,bZ,hks,e3,e5,e9,e10,h⟩:=ac.lh8151_inv (show ac.lh8151 F aD aC av [k509] (k8151 + 1) tm H = some r from h0)
              obtain rfl:eL = k509:=by simpa [eq_comm] using hks
              have q0:(Tm.put tm 3 (.sl dt)) = tm:=by exact Tm.put_same e3
              have q1:(Tm.put (Tm.put tm 3 (.sl dt)) 5 (.sl dg)) = tm:=by rw [q0]; exact Tm.put_same e5
              have q2:(Tm.put (Tm.put (Tm.put tm 3 (.sl dt)) 5 (.sl dg)) 9 (.bool du)) = tm:=by rw [q1]; exact Tm.put_same e9
              have q3:(Tm.put (Tm.put (Tm.put (Tm.put tm 3 (.sl dt)) 5 (.sl dg)) 9 (.bool du)) 10 (.int .i64 bZ)) = tm:=by rw [q2]; exact Tm.put_same e10
              rw [← q3]
              exact Eq.trans (by kernel_rfl) h
             ·exact loops_none (by kernel_rfl)
       ·exact loops_none (by kernel_rfl)
theorem ac.eqX (F:Nat) (aD:Sl→Int→Hp→OA) (aC:Sl→Int→Hp→OA) (av:Sl→Int→Hp→OA) (aa:Sl) (ab:Int) (H:Hp):aCode tabs (mkOrc (ac.cs F aD aC av)) ac.pn (ac.lh F aD aC av) F [] 1 ac.code (argTm [(.agg [(.sl aa),(.int .i64 ab)])]) H (fun tm H=>aresults tabs.ty H tm Try.f68.results.toList fun v=>some (v,H)) (fun _ _ _=>none) (fun tm H=>aresults tabs.ty H tm Try.f68.results.toList fun v=>some (v,H)) = ac.twX F aD aC av aa ab H:=by kernel_rfl
theorem ac.cs_ok (F:Nat):∀ p ∈ ac.cs F (ak.tw F) (af.tw F) (ah.tw F),∀ args H v H',p.2 args H = some (v,H')→Go.AE.T Try.prog p.1 args H v H':=by
 intro p hp
 simp only [ac.cs,List.mem_cons,List.not_mem_nil,or_false] at hp
 rcases hp with rfl | rfl | rfl
 ·exact fun args H v H' h=>ak.mk_T h
 ·exact fun args H v H' h=>af.mk_T h
 ·exact fun args H v H' h=>ah.mk_T h
theorem ac.ok:codeOk ac.pn Try.f68.ntmps ac.tb ac.code = true:=by kernel_rfl
theorem ac.T {F:Nat} {aa:Sl} {ab:Int} {H:Hp} {v:AV} {H':Hp} (h:ac.tw F aa ab H = some (v,H')):Go.AE.T Try.prog 68 [(.agg [(.sl aa),(.int .i64 ab)])] H v H':=
 Go.AE.T.of (Y:=tabs) (C:=mkOrc (ac.cs F (ak.tw F) (af.tw F) (ah.tw F))) (PN:=ac.pn) (LH:=ac.lh F (ak.tw F) (af.tw F) (ah.tw F)) (F:=F) (TB:=ac.tb) (fn:=Try.f68) (code:=ac.code) mixed tabs_ok (mkOrc_ok (ac.cs_ok F)) Try.func68 (by kernel_rfl) (by kernel_rfl) ac.ok (Nat.le_of_ble_eq_true (by kernel_rfl)) (ac.loops F (ak.tw F) (af.tw F) (ah.tw F)) (Eq.trans (ac.eqX F (ak.tw F) (af.tw F) (ah.tw F) aa ab H) h)
theorem ac.mk_T {F:Nat} {args:List AV} {H:Hp} {v:AV} {H':Hp} (h:ac.mk (ac.tw F) args H = some (v,H')):Go.AE.T Try.prog 68 args H v H':=by
 unfold ac.mk at h
 split at h
 ·exact ac.T h
 ·cases h
noncomputable def bu.twX (F:Nat) (aa:Sl) (ai:Sl) (bk:Int) (ft:Int) (H:Hp):OA:=(Sl.idx aa (IntKind.i64.wrap ((IntKind.i64.wrap (4 * bk)) + 1)) 1).bind fun p5=>(Hp.ldI H .i64 p5.1 p5.2).bind fun n6=>(Sl.idx ai n6 1).bind fun p7=>(Hp.ldI H .i64 p7.1 p7.2).bind fun n8=>(bif (n8 == ft) then (some ((.int .i64 1),H)) else (some ((.int .i64 (-1)),H)))
noncomputable def bu.tw (F:Nat) (aa:Sl) (ai:Sl) (bk:Int) (ft:Int) (H:Hp):OA:=bu.twX F aa ai bk ft H
noncomputable def bu.code:Go.Code:=(Try.f66.body).getD .skip
noncomputable def bu.lh (F:Nat) (p:Nat) (ks:List Nat) (n:Nat) (tm:Tm) (H:Hp):OA:=none
def bu.pn:Nat→List Nat:=fun i=>(([]:List (Nat×List Nat)).lookup i).getD []
def bu.tb:Nat→List (List Nat):=fun i=>(([]:List (Nat×List (List Nat))).lookup i).getD []
noncomputable def bu.mk (g:Sl→Sl→Int→Int→Hp→OA) (args:List AV) (H:Hp):OA:=match args with
 | [(.sl aa),(.sl ai),(.int .i64 bk),(.int .i64 ft)]=>g aa ai bk ft H
 | _=>none
noncomputable def bu.cs (F:Nat):List (FuncId×(List AV→Hp→OA)):=[]
theorem bu.loops (F:Nat):LoopsOk tabs (mkOrc (bu.cs F)) bu.pn (bu.lh F) F [] 1 bu.code (fun tm H=>aresults tabs.ty H tm Try.f66.results.toList fun v=>some (v,H)) (fun _ _ _=>none) (fun tm H=>aresults tabs.ty H tm Try.f66.results.toList fun v=>some (v,H)):=by
 exact loops_none (by kernel_rfl)
theorem bu.eqX (F:Nat) (aa:Sl) (ai:Sl) (bk:Int) (ft:Int) (H:Hp):aCode tabs (mkOrc (bu.cs F)) bu.pn (bu.lh F) F [] 1 bu.code (argTm [(.sl aa),(.sl ai),(.int .i64 bk),(.int .i64 ft)]) H (fun tm H=>aresults tabs.ty H tm Try.f66.results.toList fun v=>some (v,H)) (fun _ _ _=>none) (fun tm H=>aresults tabs.ty H tm Try.f66.results.toList fun v=>some (v,H)) = bu.twX F aa ai bk ft H:=by kernel_rfl
theorem bu.cs_ok (F:Nat):∀ p ∈ bu.cs F,∀ args H v H',p.2 args H = some (v,H')→Go.AE.T Try.prog p.1 args H v H':=by
 intro p hp
 exact absurd (show p ∈ [] from hp) List.not_mem_nil
theorem bu.ok:codeOk bu.pn Try.f66.ntmps bu.tb bu.code = true:=by kernel_rfl
theorem bu.T {F:Nat} {aa:Sl} {ai:Sl} {bk:Int} {ft:Int} {H:Hp} {v:AV} {H':Hp} (h:bu.tw F aa ai bk ft H = some (v,H')):Go.AE.T Try.prog 66 [(.sl aa),(.sl ai),(.int .i64 bk),(.int .i64 ft)] H v H':=
 Go.AE.T.of (Y:=tabs) (C:=mkOrc (bu.cs F)) (PN:=bu.pn) (LH:=bu.lh F) (F:=F) (TB:=bu.tb) (fn:=Try.f66) (code:=bu.code) mixed tabs_ok (mkOrc_ok (bu.cs_ok F)) Try.func66 (by kernel_rfl) (by kernel_rfl) bu.ok (Nat.le_of_ble_eq_true (by kernel_rfl)) (bu.loops F) (Eq.trans (bu.eqX F aa ai bk ft H) h)
theorem bu.mk_T {F:Nat} {args:List AV} {H:Hp} {v:AV} {H':Hp} (h:bu.mk (bu.tw F) args H = some (v,H')):Go.AE.T Try.prog 66 args H v H':=by
 unfold bu.mk at h
 split at h
 ·exact bu.T h
 ·cases h
noncomputable def aH.j2 (F:Nat) (aD:Sl→Int→Hp→OA) (cU:Sl→Int→Hp→OA) (cV:Sl→Sl→Int→Int→Hp→OA) (C61_:Int→Nat→Nat→Sl→Sl→Int→Int→Hp→OA) (kW:Int) (pN:Nat) (FE:Nat) (FF:Sl) (FG:Sl) (kX:Int) (kY:Int) (H63:Hp):OA:=C61_ kW pN FE FF FG kX (IntKind.i64.wrap (kY + 1)) H63
noncomputable def aH.l61 (F:Nat) (aD:Sl→Int→Hp→OA) (cU:Sl→Int→Hp→OA) (cV:Sl→Sl→Int→Int→Hp→OA) :Nat→Int→Nat→Nat→Sl→Sl→Int→Int→Hp→OA
 | 0,_,_,_,_,_,_,_,_=>none
 | bm + 1,da,ej,fF,fZ,gn,ek,dh,H23=>(Hp.ldSl H23 ej fF).bind fun s44=>(bif (decide (dh < (s44.n:Int))) then ((cV fZ gn dh da H23).bind fun r45=>((r45.1).asI .i64).bind fun n46=>(Hp.ldSl r45.2 ej fF).bind fun s47=>(Sl.idx s47 dh 5).bind fun p48=>(Hp.ldI r45.2 .i64 p48.1 (p48.2 + 4)).bind fun n49=>(bif (n46 == n49) then (aH.j2 F aD cU cV (aH.l61 F aD cU cV bm) da ej fF fZ gn (IntKind.i64.wrap (ek + n46)) dh r45.2) else (aH.j2 F aD cU cV (aH.l61 F aD cU cV bm) da ej fF fZ gn ek dh r45.2))) else (some ((.int .i64 ek),H23)))
termination_by structural n=>n
noncomputable def aH.twX (F:Nat) (aD:Sl→Int→Hp→OA) (cU:Sl→Int→Hp→OA) (cV:Sl→Sl→Int→Int→Hp→OA) (aa:Sl) (ab:Int) (ae:Int) (H:Hp):OA:=(Hp.new H [(.sl aa),(.int .i64 ab)]).bind fun H4=>(Hp.ldSl H4 H.length 0).bind fun s5=>(Hp.ldI H4 .i64 H.length (0 + 1)).bind fun n6=>(aD s5 n6 H4).bind fun r7=>((r7.1).asSl).bind fun s8=>(if Cons H4 r7.2 then ((Hp.ldSl r7.2 H.length 0).bind fun s9=>(Hp.ldI r7.2 .i64 H.length (0 + 1)).bind fun n10=>(cU s9 n10 r7.2).bind fun r11=>((r11.1).asSl).bind fun s12=>aH.l61 F aD cU cV F ae H.length 0 s8 s12 0 0 r11.2) else none)
noncomputable def aH.tw (F:Nat) (aa:Sl) (ab:Int) (ae:Int) (H:Hp):OA:=aH.twX F (ak.tw F) (ac.tw F) (bu.tw F) aa ab ae H
noncomputable def aH.code:Go.Code:=(Try.f74.body).getD .skip
noncomputable def aH.lh61 (F:Nat) (aD:Sl→Int→Hp→OA) (cU:Sl→Int→Hp→OA) (cV:Sl→Sl→Int→Int→Hp→OA) (ks:List Nat) (n:Nat) (tm:Tm) (H:Hp):OA:=match ks,tm 1,tm 2,tm 5,tm 6,tm 7,tm 8 with
 | [],(.int .i64 da),(.ptr ej fF),(.sl fZ),(.sl gn),(.int .i64 ek),(.int .i64 dh)=>aH.l61 F aD cU cV n da ej fF fZ gn ek dh H
 | _,_,_,_,_,_,_=>none
theorem aH.lh61_inv {F:Nat} {aD:Sl→Int→Hp→OA} {cU:Sl→Int→Hp→OA} {cV:Sl→Sl→Int→Int→Hp→OA} {ks:List Nat} {n:Nat} {tm:Tm} {H:Hp} {r:AV×Hp} (h:aH.lh61 F aD cU cV ks n tm H = some r):∃ da:Int,∃ ej:Nat,∃ fF:Nat,∃ fZ:Sl,∃ gn:Sl,∃ ek:Int,∃ dh:Int,ks = []∧tm 1 = (.int .i64 da)∧tm 2 = (.ptr ej fF)∧tm 5 = (.sl fZ)∧tm 6 = (.sl gn)∧tm 7 = (.int .i64 ek)∧tm 8 = (.int .i64 dh)∧aH.l61 F aD cU cV n da ej fF fZ gn ek dh H = some r:=by
 unfold aH.lh61 at h
 split at h
 ·exact ⟨_,_,_,_,_,_,_,rfl,by assumption,by assumption,by assumption,by assumption,by assumption,by assumption,h⟩
 ·cases h
noncomputable def aH.lh (F:Nat) (aD:Sl→Int→Hp→OA) (cU:Sl→Int→Hp→OA) (cV:Sl→Sl→Int→Int→Hp→OA) (p:Nat) (ks:List Nat) (n:Nat) (tm:Tm) (H:Hp):OA:=bif p.beq 61 then aH.lh61 F aD cU cV ks n tm H else (none)
def aH.pn:Nat→List Nat:=fun i=>(([(1,[3])]:List (Nat×List Nat)).lookup i).getD []
def aH.tb:Nat→List (List Nat):=fun i=>(([(1,[[],[0],[],[0,1,2],[0,1,2,3],[0,1,2,3,4]])]:List (Nat×List (List Nat))).lookup i).getD []
noncomputable def aH.mk (g:Sl→Int→Int→Hp→OA) (args:List AV) (H:Hp):OA:=match args with
 | [(.agg [(.sl aa),(.int .i64 ab)]),(.int .i64 ae)]=>g aa ab ae H
 | _=>none
noncomputable def aH.cs (F:Nat) (aD:Sl→Int→Hp→OA) (cU:Sl→Int→Hp→OA) (cV:Sl→Sl→Int→Int→Hp→OA):List (FuncId×(List AV→Hp→OA)):=[(67,ak.mk aD),(68,ac.mk cU),(66,bu.mk cV)]
theorem aH.loops (F:Nat) (aD:Sl→Int→Hp→OA) (cU:Sl→Int→Hp→OA) (cV:Sl→Sl→Int→Int→Hp→OA):LoopsOk tabs (mkOrc (aH.cs F aD cU cV)) aH.pn (aH.lh F aD cU cV) F [] 1 aH.code (fun tm H=>aresults tabs.ty H tm Try.f74.results.toList fun v=>some (v,H)) (fun _ _ _=>none) (fun tm H=>aresults tabs.ty H tm Try.f74.results.toList fun v=>some (v,H)):=by
 refine LoopsOk.seq ?_ ?_
 ·exact loops_none (by kernel_rfl)
 ·refine LoopsOk.seq ?_ ?_
  ·exact loops_none (by kernel_rfl)
  ·refine LoopsOk.seq ?_ ?_
   ·exact loops_none (by kernel_rfl)
   ·refine LoopsOk.seq ?_ ?_
    ·refine LoopsOk.seq ?_ ?_
     ·exact loops_none (by kernel_rfl)
     ·refine LoopsOk.block ?_
      refine LoopsOk.loop (fun tm H=>?_) (fun k61 tm H r h0=>?_) (fun k61=>?_)
      ·refine none_of fun r h0=>?_
       obtain ⟨da,ej,fF,fZ,gn,ek,dh,hks,e1,e2,e5,e6,e7,e8,h⟩:=aH.lh61_inv (show aH.lh61 F aD cU cV [] 0 tm H = some r from h0)
       cases h
      ·obtain ⟨da,ej,fF,fZ,gn,ek,dh,hks,e1,e2,e5,e6,e7,e8,h⟩:=aH.lh61_inv (show aH.lh61 F aD cU cV [] (k61 + 1) tm H = some r from h0)
       have q0:(Tm.put tm 1 (.int .i64 da)) = tm:=by exact Tm.put_same e1
       have q1:(Tm.put (Tm.put tm 1 (.int .i64 da)) 2 (.ptr ej fF)) = tm:=by rw [q0]; exact Tm.put_same e2
       have q2:(Tm.put (Tm.put (Tm.put tm 1 (.int .i64 da)) 2 (.ptr ej fF)) 5 (.sl fZ)) = tm:=by rw [q1]; exact Tm.put_same e5
       have q3:(Tm.put (Tm.put (Tm.put (Tm.put tm 1 (.int .i64 da)) 2 (.ptr ej fF)) 5 (.sl fZ)) 6 (.sl gn)) = tm:=by rw [q2]; exact Tm.put_same e6
       have q4:(Tm.put (Tm.put (Tm.put (Tm.put (Tm.put tm 1 (.int .i64 da)) 2 (.ptr ej fF)) 5 (.sl fZ)) 6 (.sl gn)) 7 (.int .i64 ek)) = tm:=by rw [q3]; exact Tm.put_same e7
       have q5:(Tm.put (Tm.put (Tm.put (Tm.put (Tm.put (Tm.put tm 1 (.int .i64 da)) 2 (.ptr ej fF)) 5 (.sl fZ)) 6 (.sl gn)) 7 (.int .i64 ek)) 8 (.int .i64 dh)) = tm:=by rw [q4]; exact Tm.put_same e8
       rw [← q5]
       exact Eq.trans (by kernel_rfl) h
      ·exact loops_none (by kernel_rfl)
    ·exact loops_none (by kernel_rfl)
theorem aH.eqX (F:Nat) (aD:Sl→Int→Hp→OA) (cU:Sl→Int→Hp→OA) (cV:Sl→Sl→Int→Int→Hp→OA) (aa:Sl) (ab:Int) (ae:Int) (H:Hp):aCode tabs (mkOrc (aH.cs F aD cU cV)) aH.pn (aH.lh F aD cU cV) F [] 1 aH.code (argTm [(.agg [(.sl aa),(.int .i64 ab)]),(.int .i64 ae)]) H (fun tm H=>aresults tabs.ty H tm Try.f74.results.toList fun v=>some (v,H)) (fun _ _ _=>none) (fun tm H=>aresults tabs.ty H tm Try.f74.results.toList fun v=>some (v,H)) = aH.twX F aD cU cV aa ab ae H:=by kernel_rfl
theorem aH.cs_ok (F:Nat):∀ p ∈ aH.cs F (ak.tw F) (ac.tw F) (bu.tw F),∀ args H v H',p.2 args H = some (v,H')→Go.AE.T Try.prog p.1 args H v H':=by
 intro p hp
 simp only [aH.cs,List.mem_cons,List.not_mem_nil,or_false] at hp
 rcases hp with rfl | rfl | rfl
 ·exact fun args H v H' h=>ak.mk_T h
 ·exact fun args H v H' h=>ac.mk_T h
 ·exact fun args H v H' h=>bu.mk_T h
theorem aH.ok:codeOk aH.pn Try.f74.ntmps aH.tb aH.code = true:=by kernel_rfl
theorem aH.T {F:Nat} {aa:Sl} {ab:Int} {ae:Int} {H:Hp} {v:AV} {H':Hp} (h:aH.tw F aa ab ae H = some (v,H')):Go.AE.T Try.prog 74 [(.agg [(.sl aa),(.int .i64 ab)]),(.int .i64 ae)] H v H':=
 Go.AE.T.of (Y:=tabs) (C:=mkOrc (aH.cs F (ak.tw F) (ac.tw F) (bu.tw F))) (PN:=aH.pn) (LH:=aH.lh F (ak.tw F) (ac.tw F) (bu.tw F)) (F:=F) (TB:=aH.tb) (fn:=Try.f74) (code:=aH.code) mixed tabs_ok (mkOrc_ok (aH.cs_ok F)) Try.func74 (by kernel_rfl) (by kernel_rfl) aH.ok (Nat.le_of_ble_eq_true (by kernel_rfl)) (aH.loops F (ak.tw F) (ac.tw F) (bu.tw F)) (Eq.trans (aH.eqX F (ak.tw F) (ac.tw F) (bu.tw F) aa ab ae H) h)
theorem aH.mk_T {F:Nat} {args:List AV} {H:Hp} {v:AV} {H':Hp} (h:aH.mk (aH.tw F) args H = some (v,H')):Go.AE.T Try.prog 74 args H v H':=by
 unfold aH.mk at h
 split at h
 ·exact aH.T h
 ·cases h
noncomputable def bw.twX (F:Nat) (hO:Sl→Int→Hp→OA) (bD:Int→Int→Int→Hp→OA) (hP:Sl→Int→Int→Hp→OA) (aa:Sl) (ab:Int) (ae:Int) (H:Hp):OA:=(Hp.new H [(.sl aa),(.int .i64 ab)]).bind fun H4=>(Hp.ldSl H4 H.length 0).bind fun s5=>(Hp.ldI H4 .i64 H.length (0 + 1)).bind fun n6=>(hO s5 n6 H4).bind fun r7=>((r7.1).asB).bind fun b8=>(bif (!b8) then (some ((.tup [(.int .i64 0),(.int .i64 1)]),r7.2)) else ((bD ae 0 1 r7.2).bind fun r9=>((r9.1).asB).bind fun b10=>(bif (!b10) then (some ((.tup [(.int .i64 0),(.int .i64 2)]),r9.2)) else ((Hp.ldSl r9.2 H.length 0).bind fun s11=>(Hp.ldI r9.2 .i64 H.length (0 + 1)).bind fun n12=>(hP s11 n12 ae r9.2).bind fun r13=>((r13.1).asI .i64).bind fun n14=>some ((.tup [(.int .i64 n14),(.int .i64 0)]),r13.2)))))
noncomputable def bw.tw (F:Nat) (aa:Sl) (ab:Int) (ae:Int) (H:Hp):OA:=bw.twX F (bv.tw F) (aZ.tw F) (aH.tw F) aa ab ae H
noncomputable def bw.code:Go.Code:=(Try.f28.body).getD .skip
noncomputable def bw.lh (F:Nat) (hO:Sl→Int→Hp→OA) (bD:Int→Int→Int→Hp→OA) (hP:Sl→Int→Int→Hp→OA) (p:Nat) (ks:List Nat) (n:Nat) (tm:Tm) (H:Hp):OA:=none
def bw.pn:Nat→List Nat:=fun i=>(([]:List (Nat×List Nat)).lookup i).getD []
def bw.tb:Nat→List (List Nat):=fun i=>(([]:List (Nat×List (List Nat))).lookup i).getD []
noncomputable def bw.mk (g:Sl→Int→Int→Hp→OA) (args:List AV) (H:Hp):OA:=match args with
 | [(.agg [(.sl aa),(.int .i64 ab)]),(.int .i64 ae)]=>g aa ab ae H
 | _=>none
noncomputable def bw.cs (F:Nat) (hO:Sl→Int→Hp→OA) (bD:Int→Int→Int→Hp→OA) (hP:Sl→Int→Int→Hp→OA):List (FuncId×(List AV→Hp→OA)):=[(50,bv.mk hO),(65,aZ.mk bD),(74,aH.mk hP)]
theorem bw.loops (F:Nat) (hO:Sl→Int→Hp→OA) (bD:Int→Int→Int→Hp→OA) (hP:Sl→Int→Int→Hp→OA):LoopsOk tabs (mkOrc (bw.cs F hO bD hP)) bw.pn (bw.lh F hO bD hP) F [] 1 bw.code (fun tm H=>aresults tabs.ty H tm Try.f28.results.toList fun v=>some (v,H)) (fun _ _ _=>none) (fun tm H=>aresults tabs.ty H tm Try.f28.results.toList fun v=>some (v,H)):=by
 exact loops_none (by kernel_rfl)
theorem bw.eqX (F:Nat) (hO:Sl→Int→Hp→OA) (bD:Int→Int→Int→Hp→OA) (hP:Sl→Int→Int→Hp→OA) (aa:Sl) (ab:Int) (ae:Int) (H:Hp):aCode tabs (mkOrc (bw.cs F hO bD hP)) bw.pn (bw.lh F hO bD hP) F [] 1 bw.code (argTm [(.agg [(.sl aa),(.int .i64 ab)]),(.int .i64 ae)]) H (fun tm H=>aresults tabs.ty H tm Try.f28.results.toList fun v=>some (v,H)) (fun _ _ _=>none) (fun tm H=>aresults tabs.ty H tm Try.f28.results.toList fun v=>some (v,H)) = bw.twX F hO bD hP aa ab ae H:=by kernel_rfl
theorem bw.cs_ok (F:Nat):∀ p ∈ bw.cs F (bv.tw F) (aZ.tw F) (aH.tw F),∀ args H v H',p.2 args H = some (v,H')→Go.AE.T Try.prog p.1 args H v H':=by
 intro p hp
 simp only [bw.cs,List.mem_cons,List.not_mem_nil,or_false] at hp
 rcases hp with rfl | rfl | rfl
 ·exact fun args H v H' h=>bv.mk_T h
 ·exact fun args H v H' h=>aZ.mk_T h
 ·exact fun args H v H' h=>aH.mk_T h
theorem bw.ok:codeOk bw.pn Try.f28.ntmps bw.tb bw.code = true:=by kernel_rfl
theorem bw.T {F:Nat} {aa:Sl} {ab:Int} {ae:Int} {H:Hp} {v:AV} {H':Hp} (h:bw.tw F aa ab ae H = some (v,H')):Go.AE.T Try.prog 28 [(.agg [(.sl aa),(.int .i64 ab)]),(.int .i64 ae)] H v H':=
 Go.AE.T.of (Y:=tabs) (C:=mkOrc (bw.cs F (bv.tw F) (aZ.tw F) (aH.tw F))) (PN:=bw.pn) (LH:=bw.lh F (bv.tw F) (aZ.tw F) (aH.tw F)) (F:=F) (TB:=bw.tb) (fn:=Try.f28) (code:=bw.code) mixed tabs_ok (mkOrc_ok (bw.cs_ok F)) Try.func28 (by kernel_rfl) (by kernel_rfl) bw.ok (Nat.le_of_ble_eq_true (by kernel_rfl)) (bw.loops F (bv.tw F) (aZ.tw F) (aH.tw F)) (Eq.trans (bw.eqX F (bv.tw F) (aZ.tw F) (aH.tw F) aa ab ae H) h)
theorem bw.mk_T {F:Nat} {args:List AV} {H:Hp} {v:AV} {H':Hp} (h:bw.mk (bw.tw F) args H = some (v,H')):Go.AE.T Try.prog 28 args H v H':=by
 unfold bw.mk at h
 split at h
 ·exact bw.T h
 ·cases h
noncomputable def bd.twX (F:Nat) (aa:Sl) (H:Hp):OA:=some ((.int .i64 (aa.n:Int)),H)
noncomputable def bd.tw (F:Nat) (aa:Sl) (H:Hp):OA:=bd.twX F aa H
noncomputable def bd.code:Go.Code:=(Try.f117.body).getD .skip
noncomputable def bd.lh (F:Nat) (p:Nat) (ks:List Nat) (n:Nat) (tm:Tm) (H:Hp):OA:=none
def bd.pn:Nat→List Nat:=fun i=>(([]:List (Nat×List Nat)).lookup i).getD []
def bd.tb:Nat→List (List Nat):=fun i=>(([]:List (Nat×List (List Nat))).lookup i).getD []
noncomputable def bd.mk (g:Sl→Hp→OA) (args:List AV) (H:Hp):OA:=match args with
 | [(.sl aa)]=>g aa H
 | _=>none
noncomputable def bd.cs (F:Nat):List (FuncId×(List AV→Hp→OA)):=[]
theorem bd.loops (F:Nat):LoopsOk tabs (mkOrc (bd.cs F)) bd.pn (bd.lh F) F [] 1 bd.code (fun tm H=>aresults tabs.ty H tm Try.f117.results.toList fun v=>some (v,H)) (fun _ _ _=>none) (fun tm H=>aresults tabs.ty H tm Try.f117.results.toList fun v=>some (v,H)):=by
 exact loops_none (by kernel_rfl)
theorem bd.eqX (F:Nat) (aa:Sl) (H:Hp):aCode tabs (mkOrc (bd.cs F)) bd.pn (bd.lh F) F [] 1 bd.code (argTm [(.sl aa)]) H (fun tm H=>aresults tabs.ty H tm Try.f117.results.toList fun v=>some (v,H)) (fun _ _ _=>none) (fun tm H=>aresults tabs.ty H tm Try.f117.results.toList fun v=>some (v,H)) = bd.twX F aa H:=by kernel_rfl
theorem bd.cs_ok (F:Nat):∀ p ∈ bd.cs F,∀ args H v H',p.2 args H = some (v,H')→Go.AE.T Try.prog p.1 args H v H':=by
 intro p hp
 exact absurd (show p ∈ [] from hp) List.not_mem_nil
theorem bd.ok:codeOk bd.pn Try.f117.ntmps bd.tb bd.code = true:=by kernel_rfl
theorem bd.T {F:Nat} {aa:Sl} {H:Hp} {v:AV} {H':Hp} (h:bd.tw F aa H = some (v,H')):Go.AE.T Try.prog 117 [(.sl aa)] H v H':=
 Go.AE.T.of (Y:=tabs) (C:=mkOrc (bd.cs F)) (PN:=bd.pn) (LH:=bd.lh F) (F:=F) (TB:=bd.tb) (fn:=Try.f117) (code:=bd.code) mixed tabs_ok (mkOrc_ok (bd.cs_ok F)) Try.func117 (by kernel_rfl) (by kernel_rfl) bd.ok (Nat.le_of_ble_eq_true (by kernel_rfl)) (bd.loops F) (Eq.trans (bd.eqX F aa H) h)
theorem bd.mk_T {F:Nat} {args:List AV} {H:Hp} {v:AV} {H':Hp} (h:bd.mk (bd.tw F) args H = some (v,H')):Go.AE.T Try.prog 117 args H v H':=by
 unfold bd.mk at h
 split at h
 ·exact bd.T h
 ·cases h
noncomputable def bh.twX (F:Nat) (aa:Int) (ai:Int) (bk:Int) (H:Hp):OA:=(bif (decide (ai ≤ aa)) then (some ((.bool (decide (aa ≤ bk))),H)) else (some ((.bool false),H)))
noncomputable def bh.tw (F:Nat) (aa:Int) (ai:Int) (bk:Int) (H:Hp):OA:=bh.twX F aa ai bk H
noncomputable def bh.code:Go.Code:=(Try.f81.body).getD .skip
noncomputable def bh.lh (F:Nat) (p:Nat) (ks:List Nat) (n:Nat) (tm:Tm) (H:Hp):OA:=none
def bh.pn:Nat→List Nat:=fun i=>(([]:List (Nat×List Nat)).lookup i).getD []
def bh.tb:Nat→List (List Nat):=fun i=>(([]:List (Nat×List (List Nat))).lookup i).getD []
noncomputable def bh.mk (g:Int→Int→Int→Hp→OA) (args:List AV) (H:Hp):OA:=match args with
 | [(.int .i64 aa),(.int .i64 ai),(.int .i64 bk)]=>g aa ai bk H
 | _=>none
noncomputable def bh.cs (F:Nat):List (FuncId×(List AV→Hp→OA)):=[]
theorem bh.loops (F:Nat):LoopsOk tabs (mkOrc (bh.cs F)) bh.pn (bh.lh F) F [] 1 bh.code (fun tm H=>aresults tabs.ty H tm Try.f81.results.toList fun v=>some (v,H)) (fun _ _ _=>none) (fun tm H=>aresults tabs.ty H tm Try.f81.results.toList fun v=>some (v,H)):=by
 exact loops_none (by kernel_rfl)
theorem bh.eqX (F:Nat) (aa:Int) (ai:Int) (bk:Int) (H:Hp):aCode tabs (mkOrc (bh.cs F)) bh.pn (bh.lh F) F [] 1 bh.code (argTm [(.int .i64 aa),(.int .i64 ai),(.int .i64 bk)]) H (fun tm H=>aresults tabs.ty H tm Try.f81.results.toList fun v=>some (v,H)) (fun _ _ _=>none) (fun tm H=>aresults tabs.ty H tm Try.f81.results.toList fun v=>some (v,H)) = bh.twX F aa ai bk H:=by kernel_rfl
theorem bh.cs_ok (F:Nat):∀ p ∈ bh.cs F,∀ args H v H',p.2 args H = some (v,H')→Go.AE.T Try.prog p.1 args H v H':=by
 intro p hp
 exact absurd (show p ∈ [] from hp) List.not_mem_nil
theorem bh.ok:codeOk bh.pn Try.f81.ntmps bh.tb bh.code = true:=by kernel_rfl
theorem bh.T {F:Nat} {aa:Int} {ai:Int} {bk:Int} {H:Hp} {v:AV} {H':Hp} (h:bh.tw F aa ai bk H = some (v,H')):Go.AE.T Try.prog 81 [(.int .i64 aa),(.int .i64 ai),(.int .i64 bk)] H v H':=
 Go.AE.T.of (Y:=tabs) (C:=mkOrc (bh.cs F)) (PN:=bh.pn) (LH:=bh.lh F) (F:=F) (TB:=bh.tb) (fn:=Try.f81) (code:=bh.code) mixed tabs_ok (mkOrc_ok (bh.cs_ok F)) Try.func81 (by kernel_rfl) (by kernel_rfl) bh.ok (Nat.le_of_ble_eq_true (by kernel_rfl)) (bh.loops F) (Eq.trans (bh.eqX F aa ai bk H) h)
theorem bh.mk_T {F:Nat} {args:List AV} {H:Hp} {v:AV} {H':Hp} (h:bh.mk (bh.tw F) args H = some (v,H')):Go.AE.T Try.prog 81 args H v H':=by
 unfold bh.mk at h
 split at h
 ·exact bh.T h
 ·cases h
noncomputable def bE.twX (F:Nat) (aa:Int) (ab:Int) (aA:Int) (aB:Int) (az:Int) (H:Hp):OA:=(Hp.new H [(.int .i64 aa),(.int .i64 ab),(.int .i64 aA),(.int .i64 aB),(.int .i64 az)]).bind fun H6=>(Hp.ldI H6 .i64 H.length 4).bind fun n7=>(bif (n7 != 1) then ((Hp.ldI H6 .i64 H.length 4).bind fun n8=>some ((.bool (n8 != (-1))),H6)) else (some ((.bool false),H6)))
noncomputable def bE.tw (F:Nat) (aa:Int) (ab:Int) (aA:Int) (aB:Int) (az:Int) (H:Hp):OA:=bE.twX F aa ab aA aB az H
noncomputable def bE.code:Go.Code:=(Try.f124.body).getD .skip
noncomputable def bE.lh (F:Nat) (p:Nat) (ks:List Nat) (n:Nat) (tm:Tm) (H:Hp):OA:=none
def bE.pn:Nat→List Nat:=fun i=>(([]:List (Nat×List Nat)).lookup i).getD []
def bE.tb:Nat→List (List Nat):=fun i=>(([]:List (Nat×List (List Nat))).lookup i).getD []
noncomputable def bE.mk (g:Int→Int→Int→Int→Int→Hp→OA) (args:List AV) (H:Hp):OA:=match args with
 | [(.agg [(.int .i64 aa),(.int .i64 ab),(.int .i64 aA),(.int .i64 aB),(.int .i64 az)])]=>g aa ab aA aB az H
 | _=>none
noncomputable def bE.cs (F:Nat):List (FuncId×(List AV→Hp→OA)):=[]
theorem bE.loops (F:Nat):LoopsOk tabs (mkOrc (bE.cs F)) bE.pn (bE.lh F) F [] 1 bE.code (fun tm H=>aresults tabs.ty H tm Try.f124.results.toList fun v=>some (v,H)) (fun _ _ _=>none) (fun tm H=>aresults tabs.ty H tm Try.f124.results.toList fun v=>some (v,H)):=by
 exact loops_none (by kernel_rfl)
theorem bE.eqX (F:Nat) (aa:Int) (ab:Int) (aA:Int) (aB:Int) (az:Int) (H:Hp):aCode tabs (mkOrc (bE.cs F)) bE.pn (bE.lh F) F [] 1 bE.code (argTm [(.agg [(.int .i64 aa),(.int .i64 ab),(.int .i64 aA),(.int .i64 aB),(.int .i64 az)])]) H (fun tm H=>aresults tabs.ty H tm Try.f124.results.toList fun v=>some (v,H)) (fun _ _ _=>none) (fun tm H=>aresults tabs.ty H tm Try.f124.results.toList fun v=>some (v,H)) = bE.twX F aa ab aA aB az H:=by kernel_rfl
theorem bE.cs_ok (F:Nat):∀ p ∈ bE.cs F,∀ args H v H',p.2 args H = some (v,H')→Go.AE.T Try.prog p.1 args H v H':=by
 intro p hp
 exact absurd (show p ∈ [] from hp) List.not_mem_nil
theorem bE.ok:codeOk bE.pn Try.f124.ntmps bE.tb bE.code = true:=by kernel_rfl
theorem bE.T {F:Nat} {aa:Int} {ab:Int} {aA:Int} {aB:Int} {az:Int} {H:Hp} {v:AV} {H':Hp} (h:bE.tw F aa ab aA aB az H = some (v,H')):Go.AE.T Try.prog 124 [(.agg [(.int .i64 aa),(.int .i64 ab),(.int .i64 aA),(.int .i64 aB),(.int .i64 az)])] H v H':=
 Go.AE.T.of (Y:=tabs) (C:=mkOrc (bE.cs F)) (PN:=bE.pn) (LH:=bE.lh F) (F:=F) (TB:=bE.tb) (fn:=Try.f124) (code:=bE.code) mixed tabs_ok (mkOrc_ok (bE.cs_ok F)) Try.func124 (by kernel_rfl) (by kernel_rfl) bE.ok (Nat.le_of_ble_eq_true (by kernel_rfl)) (bE.loops F) (Eq.trans (bE.eqX F aa ab aA aB az H) h)
theorem bE.mk_T {F:Nat} {args:List AV} {H:Hp} {v:AV} {H':Hp} (h:bE.mk (bE.tw F) args H = some (v,H')):Go.AE.T Try.prog 124 args H v H':=by
 unfold bE.mk at h
 split at h
 ·exact bE.T h
 ·cases h
noncomputable def aR.l13 (F:Nat) (dO:Int→Int→Int→Int→Int→Hp→OA) :Nat→Sl→Int→Int→Hp→OA
 | 0,_,_,_,_=>none
 | hH + 1,gp,eM,dP,H6=>(bif (decide (dP < eM)) then ((Sl.idx gp dP 5).bind fun p15=>(Hp.ldI H6 .i64 p15.1 p15.2).bind fun n16=>(Hp.ldI H6 .i64 p15.1 (p15.2 + 1)).bind fun n17=>(Hp.ldI H6 .i64 p15.1 (p15.2 + 2)).bind fun n18=>(Hp.ldI H6 .i64 p15.1 (p15.2 + 3)).bind fun n19=>(Hp.ldI H6 .i64 p15.1 (p15.2 + 4)).bind fun n20=>(dO n16 n17 n18 n19 n20 H6).bind fun r21=>((r21.1).asB).bind fun b22=>(bif b22 then (some ((.int .i64 dP),r21.2)) else (aR.l13 F dO hH gp eM (IntKind.i64.wrap (dP + 1)) r21.2))) else (some ((.int .i64 (-1)),H6)))
termination_by structural n=>n
noncomputable def aR.twX (F:Nat) (dO:Int→Int→Int→Int→Int→Hp→OA) (aa:Sl) (H:Hp):OA:=aR.l13 F dO F aa (aa.n:Int) 0 H
noncomputable def aR.tw (F:Nat) (aa:Sl) (H:Hp):OA:=aR.twX F (bE.tw F) aa H
noncomputable def aR.code:Go.Code:=(Try.f153.body).getD .skip
noncomputable def aR.lh13 (F:Nat) (dO:Int→Int→Int→Int→Int→Hp→OA) (ks:List Nat) (n:Nat) (tm:Tm) (H:Hp):OA:=match ks,tm 0,tm 1,tm 7,tm 8 with
 | [],(.sl gp),(.fn 124 []),(.int .i64 eM),(.int .i64 dP)=>aR.l13 F dO n gp eM dP H
 | _,_,_,_,_=>none
theorem aR.lh13_inv {F:Nat} {dO:Int→Int→Int→Int→Int→Hp→OA} {ks:List Nat} {n:Nat} {tm:Tm} {H:Hp} {r:AV×Hp} (h:aR.lh13 F dO ks n tm H = some r):∃ gp:Sl,∃ eM:Int,∃ dP:Int,ks = []∧tm 0 = (.sl gp)∧tm 1 = (.fn 124 [])∧tm 7 = (.int .i64 eM)∧tm 8 = (.int .i64 dP)∧aR.l13 F dO n gp eM dP H = some r:=by
 unfold aR.lh13 at h
 split at h
 ·exact ⟨_,_,_,rfl,by assumption,by assumption,by assumption,by assumption,h⟩
 ·cases h
noncomputable def aR.lh (F:Nat) (dO:Int→Int→Int→Int→Int→Hp→OA) (p:Nat) (ks:List Nat) (n:Nat) (tm:Tm) (H:Hp):OA:=bif p.beq 13 then aR.lh13 F dO ks n tm H else (none)
def aR.pn:Nat→List Nat:=fun i=>(([]:List (Nat×List Nat)).lookup i).getD []
def aR.tb:Nat→List (List Nat):=fun i=>(([]:List (Nat×List (List Nat))).lookup i).getD []
noncomputable def aR.mk (g:Sl→Hp→OA) (args:List AV) (H:Hp):OA:=match args with
 | [(.sl aa),(.fn 124 [])]=>g aa H
 | _=>none
noncomputable def aR.cs (F:Nat) (dO:Int→Int→Int→Int→Int→Hp→OA):List (FuncId×(List AV→Hp→OA)):=[(124,bE.mk dO)]
theorem aR.loops (F:Nat) (dO:Int→Int→Int→Int→Int→Hp→OA):LoopsOk tabs (mkOrc (aR.cs F dO)) aR.pn (aR.lh F dO) F [] 1 aR.code (fun tm H=>aresults tabs.ty H tm Try.f153.results.toList fun v=>some (v,H)) (fun _ _ _=>none) (fun tm H=>aresults tabs.ty H tm Try.f153.results.toList fun v=>some (v,H)):=by
 refine LoopsOk.seq ?_ ?_
 ·exact loops_none (by kernel_rfl)
 ·refine LoopsOk.seq ?_ ?_
  ·refine LoopsOk.seq ?_ ?_
   ·exact loops_none (by kernel_rfl)
   ·refine LoopsOk.block ?_
    refine LoopsOk.loop (fun tm H=>?_) (fun k13 tm H r h0=>?_) (fun k13=>?_)
    ·refine none_of fun r h0=>?_
     obtain ⟨gp,eM,dP,hks,e0,e1,e7,e8,h⟩:=aR.lh13_inv (show aR.lh13 F dO [] 0 tm H = some r from h0)
     cases h
    ·obtain ⟨gp,eM,dP,hks,e0,e1,e7,e8,h⟩:=aR.lh13_inv (show aR.lh13 F dO [] (k13 + 1) tm H = some r from h0)
     have q0:(Tm.put tm 0 (.sl gp)) = tm:=by exact Tm.put_same e0
     have q1:(Tm.put (Tm.put tm 0 (.sl gp)) 1 (.fn 124 [])) = tm:=by rw [q0]; exact Tm.put_same e1
     have q2:(Tm.put (Tm.put (Tm.put tm 0 (.sl gp)) 1 (.fn 124 [])) 7 (.int .i64 eM)) = tm:=by rw [q1]; exact Tm.put_same e7
     have q3:(Tm.put (Tm.put (Tm.put (Tm.put tm 0 (.sl gp)) 1 (.fn 124 [])) 7 (.int .i64 eM)) 8 (.int .i64 dP)) = tm:=by rw [q2]; exact Tm.put_same e8
     rw [← q3]
     exact Eq.trans (by kernel_rfl) h
    ·exact loops_none (by kernel_rfl)
  ·exact loops_none (by kernel_rfl)
theorem aR.eqX (F:Nat) (dO:Int→Int→Int→Int→Int→Hp→OA) (aa:Sl) (H:Hp):aCode tabs (mkOrc (aR.cs F dO)) aR.pn (aR.lh F dO) F [] 1 aR.code (argTm [(.sl aa),(.fn 124 [])]) H (fun tm H=>aresults tabs.ty H tm Try.f153.results.toList fun v=>some (v,H)) (fun _ _ _=>none) (fun tm H=>aresults tabs.ty H tm Try.f153.results.toList fun v=>some (v,H)) = aR.twX F dO aa H:=by kernel_rfl
theorem aR.cs_ok (F:Nat):∀ p ∈ aR.cs F (bE.tw F),∀ args H v H',p.2 args H = some (v,H')→Go.AE.T Try.prog p.1 args H v H':=by
 intro p hp
 simp only [aR.cs,List.mem_cons,List.not_mem_nil,or_false] at hp
 subst hp
 exact fun args H v H' h=>bE.mk_T h
theorem aR.ok:codeOk aR.pn Try.f153.ntmps aR.tb aR.code = true:=by kernel_rfl
theorem aR.T {F:Nat} {aa:Sl} {H:Hp} {v:AV} {H':Hp} (h:aR.tw F aa H = some (v,H')):Go.AE.T Try.prog 153 [(.sl aa),(.fn 124 [])] H v H':=
 Go.AE.T.of (Y:=tabs) (C:=mkOrc (aR.cs F (bE.tw F))) (PN:=aR.pn) (LH:=aR.lh F (bE.tw F)) (F:=F) (TB:=aR.tb) (fn:=Try.f153) (code:=aR.code) mixed tabs_ok (mkOrc_ok (aR.cs_ok F)) Try.func153 (by kernel_rfl) (by kernel_rfl) aR.ok (Nat.le_of_ble_eq_true (by kernel_rfl)) (aR.loops F (bE.tw F)) (Eq.trans (aR.eqX F (bE.tw F) aa H) h)
theorem aR.mk_T {F:Nat} {args:List AV} {H:Hp} {v:AV} {H':Hp} (h:aR.mk (aR.tw F) args H = some (v,H')):Go.AE.T Try.prog 153 args H v H':=by
 unfold aR.mk at h
 split at h
 ·exact aR.T h
 ·cases h
noncomputable def bx.twX (F:Nat) (hQ:Sl→Hp→OA) (aa:Sl) (H:Hp):OA:=(hQ aa H).bind fun r2=>((r2.1).asI .i64).bind fun n3=>some ((.bool (decide (n3 ≥ 0))),r2.2)
noncomputable def bx.tw (F:Nat) (aa:Sl) (H:Hp):OA:=bx.twX F (aR.tw F) aa H
noncomputable def bx.code:Go.Code:=(Try.f123.body).getD .skip
noncomputable def bx.lh (F:Nat) (hQ:Sl→Hp→OA) (p:Nat) (ks:List Nat) (n:Nat) (tm:Tm) (H:Hp):OA:=none
def bx.pn:Nat→List Nat:=fun i=>(([]:List (Nat×List Nat)).lookup i).getD []
def bx.tb:Nat→List (List Nat):=fun i=>(([]:List (Nat×List (List Nat))).lookup i).getD []
noncomputable def bx.mk (g:Sl→Hp→OA) (args:List AV) (H:Hp):OA:=match args with
 | [(.sl aa),(.fn 124 [])]=>g aa H
 | _=>none
noncomputable def bx.cs (F:Nat) (hQ:Sl→Hp→OA):List (FuncId×(List AV→Hp→OA)):=[(153,aR.mk hQ)]
theorem bx.loops (F:Nat) (hQ:Sl→Hp→OA):LoopsOk tabs (mkOrc (bx.cs F hQ)) bx.pn (bx.lh F hQ) F [] 1 bx.code (fun tm H=>aresults tabs.ty H tm Try.f123.results.toList fun v=>some (v,H)) (fun _ _ _=>none) (fun tm H=>aresults tabs.ty H tm Try.f123.results.toList fun v=>some (v,H)):=by
 exact loops_none (by kernel_rfl)
theorem bx.eqX (F:Nat) (hQ:Sl→Hp→OA) (aa:Sl) (H:Hp):aCode tabs (mkOrc (bx.cs F hQ)) bx.pn (bx.lh F hQ) F [] 1 bx.code (argTm [(.sl aa),(.fn 124 [])]) H (fun tm H=>aresults tabs.ty H tm Try.f123.results.toList fun v=>some (v,H)) (fun _ _ _=>none) (fun tm H=>aresults tabs.ty H tm Try.f123.results.toList fun v=>some (v,H)) = bx.twX F hQ aa H:=by kernel_rfl
theorem bx.cs_ok (F:Nat):∀ p ∈ bx.cs F (aR.tw F),∀ args H v H',p.2 args H = some (v,H')→Go.AE.T Try.prog p.1 args H v H':=by
 intro p hp
 simp only [bx.cs,List.mem_cons,List.not_mem_nil,or_false] at hp
 subst hp
 exact fun args H v H' h=>aR.mk_T h
theorem bx.ok:codeOk bx.pn Try.f123.ntmps bx.tb bx.code = true:=by kernel_rfl
theorem bx.T {F:Nat} {aa:Sl} {H:Hp} {v:AV} {H':Hp} (h:bx.tw F aa H = some (v,H')):Go.AE.T Try.prog 123 [(.sl aa),(.fn 124 [])] H v H':=
 Go.AE.T.of (Y:=tabs) (C:=mkOrc (bx.cs F (aR.tw F))) (PN:=bx.pn) (LH:=bx.lh F (aR.tw F)) (F:=F) (TB:=bx.tb) (fn:=Try.f123) (code:=bx.code) mixed tabs_ok (mkOrc_ok (bx.cs_ok F)) Try.func123 (by kernel_rfl) (by kernel_rfl) bx.ok (Nat.le_of_ble_eq_true (by kernel_rfl)) (bx.loops F (aR.tw F)) (Eq.trans (bx.eqX F (aR.tw F) aa H) h)
theorem bx.mk_T {F:Nat} {args:List AV} {H:Hp} {v:AV} {H':Hp} (h:bx.mk (bx.tw F) args H = some (v,H')):Go.AE.T Try.prog 123 args H v H':=by
 unfold bx.mk at h
 split at h
 ·exact bx.T h
 ·cases h
noncomputable def bits_Mul64.twX (F:Nat) (aa:Int) (ai:Int) (H:Hp):OA:=some ((.tup [(.int .u64 (IntKind.u64.wrap ((IntKind.u64.wrap ((IntKind.u64.wrap ((Int.fdiv aa (2 ^ (min (32:Int).toNat (IntKind.u64).bits))) * (Int.fdiv ai (2 ^ (min (32:Int).toNat (IntKind.u64).bits))))) + (Int.fdiv (IntKind.u64.wrap ((IntKind.u64.wrap ((Int.fdiv aa (2 ^ (min (32:Int).toNat (IntKind.u64).bits))) * (Go.bits .and .u64 ai 4294967295))) + (Int.fdiv (IntKind.u64.wrap ((Go.bits .and .u64 aa 4294967295) * (Go.bits .and .u64 ai 4294967295))) (2 ^ (min (32:Int).toNat (IntKind.u64).bits))))) (2 ^ (min (32:Int).toNat (IntKind.u64).bits))))) + (Int.fdiv (IntKind.u64.wrap ((Go.bits .and .u64 (IntKind.u64.wrap ((IntKind.u64.wrap ((Int.fdiv aa (2 ^ (min (32:Int).toNat (IntKind.u64).bits))) * (Go.bits .and .u64 ai 4294967295))) + (Int.fdiv (IntKind.u64.wrap ((Go.bits .and .u64 aa 4294967295) * (Go.bits .and .u64 ai 4294967295))) (2 ^ (min (32:Int).toNat (IntKind.u64).bits))))) 4294967295) + (IntKind.u64.wrap ((Go.bits .and .u64 aa 4294967295) * (Int.fdiv ai (2 ^ (min (32:Int).toNat (IntKind.u64).bits))))))) (2 ^ (min (32:Int).toNat (IntKind.u64).bits)))))),(.int .u64 (IntKind.u64.wrap (aa * ai)))]),H)
noncomputable def bits_Mul64.tw (F:Nat) (aa:Int) (ai:Int) (H:Hp):OA:=bits_Mul64.twX F aa ai H
noncomputable def bits_Mul64.code:Go.Code:=(Try.f172.body).getD .skip
noncomputable def bits_Mul64.lh (F:Nat) (p:Nat) (ks:List Nat) (n:Nat) (tm:Tm) (H:Hp):OA:=none
def bits_Mul64.pn:Nat→List Nat:=fun i=>(([]:List (Nat×List Nat)).lookup i).getD []
def bits_Mul64.tb:Nat→List (List Nat):=fun i=>(([]:List (Nat×List (List Nat))).lookup i).getD []
noncomputable def bits_Mul64.mk (g:Int→Int→Hp→OA) (args:List AV) (H:Hp):OA:=match args with
 | [(.int .u64 aa),(.int .u64 ai)]=>g aa ai H
 | _=>none
noncomputable def bits_Mul64.cs (F:Nat):List (FuncId×(List AV→Hp→OA)):=[]
theorem bits_Mul64.loops (F:Nat):LoopsOk tabs (mkOrc (bits_Mul64.cs F)) bits_Mul64.pn (bits_Mul64.lh F) F [] 1 bits_Mul64.code (fun tm H=>aresults tabs.ty H tm Try.f172.results.toList fun v=>some (v,H)) (fun _ _ _=>none) (fun tm H=>aresults tabs.ty H tm Try.f172.results.toList fun v=>some (v,H)):=by
 exact loops_none (by kernel_rfl)
theorem bits_Mul64.eqX (F:Nat) (aa:Int) (ai:Int) (H:Hp):aCode tabs (mkOrc (bits_Mul64.cs F)) bits_Mul64.pn (bits_Mul64.lh F) F [] 1 bits_Mul64.code (argTm [(.int .u64 aa),(.int .u64 ai)]) H (fun tm H=>aresults tabs.ty H tm Try.f172.results.toList fun v=>some (v,H)) (fun _ _ _=>none) (fun tm H=>aresults tabs.ty H tm Try.f172.results.toList fun v=>some (v,H)) = bits_Mul64.twX F aa ai H:=by kernel_rfl
theorem bits_Mul64.cs_ok (F:Nat):∀ p ∈ bits_Mul64.cs F,∀ args H v H',p.2 args H = some (v,H')→Go.AE.T Try.prog p.1 args H v H':=by
 intro p hp
 exact absurd (show p ∈ [] from hp) List.not_mem_nil
theorem bits_Mul64.ok:codeOk bits_Mul64.pn Try.f172.ntmps bits_Mul64.tb bits_Mul64.code = true:=by kernel_rfl
theorem bits_Mul64.T {F:Nat} {aa:Int} {ai:Int} {H:Hp} {v:AV} {H':Hp} (h:bits_Mul64.tw F aa ai H = some (v,H')):Go.AE.T Try.prog 172 [(.int .u64 aa),(.int .u64 ai)] H v H':=
 Go.AE.T.of (Y:=tabs) (C:=mkOrc (bits_Mul64.cs F)) (PN:=bits_Mul64.pn) (LH:=bits_Mul64.lh F) (F:=F) (TB:=bits_Mul64.tb) (fn:=Try.f172) (code:=bits_Mul64.code) mixed tabs_ok (mkOrc_ok (bits_Mul64.cs_ok F)) Try.func172 (by kernel_rfl) (by kernel_rfl) bits_Mul64.ok (Nat.le_of_ble_eq_true (by kernel_rfl)) (bits_Mul64.loops F) (Eq.trans (bits_Mul64.eqX F aa ai H) h)
theorem bits_Mul64.mk_T {F:Nat} {args:List AV} {H:Hp} {v:AV} {H':Hp} (h:bits_Mul64.mk (bits_Mul64.tw F) args H = some (v,H')):Go.AE.T Try.prog 172 args H v H':=by
 unfold bits_Mul64.mk at h
 split at h
 ·exact bits_Mul64.T h
 ·cases h
noncomputable def bits_Mul.twX (F:Nat) (g_bits_Mul64:Int→Int→Hp→OA) (aa:Int) (ai:Int) (H:Hp):OA:=(g_bits_Mul64 aa ai H).bind fun r3=>((r3.1).asTup 2).bind fun l4=>(l4[0]?).bind fun v5=>((v5).asI .u64).bind fun n6=>(l4[1]?).bind fun v7=>((v7).asI .u64).bind fun n8=>some ((.tup [(.int .u64 n6),(.int .u64 n8)]),r3.2)
noncomputable def bits_Mul.tw (F:Nat) (aa:Int) (ai:Int) (H:Hp):OA:=bits_Mul.twX F (bits_Mul64.tw F) aa ai H
noncomputable def bits_Mul.code:Go.Code:=(Try.f158.body).getD .skip
noncomputable def bits_Mul.lh (F:Nat) (g_bits_Mul64:Int→Int→Hp→OA) (p:Nat) (ks:List Nat) (n:Nat) (tm:Tm) (H:Hp):OA:=none
def bits_Mul.pn:Nat→List Nat:=fun i=>(([]:List (Nat×List Nat)).lookup i).getD []
def bits_Mul.tb:Nat→List (List Nat):=fun i=>(([]:List (Nat×List (List Nat))).lookup i).getD []
noncomputable def bits_Mul.mk (g:Int→Int→Hp→OA) (args:List AV) (H:Hp):OA:=match args with
 | [(.int .u64 aa),(.int .u64 ai)]=>g aa ai H
 | _=>none
noncomputable def bits_Mul.cs (F:Nat) (g_bits_Mul64:Int→Int→Hp→OA):List (FuncId×(List AV→Hp→OA)):=[(172,bits_Mul64.mk g_bits_Mul64)]
theorem bits_Mul.loops (F:Nat) (g_bits_Mul64:Int→Int→Hp→OA):LoopsOk tabs (mkOrc (bits_Mul.cs F g_bits_Mul64)) bits_Mul.pn (bits_Mul.lh F g_bits_Mul64) F [] 1 bits_Mul.code (fun tm H=>aresults tabs.ty H tm Try.f158.results.toList fun v=>some (v,H)) (fun _ _ _=>none) (fun tm H=>aresults tabs.ty H tm Try.f158.results.toList fun v=>some (v,H)):=by
 exact loops_none (by kernel_rfl)
theorem bits_Mul.eqX (F:Nat) (g_bits_Mul64:Int→Int→Hp→OA) (aa:Int) (ai:Int) (H:Hp):aCode tabs (mkOrc (bits_Mul.cs F g_bits_Mul64)) bits_Mul.pn (bits_Mul.lh F g_bits_Mul64) F [] 1 bits_Mul.code (argTm [(.int .u64 aa),(.int .u64 ai)]) H (fun tm H=>aresults tabs.ty H tm Try.f158.results.toList fun v=>some (v,H)) (fun _ _ _=>none) (fun tm H=>aresults tabs.ty H tm Try.f158.results.toList fun v=>some (v,H)) = bits_Mul.twX F g_bits_Mul64 aa ai H:=by kernel_rfl
theorem bits_Mul.cs_ok (F:Nat):∀ p ∈ bits_Mul.cs F (bits_Mul64.tw F),∀ args H v H',p.2 args H = some (v,H')→Go.AE.T Try.prog p.1 args H v H':=by
 intro p hp
 simp only [bits_Mul.cs,List.mem_cons,List.not_mem_nil,or_false] at hp
 subst hp
 exact fun args H v H' h=>bits_Mul64.mk_T h
theorem bits_Mul.ok:codeOk bits_Mul.pn Try.f158.ntmps bits_Mul.tb bits_Mul.code = true:=by kernel_rfl
theorem bits_Mul.T {F:Nat} {aa:Int} {ai:Int} {H:Hp} {v:AV} {H':Hp} (h:bits_Mul.tw F aa ai H = some (v,H')):Go.AE.T Try.prog 158 [(.int .u64 aa),(.int .u64 ai)] H v H':=
 Go.AE.T.of (Y:=tabs) (C:=mkOrc (bits_Mul.cs F (bits_Mul64.tw F))) (PN:=bits_Mul.pn) (LH:=bits_Mul.lh F (bits_Mul64.tw F)) (F:=F) (TB:=bits_Mul.tb) (fn:=Try.f158) (code:=bits_Mul.code) mixed tabs_ok (mkOrc_ok (bits_Mul.cs_ok F)) Try.func158 (by kernel_rfl) (by kernel_rfl) bits_Mul.ok (Nat.le_of_ble_eq_true (by kernel_rfl)) (bits_Mul.loops F (bits_Mul64.tw F)) (Eq.trans (bits_Mul.eqX F (bits_Mul64.tw F) aa ai H) h)
theorem bits_Mul.mk_T {F:Nat} {args:List AV} {H:Hp} {v:AV} {H':Hp} (h:bits_Mul.mk (bits_Mul.tw F) args H = some (v,H')):Go.AE.T Try.prog 158 args H v H':=by
 unfold bits_Mul.mk at h
 split at h
 ·exact bits_Mul.T h
 ·cases h
noncomputable def aM.l254 (F:Nat) (g_bits_Mul:Int→Int→Hp→OA) :Nat→Sl→Int→Hp→OA
 | 0,_,_,_=>none
 | uQ + 1,bR,bY,H33=>(bif (decide (bY < (bR.n:Int))) then ((Sl.cut bR 2 bY (bR.n:Int)).bind fun s37=>(Sl.cut bR 2 0 bY).bind fun s38=>(Hp.cpy H33 2 s37 s38).bind fun c39=>aM.l254 F g_bits_Mul uQ bR (IntKind.i64.wrap (bY + (c39.1:Int))) c39.2) else (some ((.sl bR),H33)))
termination_by structural n=>n
noncomputable def aM.j1 (F:Nat) (g_bits_Mul:Int→Int→Hp→OA) (uR:Sl) (fO:Int) (H21:Hp):OA:=(Hp.mk H21 [.int .i64 0,.int .i64 0] 16 (IntKind.i64.wrap fO) (IntKind.i64.wrap fO)).bind fun m22=>(Hp.cpy m22.2 2 m22.1 uR).bind fun c23=>aM.l254 F g_bits_Mul F m22.1 (c23.1:Int) c23.2
noncomputable def aM.j2 (F:Nat) (g_bits_Mul:Int→Int→Hp→OA) (lQ:Sl) (gq:Int) (H7:Hp):OA:=(g_bits_Mul (IntKind.u64.wrap (lQ.n:Int)) (IntKind.u64.wrap gq) H7).bind fun r8=>((r8.1).asTup 2).bind fun l9=>(l9[0]?).bind fun v10=>((v10).asI .u64).bind fun n11=>(l9[1]?).bind fun v12=>((v12).asI .u64).bind fun n13=>(bif (decide (n11 > 0)) then (none) else ((bif (decide (n13 > 9223372036854775807)) then (none) else (aM.j1 F g_bits_Mul lQ n13 r8.2))))
noncomputable def aM.twX (F:Nat) (g_bits_Mul:Int→Int→Hp→OA) (aa:Sl) (ai:Int) (H:Hp):OA:=(bif (decide (ai < 0)) then (none) else (aM.j2 F g_bits_Mul aa ai H))
noncomputable def aM.tw (F:Nat) (aa:Sl) (ai:Int) (H:Hp):OA:=aM.twX F (bits_Mul.tw F) aa ai H
noncomputable def aM.code:Go.Code:=(Try.f154.body).getD .skip
noncomputable def aM.lh254 (F:Nat) (g_bits_Mul:Int→Int→Hp→OA) (ks:List Nat) (n:Nat) (tm:Tm) (H:Hp):OA:=match ks,tm 7,tm 8 with
 | [],(.sl bR),(.int .i64 bY)=>aM.l254 F g_bits_Mul n bR bY H
 | _,_,_=>none
theorem aM.lh254_inv {F:Nat} {g_bits_Mul:Int→Int→Hp→OA} {ks:List Nat} {n:Nat} {tm:Tm} {H:Hp} {r:AV×Hp} (h:aM.lh254 F g_bits_Mul ks n tm H = some r):∃ bR:Sl,∃ bY:Int,ks = []∧tm 7 = (.sl bR)∧tm 8 = (.int .i64 bY)∧aM.l254 F g_bits_Mul n bR bY H = some r:=by
 unfold aM.lh254 at h
 split at h
 ·exact ⟨_,_,rfl,by assumption,by assumption,h⟩
 ·cases h
noncomputable def aM.lh (F:Nat) (g_bits_Mul:Int→Int→Hp→OA) (p:Nat) (ks:List Nat) (n:Nat) (tm:Tm) (H:Hp):OA:=bif p.beq 254 then aM.lh254 F g_bits_Mul ks n tm H else (none)
def aM.pn:Nat→List Nat:=fun i=>(([(9,[7])]:List (Nat×List Nat)).lookup i).getD []
def aM.tb:Nat→List (List Nat):=fun i=>(([(9,[[],[],[],[1,2],[],[],[4,5],[1,2,3,4,5,6],[0,1,2,3,4,5,6,7],[0,1,2,3,4,5,6,7,8]])]:List (Nat×List (List Nat))).lookup i).getD []
noncomputable def aM.mk (g:Sl→Int→Hp→OA) (args:List AV) (H:Hp):OA:=match args with
 | [(.sl aa),(.int .i64 ai)]=>g aa ai H
 | _=>none
noncomputable def aM.cs (F:Nat) (g_bits_Mul:Int→Int→Hp→OA):List (FuncId×(List AV→Hp→OA)):=[(158,bits_Mul.mk g_bits_Mul)]
theorem aM.loops (F:Nat) (g_bits_Mul:Int→Int→Hp→OA):LoopsOk tabs (mkOrc (aM.cs F g_bits_Mul)) aM.pn (aM.lh F g_bits_Mul) F [] 1 aM.code (fun tm H=>aresults tabs.ty H tm Try.f154.results.toList fun v=>some (v,H)) (fun _ _ _=>none) (fun tm H=>aresults tabs.ty H tm Try.f154.results.toList fun v=>some (v,H)):=by
 refine LoopsOk.seq ?_ ?_
 ·exact loops_none (by kernel_rfl)
 ·refine LoopsOk.seq ?_ ?_
  ·exact loops_none (by kernel_rfl)
  ·refine LoopsOk.seq ?_ ?_
   ·exact loops_none (by kernel_rfl)
   ·refine LoopsOk.seq ?_ ?_
    ·exact loops_none (by kernel_rfl)
    ·refine LoopsOk.seq ?_ ?_
     ·exact loops_none (by kernel_rfl)
     ·refine LoopsOk.seq ?_ ?_
      ·exact loops_none (by kernel_rfl)
      ·refine LoopsOk.seq ?_ ?_
       ·refine LoopsOk.block ?_
        refine LoopsOk.loop (fun tm H=>?_) (fun k254 tm H r h0=>?_) (fun k254=>?_)
        ·refine none_of fun r h0=>?_
         obtain ⟨bR,bY,hks,e7,e8,h⟩:=aM.lh254_inv (show aM.lh254 F g_bits_Mul [] 0 tm H = some r from h0)
         cases h
        ·obtain ⟨bR,bY,hks,e7,e8,h⟩:=aM.lh254_inv (show aM.lh254 F g_bits_Mul [] (k254 + 1) tm H = some r from h0)
         have q0:(Tm.put tm 7 (.sl bR)) = tm:=by exact Tm.put_same e7
         have q1:(Tm.put (Tm.put tm 7 (.sl bR)) 8 (.int .i64 bY)) = tm:=by rw [q0]; exact Tm.put_same e8
         rw [← q1]
         exact Eq.trans (by kernel_rfl) h
        ·exact loops_none (by kernel_rfl)
       ·exact loops_none (by kernel_rfl)
theorem aM.eqX (F:Nat) (g_bits_Mul:Int→Int→Hp→OA) (aa:Sl) (ai:Int) (H:Hp):aCode tabs (mkOrc (aM.cs F g_bits_Mul)) aM.pn (aM.lh F g_bits_Mul) F [] 1 aM.code (argTm [(.sl aa),(.int .i64 ai)]) H (fun tm H=>aresults tabs.ty H tm Try.f154.results.toList fun v=>some (v,H)) (fun _ _ _=>none) (fun tm H=>aresults tabs.ty H tm Try.f154.results.toList fun v=>some (v,H)) = aM.twX F g_bits_Mul aa ai H:=by kernel_rfl
theorem aM.cs_ok (F:Nat):∀ p ∈ aM.cs F (bits_Mul.tw F),∀ args H v H',p.2 args H = some (v,H')→Go.AE.T Try.prog p.1 args H v H':=by
 intro p hp
 simp only [aM.cs,List.mem_cons,List.not_mem_nil,or_false] at hp
 subst hp
 exact fun args H v H' h=>bits_Mul.mk_T h
theorem aM.ok:codeOk aM.pn Try.f154.ntmps aM.tb aM.code = true:=by kernel_rfl
theorem aM.T {F:Nat} {aa:Sl} {ai:Int} {H:Hp} {v:AV} {H':Hp} (h:aM.tw F aa ai H = some (v,H')):Go.AE.T Try.prog 154 [(.sl aa),(.int .i64 ai)] H v H':=
 Go.AE.T.of (Y:=tabs) (C:=mkOrc (aM.cs F (bits_Mul.tw F))) (PN:=aM.pn) (LH:=aM.lh F (bits_Mul.tw F)) (F:=F) (TB:=aM.tb) (fn:=Try.f154) (code:=aM.code) mixed tabs_ok (mkOrc_ok (aM.cs_ok F)) Try.func154 (by kernel_rfl) (by kernel_rfl) aM.ok (Nat.le_of_ble_eq_true (by kernel_rfl)) (aM.loops F (bits_Mul.tw F)) (Eq.trans (aM.eqX F (bits_Mul.tw F) aa ai H) h)
theorem aM.mk_T {F:Nat} {args:List AV} {H:Hp} {v:AV} {H':Hp} (h:aM.mk (aM.tw F) args H = some (v,H')):Go.AE.T Try.prog 154 args H v H':=by
 unfold aM.mk at h
 split at h
 ·exact aM.T h
 ·cases h
noncomputable def bf.twX (F:Nat) (aa:Int) (ab:Int) (aA:Int) (aB:Int) (az:Int) (H:Hp):OA:=(Hp.new H [(.int .i64 aa),(.int .i64 ab),(.int .i64 aA),(.int .i64 aB),(.int .i64 az)]).bind fun H6=>(Hp.new H6 [.int .i64 0,.int .i64 0,.int .i64 0,.int .i64 0]).bind fun H7=>(Hp.ldI H7 .i64 H.length 0).bind fun n8=>(Hp.ldI H7 .i64 H.length 1).bind fun n9=>(Hp.ldI H7 .i64 H.length 2).bind fun n10=>(Hp.ldI H7 .i64 H.length 3).bind fun n11=>(Hp.st H7 H6.length 0 (.int .i64 n8)).bind fun H12=>(Hp.st H12 H6.length (0 + 1) (.int .i64 n9)).bind fun H13=>(Hp.st H13 H6.length (0 + 1 + 1) (.int .i64 n10)).bind fun H14=>(Hp.st H14 H6.length (0 + 1 + 1 + 1) (.int .i64 n11)).bind fun H15=>(Hp.ldI H15 .i64 H6.length 0).bind fun n16=>(Hp.ldI H15 .i64 H6.length (0 + 1)).bind fun n17=>(Hp.ldI H15 .i64 H6.length (0 + 2)).bind fun n18=>(Hp.ldI H15 .i64 H6.length (0 + 3)).bind fun n19=>some ((.agg [(.int .i64 n16),(.int .i64 n17),(.int .i64 n18),(.int .i64 n19)]),H15)
noncomputable def bf.tw (F:Nat) (aa:Int) (ab:Int) (aA:Int) (aB:Int) (az:Int) (H:Hp):OA:=bf.twX F aa ab aA aB az H
noncomputable def bf.code:Go.Code:=(Try.f155.body).getD .skip
noncomputable def bf.lh (F:Nat) (p:Nat) (ks:List Nat) (n:Nat) (tm:Tm) (H:Hp):OA:=none
def bf.pn:Nat→List Nat:=fun i=>(([]:List (Nat×List Nat)).lookup i).getD []
def bf.tb:Nat→List (List Nat):=fun i=>(([]:List (Nat×List (List Nat))).lookup i).getD []
noncomputable def bf.mk (g:Int→Int→Int→Int→Int→Hp→OA) (args:List AV) (H:Hp):OA:=match args with
 | [(.agg [(.int .i64 aa),(.int .i64 ab),(.int .i64 aA),(.int .i64 aB),(.int .i64 az)])]=>g aa ab aA aB az H
 | _=>none
noncomputable def bf.cs (F:Nat):List (FuncId×(List AV→Hp→OA)):=[]
theorem bf.loops (F:Nat):LoopsOk tabs (mkOrc (bf.cs F)) bf.pn (bf.lh F) F [] 1 bf.code (fun tm H=>aresults tabs.ty H tm Try.f155.results.toList fun v=>some (v,H)) (fun _ _ _=>none) (fun tm H=>aresults tabs.ty H tm Try.f155.results.toList fun v=>some (v,H)):=by
 exact loops_none (by kernel_rfl)
theorem bf.eqX (F:Nat) (aa:Int) (ab:Int) (aA:Int) (aB:Int) (az:Int) (H:Hp):aCode tabs (mkOrc (bf.cs F)) bf.pn (bf.lh F) F [] 1 bf.code (argTm [(.agg [(.int .i64 aa),(.int .i64 ab),(.int .i64 aA),(.int .i64 aB),(.int .i64 az)])]) H (fun tm H=>aresults tabs.ty H tm Try.f155.results.toList fun v=>some (v,H)) (fun _ _ _=>none) (fun tm H=>aresults tabs.ty H tm Try.f155.results.toList fun v=>some (v,H)) = bf.twX F aa ab aA aB az H:=by kernel_rfl
theorem bf.cs_ok (F:Nat):∀ p ∈ bf.cs F,∀ args H v H',p.2 args H = some (v,H')→Go.AE.T Try.prog p.1 args H v H':=by
 intro p hp
 exact absurd (show p ∈ [] from hp) List.not_mem_nil
theorem bf.ok:codeOk bf.pn Try.f155.ntmps bf.tb bf.code = true:=by kernel_rfl
theorem bf.T {F:Nat} {aa:Int} {ab:Int} {aA:Int} {aB:Int} {az:Int} {H:Hp} {v:AV} {H':Hp} (h:bf.tw F aa ab aA aB az H = some (v,H')):Go.AE.T Try.prog 155 [(.agg [(.int .i64 aa),(.int .i64 ab),(.int .i64 aA),(.int .i64 aB),(.int .i64 az)])] H v H':=
 Go.AE.T.of (Y:=tabs) (C:=mkOrc (bf.cs F)) (PN:=bf.pn) (LH:=bf.lh F) (F:=F) (TB:=bf.tb) (fn:=Try.f155) (code:=bf.code) mixed tabs_ok (mkOrc_ok (bf.cs_ok F)) Try.func155 (by kernel_rfl) (by kernel_rfl) bf.ok (Nat.le_of_ble_eq_true (by kernel_rfl)) (bf.loops F) (Eq.trans (bf.eqX F aa ab aA aB az H) h)
theorem bf.mk_T {F:Nat} {args:List AV} {H:Hp} {v:AV} {H':Hp} (h:bf.mk (bf.tw F) args H = some (v,H')):Go.AE.T Try.prog 155 args H v H':=by
 unfold bf.mk at h
 split at h
 ·exact bf.T h
 ·cases h
noncomputable def bg.twX (F:Nat) (aa:Int) (ab:Int) (aA:Int) (aB:Int) (az:Int) (bc:Int) (H:Hp):OA:=(Hp.new H [(.int .i64 aa),(.int .i64 ab),(.int .i64 aA),(.int .i64 aB),(.int .i64 az)]).bind fun H7=>(bif (bc == 0) then (some ((.bool true),H7)) else ((Hp.ldI H7 .i64 H.length 4).bind fun n8=>some ((.bool (bc == (IntKind.i64.wrap (2 + n8)))),H7)))
noncomputable def bg.tw (F:Nat) (aa:Int) (ab:Int) (aA:Int) (aB:Int) (az:Int) (bc:Int) (H:Hp):OA:=bg.twX F aa ab aA aB az bc H
noncomputable def bg.code:Go.Code:=(Try.f156.body).getD .skip
noncomputable def bg.lh (F:Nat) (p:Nat) (ks:List Nat) (n:Nat) (tm:Tm) (H:Hp):OA:=none
def bg.pn:Nat→List Nat:=fun i=>(([]:List (Nat×List Nat)).lookup i).getD []
def bg.tb:Nat→List (List Nat):=fun i=>(([]:List (Nat×List (List Nat))).lookup i).getD []
noncomputable def bg.mk (g:Int→Int→Int→Int→Int→Int→Hp→OA) (args:List AV) (H:Hp):OA:=match args with
 | [(.agg [(.int .i64 aa),(.int .i64 ab),(.int .i64 aA),(.int .i64 aB),(.int .i64 az)]),(.int .i64 bc)]=>g aa ab aA aB az bc H
 | _=>none
noncomputable def bg.cs (F:Nat):List (FuncId×(List AV→Hp→OA)):=[]
theorem bg.loops (F:Nat):LoopsOk tabs (mkOrc (bg.cs F)) bg.pn (bg.lh F) F [] 1 bg.code (fun tm H=>aresults tabs.ty H tm Try.f156.results.toList fun v=>some (v,H)) (fun _ _ _=>none) (fun tm H=>aresults tabs.ty H tm Try.f156.results.toList fun v=>some (v,H)):=by
 exact loops_none (by kernel_rfl)
theorem bg.eqX (F:Nat) (aa:Int) (ab:Int) (aA:Int) (aB:Int) (az:Int) (bc:Int) (H:Hp):aCode tabs (mkOrc (bg.cs F)) bg.pn (bg.lh F) F [] 1 bg.code (argTm [(.agg [(.int .i64 aa),(.int .i64 ab),(.int .i64 aA),(.int .i64 aB),(.int .i64 az)]),(.int .i64 bc)]) H (fun tm H=>aresults tabs.ty H tm Try.f156.results.toList fun v=>some (v,H)) (fun _ _ _=>none) (fun tm H=>aresults tabs.ty H tm Try.f156.results.toList fun v=>some (v,H)) = bg.twX F aa ab aA aB az bc H:=by kernel_rfl
theorem bg.cs_ok (F:Nat):∀ p ∈ bg.cs F,∀ args H v H',p.2 args H = some (v,H')→Go.AE.T Try.prog p.1 args H v H':=by
 intro p hp
 exact absurd (show p ∈ [] from hp) List.not_mem_nil
theorem bg.ok:codeOk bg.pn Try.f156.ntmps bg.tb bg.code = true:=by kernel_rfl
theorem bg.T {F:Nat} {aa:Int} {ab:Int} {aA:Int} {aB:Int} {az:Int} {bc:Int} {H:Hp} {v:AV} {H':Hp} (h:bg.tw F aa ab aA aB az bc H = some (v,H')):Go.AE.T Try.prog 156 [(.agg [(.int .i64 aa),(.int .i64 ab),(.int .i64 aA),(.int .i64 aB),(.int .i64 az)]),(.int .i64 bc)] H v H':=
 Go.AE.T.of (Y:=tabs) (C:=mkOrc (bg.cs F)) (PN:=bg.pn) (LH:=bg.lh F) (F:=F) (TB:=bg.tb) (fn:=Try.f156) (code:=bg.code) mixed tabs_ok (mkOrc_ok (bg.cs_ok F)) Try.func156 (by kernel_rfl) (by kernel_rfl) bg.ok (Nat.le_of_ble_eq_true (by kernel_rfl)) (bg.loops F) (Eq.trans (bg.eqX F aa ab aA aB az bc H) h)
theorem bg.mk_T {F:Nat} {args:List AV} {H:Hp} {v:AV} {H':Hp} (h:bg.mk (bg.tw F) args H = some (v,H')):Go.AE.T Try.prog 156 args H v H':=by
 unfold bg.mk at h
 split at h
 ·exact bg.T h
 ·cases h
noncomputable def bI.twX (F:Nat) (aa:Sl) (H:Hp):OA:=some ((.int .i64 (aa.n:Int)),H)
noncomputable def bI.tw (F:Nat) (aa:Sl) (H:Hp):OA:=bI.twX F aa H
noncomputable def bI.code:Go.Code:=(Try.f170.body).getD .skip
noncomputable def bI.lh (F:Nat) (p:Nat) (ks:List Nat) (n:Nat) (tm:Tm) (H:Hp):OA:=none
def bI.pn:Nat→List Nat:=fun i=>(([]:List (Nat×List Nat)).lookup i).getD []
def bI.tb:Nat→List (List Nat):=fun i=>(([]:List (Nat×List (List Nat))).lookup i).getD []
noncomputable def bI.mk (g:Sl→Hp→OA) (args:List AV) (H:Hp):OA:=match args with
 | [(.sl aa)]=>g aa H
 | _=>none
noncomputable def bI.cs (F:Nat):List (FuncId×(List AV→Hp→OA)):=[]
theorem bI.loops (F:Nat):LoopsOk tabs (mkOrc (bI.cs F)) bI.pn (bI.lh F) F [] 1 bI.code (fun tm H=>aresults tabs.ty H tm Try.f170.results.toList fun v=>some (v,H)) (fun _ _ _=>none) (fun tm H=>aresults tabs.ty H tm Try.f170.results.toList fun v=>some (v,H)):=by
 exact loops_none (by kernel_rfl)
theorem bI.eqX (F:Nat) (aa:Sl) (H:Hp):aCode tabs (mkOrc (bI.cs F)) bI.pn (bI.lh F) F [] 1 bI.code (argTm [(.sl aa)]) H (fun tm H=>aresults tabs.ty H tm Try.f170.results.toList fun v=>some (v,H)) (fun _ _ _=>none) (fun tm H=>aresults tabs.ty H tm Try.f170.results.toList fun v=>some (v,H)) = bI.twX F aa H:=by kernel_rfl
theorem bI.cs_ok (F:Nat):∀ p ∈ bI.cs F,∀ args H v H',p.2 args H = some (v,H')→Go.AE.T Try.prog p.1 args H v H':=by
 intro p hp
 exact absurd (show p ∈ [] from hp) List.not_mem_nil
theorem bI.ok:codeOk bI.pn Try.f170.ntmps bI.tb bI.code = true:=by kernel_rfl
theorem bI.T {F:Nat} {aa:Sl} {H:Hp} {v:AV} {H':Hp} (h:bI.tw F aa H = some (v,H')):Go.AE.T Try.prog 170 [(.sl aa)] H v H':=
 Go.AE.T.of (Y:=tabs) (C:=mkOrc (bI.cs F)) (PN:=bI.pn) (LH:=bI.lh F) (F:=F) (TB:=bI.tb) (fn:=Try.f170) (code:=bI.code) mixed tabs_ok (mkOrc_ok (bI.cs_ok F)) Try.func170 (by kernel_rfl) (by kernel_rfl) bI.ok (Nat.le_of_ble_eq_true (by kernel_rfl)) (bI.loops F) (Eq.trans (bI.eqX F aa H) h)
theorem bI.mk_T {F:Nat} {args:List AV} {H:Hp} {v:AV} {H':Hp} (h:bI.mk (bI.tw F) args H = some (v,H')):Go.AE.T Try.prog 170 args H v H':=by
 unfold bI.mk at h
 split at h
 ·exact bI.T h
 ·cases h
noncomputable def bs.twX (F:Nat) (hT:Sl→Hp→OA) (dv:Int→Int→Int→Hp→OA) (aa:Sl) (ai:Int) (H:Hp):OA:=(hT aa H).bind fun r3=>((r3.1).asI .i64).bind fun n4=>(dv ai 0 (IntKind.i64.wrap (n4 - 1)) r3.2).bind fun r5=>((r5.1).asB).bind fun b6=>some ((.bool b6),r5.2)
noncomputable def bs.tw (F:Nat) (aa:Sl) (ai:Int) (H:Hp):OA:=bs.twX F (bI.tw F) (bh.tw F) aa ai H
noncomputable def bs.code:Go.Code:=(Try.f157.body).getD .skip
noncomputable def bs.lh (F:Nat) (hT:Sl→Hp→OA) (dv:Int→Int→Int→Hp→OA) (p:Nat) (ks:List Nat) (n:Nat) (tm:Tm) (H:Hp):OA:=none
def bs.pn:Nat→List Nat:=fun i=>(([]:List (Nat×List Nat)).lookup i).getD []
def bs.tb:Nat→List (List Nat):=fun i=>(([]:List (Nat×List (List Nat))).lookup i).getD []
noncomputable def bs.mk (g:Sl→Int→Hp→OA) (args:List AV) (H:Hp):OA:=match args with
 | [(.sl aa),(.int .i64 ai)]=>g aa ai H
 | _=>none
noncomputable def bs.cs (F:Nat) (hT:Sl→Hp→OA) (dv:Int→Int→Int→Hp→OA):List (FuncId×(List AV→Hp→OA)):=[(170,bI.mk hT),(81,bh.mk dv)]
theorem bs.loops (F:Nat) (hT:Sl→Hp→OA) (dv:Int→Int→Int→Hp→OA):LoopsOk tabs (mkOrc (bs.cs F hT dv)) bs.pn (bs.lh F hT dv) F [] 1 bs.code (fun tm H=>aresults tabs.ty H tm Try.f157.results.toList fun v=>some (v,H)) (fun _ _ _=>none) (fun tm H=>aresults tabs.ty H tm Try.f157.results.toList fun v=>some (v,H)):=by
 exact loops_none (by kernel_rfl)
theorem bs.eqX (F:Nat) (hT:Sl→Hp→OA) (dv:Int→Int→Int→Hp→OA) (aa:Sl) (ai:Int) (H:Hp):aCode tabs (mkOrc (bs.cs F hT dv)) bs.pn (bs.lh F hT dv) F [] 1 bs.code (argTm [(.sl aa),(.int .i64 ai)]) H (fun tm H=>aresults tabs.ty H tm Try.f157.results.toList fun v=>some (v,H)) (fun _ _ _=>none) (fun tm H=>aresults tabs.ty H tm Try.f157.results.toList fun v=>some (v,H)) = bs.twX F hT dv aa ai H:=by kernel_rfl
theorem bs.cs_ok (F:Nat):∀ p ∈ bs.cs F (bI.tw F) (bh.tw F),∀ args H v H',p.2 args H = some (v,H')→Go.AE.T Try.prog p.1 args H v H':=by
 intro p hp
 simp only [bs.cs,List.mem_cons,List.not_mem_nil,or_false] at hp
 rcases hp with rfl | rfl
 ·exact fun args H v H' h=>bI.mk_T h
 ·exact fun args H v H' h=>bh.mk_T h
theorem bs.ok:codeOk bs.pn Try.f157.ntmps bs.tb bs.code = true:=by kernel_rfl
theorem bs.T {F:Nat} {aa:Sl} {ai:Int} {H:Hp} {v:AV} {H':Hp} (h:bs.tw F aa ai H = some (v,H')):Go.AE.T Try.prog 157 [(.sl aa),(.int .i64 ai)] H v H':=
 Go.AE.T.of (Y:=tabs) (C:=mkOrc (bs.cs F (bI.tw F) (bh.tw F))) (PN:=bs.pn) (LH:=bs.lh F (bI.tw F) (bh.tw F)) (F:=F) (TB:=bs.tb) (fn:=Try.f157) (code:=bs.code) mixed tabs_ok (mkOrc_ok (bs.cs_ok F)) Try.func157 (by kernel_rfl) (by kernel_rfl) bs.ok (Nat.le_of_ble_eq_true (by kernel_rfl)) (bs.loops F (bI.tw F) (bh.tw F)) (Eq.trans (bs.eqX F (bI.tw F) (bh.tw F) aa ai H) h)
theorem bs.mk_T {F:Nat} {args:List AV} {H:Hp} {v:AV} {H':Hp} (h:bs.mk (bs.tw F) args H = some (v,H')):Go.AE.T Try.prog 157 args H v H':=by
 unfold bs.mk at h
 split at h
 ·exact bs.T h
 ·cases h
noncomputable def aw.l3931 (F:Nat) (ca:Sl→Int→Hp→OA) (bO:Int→Int→Int→Int→Int→Hp→OA) (bP:Int→Int→Int→Int→Int→Int→Hp→OA) (cb:Sl→Int→Hp→OA) (C61_:Nat→Nat→Nat→Nat→Sl→Int→Int→Hp→OA):Nat→Nat→Nat→Nat→Nat→Sl→Int→Int→Nat→Nat→Int→Int→Int→Int→Int→Int→Hp→OA
 | 0,_,_,_,_,_,_,_,_,_,_,_,_,_,_,_,_=>none
 | xD + 1,bW,cg,cn,cB,fP,dw,dQ,db,eB,cC,cD,cE,cF,cG,b_,H233=>(bif (decide (b_ < 4)) then ((if 0 ≤ b_∧b_ < (4:Int) then (([(.int .i64 cD),(.int .i64 cE),(.int .i64 cF),(.int .i64 cG)]:List AV)[(b_:Int).toNat * 1]?).bind fun v283=>((v283).asI .i64).bind fun n284=>(Hp.ldSl H233 cn cB).bind fun s285=>(Hp.ldI H233 .i64 db eB).bind fun n286=>(Hp.ldI H233 .i64 db (eB + 1)).bind fun n287=>(Hp.ldI H233 .i64 db (eB + 2)).bind fun n288=>(Hp.ldI H233 .i64 db (eB + 3)).bind fun n289=>(Hp.ldI H233 .i64 db (eB + 4)).bind fun n290=>(bP n286 n287 n288 n289 n290 b_ H233).bind fun r291=>((r291.1).asB).bind fun b292=>(bif b292 then ((Hp.ldSl r291.2 cn (cB + 1)).bind fun s293=>(cb s293 n284 r291.2).bind fun r294=>((r294.1).asB).bind fun b295=>(bif (!b295) then ((Hp.ldSl r294.2 cn cB).bind fun s296=>(Hp.ldSl r294.2 cn (cB + 1)).bind fun s297=>(Hp.st r294.2 bW cg (.sl s296)).bind fun H298=>(Hp.st H298 bW (cg + 1) (.sl s297)).bind fun H299=>(Hp.ldSl H299 bW cg).bind fun s300=>(Hp.ldSl H299 bW (cg + 1)).bind fun s301=>some ((.tup [(.agg [(.sl s300),(.sl s301)]),(.bool false)]),H299)) else ((Sl.idx s293 n284 2).bind fun p302=>(Hp.ldI r294.2 .i64 p302.1 p302.2).bind fun n303=>(bif (decide (n303 ≥ 0)) then ((Hp.ldSl r294.2 cn cB).bind fun s304=>(Hp.ldSl r294.2 cn (cB + 1)).bind fun s305=>(Hp.st r294.2 bW cg (.sl s304)).bind fun H306=>(Hp.st H306 bW (cg + 1) (.sl s305)).bind fun H307=>(Hp.ldSl H307 bW cg).bind fun s308=>(Hp.ldSl H307 bW (cg + 1)).bind fun s309=>some ((.tup [(.agg [(.sl s308),(.sl s309)]),(.bool false)]),H307)) else ((Sl.idx s293 n284 2).bind fun p310=>(Hp.st r294.2 p310.1 p310.2 (.int .i64 cC)).bind fun H311=>(Hp.st H311 p310.1 (p310.2 + 1) (.int .i64 b_)).bind fun H312=>aw.l3931 F ca bO bP cb C61_ xD bW cg cn cB fP dw dQ db eB cC cD cE cF cG (IntKind.i64.wrap (b_ + 1)) H312))))) else ((cb s285 n284 r291.2).bind fun r313=>((r313.1).asB).bind fun b314=>(bif (!b314) then ((Hp.ldSl r313.2 cn cB).bind fun s315=>(Hp.ldSl r313.2 cn (cB + 1)).bind fun s316=>(Hp.st r313.2 bW cg (.sl s315)).bind fun H317=>(Hp.st H317 bW (cg + 1) (.sl s316)).bind fun H318=>(Hp.ldSl H318 bW cg).bind fun s319=>(Hp.ldSl H318 bW (cg + 1)).bind fun s320=>some ((.tup [(.agg [(.sl s319),(.sl s320)]),(.bool false)]),H318)) else ((Sl.idx s285 n284 2).bind fun p321=>(Hp.ldI r313.2 .i64 p321.1 p321.2).bind fun n322=>(bif (decide (n322 ≥ 0)) then ((Hp.ldSl r313.2 cn cB).bind fun s323=>(Hp.ldSl r313.2 cn (cB + 1)).bind fun s324=>(Hp.st r313.2 bW cg (.sl s323)).bind fun H325=>(Hp.st H325 bW (cg + 1) (.sl s324)).bind fun H326=>(Hp.ldSl H326 bW cg).bind fun s327=>(Hp.ldSl H326 bW (cg + 1)).bind fun s328=>some ((.tup [(.agg [(.sl s327),(.sl s328)]),(.bool false)]),H326)) else ((Sl.idx s285 n284 2).bind fun p329=>(Hp.st r313.2 p329.1 p329.2 (.int .i64 cC)).bind fun H330=>(Hp.st H330 p329.1 (p329.2 + 1) (.int .i64 b_)).bind fun H331=>aw.l3931 F ca bO bP cb C61_ xD bW cg cn cB fP dw dQ db eB cC cD cE cF cG (IntKind.i64.wrap (b_ + 1)) H331)))))) else none)) else (C61_ bW cg cn cB fP dw (IntKind.i64.wrap (dQ + 1)) H233))
termination_by structural n=>n
noncomputable def aw.l61 (F:Nat) (ca:Sl→Int→Hp→OA) (bO:Int→Int→Int→Int→Int→Hp→OA) (bP:Int→Int→Int→Int→Int→Int→Hp→OA) (cb:Sl→Int→Hp→OA) :Nat→Nat→Nat→Nat→Nat→Sl→Int→Int→Hp→OA
 | 0,_,_,_,_,_,_,_,_=>none
 | bm + 1,dR,fu,bQ,f_,gP,eN,dS,H29=>(bif (decide (dS < eN)) then ((Sl.idx gP dS 5).bind fun p184=>(Hp.ldI H29 .i64 p184.1 p184.2).bind fun n185=>(Hp.ldI H29 .i64 p184.1 (p184.2 + 1)).bind fun n186=>(Hp.ldI H29 .i64 p184.1 (p184.2 + 2)).bind fun n187=>(Hp.ldI H29 .i64 p184.1 (p184.2 + 3)).bind fun n188=>(Hp.ldI H29 .i64 p184.1 (p184.2 + 4)).bind fun n189=>(Hp.new H29 [.int .i64 0,.int .i64 0,.int .i64 0,.int .i64 0,.int .i64 0]).bind fun H190=>(Hp.st H190 H29.length 0 (.int .i64 n185)).bind fun H191=>(Hp.st H191 H29.length (0 + 1) (.int .i64 n186)).bind fun H192=>(Hp.st H192 H29.length (0 + 1 + 1) (.int .i64 n187)).bind fun H193=>(Hp.st H193 H29.length (0 + 1 + 1 + 1) (.int .i64 n188)).bind fun H194=>(Hp.st H194 H29.length (0 + 1 + 1 + 1 + 1) (.int .i64 n189)).bind fun H195=>(Hp.ldI H195 .i64 H29.length 0).bind fun n196=>(Hp.ldI H195 .i64 H29.length (0 + 1)).bind fun n197=>(Hp.ldI H195 .i64 H29.length (0 + 2)).bind fun n198=>(Hp.ldI H195 .i64 H29.length (0 + 3)).bind fun n199=>(Hp.ldI H195 .i64 H29.length (0 + 4)).bind fun n200=>(bO n196 n197 n198 n199 n200 H195).bind fun r201=>((r201.1).asAgg 4).bind fun l202=>(l202[0]?).bind fun v203=>((v203).asI .i64).bind fun n204=>(l202[1]?).bind fun v205=>((v205).asI .i64).bind fun n206=>(l202[2]?).bind fun v207=>((v207).asI .i64).bind fun n208=>(l202[3]?).bind fun v209=>((v209).asI .i64).bind fun n210=>aw.l3931 F ca bO bP cb (aw.l61 F ca bO bP cb bm) F dR fu bQ f_ gP eN dS H29.length 0 dS n204 n206 n208 n210 0 r201.2) else ((Hp.ldSl H29 bQ f_).bind fun s332=>(Hp.ldSl H29 bQ (f_ + 1)).bind fun s333=>(Hp.st H29 dR fu (.sl s332)).bind fun H334=>(Hp.st H334 dR (fu + 1) (.sl s333)).bind fun H335=>(Hp.ldSl H335 dR fu).bind fun s336=>(Hp.ldSl H335 dR (fu + 1)).bind fun s337=>some ((.tup [(.agg [(.sl s336),(.sl s337)]),(.bool true)]),H335)))
termination_by structural n=>n
noncomputable def aw.twX (F:Nat) (ca:Sl→Int→Hp→OA) (bO:Int→Int→Int→Int→Int→Hp→OA) (bP:Int→Int→Int→Int→Int→Int→Hp→OA) (cb:Sl→Int→Hp→OA) (aa:Sl) (ab:Int) (H:Hp):OA:=(Hp.new H [(.sl aa),(.int .i64 ab)]).bind fun H3=>(Hp.new H3 [.sl ⟨none,0,.ex 0⟩,.sl ⟨none,0,.ex 0⟩]).bind fun H4=>(Hp.ldSl H4 H.length 0).bind fun s5=>(Hp.new H4 [(.int .i64 (-1)),(.int .i64 0)]).bind fun H6=>(ca (⟨some (H4.length,0),1,.ex 1⟩:Sl) (IntKind.i64.wrap (2 * (s5.n:Int))) H6).bind fun r7=>((r7.1).asSl).bind fun s8=>(Hp.new r7.2 [(.int .i64 (-1)),(.int .i64 0)]).bind fun H9=>(ca (⟨some (r7.2.length,0),1,.ex 1⟩:Sl) (IntKind.i64.wrap (2 * (s5.n:Int))) H9).bind fun r10=>((r10.1).asSl).bind fun s11=>(Hp.new r10.2 [.sl ⟨none,0,.ex 0⟩,.sl ⟨none,0,.ex 0⟩]).bind fun H12=>(Hp.st H12 r10.2.length 0 (.sl s8)).bind fun H13=>(Hp.st H13 r10.2.length (0 + 1) (.sl s11)).bind fun H14=>(Hp.ldSl H14 H.length 0).bind fun s15=>aw.l61 F ca bO bP cb F H3.length 0 r10.2.length 0 s15 (s15.n:Int) 0 H14
noncomputable def aw.tw (F:Nat) (aa:Sl) (ab:Int) (H:Hp):OA:=aw.twX F (aM.tw F) (bf.tw F) (bg.tw F) (bs.tw F) aa ab H
noncomputable def aw.code:Go.Code:=(Try.f125.body).getD .skip
noncomputable def aw.lh61 (F:Nat) (ca:Sl→Int→Hp→OA) (bO:Int→Int→Int→Int→Int→Hp→OA) (bP:Int→Int→Int→Int→Int→Int→Hp→OA) (cb:Sl→Int→Hp→OA) (ks:List Nat) (n:Nat) (tm:Tm) (H:Hp):OA:=match ks,tm 2,tm 5,tm 25,tm 26,tm 27 with
 | [],(.ptr dR fu),(.ptr bQ f_),(.sl gP),(.int .i64 eN),(.int .i64 dS)=>aw.l61 F ca bO bP cb n dR fu bQ f_ gP eN dS H
 | _,_,_,_,_,_=>none
theorem aw.lh61_inv {F:Nat} {ca:Sl→Int→Hp→OA} {bO:Int→Int→Int→Int→Int→Hp→OA} {bP:Int→Int→Int→Int→Int→Int→Hp→OA} {cb:Sl→Int→Hp→OA} {ks:List Nat} {n:Nat} {tm:Tm} {H:Hp} {r:AV×Hp} (h:aw.lh61 F ca bO bP cb ks n tm H = some r):∃ dR:Nat,∃ fu:Nat,∃ bQ:Nat,∃ f_:Nat,∃ gP:Sl,∃ eN:Int,∃ dS:Int,ks = []∧tm 2 = (.ptr dR fu)∧tm 5 = (.ptr bQ f_)∧tm 25 = (.sl gP)∧tm 26 = (.int .i64 eN)∧tm 27 = (.int .i64 dS)∧aw.l61 F ca bO bP cb n dR fu bQ f_ gP eN dS H = some r:=by
 unfold aw.lh61 at h
 split at h
 ·exact ⟨_,_,_,_,_,_,_,rfl,by assumption,by assumption,by assumption,by assumption,by assumption,h⟩
 ·cases h
noncomputable def aw.lh3931 (F:Nat) (ca:Sl→Int→Hp→OA) (bO:Int→Int→Int→Int→Int→Hp→OA) (bP:Int→Int→Int→Int→Int→Int→Hp→OA) (cb:Sl→Int→Hp→OA) (ks:List Nat) (n:Nat) (tm:Tm) (H:Hp):OA:=match ks,tm 2,tm 5,tm 6,tm 7,tm 25,tm 26,tm 27,tm 33,tm 34 with
 | [bm],(.ptr bW cg),(.ptr cn cB),(.int .i64 cC),(.ptr db eB),(.sl fP),(.int .i64 dw),(.int .i64 dQ),(.agg [(.int .i64 cD),(.int .i64 cE),(.int .i64 cF),(.int .i64 cG)]),(.int .i64 b_)=>aw.l3931 F ca bO bP cb (aw.l61 F ca bO bP cb bm) n bW cg cn cB fP dw dQ db eB cC cD cE cF cG b_ H
 | _,_,_,_,_,_,_,_,_,_=>none
theorem aw.lh3931_inv {F:Nat} {ca:Sl→Int→Hp→OA} {bO:Int→Int→Int→Int→Int→Hp→OA} {bP:Int→Int→Int→Int→Int→Int→Hp→OA} {cb:Sl→Int→Hp→OA} {ks:List Nat} {n:Nat} {tm:Tm} {H:Hp} {r:AV×Hp} (h:aw.lh3931 F ca bO bP cb ks n tm H = some r):∃ bm:Nat,∃ bW:Nat,∃ cg:Nat,∃ cn:Nat,∃ cB:Nat,∃ cC:Int,∃ db:Nat,∃ eB:Nat,∃ fP:Sl,∃ dw:Int,∃ dQ:Int,∃ cD:Int,∃ cE:Int,∃ cF:Int,∃ cG:Int,∃ b_:Int,ks = [bm]∧tm 2 = (.ptr bW cg)∧tm 5 = (.ptr cn cB)∧tm 6 = (.int .i64 cC)∧tm 7 = (.ptr db eB)∧tm 25 = (.sl fP)∧tm 26 = (.int .i64 dw)∧tm 27 = (.int .i64 dQ)∧tm 33 = (.agg [(.int .i64 cD),(.int .i64 cE),(.int .i64 cF),(.int .i64 cG)])∧tm 34 = (.int .i64 b_)∧aw.l3931 F ca bO bP cb (aw.l61 F ca bO bP cb bm) n bW cg cn cB fP dw dQ db eB cC cD cE cF cG b_ H = some r:=by
 unfold aw.lh3931 at h
 split at h
 ·exact ⟨_,_,_,_,_,_,_,_,_,_,_,_,_,_,_,_,rfl,by assumption,by assumption,by assumption,by assumption,by assumption,by assumption,by assumption,by assumption,by assumption,h⟩
 ·cases h
noncomputable def aw.lh (F:Nat) (ca:Sl→Int→Hp→OA) (bO:Int→Int→Int→Int→Int→Hp→OA) (bP:Int→Int→Int→Int→Int→Int→Hp→OA) (cb:Sl→Int→Hp→OA) (p:Nat) (ks:List Nat) (n:Nat) (tm:Tm) (H:Hp):OA:=bif p.beq 3931 then aw.lh3931 F ca bO bP cb ks n tm H else (bif p.beq 61 then aw.lh61 F ca bO bP cb ks n tm H else (none))
def aw.pn:Nat→List Nat:=fun i=>(([]:List (Nat×List Nat)).lookup i).getD []
def aw.tb:Nat→List (List Nat):=fun i=>(([]:List (Nat×List (List Nat))).lookup i).getD []
noncomputable def aw.mk (g:Sl→Int→Hp→OA) (args:List AV) (H:Hp):OA:=match args with
 | [(.agg [(.sl aa),(.int .i64 ab)])]=>g aa ab H
 | _=>none
noncomputable def aw.cs (F:Nat) (ca:Sl→Int→Hp→OA) (bO:Int→Int→Int→Int→Int→Hp→OA) (bP:Int→Int→Int→Int→Int→Int→Hp→OA) (cb:Sl→Int→Hp→OA):List (FuncId×(List AV→Hp→OA)):=[(154,aM.mk ca),(155,bf.mk bO),(156,bg.mk bP),(157,bs.mk cb)]
theorem aw.loops (F:Nat) (ca:Sl→Int→Hp→OA) (bO:Int→Int→Int→Int→Int→Hp→OA) (bP:Int→Int→Int→Int→Int→Int→Hp→OA) (cb:Sl→Int→Hp→OA):LoopsOk tabs (mkOrc (aw.cs F ca bO bP cb)) aw.pn (aw.lh F ca bO bP cb) F [] 1 aw.code (fun tm H=>aresults tabs.ty H tm Try.f125.results.toList fun v=>some (v,H)) (fun _ _ _=>none) (fun tm H=>aresults tabs.ty H tm Try.f125.results.toList fun v=>some (v,H)):=by
 refine LoopsOk.seq ?_ ?_
 ·exact loops_none (by kernel_rfl)
 ·refine LoopsOk.seq ?_ ?_
  ·exact loops_none (by kernel_rfl)
  ·refine LoopsOk.seq ?_ ?_
   ·exact loops_none (by kernel_rfl)
   ·refine LoopsOk.seq ?_ ?_
    ·refine LoopsOk.seq ?_ ?_
     ·exact loops_none (by kernel_rfl)
     ·refine LoopsOk.block ?_
      refine LoopsOk.loop (fun tm H=>?_) (fun k61 tm H r h0=>?_) (fun k61=>?_)
      ·refine none_of fun r h0=>?_
       obtain ⟨dR,fu,bQ,f_,gP,eN,dS,hks,e2,e5,e25,e26,e27,h⟩:=aw.lh61_inv (show aw.lh61 F ca bO bP cb [] 0 tm H = some r from h0)
       cases h
      ·obtain ⟨dR,fu,bQ,f_,gP,eN,dS,hks,e2,e5,e25,e26,e27,h⟩:=aw.lh61_inv (show aw.lh61 F ca bO bP cb [] (k61 + 1) tm H = some r from h0)
       have q0:(Tm.put tm 2 (.ptr dR fu)) = tm:=by exact Tm.put_same e2
       have q1:(Tm.put (Tm.put tm 2 (.ptr dR fu)) 5 (.ptr bQ f_)) = tm:=by rw [q0]; exact Tm.put_same e5
       have q2:(Tm.put (Tm.put (Tm.put tm 2 (.ptr dR fu)) 5 (.ptr bQ f_)) 25 (.sl gP)) = tm:=by rw [q1]; exact Tm.put_same e25
       have q3:(Tm.put (Tm.put (Tm.put (Tm.put tm 2 (.ptr dR fu)) 5 (.ptr bQ f_)) 25 (.sl gP)) 26 (.int .i64 eN)) = tm:=by rw [q2]; exact Tm.put_same e26
       have q4:(Tm.put (Tm.put (Tm.put (Tm.put (Tm.put tm 2 (.ptr dR fu)) 5 (.ptr bQ f_)) 25 (.sl gP)) 26 (.int .i64 eN)) 27 (.int .i64 dS)) = tm:=by rw [q3]; exact Tm.put_same e27
       rw [← q4]
       exact Eq.trans (by kernel_rfl) h
      ·refine LoopsOk.seq ?_ ?_
       ·exact loops_none (by kernel_rfl)
       ·refine LoopsOk.seq ?_ ?_
        ·exact loops_none (by kernel_rfl)
        ·refine LoopsOk.seq ?_ ?_
         ·refine LoopsOk.block ?_
          refine LoopsOk.seq ?_ ?_
          ·exact loops_none (by kernel_rfl)
          ·refine LoopsOk.seq ?_ ?_
           ·exact loops_none (by kernel_rfl)
           ·refine LoopsOk.block ?_
            refine LoopsOk.loop (fun tm H=>?_) (fun k3931 tm H r h0=>?_) (fun k3931=>?_)
            ·refine none_of fun r h0=>?_
             obtain ⟨bm,bW,cg,cn,cB,cC,db,eB,fP,dw,dQ,cD,cE,cF,cG,b_,hks,e2,e5,e6,e7,e25,e26,e27,e33,e34,h⟩:=aw.lh3931_inv (show aw.lh3931 F ca bO bP cb [k61] 0 tm H = some r from h0)
             cases h
            ·obtain ⟨bm,bW,cg,cn,cB,cC,db,eB,fP,dw,dQ,cD,cE,cF,cG,b_,hks,e2,e5,e6,e7,e25,e26,e27,e33,e34,h⟩:=aw.lh3931_inv (show aw.lh3931 F ca bO bP cb [k61] (k3931 + 1) tm H = some r from h0)
             obtain rfl:bm = k61:=by simpa [eq_comm] using hks
             have q0:(Tm.put tm 2 (.ptr bW cg)) = tm:=by exact Tm.put_same e2
             have q1:(Tm.put (Tm.put tm 2 (.ptr bW cg)) 5 (.ptr cn cB)) = tm:=by rw [q0]; exact Tm.put_same e5
             have q2:(Tm.put (Tm.put (Tm.put tm 2 (.ptr bW cg)) 5 (.ptr cn cB)) 6 (.int .i64 cC)) = tm:=by rw [q1]; exact Tm.put_same e6
             have q3:(Tm.put (Tm.put (Tm.put (Tm.put tm 2 (.ptr bW cg)) 5 (.ptr cn cB)) 6 (.int .i64 cC)) 7 (.ptr db eB)) = tm:=by rw [q2]; exact Tm.put_same e7
             have q4:(Tm.put (Tm.put (Tm.put (Tm.put (Tm.put tm 2 (.ptr bW cg)) 5 (.ptr cn cB)) 6 (.int .i64 cC)) 7 (.ptr db eB)) 25 (.sl fP)) = tm:=by rw [q3]; exact Tm.put_same e25
             have q5:(Tm.put (Tm.put (Tm.put (Tm.put (Tm.put (Tm.put tm 2 (.ptr bW cg)) 5 (.ptr cn cB)) 6 (.int .i64 cC)) 7 (.ptr db eB)) 25 (.sl fP)) 26 (.int .i64 dw)) = tm:=by rw [q4]; exact Tm.put_same e26
             have q6:(Tm.put (Tm.put (Tm.put (Tm.put (Tm.put (Tm.put (Tm.put tm 2 (.ptr bW cg)) 5 (.ptr cn cB)) 6 (.int .i64 cC)) 7 (.ptr db eB)) 25 (.sl fP)) 26 (.int .i64 dw)) 27 (.int .i64 dQ)) = tm:=by rw [q5]; exact Tm.put_same e27
             have q7:(Tm.put (Tm.put (Tm.put (Tm.put (Tm.put (Tm.put (Tm.put (Tm.put tm 2 (.ptr bW cg)) 5 (.ptr cn cB)) 6 (.int .i64 cC)) 7 (.ptr db eB)) 25 (.sl fP)) 26 (.int .i64 dw)) 27 (.int .i64 dQ)) 33 (.agg [(.int .i64 cD),(.int .i64 cE),(.int .i64 cF),(.int .i64 cG)])) = tm:=by rw [q6]; exact Tm.put_same e33
             have q8:(Tm.put (Tm.put (Tm.put (Tm.put (Tm.put (Tm.put (Tm.put (Tm.put (Tm.put tm 2 (.ptr bW cg)) 5 (.ptr cn cB)) 6 (.int .i64 cC)) 7 (.ptr db eB)) 25 (.sl fP)) 26 (.int .i64 dw)) 27 (.int .i64 dQ)) 33 (.agg [(.int .i64 cD),(.int .i64 cE),(.int .i64 cF),(.int .i64 cG)])) 34 (.int .i64 b_)) = tm:=by rw [q7]; exact Tm.put_same e34
             rw [← q8]
             exact Eq.trans (by kernel_rfl) h
            ·exact loops_none (by kernel_rfl)
         ·exact loops_none (by kernel_rfl)
    ·exact loops_none (by kernel_rfl)
theorem aw.eqX (F:Nat) (ca:Sl→Int→Hp→OA) (bO:Int→Int→Int→Int→Int→Hp→OA) (bP:Int→Int→Int→Int→Int→Int→Hp→OA) (cb:Sl→Int→Hp→OA) (aa:Sl) (ab:Int) (H:Hp):aCode tabs (mkOrc (aw.cs F ca bO bP cb)) aw.pn (aw.lh F ca bO bP cb) F [] 1 aw.code (argTm [(.agg [(.sl aa),(.int .i64 ab)])]) H (fun tm H=>aresults tabs.ty H tm Try.f125.results.toList fun v=>some (v,H)) (fun _ _ _=>none) (fun tm H=>aresults tabs.ty H tm Try.f125.results.toList fun v=>some (v,H)) = aw.twX F ca bO bP cb aa ab H:=by kernel_rfl
theorem aw.cs_ok (F:Nat):∀ p ∈ aw.cs F (aM.tw F) (bf.tw F) (bg.tw F) (bs.tw F),∀ args H v H',p.2 args H = some (v,H')→Go.AE.T Try.prog p.1 args H v H':=by
 intro p hp
 simp only [aw.cs,List.mem_cons,List.not_mem_nil,or_false] at hp
 rcases hp with rfl | rfl | rfl | rfl
 ·exact fun args H v H' h=>aM.mk_T h
 ·exact fun args H v H' h=>bf.mk_T h
 ·exact fun args H v H' h=>bg.mk_T h
 ·exact fun args H v H' h=>bs.mk_T h
theorem aw.ok:codeOk aw.pn Try.f125.ntmps aw.tb aw.code = true:=by kernel_rfl
theorem aw.T {F:Nat} {aa:Sl} {ab:Int} {H:Hp} {v:AV} {H':Hp} (h:aw.tw F aa ab H = some (v,H')):Go.AE.T Try.prog 125 [(.agg [(.sl aa),(.int .i64 ab)])] H v H':=
 Go.AE.T.of (Y:=tabs) (C:=mkOrc (aw.cs F (aM.tw F) (bf.tw F) (bg.tw F) (bs.tw F))) (PN:=aw.pn) (LH:=aw.lh F (aM.tw F) (bf.tw F) (bg.tw F) (bs.tw F)) (F:=F) (TB:=aw.tb) (fn:=Try.f125) (code:=aw.code) mixed tabs_ok (mkOrc_ok (aw.cs_ok F)) Try.func125 (by kernel_rfl) (by kernel_rfl) aw.ok (Nat.le_of_ble_eq_true (by kernel_rfl)) (aw.loops F (aM.tw F) (bf.tw F) (bg.tw F) (bs.tw F)) (Eq.trans (aw.eqX F (aM.tw F) (bf.tw F) (bg.tw F) (bs.tw F) aa ab H) h)
theorem aw.mk_T {F:Nat} {args:List AV} {H:Hp} {v:AV} {H':Hp} (h:aw.mk (aw.tw F) args H = some (v,H')):Go.AE.T Try.prog 125 args H v H':=by
 unfold aw.mk at h
 split at h
 ·exact aw.T h
 ·cases h
noncomputable def bo.twX (F:Nat) (bO:Int→Int→Int→Int→Int→Hp→OA) (bP:Int→Int→Int→Int→Int→Int→Hp→OA) (aa:Sl) (ab:Int) (ae:Sl) (aL:Sl) (bM:Int) (dU:Int) (H:Hp):OA:=(Hp.new H [(.sl aa),(.int .i64 ab)]).bind fun H7=>(Hp.new H7 [(.sl ae),(.sl aL)]).bind fun H8=>(Hp.new H8 [(.int .i64 bM),(.int .i64 dU)]).bind fun H9=>(Hp.new H9 [.int .i64 0,.int .i64 0]).bind fun H10=>(Hp.ldSl H10 H.length 0).bind fun s11=>(Hp.ldI H10 .i64 H8.length 0).bind fun n12=>(Sl.idx s11 n12 5).bind fun p13=>(Hp.ldI H10 .i64 p13.1 p13.2).bind fun n14=>(Hp.ldI H10 .i64 p13.1 (p13.2 + 1)).bind fun n15=>(Hp.ldI H10 .i64 p13.1 (p13.2 + 2)).bind fun n16=>(Hp.ldI H10 .i64 p13.1 (p13.2 + 3)).bind fun n17=>(Hp.ldI H10 .i64 p13.1 (p13.2 + 4)).bind fun n18=>(Hp.new H10 [.int .i64 0,.int .i64 0,.int .i64 0,.int .i64 0,.int .i64 0]).bind fun H19=>(Hp.st H19 H10.length 0 (.int .i64 n14)).bind fun H20=>(Hp.st H20 H10.length (0 + 1) (.int .i64 n15)).bind fun H21=>(Hp.st H21 H10.length (0 + 1 + 1) (.int .i64 n16)).bind fun H22=>(Hp.st H22 H10.length (0 + 1 + 1 + 1) (.int .i64 n17)).bind fun H23=>(Hp.st H23 H10.length (0 + 1 + 1 + 1 + 1) (.int .i64 n18)).bind fun H24=>(Hp.ldI H24 .i64 H10.length 0).bind fun n25=>(Hp.ldI H24 .i64 H10.length (0 + 1)).bind fun n26=>(Hp.ldI H24 .i64 H10.length (0 + 2)).bind fun n27=>(Hp.ldI H24 .i64 H10.length (0 + 3)).bind fun n28=>(Hp.ldI H24 .i64 H10.length (0 + 4)).bind fun n29=>(bO n25 n26 n27 n28 n29 H24).bind fun r30=>((r30.1).asAgg 4).bind fun l31=>(l31[0]?).bind fun v32=>((v32).asI .i64).bind fun n33=>(l31[1]?).bind fun v34=>((v34).asI .i64).bind fun n35=>(l31[2]?).bind fun v36=>((v36).asI .i64).bind fun n37=>(l31[3]?).bind fun v38=>((v38).asI .i64).bind fun n39=>(if Cons H24 r30.2 then ((Hp.ldI r30.2 .i64 H8.length 1).bind fun n40=>(if 0 ≤ n40∧n40 < (4:Int) then (([(.int .i64 n33),(.int .i64 n35),(.int .i64 n37),(.int .i64 n39)]:List AV)[(n40:Int).toNat * 1]?).bind fun v41=>((v41).asI .i64).bind fun n42=>(Hp.ldI r30.2 .i64 H10.length 0).bind fun n43=>(Hp.ldI r30.2 .i64 H10.length (0 + 1)).bind fun n44=>(Hp.ldI r30.2 .i64 H10.length (0 + 2)).bind fun n45=>(Hp.ldI r30.2 .i64 H10.length (0 + 3)).bind fun n46=>(Hp.ldI r30.2 .i64 H10.length (0 + 4)).bind fun n47=>(Hp.ldI r30.2 .i64 H8.length 1).bind fun n48=>(bP n43 n44 n45 n46 n47 n48 r30.2).bind fun r49=>((r49.1).asB).bind fun b50=>(bif b50 then ((Hp.ldSl r49.2 H7.length 0).bind fun s51=>(Sl.idx s51 n42 2).bind fun p52=>(Hp.ldI r49.2 .i64 p52.1 p52.2).bind fun n53=>(Hp.ldI r49.2 .i64 p52.1 (p52.2 + 1)).bind fun n54=>(Hp.st r49.2 H9.length 0 (.int .i64 n53)).bind fun H55=>(Hp.st H55 H9.length (0 + 1) (.int .i64 n54)).bind fun H56=>(Hp.ldI H56 .i64 H9.length 0).bind fun n57=>(Hp.ldI H56 .i64 H9.length (0 + 1)).bind fun n58=>some ((.agg [(.int .i64 n57),(.int .i64 n58)]),H56)) else ((Hp.ldSl r49.2 H7.length 1).bind fun s59=>(Sl.idx s59 n42 2).bind fun p60=>(Hp.ldI r49.2 .i64 p60.1 p60.2).bind fun n61=>(Hp.ldI r49.2 .i64 p60.1 (p60.2 + 1)).bind fun n62=>(Hp.st r49.2 H9.length 0 (.int .i64 n61)).bind fun H63=>(Hp.st H63 H9.length (0 + 1) (.int .i64 n62)).bind fun H64=>(Hp.ldI H64 .i64 H9.length 0).bind fun n65=>(Hp.ldI H64 .i64 H9.length (0 + 1)).bind fun n66=>some ((.agg [(.int .i64 n65),(.int .i64 n66)]),H64))) else none)) else none)
noncomputable def bo.tw (F:Nat) (aa:Sl) (ab:Int) (ae:Sl) (aL:Sl) (bM:Int) (dU:Int) (H:Hp):OA:=bo.twX F (bf.tw F) (bg.tw F) aa ab ae aL bM dU H
noncomputable def bo.code:Go.Code:=(Try.f139.body).getD .skip
noncomputable def bo.lh (F:Nat) (bO:Int→Int→Int→Int→Int→Hp→OA) (bP:Int→Int→Int→Int→Int→Int→Hp→OA) (p:Nat) (ks:List Nat) (n:Nat) (tm:Tm) (H:Hp):OA:=none
def bo.pn:Nat→List Nat:=fun i=>(([(2,[])]:List (Nat×List Nat)).lookup i).getD []
def bo.tb:Nat→List (List Nat):=fun i=>(([(2,[[],[0],[],[2],[0,1,2,3],[0,1,2,3,4]])]:List (Nat×List (List Nat))).lookup i).getD []
noncomputable def bo.mk (g:Sl→Int→Sl→Sl→Int→Int→Hp→OA) (args:List AV) (H:Hp):OA:=match args with
 | [(.agg [(.sl aa),(.int .i64 ab)]),(.agg [(.sl ae),(.sl aL)]),(.agg [(.int .i64 bM),(.int .i64 dU)])]=>g aa ab ae aL bM dU H
 | _=>none
noncomputable def bo.cs (F:Nat) (bO:Int→Int→Int→Int→Int→Hp→OA) (bP:Int→Int→Int→Int→Int→Int→Hp→OA):List (FuncId×(List AV→Hp→OA)):=[(155,bf.mk bO),(156,bg.mk bP)]
theorem bo.loops (F:Nat) (bO:Int→Int→Int→Int→Int→Hp→OA) (bP:Int→Int→Int→Int→Int→Int→Hp→OA):LoopsOk tabs (mkOrc (bo.cs F bO bP)) bo.pn (bo.lh F bO bP) F [] 1 bo.code (fun tm H=>aresults tabs.ty H tm Try.f139.results.toList fun v=>some (v,H)) (fun _ _ _=>none) (fun tm H=>aresults tabs.ty H tm Try.f139.results.toList fun v=>some (v,H)):=by
 exact loops_none (by kernel_rfl)
theorem bo.eqX (F:Nat) (bO:Int→Int→Int→Int→Int→Hp→OA) (bP:Int→Int→Int→Int→Int→Int→Hp→OA) (aa:Sl) (ab:Int) (ae:Sl) (aL:Sl) (bM:Int) (dU:Int) (H:Hp):aCode tabs (mkOrc (bo.cs F bO bP)) bo.pn (bo.lh F bO bP) F [] 1 bo.code (argTm [(.agg [(.sl aa),(.int .i64 ab)]),(.agg [(.sl ae),(.sl aL)]),(.agg [(.int .i64 bM),(.int .i64 dU)])]) H (fun tm H=>aresults tabs.ty H tm Try.f139.results.toList fun v=>some (v,H)) (fun _ _ _=>none) (fun tm H=>aresults tabs.ty H tm Try.f139.results.toList fun v=>some (v,H)) = bo.twX F bO bP aa ab ae aL bM dU H:=by kernel_rfl
theorem bo.cs_ok (F:Nat):∀ p ∈ bo.cs F (bf.tw F) (bg.tw F),∀ args H v H',p.2 args H = some (v,H')→Go.AE.T Try.prog p.1 args H v H':=by
 intro p hp
 simp only [bo.cs,List.mem_cons,List.not_mem_nil,or_false] at hp
 rcases hp with rfl | rfl
 ·exact fun args H v H' h=>bf.mk_T h
 ·exact fun args H v H' h=>bg.mk_T h
theorem bo.ok:codeOk bo.pn Try.f139.ntmps bo.tb bo.code = true:=by kernel_rfl
theorem bo.T {F:Nat} {aa:Sl} {ab:Int} {ae:Sl} {aL:Sl} {bM:Int} {dU:Int} {H:Hp} {v:AV} {H':Hp} (h:bo.tw F aa ab ae aL bM dU H = some (v,H')):Go.AE.T Try.prog 139 [(.agg [(.sl aa),(.int .i64 ab)]),(.agg [(.sl ae),(.sl aL)]),(.agg [(.int .i64 bM),(.int .i64 dU)])] H v H':=
 Go.AE.T.of (Y:=tabs) (C:=mkOrc (bo.cs F (bf.tw F) (bg.tw F))) (PN:=bo.pn) (LH:=bo.lh F (bf.tw F) (bg.tw F)) (F:=F) (TB:=bo.tb) (fn:=Try.f139) (code:=bo.code) mixed tabs_ok (mkOrc_ok (bo.cs_ok F)) Try.func139 (by kernel_rfl) (by kernel_rfl) bo.ok (Nat.le_of_ble_eq_true (by kernel_rfl)) (bo.loops F (bf.tw F) (bg.tw F)) (Eq.trans (bo.eqX F (bf.tw F) (bg.tw F) aa ab ae aL bM dU H) h)
theorem bo.mk_T {F:Nat} {args:List AV} {H:Hp} {v:AV} {H':Hp} (h:bo.mk (bo.tw F) args H = some (v,H')):Go.AE.T Try.prog 139 args H v H':=by
 unfold bo.mk at h
 split at h
 ·exact bo.T h
 ·cases h
noncomputable def aj.j4 (F:Nat) (bU:Sl→Int→Sl→Sl→Int→Int→Hp→OA) (C61_:Nat→Nat→Nat→Nat→Sl→Sl→Int→Int→Hp→OA) (pO:Nat) (FH:Nat) (pP:Nat) (FI:Nat) (FJ:Sl) (FK:Sl) (kZ:Int) (k_:Int) (H248:Hp):OA:=C61_ pO FH pP FI FJ FK kZ (IntKind.i64.wrap (k_ + 1)) H248
noncomputable def aj.j5 (F:Nat) (bU:Sl→Int→Sl→Sl→Int→Int→Hp→OA) (C61_:Nat→Nat→Nat→Nat→Sl→Sl→Int→Int→Hp→OA) (pQ:Nat) (FL:Nat) (kB:Nat) (FM:Nat) (js:Sl) (FN:Sl) (la:Int) (lb:Int) (H228:Hp):OA:=aj.j4 F bU C61_ pQ FL kB FM js FN la lb H228
noncomputable def aj.j6 (F:Nat) (bU:Sl→Int→Sl→Sl→Int→Int→Hp→OA) (C61_:Nat→Nat→Nat→Nat→Sl→Sl→Int→Int→Hp→OA) (lR:Nat) (xE:Nat) (lS:Nat) (xF:Nat) (xG:Sl) (xH:Sl) (xI:Sl) (jv:Int) (jw:Int) (H205:Hp):OA:=(bif (decide ((xI.n:Int) > 0)) then ((Hp.new H205 [(.sl xI)]).bind fun H206=>(Sl.row H206 (⟨some (H205.length,0),1,.ex 1⟩:Sl) 1).bind fun xs208=>(Hp.app H206 1 24 xG (⟨some (H205.length,0),1,.ex 1⟩:Sl).n xs208).bind fun a207=>aj.j5 F bU C61_ lR xE lS xF a207.1 xH jv jw a207.2) else (aj.j5 F bU C61_ lR xE lS xF xG xH jv jw H205))
noncomputable def aj.l15725 (F:Nat) (bU:Sl→Int→Sl→Sl→Int→Int→Hp→OA) (C61_:Nat→Nat→Nat→Nat→Sl→Sl→Int→Int→Hp→OA):Nat→Nat→Nat→Nat→Nat→Sl→Sl→Int→Int→Sl→Int→Hp→OA
 | 0,_,_,_,_,_,_,_,_,_,_,_=>none
 | FO + 1,di,eO,dx,fe,fQ,fG,eP,ff,gu,cH,H164=>(Sl.idx fG cH 1).bind fun p249=>(Hp.ldB H164 p249.1 p249.2).bind fun b250=>(bif (!b250) then ((Sl.idx fG cH 1).bind fun p251=>(Hp.st H164 p251.1 p251.2 (.bool true)).bind fun H252=>(Hp.new H252 [(.int .i64 cH)]).bind fun H253=>(Sl.row H253 (⟨some (H252.length,0),1,.ex 1⟩:Sl) 1).bind fun xs255=>(Hp.app H253 1 8 gu (⟨some (H252.length,0),1,.ex 1⟩:Sl).n xs255).bind fun a254=>(Hp.ldSl a254.2 di eO).bind fun s256=>(Hp.ldI a254.2 .i64 di (eO + 1)).bind fun n257=>(Hp.ldSl a254.2 dx fe).bind fun s258=>(Hp.ldSl a254.2 dx (fe + 1)).bind fun s259=>(bU s256 n257 s258 s259 (IntKind.i64.wrap (Int.tdiv cH 4)) (Int.tmod (IntKind.i64.wrap (cH + 1)) 4) a254.2).bind fun r260=>((r260.1).asAgg 2).bind fun l261=>(l261[0]?).bind fun v262=>((v262).asI .i64).bind fun n263=>(l261[1]?).bind fun v264=>((v264).asI .i64).bind fun n265=>(Hp.new r260.2 [.int .i64 0,.int .i64 0]).bind fun H266=>(Hp.st H266 r260.2.length 0 (.int .i64 n263)).bind fun H267=>(Hp.st H267 r260.2.length (0 + 1) (.int .i64 n265)).bind fun H268=>(Hp.ldI H268 .i64 r260.2.length 0).bind fun n269=>(Hp.ldI H268 .i64 r260.2.length 1).bind fun n270=>aj.l15725 F bU C61_ FO di eO dx fe fQ fG eP ff a254.1 (IntKind.i64.wrap ((IntKind.i64.wrap (4 * n269)) + n270)) H268) else (aj.j6 F bU C61_ di eO dx fe fQ fG gu eP ff H164))
termination_by structural n=>n
noncomputable def aj.l61 (F:Nat) (bU:Sl→Int→Sl→Sl→Int→Int→Hp→OA) :Nat→Nat→Nat→Nat→Nat→Sl→Sl→Int→Int→Hp→OA
 | 0,_,_,_,_,_,_,_,_,_=>none
 | bm + 1,eQ,ga,co,gv,gw,hU,eR,eC,H22=>(bif (decide (eC < eR)) then (aj.l15725 F bU (aj.l61 F bU bm) F eQ ga co gv gw hU eR eC (⟨none,0,.ex 0⟩:Sl) eC H22) else (some ((.sl gw),H22)))
termination_by structural n=>n
noncomputable def aj.twX (F:Nat) (bU:Sl→Int→Sl→Sl→Int→Int→Hp→OA) (aa:Sl) (ab:Int) (ae:Sl) (aL:Sl) (H:Hp):OA:=(Hp.new H [(.sl aa),(.int .i64 ab)]).bind fun H5=>(Hp.new H5 [(.sl ae),(.sl aL)]).bind fun H6=>(Hp.ldSl H6 H.length 0).bind fun s7=>(Hp.mk H6 [.bool false] 1 (IntKind.i64.wrap (4 * (s7.n:Int))) (IntKind.i64.wrap (4 * (s7.n:Int)))).bind fun m8=>aj.l61 F bU F H.length 0 H5.length 0 (⟨none,0,.ex 0⟩:Sl) m8.1 (m8.1.n:Int) 0 m8.2
noncomputable def aj.tw (F:Nat) (aa:Sl) (ab:Int) (ae:Sl) (aL:Sl) (H:Hp):OA:=aj.twX F (bo.tw F) aa ab ae aL H
noncomputable def aj.code:Go.Code:=(Try.f103.body).getD .skip
noncomputable def aj.lh61 (F:Nat) (bU:Sl→Int→Sl→Sl→Int→Int→Hp→OA) (ks:List Nat) (n:Nat) (tm:Tm) (H:Hp):OA:=match ks,tm 2,tm 3,tm 5,tm 6,tm 17,tm 18 with
 | [],(.ptr eQ ga),(.ptr co gv),(.sl gw),(.sl hU),(.int .i64 eR),(.int .i64 eC)=>aj.l61 F bU n eQ ga co gv gw hU eR eC H
 | _,_,_,_,_,_,_=>none
theorem aj.lh61_inv {F:Nat} {bU:Sl→Int→Sl→Sl→Int→Int→Hp→OA} {ks:List Nat} {n:Nat} {tm:Tm} {H:Hp} {r:AV×Hp} (h:aj.lh61 F bU ks n tm H = some r):∃ eQ:Nat,∃ ga:Nat,∃ co:Nat,∃ gv:Nat,∃ gw:Sl,∃ hU:Sl,∃ eR:Int,∃ eC:Int,ks = []∧tm 2 = (.ptr eQ ga)∧tm 3 = (.ptr co gv)∧tm 5 = (.sl gw)∧tm 6 = (.sl hU)∧tm 17 = (.int .i64 eR)∧tm 18 = (.int .i64 eC)∧aj.l61 F bU n eQ ga co gv gw hU eR eC H = some r:=by
 unfold aj.lh61 at h
 split at h
 ·exact ⟨_,_,_,_,_,_,_,_,rfl,by assumption,by assumption,by assumption,by assumption,by assumption,by assumption,h⟩
 ·cases h
noncomputable def aj.lh15725 (F:Nat) (bU:Sl→Int→Sl→Sl→Int→Int→Hp→OA) (ks:List Nat) (n:Nat) (tm:Tm) (H:Hp):OA:=match ks,tm 2,tm 3,tm 5,tm 6,tm 8,tm 9,tm 17,tm 18 with
 | [bm],(.ptr di eO),(.ptr dx fe),(.sl fQ),(.sl fG),(.sl gu),(.int .i64 cH),(.int .i64 eP),(.int .i64 ff)=>aj.l15725 F bU (aj.l61 F bU bm) n di eO dx fe fQ fG eP ff gu cH H
 | _,_,_,_,_,_,_,_,_=>none
theorem aj.lh15725_inv {F:Nat} {bU:Sl→Int→Sl→Sl→Int→Int→Hp→OA} {ks:List Nat} {n:Nat} {tm:Tm} {H:Hp} {r:AV×Hp} (h:aj.lh15725 F bU ks n tm H = some r):∃ bm:Nat,∃ di:Nat,∃ eO:Nat,∃ dx:Nat,∃ fe:Nat,∃ fQ:Sl,∃ fG:Sl,∃ gu:Sl,∃ cH:Int,∃ eP:Int,∃ ff:Int,ks = [bm]∧tm 2 = (.ptr di eO)∧tm 3 = (.ptr dx fe)∧tm 5 = (.sl fQ)∧tm 6 = (.sl fG)∧tm 8 = (.sl gu)∧tm 9 = (.int .i64 cH)∧tm 17 = (.int .i64 eP)∧tm 18 = (.int .i64 ff)∧aj.l15725 F bU (aj.l61 F bU bm) n di eO dx fe fQ fG eP ff gu cH H = some r:=by
 unfold aj.lh15725 at h
 split at h
 ·exact ⟨_,_,_,_,_,_,_,_,_,_,_,rfl,by assumption,by assumption,by assumption,by assumption,by assumption,by assumption,by assumption,by assumption,h⟩
 ·cases h
noncomputable def aj.lh (F:Nat) (bU:Sl→Int→Sl→Sl→Int→Int→Hp→OA) (p:Nat) (ks:List Nat) (n:Nat) (tm:Tm) (H:Hp):OA:=bif p.beq 15725 then aj.lh15725 F bU ks n tm H else (bif p.beq 61 then aj.lh61 F bU ks n tm H else (none))
def aj.pn:Nat→List Nat:=fun i=>(([]:List (Nat×List Nat)).lookup i).getD []
def aj.tb:Nat→List (List Nat):=fun i=>(([]:List (Nat×List (List Nat))).lookup i).getD []
noncomputable def aj.mk (g:Sl→Int→Sl→Sl→Hp→OA) (args:List AV) (H:Hp):OA:=match args with
 | [(.agg [(.sl aa),(.int .i64 ab)]),(.agg [(.sl ae),(.sl aL)])]=>g aa ab ae aL H
 | _=>none
noncomputable def aj.cs (F:Nat) (bU:Sl→Int→Sl→Sl→Int→Int→Hp→OA):List (FuncId×(List AV→Hp→OA)):=[(139,bo.mk bU)]
theorem aj.loops (F:Nat) (bU:Sl→Int→Sl→Sl→Int→Int→Hp→OA):LoopsOk tabs (mkOrc (aj.cs F bU)) aj.pn (aj.lh F bU) F [] 1 aj.code (fun tm H=>aresults tabs.ty H tm Try.f103.results.toList fun v=>some (v,H)) (fun _ _ _=>none) (fun tm H=>aresults tabs.ty H tm Try.f103.results.toList fun v=>some (v,H)):=by
 refine LoopsOk.seq ?_ ?_
 ·exact loops_none (by kernel_rfl)
 ·refine LoopsOk.seq ?_ ?_
  ·exact loops_none (by kernel_rfl)
  ·refine LoopsOk.seq ?_ ?_
   ·exact loops_none (by kernel_rfl)
   ·refine LoopsOk.seq ?_ ?_
    ·refine LoopsOk.seq ?_ ?_
     ·exact loops_none (by kernel_rfl)
     ·refine LoopsOk.block ?_
      refine LoopsOk.loop (fun tm H=>?_) (fun k61 tm H r h0=>?_) (fun k61=>?_)
      ·refine none_of fun r h0=>?_
       obtain ⟨eQ,ga,co,gv,gw,hU,eR,eC,hks,e2,e3,e5,e6,e17,e18,h⟩:=aj.lh61_inv (show aj.lh61 F bU [] 0 tm H = some r from h0)
       cases h
      ·obtain ⟨eQ,ga,co,gv,gw,hU,eR,eC,hks,e2,e3,e5,e6,e17,e18,h⟩:=aj.lh61_inv (show aj.lh61 F bU [] (k61 + 1) tm H = some r from h0)
       have q0:(Tm.put tm 2 (.ptr eQ ga)) = tm:=by exact Tm.put_same e2
       have q1:(Tm.put (Tm.put tm 2 (.ptr eQ ga)) 3 (.ptr co gv)) = tm:=by rw [q0]; exact Tm.put_same e3
       have q2:(Tm.put (Tm.put (Tm.put tm 2 (.ptr eQ ga)) 3 (.ptr co gv)) 5 (.sl gw)) = tm:=by rw [q1]; exact Tm.put_same e5
       have q3:(Tm.put (Tm.put (Tm.put (Tm.put tm 2 (.ptr eQ ga)) 3 (.ptr co gv)) 5 (.sl gw)) 6 (.sl hU)) = tm:=by rw [q2]; exact Tm.put_same e6
       have q4:(Tm.put (Tm.put (Tm.put (Tm.put (Tm.put tm 2 (.ptr eQ ga)) 3 (.ptr co gv)) 5 (.sl gw)) 6 (.sl hU)) 17 (.int .i64 eR)) = tm:=by rw [q3]; exact Tm.put_same e17
       have q5:(Tm.put (Tm.put (Tm.put (Tm.put (Tm.put (Tm.put tm 2 (.ptr eQ ga)) 3 (.ptr co gv)) 5 (.sl gw)) 6 (.sl hU)) 17 (.int .i64 eR)) 18 (.int .i64 eC)) = tm:=by rw [q4]; exact Tm.put_same e18
       rw [← q5]
       exact Eq.trans (by kernel_rfl) h
      ·refine LoopsOk.seq ?_ ?_
       ·exact loops_none (by kernel_rfl)
       ·refine LoopsOk.seq ?_ ?_
        ·exact loops_none (by kernel_rfl)
        ·refine LoopsOk.seq ?_ ?_
         ·refine LoopsOk.block ?_
          refine LoopsOk.seq ?_ ?_
          ·exact loops_none (by kernel_rfl)
          ·refine LoopsOk.seq ?_ ?_
           ·exact loops_none (by kernel_rfl)
           ·refine LoopsOk.seq ?_ ?_
            ·refine LoopsOk.seq ?_ ?_
             ·exact loops_none (by kernel_rfl)
             ·refine LoopsOk.block ?_
              refine LoopsOk.loop (fun tm H=>?_) (fun k15725 tm H r h0=>?_) (fun k15725=>?_)
              ·refine none_of fun r h0=>?_
               obtain ⟨bm,di,eO,dx,fe,fQ,fG,gu,cH,eP,ff,hks,e2,e3,e5,e6,e8,e9,e17,e18,h⟩:=aj.lh15725_inv (show aj.lh15725 F bU [k61] 0 tm H = some r from h0)
               cases h
              ·obtain ⟨bm,di,eO,dx,fe,fQ,fG,gu,cH,eP,ff,hks,e2,e3,e5,e6,e8,e9,e17,e18,h⟩:=aj.lh15725_inv (show aj.lh15725 F bU [k61] (k15725 + 1) tm H = some r from h0)
               obtain rfl:bm = k61:=by simpa [eq_comm] using hks
               have q0:(Tm.put tm 2 (.ptr di eO)) = tm:=by exact Tm.put_same e2
               have q1:(Tm.put (Tm.put tm 2 (.ptr di eO)) 3 (.ptr dx fe)) = tm:=by rw [q0]; exact Tm.put_same e3
               have q2:(Tm.put (Tm.put (Tm.put tm 2 (.ptr di eO)) 3 (.ptr dx fe)) 5 (.sl fQ)) = tm:=by rw [q1]; exact Tm.put_same e5
               have q3:(Tm.put (Tm.put (Tm.put (Tm.put tm 2 (.ptr di eO)) 3 (.ptr dx fe)) 5 (.sl fQ)) 6 (.sl fG)) = tm:=by rw [q2]; exact Tm.put_same e6
               have q4:(Tm.put (Tm.put (Tm.put (Tm.put (Tm.put tm 2 (.ptr di eO)) 3 (.ptr dx fe)) 5 (.sl fQ)) 6 (.sl fG)) 8 (.sl gu)) = tm:=by rw [q3]; exact Tm.put_same e8
               have q5:(Tm.put (Tm.put (Tm.put (Tm.put (Tm.put (Tm.put tm 2 (.ptr di eO)) 3 (.ptr dx fe)) 5 (.sl fQ)) 6 (.sl fG)) 8 (.sl gu)) 9 (.int .i64 cH)) = tm:=by rw [q4]; exact Tm.put_same e9
               have q6:(Tm.put (Tm.put (Tm.put (Tm.put (Tm.put (Tm.put (Tm.put tm 2 (.ptr di eO)) 3 (.ptr dx fe)) 5 (.sl fQ)) 6 (.sl fG)) 8 (.sl gu)) 9 (.int .i64 cH)) 17 (.int .i64 eP)) = tm:=by rw [q5]; exact Tm.put_same e17
               have q7:(Tm.put (Tm.put (Tm.put (Tm.put (Tm.put (Tm.put (Tm.put (Tm.put tm 2 (.ptr di eO)) 3 (.ptr dx fe)) 5 (.sl fQ)) 6 (.sl fG)) 8 (.sl gu)) 9 (.int .i64 cH)) 17 (.int .i64 eP)) 18 (.int .i64 ff)) = tm:=by rw [q6]; exact Tm.put_same e18
               rw [← q7]
               exact Eq.trans (by kernel_rfl) h
              ·exact loops_none (by kernel_rfl)
            ·exact loops_none (by kernel_rfl)
         ·exact loops_none (by kernel_rfl)
    ·exact loops_none (by kernel_rfl)
theorem aj.eqX (F:Nat) (bU:Sl→Int→Sl→Sl→Int→Int→Hp→OA) (aa:Sl) (ab:Int) (ae:Sl) (aL:Sl) (H:Hp):aCode tabs (mkOrc (aj.cs F bU)) aj.pn (aj.lh F bU) F [] 1 aj.code (argTm [(.agg [(.sl aa),(.int .i64 ab)]),(.agg [(.sl ae),(.sl aL)])]) H (fun tm H=>aresults tabs.ty H tm Try.f103.results.toList fun v=>some (v,H)) (fun _ _ _=>none) (fun tm H=>aresults tabs.ty H tm Try.f103.results.toList fun v=>some (v,H)) = aj.twX F bU aa ab ae aL H:=by kernel_rfl
theorem aj.cs_ok (F:Nat):∀ p ∈ aj.cs F (bo.tw F),∀ args H v H',p.2 args H = some (v,H')→Go.AE.T Try.prog p.1 args H v H':=by
 intro p hp
 simp only [aj.cs,List.mem_cons,List.not_mem_nil,or_false] at hp
 subst hp
 exact fun args H v H' h=>bo.mk_T h
theorem aj.ok:codeOk aj.pn Try.f103.ntmps aj.tb aj.code = true:=by kernel_rfl
theorem aj.T {F:Nat} {aa:Sl} {ab:Int} {ae:Sl} {aL:Sl} {H:Hp} {v:AV} {H':Hp} (h:aj.tw F aa ab ae aL H = some (v,H')):Go.AE.T Try.prog 103 [(.agg [(.sl aa),(.int .i64 ab)]),(.agg [(.sl ae),(.sl aL)])] H v H':=
 Go.AE.T.of (Y:=tabs) (C:=mkOrc (aj.cs F (bo.tw F))) (PN:=aj.pn) (LH:=aj.lh F (bo.tw F)) (F:=F) (TB:=aj.tb) (fn:=Try.f103) (code:=aj.code) mixed tabs_ok (mkOrc_ok (aj.cs_ok F)) Try.func103 (by kernel_rfl) (by kernel_rfl) aj.ok (Nat.le_of_ble_eq_true (by kernel_rfl)) (aj.loops F (bo.tw F)) (Eq.trans (aj.eqX F (bo.tw F) aa ab ae aL H) h)
theorem aj.mk_T {F:Nat} {args:List AV} {H:Hp} {v:AV} {H':Hp} (h:aj.mk (aj.tw F) args H = some (v,H')):Go.AE.T Try.prog 103 args H v H':=by
 unfold aj.mk at h
 split at h
 ·exact aj.T h
 ·cases h
noncomputable def bJ.twX (F:Nat) (aa:Sl) (H:Hp):OA:=some ((.int .i64 (aa.n:Int)),H)
noncomputable def bJ.tw (F:Nat) (aa:Sl) (H:Hp):OA:=bJ.twX F aa H
noncomputable def bJ.code:Go.Code:=(Try.f89.body).getD .skip
noncomputable def bJ.lh (F:Nat) (p:Nat) (ks:List Nat) (n:Nat) (tm:Tm) (H:Hp):OA:=none
def bJ.pn:Nat→List Nat:=fun i=>(([]:List (Nat×List Nat)).lookup i).getD []
def bJ.tb:Nat→List (List Nat):=fun i=>(([]:List (Nat×List (List Nat))).lookup i).getD []
noncomputable def bJ.mk (g:Sl→Hp→OA) (args:List AV) (H:Hp):OA:=match args with
 | [(.sl aa)]=>g aa H
 | _=>none
noncomputable def bJ.cs (F:Nat):List (FuncId×(List AV→Hp→OA)):=[]
theorem bJ.loops (F:Nat):LoopsOk tabs (mkOrc (bJ.cs F)) bJ.pn (bJ.lh F) F [] 1 bJ.code (fun tm H=>aresults tabs.ty H tm Try.f89.results.toList fun v=>some (v,H)) (fun _ _ _=>none) (fun tm H=>aresults tabs.ty H tm Try.f89.results.toList fun v=>some (v,H)):=by
 exact loops_none (by kernel_rfl)
theorem bJ.eqX (F:Nat) (aa:Sl) (H:Hp):aCode tabs (mkOrc (bJ.cs F)) bJ.pn (bJ.lh F) F [] 1 bJ.code (argTm [(.sl aa)]) H (fun tm H=>aresults tabs.ty H tm Try.f89.results.toList fun v=>some (v,H)) (fun _ _ _=>none) (fun tm H=>aresults tabs.ty H tm Try.f89.results.toList fun v=>some (v,H)) = bJ.twX F aa H:=by kernel_rfl
theorem bJ.cs_ok (F:Nat):∀ p ∈ bJ.cs F,∀ args H v H',p.2 args H = some (v,H')→Go.AE.T Try.prog p.1 args H v H':=by
 intro p hp
 exact absurd (show p ∈ [] from hp) List.not_mem_nil
theorem bJ.ok:codeOk bJ.pn Try.f89.ntmps bJ.tb bJ.code = true:=by kernel_rfl
theorem bJ.T {F:Nat} {aa:Sl} {H:Hp} {v:AV} {H':Hp} (h:bJ.tw F aa H = some (v,H')):Go.AE.T Try.prog 89 [(.sl aa)] H v H':=
 Go.AE.T.of (Y:=tabs) (C:=mkOrc (bJ.cs F)) (PN:=bJ.pn) (LH:=bJ.lh F) (F:=F) (TB:=bJ.tb) (fn:=Try.f89) (code:=bJ.code) mixed tabs_ok (mkOrc_ok (bJ.cs_ok F)) Try.func89 (by kernel_rfl) (by kernel_rfl) bJ.ok (Nat.le_of_ble_eq_true (by kernel_rfl)) (bJ.loops F) (Eq.trans (bJ.eqX F aa H) h)
theorem bJ.mk_T {F:Nat} {args:List AV} {H:Hp} {v:AV} {H':Hp} (h:bJ.mk (bJ.tw F) args H = some (v,H')):Go.AE.T Try.prog 89 args H v H':=by
 unfold bJ.mk at h
 split at h
 ·exact bJ.T h
 ·cases h
noncomputable def aS.l29 (F:Nat) :Nat→Sl→Int→Int→Hp→OA
 | 0,_,_,_,_=>none
 | dG + 1,gQ,eS,dV,H7=>(bif (decide (dV < eS)) then ((Hp.new H7 [(.int .i64 dV)]).bind fun H11=>(Sl.row H11 (⟨some (H7.length,0),1,.ex 1⟩:Sl) 1).bind fun xs13=>(Hp.app H11 1 8 gQ (⟨some (H7.length,0),1,.ex 1⟩:Sl).n xs13).bind fun a12=>aS.l29 F dG a12.1 eS (IntKind.i64.wrap (dV + 1)) a12.2) else (some ((.sl gQ),H7)))
termination_by structural n=>n
noncomputable def aS.twX (F:Nat) (aa:Int) (H:Hp):OA:=aS.l29 F F (⟨none,0,.ex 0⟩:Sl) aa 0 H
noncomputable def aS.tw (F:Nat) (aa:Int) (H:Hp):OA:=aS.twX F aa H
noncomputable def aS.code:Go.Code:=(Try.f116.body).getD .skip
noncomputable def aS.lh29 (F:Nat) (ks:List Nat) (n:Nat) (tm:Tm) (H:Hp):OA:=match ks,tm 3,tm 5,tm 6 with
 | [],(.sl gQ),(.int .i64 eS),(.int .i64 dV)=>aS.l29 F n gQ eS dV H
 | _,_,_,_=>none
theorem aS.lh29_inv {F:Nat} {ks:List Nat} {n:Nat} {tm:Tm} {H:Hp} {r:AV×Hp} (h:aS.lh29 F ks n tm H = some r):∃ gQ:Sl,∃ eS:Int,∃ dV:Int,ks = []∧tm 3 = (.sl gQ)∧tm 5 = (.int .i64 eS)∧tm 6 = (.int .i64 dV)∧aS.l29 F n gQ eS dV H = some r:=by
 unfold aS.lh29 at h
 split at h
 ·exact ⟨_,_,_,rfl,by assumption,by assumption,by assumption,h⟩
 ·cases h
noncomputable def aS.lh (F:Nat) (p:Nat) (ks:List Nat) (n:Nat) (tm:Tm) (H:Hp):OA:=bif p.beq 29 then aS.lh29 F ks n tm H else (none)
def aS.pn:Nat→List Nat:=fun i=>(([]:List (Nat×List Nat)).lookup i).getD []
def aS.tb:Nat→List (List Nat):=fun i=>(([]:List (Nat×List (List Nat))).lookup i).getD []
noncomputable def aS.mk (g:Int→Hp→OA) (args:List AV) (H:Hp):OA:=match args with
 | [(.int .i64 aa)]=>g aa H
 | _=>none
noncomputable def aS.cs (F:Nat):List (FuncId×(List AV→Hp→OA)):=[]
theorem aS.loops (F:Nat):LoopsOk tabs (mkOrc (aS.cs F)) aS.pn (aS.lh F) F [] 1 aS.code (fun tm H=>aresults tabs.ty H tm Try.f116.results.toList fun v=>some (v,H)) (fun _ _ _=>none) (fun tm H=>aresults tabs.ty H tm Try.f116.results.toList fun v=>some (v,H)):=by
 refine LoopsOk.seq ?_ ?_
 ·exact loops_none (by kernel_rfl)
 ·refine LoopsOk.seq ?_ ?_
  ·exact loops_none (by kernel_rfl)
  ·refine LoopsOk.seq ?_ ?_
   ·refine LoopsOk.seq ?_ ?_
    ·exact loops_none (by kernel_rfl)
    ·refine LoopsOk.block ?_
     refine LoopsOk.loop (fun tm H=>?_) (fun k29 tm H r h0=>?_) (fun k29=>?_)
     ·refine none_of fun r h0=>?_
      obtain ⟨gQ,eS,dV,hks,e3,e5,e6,h⟩:=aS.lh29_inv (show aS.lh29 F [] 0 tm H = some r from h0)
      cases h
     ·obtain ⟨gQ,eS,dV,hks,e3,e5,e6,h⟩:=aS.lh29_inv (show aS.lh29 F [] (k29 + 1) tm H = some r from h0)
      have q0:(Tm.put tm 3 (.sl gQ)) = tm:=by exact Tm.put_same e3
      have q1:(Tm.put (Tm.put tm 3 (.sl gQ)) 5 (.int .i64 eS)) = tm:=by rw [q0]; exact Tm.put_same e5
      have q2:(Tm.put (Tm.put (Tm.put tm 3 (.sl gQ)) 5 (.int .i64 eS)) 6 (.int .i64 dV)) = tm:=by rw [q1]; exact Tm.put_same e6
      rw [← q2]
      exact Eq.trans (by kernel_rfl) h
     ·exact loops_none (by kernel_rfl)
   ·exact loops_none (by kernel_rfl)
theorem aS.eqX (F:Nat) (aa:Int) (H:Hp):aCode tabs (mkOrc (aS.cs F)) aS.pn (aS.lh F) F [] 1 aS.code (argTm [(.int .i64 aa)]) H (fun tm H=>aresults tabs.ty H tm Try.f116.results.toList fun v=>some (v,H)) (fun _ _ _=>none) (fun tm H=>aresults tabs.ty H tm Try.f116.results.toList fun v=>some (v,H)) = aS.twX F aa H:=by kernel_rfl
theorem aS.cs_ok (F:Nat):∀ p ∈ aS.cs F,∀ args H v H',p.2 args H = some (v,H')→Go.AE.T Try.prog p.1 args H v H':=by
 intro p hp
 exact absurd (show p ∈ [] from hp) List.not_mem_nil
theorem aS.ok:codeOk aS.pn Try.f116.ntmps aS.tb aS.code = true:=by kernel_rfl
theorem aS.T {F:Nat} {aa:Int} {H:Hp} {v:AV} {H':Hp} (h:aS.tw F aa H = some (v,H')):Go.AE.T Try.prog 116 [(.int .i64 aa)] H v H':=
 Go.AE.T.of (Y:=tabs) (C:=mkOrc (aS.cs F)) (PN:=aS.pn) (LH:=aS.lh F) (F:=F) (TB:=aS.tb) (fn:=Try.f116) (code:=aS.code) mixed tabs_ok (mkOrc_ok (aS.cs_ok F)) Try.func116 (by kernel_rfl) (by kernel_rfl) aS.ok (Nat.le_of_ble_eq_true (by kernel_rfl)) (aS.loops F) (Eq.trans (aS.eqX F aa H) h)
theorem aS.mk_T {F:Nat} {args:List AV} {H:Hp} {v:AV} {H':Hp} (h:aS.mk (aS.tw F) args H = some (v,H')):Go.AE.T Try.prog 116 args H v H':=by
 unfold aS.mk at h
 split at h
 ·exact aS.T h
 ·cases h
noncomputable def aI.j2 (F:Nat) (C7_:Sl→Int→Int→Sl→Int→Int→Hp→OA) (FP:Sl) (lc:Int) (lf:Int) (FQ:Sl) (lg:Int) (li:Int) (H50:Hp):OA:=C7_ FP lc lf FQ lg (IntKind.i64.wrap (li + 1)) H50
noncomputable def aI.l7 (F:Nat) :Nat→Sl→Int→Int→Sl→Int→Int→Hp→OA
 | 0,_,_,_,_,_,_,_=>none
 | xJ + 1,ct,dj,dy,gx,eo,dk,H16=>(bif (decide (dk < eo)) then ((Sl.idx gx dk 1).bind fun p34=>(Hp.ldI H16 .i64 p34.1 p34.2).bind fun n35=>(bif (n35 == dj) then ((Sl.idx ct dk 1).bind fun p36=>(Hp.st H16 p36.1 p36.2 (.int .i64 dy)).bind fun H37=>aI.j2 F (aI.l7 F xJ) ct dj dy gx eo dk H37) else (aI.j2 F (aI.l7 F xJ) ct dj dy gx eo dk H16))) else (some ((.tup []),H16)))
termination_by structural n=>n
noncomputable def aI.twX (F:Nat) (aa:Sl) (ai:Int) (bk:Int) (H:Hp):OA:=(Sl.idx aa bk 1).bind fun p4=>(Hp.ldI H .i64 p4.1 p4.2).bind fun n5=>(Sl.idx aa ai 1).bind fun p6=>(Hp.ldI H .i64 p6.1 p6.2).bind fun n7=>aI.l7 F F aa n5 n7 aa (aa.n:Int) 0 H
noncomputable def aI.tw (F:Nat) (aa:Sl) (ai:Int) (bk:Int) (H:Hp):OA:=aI.twX F aa ai bk H
noncomputable def aI.code:Go.Code:=(Try.f118.body).getD .skip
noncomputable def aI.lh7 (F:Nat) (ks:List Nat) (n:Nat) (tm:Tm) (H:Hp):OA:=match ks,tm 0,tm 6,tm 7,tm 18,tm 19,tm 20 with
 | [],(.sl ct),(.int .i64 dj),(.int .i64 dy),(.sl gx),(.int .i64 eo),(.int .i64 dk)=>aI.l7 F n ct dj dy gx eo dk H
 | _,_,_,_,_,_,_=>none
theorem aI.lh7_inv {F:Nat} {ks:List Nat} {n:Nat} {tm:Tm} {H:Hp} {r:AV×Hp} (h:aI.lh7 F ks n tm H = some r):∃ ct:Sl,∃ dj:Int,∃ dy:Int,∃ gx:Sl,∃ eo:Int,∃ dk:Int,ks = []∧tm 0 = (.sl ct)∧tm 6 = (.int .i64 dj)∧tm 7 = (.int .i64 dy)∧tm 18 = (.sl gx)∧tm 19 = (.int .i64 eo)∧tm 20 = (.int .i64 dk)∧aI.l7 F n ct dj dy gx eo dk H = some r:=by
 unfold aI.lh7 at h
 split at h
 ·exact ⟨_,_,_,_,_,_,rfl,by assumption,by assumption,by assumption,by assumption,by assumption,by assumption,h⟩
 ·cases h
noncomputable def aI.lh (F:Nat) (p:Nat) (ks:List Nat) (n:Nat) (tm:Tm) (H:Hp):OA:=bif p.beq 7 then aI.lh7 F ks n tm H else (none)
def aI.pn:Nat→List Nat:=fun i=>(([(0,[])]:List (Nat×List Nat)).lookup i).getD []
def aI.tb:Nat→List (List Nat):=fun i=>(([(0,[[],[],[0,1],[0,1,2],[],[],[4,5],[4,5,6],[0,1,2,3],[0,1,2,3,4,5,6,7,8]])]:List (Nat×List (List Nat))).lookup i).getD []
noncomputable def aI.mk (g:Sl→Int→Int→Hp→OA) (args:List AV) (H:Hp):OA:=match args with
 | [(.sl aa),(.int .i64 ai),(.int .i64 bk)]=>g aa ai bk H
 | _=>none
noncomputable def aI.cs (F:Nat):List (FuncId×(List AV→Hp→OA)):=[]
theorem aI.loops (F:Nat):LoopsOk tabs (mkOrc (aI.cs F)) aI.pn (aI.lh F) F [] 1 aI.code (fun tm H=>aresults tabs.ty H tm Try.f118.results.toList fun v=>some (v,H)) (fun _ _ _=>none) (fun tm H=>aresults tabs.ty H tm Try.f118.results.toList fun v=>some (v,H)):=by
 refine LoopsOk.seq ?_ ?_
 ·exact loops_none (by kernel_rfl)
 ·refine LoopsOk.seq ?_ ?_
  ·exact loops_none (by kernel_rfl)
  ·refine LoopsOk.block ?_
   refine LoopsOk.loop (fun tm H=>?_) (fun k7 tm H r h0=>?_) (fun k7=>?_)
   ·refine none_of fun r h0=>?_
    obtain ⟨ct,dj,dy,gx,eo,dk,hks,e0,e6,e7,e18,e19,e20,h⟩:=aI.lh7_inv (show aI.lh7 F [] 0 tm H = some r from h0)
    cases h
   ·obtain ⟨ct,dj,dy,gx,eo,dk,hks,e0,e6,e7,e18,e19,e20,h⟩:=aI.lh7_inv (show aI.lh7 F [] (k7 + 1) tm H = some r from h0)
    have q0:(Tm.put tm 0 (.sl ct)) = tm:=by exact Tm.put_same e0
    have q1:(Tm.put (Tm.put tm 0 (.sl ct)) 6 (.int .i64 dj)) = tm:=by rw [q0]; exact Tm.put_same e6
    have q2:(Tm.put (Tm.put (Tm.put tm 0 (.sl ct)) 6 (.int .i64 dj)) 7 (.int .i64 dy)) = tm:=by rw [q1]; exact Tm.put_same e7
    have q3:(Tm.put (Tm.put (Tm.put (Tm.put tm 0 (.sl ct)) 6 (.int .i64 dj)) 7 (.int .i64 dy)) 18 (.sl gx)) = tm:=by rw [q2]; exact Tm.put_same e18
    have q4:(Tm.put (Tm.put (Tm.put (Tm.put (Tm.put tm 0 (.sl ct)) 6 (.int .i64 dj)) 7 (.int .i64 dy)) 18 (.sl gx)) 19 (.int .i64 eo)) = tm:=by rw [q3]; exact Tm.put_same e19
    have q5:(Tm.put (Tm.put (Tm.put (Tm.put (Tm.put (Tm.put tm 0 (.sl ct)) 6 (.int .i64 dj)) 7 (.int .i64 dy)) 18 (.sl gx)) 19 (.int .i64 eo)) 20 (.int .i64 dk)) = tm:=by rw [q4]; exact Tm.put_same e20
    rw [← q5]
    exact Eq.trans (by kernel_rfl) h
   ·exact loops_none (by kernel_rfl)
theorem aI.eqX (F:Nat) (aa:Sl) (ai:Int) (bk:Int) (H:Hp):aCode tabs (mkOrc (aI.cs F)) aI.pn (aI.lh F) F [] 1 aI.code (argTm [(.sl aa),(.int .i64 ai),(.int .i64 bk)]) H (fun tm H=>aresults tabs.ty H tm Try.f118.results.toList fun v=>some (v,H)) (fun _ _ _=>none) (fun tm H=>aresults tabs.ty H tm Try.f118.results.toList fun v=>some (v,H)) = aI.twX F aa ai bk H:=by kernel_rfl
theorem aI.cs_ok (F:Nat):∀ p ∈ aI.cs F,∀ args H v H',p.2 args H = some (v,H')→Go.AE.T Try.prog p.1 args H v H':=by
 intro p hp
 exact absurd (show p ∈ [] from hp) List.not_mem_nil
theorem aI.ok:codeOk aI.pn Try.f118.ntmps aI.tb aI.code = true:=by kernel_rfl
theorem aI.T {F:Nat} {aa:Sl} {ai:Int} {bk:Int} {H:Hp} {v:AV} {H':Hp} (h:aI.tw F aa ai bk H = some (v,H')):Go.AE.T Try.prog 118 [(.sl aa),(.int .i64 ai),(.int .i64 bk)] H v H':=
 Go.AE.T.of (Y:=tabs) (C:=mkOrc (aI.cs F)) (PN:=aI.pn) (LH:=aI.lh F) (F:=F) (TB:=aI.tb) (fn:=Try.f118) (code:=aI.code) mixed tabs_ok (mkOrc_ok (aI.cs_ok F)) Try.func118 (by kernel_rfl) (by kernel_rfl) aI.ok (Nat.le_of_ble_eq_true (by kernel_rfl)) (aI.loops F) (Eq.trans (aI.eqX F aa ai bk H) h)
theorem aI.mk_T {F:Nat} {args:List AV} {H:Hp} {v:AV} {H':Hp} (h:aI.mk (aI.tw F) args H = some (v,H')):Go.AE.T Try.prog 118 args H v H':=by
 unfold aI.mk at h
 split at h
 ·exact aI.T h
 ·cases h
theorem nm_law:Keyed Try.prog 2:=int_keyed Try.underlying2
theorem nm_zero (w:World):(zeroValue 2).run Try.prog w = .ok (.int .i64 0) w:=by kernel_rfl
theorem nm_info:(Try.prog.info? 2).map (fun i=>(i.zero,i.size,i.bytes)) = some (some (.int .i64 0),1,8):=by kernel_rfl
theorem nm_none (a:Option Addr) (cap:Nat) (w:World):Calls Try.prog 119 #[.slice a 0 cap] w fun e w'=>e = .returned (.slice none 0 0)∧Below w.heap.size w w':=by
 have hmm:=@run_makeMap Try.prog
 go_enter Try.func119,Try.ntmps119
 go_wp2
 refine wp_loop_rounds 1 ?_
 rw [rounds_succ]
 go_wp2
 go_ret
 exact ⟨rfl,(Below.refl _ _).alloc (Nat.le_refl _) _⟩
theorem nm_any (b off len cap:Nat) (zs:List Int) (w:World) (hreach:len ≤ 4294967296) (hz:len ≤ zs.length) (hb:b < w.heap.size)
  (hc:∀ j,j < zs.length→w.cell? ⟨b,off + j,none⟩ = some (.int .i64 (zs.getD j 0))) (hwz:∀ n ∈ zs,(Lit.int .i64 n).wf = true) :
  Calls Try.prog 119 #[.slice (some ⟨b,off,none⟩) len cap] w fun e w'=>∃ v,e = .returned v∧w'.ownsRow (w.heap.size + 1) 2 1 v len ((nst zs len).2.map (Value.int .i64))∧Below w.heap.size w w':=by
 have hmm:=@run_makeMap Try.prog
 obtain ⟨i0,hi,hz0,hz1,hz2⟩:=info_parts nm_info
 go_enter Try.func119,Try.ntmps119
 go_wp2
 go_loopw [4,12] (fun v i wr=>∃ (k:Nat) (D:DataW Unit),k ≤ len∧i = .int .i64 k∧wr.ownsMap Try.prog 2 (plainElem Try.prog 2) w.heap.size k D∧ND D (nst zs k).1 ∧
   wr.ownsRow (w.heap.size + 1) 2 1 v k ((nst zs k).2.map (Value.int .i64))∧Below w.heap.size w wr∧w.heap.size + 1 ≤ wr.heap.size)
  (fun _ i _=>len - (intOf i).toNat)
 case atStart=>exact ⟨0,.map [],Nat.zero_le _,rfl,World.ownsMap_made _ _ _ _,ND.nil,World.ownsRow_nil _ _ _ _,(Below.refl _ _).alloc (Nat.le_refl _) _,by simp⟩
 case round=>
  obtain ⟨k,D,hk,rfl,hown,hD,hrow,hnx,hws⟩:=hrel
  obtain ⟨x,hx⟩:∃ x,x = zs.getD k 0:=⟨_,rfl⟩
  have hwx:(Lit.int .i64 x).wf = true:=by rw [hx]; exact wf_gd hwz k
  have hcx:k < len→wr.cell? ⟨b,off + k,none⟩ = some (.int .i64 x):=fun _=>by rw [hx]; exact (hnx.cell (by exact hb)).trans (hc k (by omega))
  have hkey:keyOf Try.prog 2 (.int .i64 x) = some (.int .i64 x):=keyOf_int_mk Try.underlying2 hwx
  have hl1:=nst_len1 zs k
  have hs1:Maps.size D ≤ k:=by rw [hD.size]; exact hl1
  have hht:=hown.tidy nm_law
  have n1:nst zs (k + 1) = (bif (nst zs k).1.contains x then (nst zs k).1 else (nst zs k).1 ++ [x],(nst zs k).2 ++ [(((bif (nst zs k).1.contains x then (nst zs k).1 else (nst zs k).1 ++ [x]).idxOf x:Nat):Int)]):=by rw [hx]; rfl
  clear hx
  go_wp2_with (first
   | (at_lookup; first
     | (refine wpList_lookup_own_ok_int _ rfl _ _ 157 rfl 2 2 .i64 nm_law Try.underlying157 Try.underlying2 (nm_zero _) w.heap.size k _ rfl hown _ _ rfl hkey ?_; intro c hat hwc)
     | (refine wpList_lookup_own_int _ rfl _ _ 157 rfl 2 2 .i64 nm_law Try.underlying157 Try.underlying2 (nm_zero _) w.heap.size (k + 1) _ rfl hown1 _ _ rfl hkey ?_; intro c2 hat2 hwc2)
     | (refine wpList_lookup_own_int _ rfl _ _ 157 rfl 2 2 .i64 nm_law Try.underlying157 Try.underlying2 (nm_zero _) w.heap.size k _ rfl hown _ _ rfl hkey ?_; intro c2 hat2 hwc2))
   | (at_len; refine wpList_len_own _ rfl _ 157 rfl 2 2 Try.underlying157 _ w.heap.size k _ rfl hown ?_)
   | (at_mapUpdate; refine wpList_mapUpdate_own _ rfl _ _ _ 157 rfl 2 2 nm_law Try.underlying157 (plainElem Try.prog 2) w.heap.size k _ rfl hown (by unfold maxLen; omega) _ _ _ rfl rfl hkey _ [] (plainElem_int Try.underlying2 (WalkArith.wf_i64 (by omega))) ?_; intro w1 hown1 hgrow1)
   | (at_builtin; first
     | (refine wpList_append_own _ rfl _ _ 26 rfl (w.heap.size + 1) 2 i0 (.int .i64 0) 1 8 Try.underlying26 hi hz0 hz1 hz2 rfl (by decide) _ _ _ rfl ((hrow.kept hgrow1 (Or.inr (rowNe hrow (Nat.lt_succ_self _)).symm)).alloc _) ⟨w1.heap.size,0,none⟩ 1 1 [.int .i64 c2] rfl rfl (cell_one_new _ _ _) (ints_oneCell .i64 [c2]) (by unfold maxLen; omega) (by omega) (by have:=hgrow1.size; simp at this ⊢; omega) ?_; intro v' w2 hown' hgrow2 hnil2)
     | (refine wpList_append_own _ rfl _ _ 26 rfl (w.heap.size + 1) 2 i0 (.int .i64 0) 1 8 Try.underlying26 hi hz0 hz1 hz2 rfl (by decide) _ _ _ rfl (hrow.alloc _) ⟨wr.heap.size,0,none⟩ 1 1 [.int .i64 c2] rfl rfl (cell_one_new _ _ _) (ints_oneCell .i64 [c2]) (by unfold maxLen; omega) (by omega) (by simp; omega) ?_; intro v' w2 hown' hgrow2 hnil2))
   | go_in)
  ·have hlt:k < len:=by assumption
   have ht:(!Maps.has D (Lit.int .i64 x)) = true:=by assumption
   have hc0:(nst zs k).1.contains x = false:=by rw [← hD.has x]; simpa using ht
   have hr1:=hrow.kept hgrow1 (Or.inr (rowNe hrow (Nat.lt_succ_self _)).symm)
   have s1:=hgrow1.size
   have s2:=hgrow2.size
   simp at s1 s2
   have hD1:=hD.new hht hc0
   rw [hD1.at_ x (by simp) _] at hat2
   have e2:c2 = (((nst zs k).1 ++ [x]).idxOf x:Nat):=by injection hat2 with q; injection q with _ q; exact q.symm
   rw [hc0,cond_false] at n1
   go_roundw
   case rel=>
    refine ⟨k + 1,_,by omega,by go_num,(hown1.alloc _).kept hgrow2 (rowNe hr1 (Nat.lt_succ_self _)),by rw [n1]; exact hD1,?_,?_,by omega⟩
    ·rw [n1,List.map_append,← e2]; exact hown'
    ·exact (((hnx.grown hgrow1 hnx.size (fun j hj=>by cases hj; exact Nat.le_refl _)).alloc (by omega) _).grown hgrow2 (by simp; omega) (fun j hj=>Nat.le_trans (Nat.le_succ _) (hr1.lt j hj).1))
   case measure=>simp [intOf]; omega
  ·have hlt:k < len:=by assumption
   have ht:(!Maps.has D (Lit.int .i64 x)) = false:=by assumption
   have hc1:(nst zs k).1.contains x = true:=by rw [← hD.has x]; simpa using ht
   have s2:=hgrow2.size
   simp at s2
   rw [hD.at_ x hc1 _] at hat2
   have e2:c2 = ((nst zs k).1.idxOf x:Nat):=by injection hat2 with q; injection q with _ q; exact q.symm
   rw [hc1,cond_true] at n1
   go_roundw
   case rel=>
    refine ⟨k + 1,_,by omega,by go_num,((hown.alloc _).kept hgrow2 (rowNe hrow (Nat.lt_succ_self _))).mono (Nat.le_succ _),by rw [n1]; exact hD,?_,?_,by omega⟩
    ·rw [n1,List.map_append,← e2]; exact hown'
    ·exact ((hnx.alloc hnx.size _).grown hgrow2 (by simp; omega) (fun j hj=>Nat.le_trans (Nat.le_succ _) (hrow.lt j hj).1))
   case measure=>simp [intOf]; omega
  ·have:k = len:=by omega
   subst this
   go_ret
   exact ⟨_,rfl,hrow,hnx⟩
theorem nm_ok:NumOk Try.prog 119 2:=⟨nm_none,nm_any⟩
noncomputable def cv.tw (F:Nat) (aa:Sl) (H:Hp):OA:=numTw aa H
noncomputable def cv.mk (g:Sl→Hp→OA) (args:List AV) (H:Hp):OA:=match args with
 | [.sl aa]=>g aa H
 | _=>none
theorem cv.T {F:Nat} {aa:Sl} {H:Hp} {v:AV} {H':Hp} (h:cv.tw F aa H = some (v,H')):Go.AE.T Try.prog 119 [.sl aa] H v H':=
 nm_ok.T (enters_of Try.func119 (by kernel_rfl) (by kernel_rfl)) h
theorem cv.mk_T {F:Nat} {args:List AV} {H:Hp} {v:AV} {H':Hp} (h:cv.mk (cv.tw F) args H = some (v,H')):Go.AE.T Try.prog 119 args H v H':=by
 unfold cv.mk at h
 split at h
 ·exact cv.T h
 ·cases h
noncomputable def aF.l29 (F:Nat) (ck:Sl→Hp→OA) (dW:Int→Hp→OA) (dX:Sl→Int→Int→Hp→OA) (dY:Sl→Hp→OA) :Nat→Nat→Nat→Sl→Sl→Int→Int→Hp→OA
 | 0,_,_,_,_,_,_,_=>none
 | dG + 1,bX,cu,gb,gR,eT,dZ,H26=>(bif (decide (dZ < eT)) then ((Sl.idx gR dZ 2).bind fun p40=>(Hp.ldI H26 .i64 p40.1 p40.2).bind fun n41=>(Hp.ldI H26 .i64 p40.1 (p40.2 + 1)).bind fun n42=>(Hp.new H26 [.int .i64 0,.int .i64 0]).bind fun H43=>(Hp.st H43 H26.length 0 (.int .i64 n41)).bind fun H44=>(Hp.st H44 H26.length (0 + 1) (.int .i64 n42)).bind fun H45=>(Hp.ldI H45 .i64 H26.length 0).bind fun n46=>(Hp.ldSl H45 bX (cu + 1)).bind fun s47=>(Sl.idx s47 dZ 2).bind fun p48=>(Hp.ldI H45 .i64 p48.1 p48.2).bind fun n49=>(dX gb n46 n49 H45).bind fun r50=>aF.l29 F ck dW dX dY dG bX cu gb gR eT (IntKind.i64.wrap (dZ + 1)) r50.2) else ((dY gb H26).bind fun r51=>((r51.1).asSl).bind fun s52=>some ((.sl s52),r51.2)))
termination_by structural n=>n
noncomputable def aF.twX (F:Nat) (ck:Sl→Hp→OA) (dW:Int→Hp→OA) (dX:Sl→Int→Int→Hp→OA) (dY:Sl→Hp→OA) (aa:Sl) (ab:Int) (ae:Sl) (aL:Sl) (H:Hp):OA:=(Hp.new H [(.sl aa),(.int .i64 ab)]).bind fun H5=>(Hp.new H5 [(.sl ae),(.sl aL)]).bind fun H6=>(Hp.ldSl H6 H.length 0).bind fun s7=>(ck s7 H6).bind fun r8=>((r8.1).asI .i64).bind fun n9=>(dW n9 r8.2).bind fun r10=>((r10.1).asSl).bind fun s11=>(Hp.ldSl r10.2 H5.length 0).bind fun s12=>aF.l29 F ck dW dX dY F H5.length 0 s11 s12 (s12.n:Int) 0 r10.2
noncomputable def aF.tw (F:Nat) (aa:Sl) (ab:Int) (ae:Sl) (aL:Sl) (H:Hp):OA:=aF.twX F (bd.tw F) (aS.tw F) (aI.tw F) (cv.tw F) aa ab ae aL H
noncomputable def aF.code:Go.Code:=(Try.f126.body).getD .skip
noncomputable def aF.lh29 (F:Nat) (ck:Sl→Hp→OA) (dW:Int→Hp→OA) (dX:Sl→Int→Int→Hp→OA) (dY:Sl→Hp→OA) (ks:List Nat) (n:Nat) (tm:Tm) (H:Hp):OA:=match ks,tm 3,tm 5,tm 13,tm 14,tm 15 with
 | [],(.ptr bX cu),(.sl gb),(.sl gR),(.int .i64 eT),(.int .i64 dZ)=>aF.l29 F ck dW dX dY n bX cu gb gR eT dZ H
 | _,_,_,_,_,_=>none
theorem aF.lh29_inv {F:Nat} {ck:Sl→Hp→OA} {dW:Int→Hp→OA} {dX:Sl→Int→Int→Hp→OA} {dY:Sl→Hp→OA} {ks:List Nat} {n:Nat} {tm:Tm} {H:Hp} {r:AV×Hp} (h:aF.lh29 F ck dW dX dY ks n tm H = some r):∃ bX:Nat,∃ cu:Nat,∃ gb:Sl,∃ gR:Sl,∃ eT:Int,∃ dZ:Int,ks = []∧tm 3 = (.ptr bX cu)∧tm 5 = (.sl gb)∧tm 13 = (.sl gR)∧tm 14 = (.int .i64 eT)∧tm 15 = (.int .i64 dZ)∧aF.l29 F ck dW dX dY n bX cu gb gR eT dZ H = some r:=by
 unfold aF.lh29 at h
 split at h
 ·exact ⟨_,_,_,_,_,_,rfl,by assumption,by assumption,by assumption,by assumption,by assumption,h⟩
 ·cases h
noncomputable def aF.lh (F:Nat) (ck:Sl→Hp→OA) (dW:Int→Hp→OA) (dX:Sl→Int→Int→Hp→OA) (dY:Sl→Hp→OA) (p:Nat) (ks:List Nat) (n:Nat) (tm:Tm) (H:Hp):OA:=bif p.beq 29 then aF.lh29 F ck dW dX dY ks n tm H else (none)
def aF.pn:Nat→List Nat:=fun i=>(([(5,[9])]:List (Nat×List Nat)).lookup i).getD []
def aF.tb:Nat→List (List Nat):=fun i=>(([(5,[[],[],[1],[],[3],[],[3,4,5],[3,4,5,6],[3,4,5,6,7],[0,1,2,3,4,5,6,7,8]])]:List (Nat×List (List Nat))).lookup i).getD []
noncomputable def aF.mk (g:Sl→Int→Sl→Sl→Hp→OA) (args:List AV) (H:Hp):OA:=match args with
 | [(.agg [(.sl aa),(.int .i64 ab)]),(.agg [(.sl ae),(.sl aL)])]=>g aa ab ae aL H
 | _=>none
noncomputable def aF.cs (F:Nat) (ck:Sl→Hp→OA) (dW:Int→Hp→OA) (dX:Sl→Int→Int→Hp→OA) (dY:Sl→Hp→OA):List (FuncId×(List AV→Hp→OA)):=[(117,bd.mk ck),(116,aS.mk dW),(118,aI.mk dX),(119,cv.mk dY)]
theorem aF.loops (F:Nat) (ck:Sl→Hp→OA) (dW:Int→Hp→OA) (dX:Sl→Int→Int→Hp→OA) (dY:Sl→Hp→OA):LoopsOk tabs (mkOrc (aF.cs F ck dW dX dY)) aF.pn (aF.lh F ck dW dX dY) F [] 1 aF.code (fun tm H=>aresults tabs.ty H tm Try.f126.results.toList fun v=>some (v,H)) (fun _ _ _=>none) (fun tm H=>aresults tabs.ty H tm Try.f126.results.toList fun v=>some (v,H)):=by
 refine LoopsOk.seq ?_ ?_
 ·exact loops_none (by kernel_rfl)
 ·refine LoopsOk.seq ?_ ?_
  ·exact loops_none (by kernel_rfl)
  ·refine LoopsOk.seq ?_ ?_
   ·refine LoopsOk.seq ?_ ?_
    ·exact loops_none (by kernel_rfl)
    ·refine LoopsOk.block ?_
     refine LoopsOk.loop (fun tm H=>?_) (fun k29 tm H r h0=>?_) (fun k29=>?_)
     ·refine none_of fun r h0=>?_
      obtain ⟨bX,cu,gb,gR,eT,dZ,hks,e3,e5,e13,e14,e15,h⟩:=aF.lh29_inv (show aF.lh29 F ck dW dX dY [] 0 tm H = some r from h0)
      cases h
     ·obtain ⟨bX,cu,gb,gR,eT,dZ,hks,e3,e5,e13,e14,e15,h⟩:=aF.lh29_inv (show aF.lh29 F ck dW dX dY [] (k29 + 1) tm H = some r from h0)
      have q0:(Tm.put tm 3 (.ptr bX cu)) = tm:=by exact Tm.put_same e3
      have q1:(Tm.put (Tm.put tm 3 (.ptr bX cu)) 5 (.sl gb)) = tm:=by rw [q0]; exact Tm.put_same e5
      have q2:(Tm.put (Tm.put (Tm.put tm 3 (.ptr bX cu)) 5 (.sl gb)) 13 (.sl gR)) = tm:=by rw [q1]; exact Tm.put_same e13
      have q3:(Tm.put (Tm.put (Tm.put (Tm.put tm 3 (.ptr bX cu)) 5 (.sl gb)) 13 (.sl gR)) 14 (.int .i64 eT)) = tm:=by rw [q2]; exact Tm.put_same e14
      have q4:(Tm.put (Tm.put (Tm.put (Tm.put (Tm.put tm 3 (.ptr bX cu)) 5 (.sl gb)) 13 (.sl gR)) 14 (.int .i64 eT)) 15 (.int .i64 dZ)) = tm:=by rw [q3]; exact Tm.put_same e15
      rw [← q4]
      exact Eq.trans (by kernel_rfl) h
     ·exact loops_none (by kernel_rfl)
   ·exact loops_none (by kernel_rfl)
theorem aF.eqX (F:Nat) (ck:Sl→Hp→OA) (dW:Int→Hp→OA) (dX:Sl→Int→Int→Hp→OA) (dY:Sl→Hp→OA) (aa:Sl) (ab:Int) (ae:Sl) (aL:Sl) (H:Hp):aCode tabs (mkOrc (aF.cs F ck dW dX dY)) aF.pn (aF.lh F ck dW dX dY) F [] 1 aF.code (argTm [(.agg [(.sl aa),(.int .i64 ab)]),(.agg [(.sl ae),(.sl aL)])]) H (fun tm H=>aresults tabs.ty H tm Try.f126.results.toList fun v=>some (v,H)) (fun _ _ _=>none) (fun tm H=>aresults tabs.ty H tm Try.f126.results.toList fun v=>some (v,H)) = aF.twX F ck dW dX dY aa ab ae aL H:=by kernel_rfl
theorem aF.cs_ok (F:Nat):∀ p ∈ aF.cs F (bd.tw F) (aS.tw F) (aI.tw F) (cv.tw F),∀ args H v H',p.2 args H = some (v,H')→Go.AE.T Try.prog p.1 args H v H':=by
 intro p hp
 simp only [aF.cs,List.mem_cons,List.not_mem_nil,or_false] at hp
 rcases hp with rfl | rfl | rfl | rfl
 ·exact fun args H v H' h=>bd.mk_T h
 ·exact fun args H v H' h=>aS.mk_T h
 ·exact fun args H v H' h=>aI.mk_T h
 ·exact fun args H v H' h=>cv.mk_T h
theorem aF.ok:codeOk aF.pn Try.f126.ntmps aF.tb aF.code = true:=by kernel_rfl
theorem aF.T {F:Nat} {aa:Sl} {ab:Int} {ae:Sl} {aL:Sl} {H:Hp} {v:AV} {H':Hp} (h:aF.tw F aa ab ae aL H = some (v,H')):Go.AE.T Try.prog 126 [(.agg [(.sl aa),(.int .i64 ab)]),(.agg [(.sl ae),(.sl aL)])] H v H':=
 Go.AE.T.of (Y:=tabs) (C:=mkOrc (aF.cs F (bd.tw F) (aS.tw F) (aI.tw F) (cv.tw F))) (PN:=aF.pn) (LH:=aF.lh F (bd.tw F) (aS.tw F) (aI.tw F) (cv.tw F)) (F:=F) (TB:=aF.tb) (fn:=Try.f126) (code:=aF.code) mixed tabs_ok (mkOrc_ok (aF.cs_ok F)) Try.func126 (by kernel_rfl) (by kernel_rfl) aF.ok (Nat.le_of_ble_eq_true (by kernel_rfl)) (aF.loops F (bd.tw F) (aS.tw F) (aI.tw F) (cv.tw F)) (Eq.trans (aF.eqX F (bd.tw F) (aS.tw F) (aI.tw F) (cv.tw F) aa ab ae aL H) h)
theorem aF.mk_T {F:Nat} {args:List AV} {H:Hp} {v:AV} {H':Hp} (h:aF.mk (aF.tw F) args H = some (v,H')):Go.AE.T Try.prog 126 args H v H':=by
 unfold aF.mk at h
 split at h
 ·exact aF.T h
 ·cases h
noncomputable def aN.l61 (F:Nat) :Nat→Sl→Int→Int→Hp→OA
 | 0,_,_,_,_=>none
 | bm + 1,ct,cm,eD,H13=>(bif (decide (eD < (ct.n:Int))) then ((Sl.idx ct eD 1).bind fun p16=>(Hp.ldI H13 .i64 p16.1 p16.2).bind fun n17=>aN.l61 F bm ct (if n17 > cm then n17 else cm) (IntKind.i64.wrap (eD + 1)) H13) else (some ((.int .i64 cm),H13)))
termination_by structural n=>n
noncomputable def aN.j1 (F:Nat) (xK:Sl) (H5:Hp):OA:=(Sl.idx xK 0 1).bind fun p6=>(Hp.ldI H5 .i64 p6.1 p6.2).bind fun n7=>aN.l61 F F xK n7 1 H5
noncomputable def aN.twX (F:Nat) (aa:Sl) (H:Hp):OA:=(bif (decide ((aa.n:Int) < 1)) then (none) else (aN.j1 F aa H))
noncomputable def aN.tw (F:Nat) (aa:Sl) (H:Hp):OA:=aN.twX F aa H
noncomputable def aN.code:Go.Code:=(Try.f151.body).getD .skip
noncomputable def aN.lh61 (F:Nat) (ks:List Nat) (n:Nat) (tm:Tm) (H:Hp):OA:=match ks,tm 0,tm 3,tm 4 with
 | [],(.sl ct),(.int .i64 cm),(.int .i64 eD)=>aN.l61 F n ct cm eD H
 | _,_,_,_=>none
theorem aN.lh61_inv {F:Nat} {ks:List Nat} {n:Nat} {tm:Tm} {H:Hp} {r:AV×Hp} (h:aN.lh61 F ks n tm H = some r):∃ ct:Sl,∃ cm:Int,∃ eD:Int,ks = []∧tm 0 = (.sl ct)∧tm 3 = (.int .i64 cm)∧tm 4 = (.int .i64 eD)∧aN.l61 F n ct cm eD H = some r:=by
 unfold aN.lh61 at h
 split at h
 ·exact ⟨_,_,_,rfl,by assumption,by assumption,by assumption,h⟩
 ·cases h
noncomputable def aN.lh (F:Nat) (p:Nat) (ks:List Nat) (n:Nat) (tm:Tm) (H:Hp):OA:=bif p.beq 61 then aN.lh61 F ks n tm H else (none)
def aN.pn:Nat→List Nat:=fun i=>(([]:List (Nat×List Nat)).lookup i).getD []
def aN.tb:Nat→List (List Nat):=fun i=>(([]:List (Nat×List (List Nat))).lookup i).getD []
noncomputable def aN.mk (g:Sl→Hp→OA) (args:List AV) (H:Hp):OA:=match args with
 | [(.sl aa)]=>g aa H
 | _=>none
noncomputable def aN.cs (F:Nat):List (FuncId×(List AV→Hp→OA)):=[]
theorem aN.loops (F:Nat):LoopsOk tabs (mkOrc (aN.cs F)) aN.pn (aN.lh F) F [] 1 aN.code (fun tm H=>aresults tabs.ty H tm Try.f151.results.toList fun v=>some (v,H)) (fun _ _ _=>none) (fun tm H=>aresults tabs.ty H tm Try.f151.results.toList fun v=>some (v,H)):=by
 refine LoopsOk.seq ?_ ?_
 ·exact loops_none (by kernel_rfl)
 ·refine LoopsOk.seq ?_ ?_
  ·exact loops_none (by kernel_rfl)
  ·refine LoopsOk.seq ?_ ?_
   ·exact loops_none (by kernel_rfl)
   ·refine LoopsOk.seq ?_ ?_
    ·refine LoopsOk.seq ?_ ?_
     ·exact loops_none (by kernel_rfl)
     ·refine LoopsOk.block ?_
      refine LoopsOk.loop (fun tm H=>?_) (fun k61 tm H r h0=>?_) (fun k61=>?_)
      ·refine none_of fun r h0=>?_
       obtain ⟨ct,cm,eD,hks,e0,e3,e4,h⟩:=aN.lh61_inv (show aN.lh61 F [] 0 tm H = some r from h0)
       cases h
      ·obtain ⟨ct,cm,eD,hks,e0,e3,e4,h⟩:=aN.lh61_inv (show aN.lh61 F [] (k61 + 1) tm H = some r from h0)
       have q0:(Tm.put tm 0 (.sl ct)) = tm:=by exact Tm.put_same e0
       have q1:(Tm.put (Tm.put tm 0 (.sl ct)) 3 (.int .i64 cm)) = tm:=by rw [q0]; exact Tm.put_same e3
       have q2:(Tm.put (Tm.put (Tm.put tm 0 (.sl ct)) 3 (.int .i64 cm)) 4 (.int .i64 eD)) = tm:=by rw [q1]; exact Tm.put_same e4
       rw [← q2]
       exact Eq.trans (by kernel_rfl) h
      ·exact loops_none (by kernel_rfl)
    ·exact loops_none (by kernel_rfl)
theorem aN.eqX (F:Nat) (aa:Sl) (H:Hp):aCode tabs (mkOrc (aN.cs F)) aN.pn (aN.lh F) F [] 1 aN.code (argTm [(.sl aa)]) H (fun tm H=>aresults tabs.ty H tm Try.f151.results.toList fun v=>some (v,H)) (fun _ _ _=>none) (fun tm H=>aresults tabs.ty H tm Try.f151.results.toList fun v=>some (v,H)) = aN.twX F aa H:=by kernel_rfl
theorem aN.cs_ok (F:Nat):∀ p ∈ aN.cs F,∀ args H v H',p.2 args H = some (v,H')→Go.AE.T Try.prog p.1 args H v H':=by
 intro p hp
 exact absurd (show p ∈ [] from hp) List.not_mem_nil
theorem aN.ok:codeOk aN.pn Try.f151.ntmps aN.tb aN.code = true:=by kernel_rfl
theorem aN.T {F:Nat} {aa:Sl} {H:Hp} {v:AV} {H':Hp} (h:aN.tw F aa H = some (v,H')):Go.AE.T Try.prog 151 [(.sl aa)] H v H':=
 Go.AE.T.of (Y:=tabs) (C:=mkOrc (aN.cs F)) (PN:=aN.pn) (LH:=aN.lh F) (F:=F) (TB:=aN.tb) (fn:=Try.f151) (code:=aN.code) mixed tabs_ok (mkOrc_ok (aN.cs_ok F)) Try.func151 (by kernel_rfl) (by kernel_rfl) aN.ok (Nat.le_of_ble_eq_true (by kernel_rfl)) (aN.loops F) (Eq.trans (aN.eqX F aa H) h)
theorem aN.mk_T {F:Nat} {args:List AV} {H:Hp} {v:AV} {H':Hp} (h:aN.mk (aN.tw F) args H = some (v,H')):Go.AE.T Try.prog 151 args H v H':=by
 unfold aN.mk at h
 split at h
 ·exact aN.T h
 ·cases h
noncomputable def ba.twX (F:Nat) (hX:Sl→Hp→OA) (aa:Sl) (H:Hp):OA:=(bif ((aa.n:Int) == 0) then (some ((.int .i64 0),H)) else ((hX aa H).bind fun r2=>((r2.1).asI .i64).bind fun n3=>some ((.int .i64 (IntKind.i64.wrap (n3 + 1))),r2.2)))
noncomputable def ba.tw (F:Nat) (aa:Sl) (H:Hp):OA:=ba.twX F (aN.tw F) aa H
noncomputable def ba.code:Go.Code:=(Try.f120.body).getD .skip
noncomputable def ba.lh (F:Nat) (hX:Sl→Hp→OA) (p:Nat) (ks:List Nat) (n:Nat) (tm:Tm) (H:Hp):OA:=none
def ba.pn:Nat→List Nat:=fun i=>(([]:List (Nat×List Nat)).lookup i).getD []
def ba.tb:Nat→List (List Nat):=fun i=>(([]:List (Nat×List (List Nat))).lookup i).getD []
noncomputable def ba.mk (g:Sl→Hp→OA) (args:List AV) (H:Hp):OA:=match args with
 | [(.sl aa)]=>g aa H
 | _=>none
noncomputable def ba.cs (F:Nat) (hX:Sl→Hp→OA):List (FuncId×(List AV→Hp→OA)):=[(151,aN.mk hX)]
theorem ba.loops (F:Nat) (hX:Sl→Hp→OA):LoopsOk tabs (mkOrc (ba.cs F hX)) ba.pn (ba.lh F hX) F [] 1 ba.code (fun tm H=>aresults tabs.ty H tm Try.f120.results.toList fun v=>some (v,H)) (fun _ _ _=>none) (fun tm H=>aresults tabs.ty H tm Try.f120.results.toList fun v=>some (v,H)):=by
 exact loops_none (by kernel_rfl)
theorem ba.eqX (F:Nat) (hX:Sl→Hp→OA) (aa:Sl) (H:Hp):aCode tabs (mkOrc (ba.cs F hX)) ba.pn (ba.lh F hX) F [] 1 ba.code (argTm [(.sl aa)]) H (fun tm H=>aresults tabs.ty H tm Try.f120.results.toList fun v=>some (v,H)) (fun _ _ _=>none) (fun tm H=>aresults tabs.ty H tm Try.f120.results.toList fun v=>some (v,H)) = ba.twX F hX aa H:=by kernel_rfl
theorem ba.cs_ok (F:Nat):∀ p ∈ ba.cs F (aN.tw F),∀ args H v H',p.2 args H = some (v,H')→Go.AE.T Try.prog p.1 args H v H':=by
 intro p hp
 simp only [ba.cs,List.mem_cons,List.not_mem_nil,or_false] at hp
 subst hp
 exact fun args H v H' h=>aN.mk_T h
theorem ba.ok:codeOk ba.pn Try.f120.ntmps ba.tb ba.code = true:=by kernel_rfl
theorem ba.T {F:Nat} {aa:Sl} {H:Hp} {v:AV} {H':Hp} (h:ba.tw F aa H = some (v,H')):Go.AE.T Try.prog 120 [(.sl aa)] H v H':=
 Go.AE.T.of (Y:=tabs) (C:=mkOrc (ba.cs F (aN.tw F))) (PN:=ba.pn) (LH:=ba.lh F (aN.tw F)) (F:=F) (TB:=ba.tb) (fn:=Try.f120) (code:=ba.code) mixed tabs_ok (mkOrc_ok (ba.cs_ok F)) Try.func120 (by kernel_rfl) (by kernel_rfl) ba.ok (Nat.le_of_ble_eq_true (by kernel_rfl)) (ba.loops F (aN.tw F)) (Eq.trans (ba.eqX F (aN.tw F) aa H) h)
theorem ba.mk_T {F:Nat} {args:List AV} {H:Hp} {v:AV} {H':Hp} (h:ba.mk (ba.tw F) args H = some (v,H')):Go.AE.T Try.prog 120 args H v H':=by
 unfold ba.mk at h
 split at h
 ·exact ba.T h
 ·cases h
noncomputable def bp.twX (F:Nat) (ck:Sl→Hp→OA) (dv:Int→Int→Int→Hp→OA) (hY:Sl→Hp→OA) (hZ:Sl→Int→Hp→OA) (aE:Sl→Int→Sl→Sl→Hp→OA) (h_:Sl→Hp→OA) (bi:Sl→Int→Sl→Sl→Hp→OA) (bj:Sl→Hp→OA) (aa:Sl) (ab:Int) (H:Hp):OA:=(Hp.new H [(.sl aa),(.int .i64 ab)]).bind fun H3=>(Hp.new H3 [.sl ⟨none,0,.ex 0⟩,.sl ⟨none,0,.ex 0⟩]).bind fun H4=>(Hp.ldSl H4 H.length 0).bind fun s5=>(ck s5 H4).bind fun r6=>((r6.1).asI .i64).bind fun n7=>(bif (decide (n7 > 10)) then ((Hp.st r6.2 H3.length 0 (.sl (⟨none,0,.ex 0⟩:Sl))).bind fun H8=>(Hp.st H8 H3.length (0 + 1) (.sl (⟨none,0,.ex 0⟩:Sl))).bind fun H9=>(Hp.ldSl H9 H3.length 0).bind fun s10=>(Hp.ldSl H9 H3.length (0 + 1)).bind fun s11=>some ((.tup [(.agg [(.sl s10),(.sl s11)]),(.bool false)]),H9)) else ((Hp.ldI r6.2 .i64 H.length 1).bind fun n12=>(dv n12 0 8 r6.2).bind fun r13=>((r13.1).asB).bind fun b14=>(bif (!b14) then ((Hp.st r13.2 H3.length 0 (.sl (⟨none,0,.ex 0⟩:Sl))).bind fun H15=>(Hp.st H15 H3.length (0 + 1) (.sl (⟨none,0,.ex 0⟩:Sl))).bind fun H16=>(Hp.ldSl H16 H3.length 0).bind fun s17=>(Hp.ldSl H16 H3.length (0 + 1)).bind fun s18=>some ((.tup [(.agg [(.sl s17),(.sl s18)]),(.bool false)]),H16)) else ((Hp.ldSl r13.2 H.length 0).bind fun s19=>(hY s19 r13.2).bind fun r20=>((r20.1).asB).bind fun b21=>(bif b21 then ((Hp.st r20.2 H3.length 0 (.sl (⟨none,0,.ex 0⟩:Sl))).bind fun H22=>(Hp.st H22 H3.length (0 + 1) (.sl (⟨none,0,.ex 0⟩:Sl))).bind fun H23=>(Hp.ldSl H23 H3.length 0).bind fun s24=>(Hp.ldSl H23 H3.length (0 + 1)).bind fun s25=>some ((.tup [(.agg [(.sl s24),(.sl s25)]),(.bool false)]),H23)) else ((Hp.ldSl r20.2 H.length 0).bind fun s26=>(Hp.ldI r20.2 .i64 H.length (0 + 1)).bind fun n27=>(hZ s26 n27 r20.2).bind fun r28=>((r28.1).asTup 2).bind fun l29=>(l29[0]?).bind fun v30=>((v30).asAgg 2).bind fun l31=>(l31[0]?).bind fun v32=>((v32).asSl).bind fun s33=>(l31[1]?).bind fun v34=>((v34).asSl).bind fun s35=>(l29[1]?).bind fun v36=>((v36).asB).bind fun b37=>(Hp.new r28.2 [.sl ⟨none,0,.ex 0⟩,.sl ⟨none,0,.ex 0⟩]).bind fun H38=>(Hp.st H38 r28.2.length 0 (.sl s33)).bind fun H39=>(Hp.st H39 r28.2.length (0 + 1) (.sl s35)).bind fun H40=>(bif (!b37) then ((Hp.st H40 H3.length 0 (.sl (⟨none,0,.ex 0⟩:Sl))).bind fun H41=>(Hp.st H41 H3.length (0 + 1) (.sl (⟨none,0,.ex 0⟩:Sl))).bind fun H42=>(Hp.ldSl H42 H3.length 0).bind fun s43=>(Hp.ldSl H42 H3.length (0 + 1)).bind fun s44=>some ((.tup [(.agg [(.sl s43),(.sl s44)]),(.bool false)]),H42)) else ((Hp.ldSl H40 H.length 0).bind fun s45=>(Hp.ldI H40 .i64 H.length (0 + 1)).bind fun n46=>(Hp.ldSl H40 r28.2.length 0).bind fun s47=>(Hp.ldSl H40 r28.2.length (0 + 1)).bind fun s48=>(aE s45 n46 s47 s48 H40).bind fun r49=>((r49.1).asSl).bind fun s50=>(if Cons H40 r49.2 then ((h_ s50 r49.2).bind fun r51=>((r51.1).asI .i64).bind fun n52=>(if Cons r49.2 r51.2 then ((Hp.ldSl r51.2 H.length 0).bind fun s53=>(Hp.ldI r51.2 .i64 H.length (0 + 1)).bind fun n54=>(Hp.ldSl r51.2 r28.2.length 0).bind fun s55=>(Hp.ldSl r51.2 r28.2.length (0 + 1)).bind fun s56=>(bi s53 n54 s55 s56 r51.2).bind fun r57=>((r57.1).asSl).bind fun s58=>(bj s58 r57.2).bind fun r59=>((r59.1).asI .i64).bind fun n60=>(bif (n52 != (IntKind.i64.wrap (n7 + (IntKind.i64.wrap (2 * n60))))) then ((Hp.st r59.2 H3.length 0 (.sl (⟨none,0,.ex 0⟩:Sl))).bind fun H61=>(Hp.st H61 H3.length (0 + 1) (.sl (⟨none,0,.ex 0⟩:Sl))).bind fun H62=>(Hp.ldSl H62 H3.length 0).bind fun s63=>(Hp.ldSl H62 H3.length (0 + 1)).bind fun s64=>some ((.tup [(.agg [(.sl s63),(.sl s64)]),(.bool false)]),H62)) else ((Hp.ldSl r59.2 r28.2.length 0).bind fun s65=>(Hp.ldSl r59.2 r28.2.length (0 + 1)).bind fun s66=>(Hp.st r59.2 H3.length 0 (.sl s65)).bind fun H67=>(Hp.st H67 H3.length (0 + 1) (.sl s66)).bind fun H68=>(Hp.ldSl H68 H3.length 0).bind fun s69=>(Hp.ldSl H68 H3.length (0 + 1)).bind fun s70=>some ((.tup [(.agg [(.sl s69),(.sl s70)]),(.bool true)]),H68)))) else none)) else none)))))))))
noncomputable def bp.tw (F:Nat) (aa:Sl) (ab:Int) (H:Hp):OA:=bp.twX F (bd.tw F) (bh.tw F) (bx.tw F) (aw.tw F) (aj.tw F) (bJ.tw F) (aF.tw F) (ba.tw F) aa ab H
noncomputable def bp.code:Go.Code:=(Try.f69.body).getD .skip
noncomputable def bp.lh (F:Nat) (ck:Sl→Hp→OA) (dv:Int→Int→Int→Hp→OA) (hY:Sl→Hp→OA) (hZ:Sl→Int→Hp→OA) (aE:Sl→Int→Sl→Sl→Hp→OA) (h_:Sl→Hp→OA) (bi:Sl→Int→Sl→Sl→Hp→OA) (bj:Sl→Hp→OA) (p:Nat) (ks:List Nat) (n:Nat) (tm:Tm) (H:Hp):OA:=none
def bp.pn:Nat→List Nat:=fun i=>(([(5,[10,11])]:List (Nat×List Nat)).lookup i).getD []
def bp.tb:Nat→List (List Nat):=fun i=>(([(5,[[],[0],[0,1],[0,1,2],[0,1,2],[0,1,2,3,4],[0,1,2,3,4,5],[0,1,2],[0,1,2],[0,1,2],[0,1,2,3,4,5,6,8,9],[0,1,2,3,4,5,6,8,9,10],[0,1,2,3,4,5,6,8,9,10,11],[0,1,2,3,4,5,6,7,8,9,10,11,12],[0,1,2,3,4,5,6,7,8,9,10,11,12,13],[0,1,2,3,4,5,6,7,8,9,10,11,12,13,14]])]:List (Nat×List (List Nat))).lookup i).getD []
noncomputable def bp.mk (g:Sl→Int→Hp→OA) (args:List AV) (H:Hp):OA:=match args with
 | [(.agg [(.sl aa),(.int .i64 ab)])]=>g aa ab H
 | _=>none
noncomputable def bp.cs (F:Nat) (ck:Sl→Hp→OA) (dv:Int→Int→Int→Hp→OA) (hY:Sl→Hp→OA) (hZ:Sl→Int→Hp→OA) (aE:Sl→Int→Sl→Sl→Hp→OA) (h_:Sl→Hp→OA) (bi:Sl→Int→Sl→Sl→Hp→OA) (bj:Sl→Hp→OA):List (FuncId×(List AV→Hp→OA)):=[(117,bd.mk ck),(81,bh.mk dv),(123,bx.mk hY),(125,aw.mk hZ),(103,aj.mk aE),(89,bJ.mk h_),(126,aF.mk bi),(120,ba.mk bj)]
theorem bp.loops (F:Nat) (ck:Sl→Hp→OA) (dv:Int→Int→Int→Hp→OA) (hY:Sl→Hp→OA) (hZ:Sl→Int→Hp→OA) (aE:Sl→Int→Sl→Sl→Hp→OA) (h_:Sl→Hp→OA) (bi:Sl→Int→Sl→Sl→Hp→OA) (bj:Sl→Hp→OA):LoopsOk tabs (mkOrc (bp.cs F ck dv hY hZ aE h_ bi bj)) bp.pn (bp.lh F ck dv hY hZ aE h_ bi bj) F [] 1 bp.code (fun tm H=>aresults tabs.ty H tm Try.f69.results.toList fun v=>some (v,H)) (fun _ _ _=>none) (fun tm H=>aresults tabs.ty H tm Try.f69.results.toList fun v=>some (v,H)):=by
 exact loops_none (by kernel_rfl)
theorem bp.eqX (F:Nat) (ck:Sl→Hp→OA) (dv:Int→Int→Int→Hp→OA) (hY:Sl→Hp→OA) (hZ:Sl→Int→Hp→OA) (aE:Sl→Int→Sl→Sl→Hp→OA) (h_:Sl→Hp→OA) (bi:Sl→Int→Sl→Sl→Hp→OA) (bj:Sl→Hp→OA) (aa:Sl) (ab:Int) (H:Hp):aCode tabs (mkOrc (bp.cs F ck dv hY hZ aE h_ bi bj)) bp.pn (bp.lh F ck dv hY hZ aE h_ bi bj) F [] 1 bp.code (argTm [(.agg [(.sl aa),(.int .i64 ab)])]) H (fun tm H=>aresults tabs.ty H tm Try.f69.results.toList fun v=>some (v,H)) (fun _ _ _=>none) (fun tm H=>aresults tabs.ty H tm Try.f69.results.toList fun v=>some (v,H)) = bp.twX F ck dv hY hZ aE h_ bi bj aa ab H:=by kernel_rfl
theorem bp.cs_ok (F:Nat):∀ p ∈ bp.cs F (bd.tw F) (bh.tw F) (bx.tw F) (aw.tw F) (aj.tw F) (bJ.tw F) (aF.tw F) (ba.tw F),∀ args H v H',p.2 args H = some (v,H')→Go.AE.T Try.prog p.1 args H v H':=by
 intro p hp
 simp only [bp.cs,List.mem_cons,List.not_mem_nil,or_false] at hp
 rcases hp with rfl | rfl | rfl | rfl | rfl | rfl | rfl | rfl
 ·exact fun args H v H' h=>bd.mk_T h
 ·exact fun args H v H' h=>bh.mk_T h
 ·exact fun args H v H' h=>bx.mk_T h
 ·exact fun args H v H' h=>aw.mk_T h
 ·exact fun args H v H' h=>aj.mk_T h
 ·exact fun args H v H' h=>bJ.mk_T h
 ·exact fun args H v H' h=>aF.mk_T h
 ·exact fun args H v H' h=>ba.mk_T h
theorem bp.ok:codeOk bp.pn Try.f69.ntmps bp.tb bp.code = true:=by kernel_rfl
theorem bp.T {F:Nat} {aa:Sl} {ab:Int} {H:Hp} {v:AV} {H':Hp} (h:bp.tw F aa ab H = some (v,H')):Go.AE.T Try.prog 69 [(.agg [(.sl aa),(.int .i64 ab)])] H v H':=
 Go.AE.T.of (Y:=tabs) (C:=mkOrc (bp.cs F (bd.tw F) (bh.tw F) (bx.tw F) (aw.tw F) (aj.tw F) (bJ.tw F) (aF.tw F) (ba.tw F))) (PN:=bp.pn) (LH:=bp.lh F (bd.tw F) (bh.tw F) (bx.tw F) (aw.tw F) (aj.tw F) (bJ.tw F) (aF.tw F) (ba.tw F)) (F:=F) (TB:=bp.tb) (fn:=Try.f69) (code:=bp.code) mixed tabs_ok (mkOrc_ok (bp.cs_ok F)) Try.func69 (by kernel_rfl) (by kernel_rfl) bp.ok (Nat.le_of_ble_eq_true (by kernel_rfl)) (bp.loops F (bd.tw F) (bh.tw F) (bx.tw F) (aw.tw F) (aj.tw F) (bJ.tw F) (aF.tw F) (ba.tw F)) (Eq.trans (bp.eqX F (bd.tw F) (bh.tw F) (bx.tw F) (aw.tw F) (aj.tw F) (bJ.tw F) (aF.tw F) (ba.tw F) aa ab H) h)
theorem bp.mk_T {F:Nat} {args:List AV} {H:Hp} {v:AV} {H':Hp} (h:bp.mk (bp.tw F) args H = some (v,H')):Go.AE.T Try.prog 69 args H v H':=by
 unfold bp.mk at h
 split at h
 ·exact bp.T h
 ·cases h
noncomputable def bF.twX (F:Nat) (aa:Int) (H:Hp):OA:=(bif (aa == 0) then (some ((.bool true),H)) else (some ((.bool (aa == 1)),H)))
noncomputable def bF.tw (F:Nat) (aa:Int) (H:Hp):OA:=bF.twX F aa H
noncomputable def bF.code:Go.Code:=(Try.f71.body).getD .skip
noncomputable def bF.lh (F:Nat) (p:Nat) (ks:List Nat) (n:Nat) (tm:Tm) (H:Hp):OA:=none
def bF.pn:Nat→List Nat:=fun i=>(([]:List (Nat×List Nat)).lookup i).getD []
def bF.tb:Nat→List (List Nat):=fun i=>(([]:List (Nat×List (List Nat))).lookup i).getD []
noncomputable def bF.mk (g:Int→Hp→OA) (args:List AV) (H:Hp):OA:=match args with
 | [(.int .i64 aa)]=>g aa H
 | _=>none
noncomputable def bF.cs (F:Nat):List (FuncId×(List AV→Hp→OA)):=[]
theorem bF.loops (F:Nat):LoopsOk tabs (mkOrc (bF.cs F)) bF.pn (bF.lh F) F [] 1 bF.code (fun tm H=>aresults tabs.ty H tm Try.f71.results.toList fun v=>some (v,H)) (fun _ _ _=>none) (fun tm H=>aresults tabs.ty H tm Try.f71.results.toList fun v=>some (v,H)):=by
 exact loops_none (by kernel_rfl)
theorem bF.eqX (F:Nat) (aa:Int) (H:Hp):aCode tabs (mkOrc (bF.cs F)) bF.pn (bF.lh F) F [] 1 bF.code (argTm [(.int .i64 aa)]) H (fun tm H=>aresults tabs.ty H tm Try.f71.results.toList fun v=>some (v,H)) (fun _ _ _=>none) (fun tm H=>aresults tabs.ty H tm Try.f71.results.toList fun v=>some (v,H)) = bF.twX F aa H:=by kernel_rfl
theorem bF.cs_ok (F:Nat):∀ p ∈ bF.cs F,∀ args H v H',p.2 args H = some (v,H')→Go.AE.T Try.prog p.1 args H v H':=by
 intro p hp
 exact absurd (show p ∈ [] from hp) List.not_mem_nil
theorem bF.ok:codeOk bF.pn Try.f71.ntmps bF.tb bF.code = true:=by kernel_rfl
theorem bF.T {F:Nat} {aa:Int} {H:Hp} {v:AV} {H':Hp} (h:bF.tw F aa H = some (v,H')):Go.AE.T Try.prog 71 [(.int .i64 aa)] H v H':=
 Go.AE.T.of (Y:=tabs) (C:=mkOrc (bF.cs F)) (PN:=bF.pn) (LH:=bF.lh F) (F:=F) (TB:=bF.tb) (fn:=Try.f71) (code:=bF.code) mixed tabs_ok (mkOrc_ok (bF.cs_ok F)) Try.func71 (by kernel_rfl) (by kernel_rfl) bF.ok (Nat.le_of_ble_eq_true (by kernel_rfl)) (bF.loops F) (Eq.trans (bF.eqX F aa H) h)
theorem bF.mk_T {F:Nat} {args:List AV} {H:Hp} {v:AV} {H':Hp} (h:bF.mk (bF.tw F) args H = some (v,H')):Go.AE.T Try.prog 71 args H v H':=by
 unfold bF.mk at h
 split at h
 ·exact bF.T h
 ·cases h
noncomputable def ap.j3 (F:Nat) (aE:Sl→Int→Sl→Sl→Hp→OA) (C29_:Sl→Sl→Int→Int→Hp→OA) (FR:Sl) (FS:Sl) (lj:Int) (lk:Int) (H168:Hp):OA:=C29_ FR FS lj (IntKind.i64.wrap (lk + 1)) H168
noncomputable def ap.j4 (F:Nat) (aE:Sl→Int→Sl→Sl→Hp→OA) (C29_:Sl→Sl→Int→Int→Hp→OA) (FT:Sl) (FU:Sl) (ll:Int) (lm:Int) (H147:Hp):OA:=ap.j3 F aE C29_ FT FU ll lm H147
noncomputable def ap.l1883 (F:Nat) (aE:Sl→Int→Sl→Sl→Hp→OA) (C29_:Sl→Sl→Int→Int→Hp→OA):Nat→Sl→Sl→Int→Int→Int→Sl→Int→Int→Hp→OA
 | 0,_,_,_,_,_,_,_,_,_=>none
 | FV + 1,fg,fR,d_,ep,dl,gS,eU,eE,H122=>(bif (decide (eE < eU)) then ((Sl.idx gS eE 1).bind fun p169=>(Hp.ldI H122 .i64 p169.1 p169.2).bind fun n170=>(Sl.idx fg n170 1).bind fun p171=>(Hp.st H122 p171.1 p171.2 (.int .i64 dl)).bind fun H172=>ap.l1883 F aE C29_ FV fg fR d_ ep dl gS eU (IntKind.i64.wrap (eE + 1)) H172) else (ap.j4 F aE C29_ fg fR d_ ep H122))
termination_by structural n=>n
noncomputable def ap.l29 (F:Nat) (aE:Sl→Int→Sl→Sl→Hp→OA) :Nat→Sl→Sl→Int→Int→Hp→OA
 | 0,_,_,_,_,_=>none
 | dG + 1,bQ,gT,eV,ea,H28=>(bif (decide (ea < eV)) then ((Sl.idx gT ea 1).bind fun p101=>(Hp.ldSl H28 p101.1 p101.2).bind fun s102=>ap.l1883 F aE (ap.l29 F aE dG) F bQ gT eV ea ea s102 (s102.n:Int) 0 H28) else (some ((.sl bQ),H28)))
termination_by structural n=>n
noncomputable def ap.twX (F:Nat) (aE:Sl→Int→Sl→Sl→Hp→OA) (aa:Sl) (ab:Int) (ae:Sl) (aL:Sl) (H:Hp):OA:=(Hp.new H [(.sl aa),(.int .i64 ab)]).bind fun H5=>(Hp.new H5 [(.sl ae),(.sl aL)]).bind fun H6=>(Hp.ldSl H6 H.length 0).bind fun s7=>(Hp.mk H6 [.int .i64 0] 8 (IntKind.i64.wrap (4 * (s7.n:Int))) (IntKind.i64.wrap (4 * (s7.n:Int)))).bind fun m8=>(Hp.ldSl m8.2 H.length 0).bind fun s9=>(Hp.ldI m8.2 .i64 H.length (0 + 1)).bind fun n10=>(Hp.ldSl m8.2 H5.length 0).bind fun s11=>(Hp.ldSl m8.2 H5.length (0 + 1)).bind fun s12=>(aE s9 n10 s11 s12 m8.2).bind fun r13=>((r13.1).asSl).bind fun s14=>ap.l29 F aE F m8.1 s14 (s14.n:Int) 0 r13.2
noncomputable def ap.tw (F:Nat) (aa:Sl) (ab:Int) (ae:Sl) (aL:Sl) (H:Hp):OA:=ap.twX F (aj.tw F) aa ab ae aL H
noncomputable def ap.code:Go.Code:=(Try.f127.body).getD .skip
noncomputable def ap.lh29 (F:Nat) (aE:Sl→Int→Sl→Sl→Hp→OA) (ks:List Nat) (n:Nat) (tm:Tm) (H:Hp):OA:=match ks,tm 5,tm 17,tm 18,tm 19 with
 | [],(.sl bQ),(.sl gT),(.int .i64 eV),(.int .i64 ea)=>ap.l29 F aE n bQ gT eV ea H
 | _,_,_,_,_=>none
theorem ap.lh29_inv {F:Nat} {aE:Sl→Int→Sl→Sl→Hp→OA} {ks:List Nat} {n:Nat} {tm:Tm} {H:Hp} {r:AV×Hp} (h:ap.lh29 F aE ks n tm H = some r):∃ bQ:Sl,∃ gT:Sl,∃ eV:Int,∃ ea:Int,ks = []∧tm 5 = (.sl bQ)∧tm 17 = (.sl gT)∧tm 18 = (.int .i64 eV)∧tm 19 = (.int .i64 ea)∧ap.l29 F aE n bQ gT eV ea H = some r:=by
 unfold ap.lh29 at h
 split at h
 ·exact ⟨_,_,_,_,rfl,by assumption,by assumption,by assumption,by assumption,h⟩
 ·cases h
noncomputable def ap.lh1883 (F:Nat) (aE:Sl→Int→Sl→Sl→Hp→OA) (ks:List Nat) (n:Nat) (tm:Tm) (H:Hp):OA:=match ks,tm 5,tm 6,tm 17,tm 18,tm 19,tm 24,tm 25,tm 26 with
 | [dG],(.sl fg),(.int .i64 dl),(.sl fR),(.int .i64 d_),(.int .i64 ep),(.sl gS),(.int .i64 eU),(.int .i64 eE)=>ap.l1883 F aE (ap.l29 F aE dG) n fg fR d_ ep dl gS eU eE H
 | _,_,_,_,_,_,_,_,_=>none
theorem ap.lh1883_inv {F:Nat} {aE:Sl→Int→Sl→Sl→Hp→OA} {ks:List Nat} {n:Nat} {tm:Tm} {H:Hp} {r:AV×Hp} (h:ap.lh1883 F aE ks n tm H = some r):∃ dG:Nat,∃ fg:Sl,∃ dl:Int,∃ fR:Sl,∃ d_:Int,∃ ep:Int,∃ gS:Sl,∃ eU:Int,∃ eE:Int,ks = [dG]∧tm 5 = (.sl fg)∧tm 6 = (.int .i64 dl)∧tm 17 = (.sl fR)∧tm 18 = (.int .i64 d_)∧tm 19 = (.int .i64 ep)∧tm 24 = (.sl gS)∧tm 25 = (.int .i64 eU)∧tm 26 = (.int .i64 eE)∧ap.l1883 F aE (ap.l29 F aE dG) n fg fR d_ ep dl gS eU eE H = some r:=by
 unfold ap.lh1883 at h
 split at h
 ·exact ⟨_,_,_,_,_,_,_,_,_,rfl,by assumption,by assumption,by assumption,by assumption,by assumption,by assumption,by assumption,by assumption,h⟩
 ·cases h
noncomputable def ap.lh (F:Nat) (aE:Sl→Int→Sl→Sl→Hp→OA) (p:Nat) (ks:List Nat) (n:Nat) (tm:Tm) (H:Hp):OA:=bif p.beq 1883 then ap.lh1883 F aE ks n tm H else (bif p.beq 29 then ap.lh29 F aE ks n tm H else (none))
def ap.pn:Nat→List Nat:=fun i=>(([]:List (Nat×List Nat)).lookup i).getD []
def ap.tb:Nat→List (List Nat):=fun i=>(([]:List (Nat×List (List Nat))).lookup i).getD []
noncomputable def ap.mk (g:Sl→Int→Sl→Sl→Hp→OA) (args:List AV) (H:Hp):OA:=match args with
 | [(.agg [(.sl aa),(.int .i64 ab)]),(.agg [(.sl ae),(.sl aL)])]=>g aa ab ae aL H
 | _=>none
noncomputable def ap.cs (F:Nat) (aE:Sl→Int→Sl→Sl→Hp→OA):List (FuncId×(List AV→Hp→OA)):=[(103,aj.mk aE)]
theorem ap.loops (F:Nat) (aE:Sl→Int→Sl→Sl→Hp→OA):LoopsOk tabs (mkOrc (ap.cs F aE)) ap.pn (ap.lh F aE) F [] 1 ap.code (fun tm H=>aresults tabs.ty H tm Try.f127.results.toList fun v=>some (v,H)) (fun _ _ _=>none) (fun tm H=>aresults tabs.ty H tm Try.f127.results.toList fun v=>some (v,H)):=by
 refine LoopsOk.seq ?_ ?_
 ·exact loops_none (by kernel_rfl)
 ·refine LoopsOk.seq ?_ ?_
  ·exact loops_none (by kernel_rfl)
  ·refine LoopsOk.seq ?_ ?_
   ·refine LoopsOk.seq ?_ ?_
    ·exact loops_none (by kernel_rfl)
    ·refine LoopsOk.block ?_
     refine LoopsOk.loop (fun tm H=>?_) (fun k29 tm H r h0=>?_) (fun k29=>?_)
     ·refine none_of fun r h0=>?_
      obtain ⟨bQ,gT,eV,ea,hks,e5,e17,e18,e19,h⟩:=ap.lh29_inv (show ap.lh29 F aE [] 0 tm H = some r from h0)
      cases h
     ·obtain ⟨bQ,gT,eV,ea,hks,e5,e17,e18,e19,h⟩:=ap.lh29_inv (show ap.lh29 F aE [] (k29 + 1) tm H = some r from h0)
      have q0:(Tm.put tm 5 (.sl bQ)) = tm:=by exact Tm.put_same e5
      have q1:(Tm.put (Tm.put tm 5 (.sl bQ)) 17 (.sl gT)) = tm:=by rw [q0]; exact Tm.put_same e17
      have q2:(Tm.put (Tm.put (Tm.put tm 5 (.sl bQ)) 17 (.sl gT)) 18 (.int .i64 eV)) = tm:=by rw [q1]; exact Tm.put_same e18
      have q3:(Tm.put (Tm.put (Tm.put (Tm.put tm 5 (.sl bQ)) 17 (.sl gT)) 18 (.int .i64 eV)) 19 (.int .i64 ea)) = tm:=by rw [q2]; exact Tm.put_same e19
      rw [← q3]
      exact Eq.trans (by kernel_rfl) h
     ·refine LoopsOk.seq ?_ ?_
      ·exact loops_none (by kernel_rfl)
      ·refine LoopsOk.seq ?_ ?_
       ·exact loops_none (by kernel_rfl)
       ·refine LoopsOk.seq ?_ ?_
        ·refine LoopsOk.block ?_
         refine LoopsOk.seq ?_ ?_
         ·exact loops_none (by kernel_rfl)
         ·refine LoopsOk.seq ?_ ?_
          ·exact loops_none (by kernel_rfl)
          ·refine LoopsOk.block ?_
           refine LoopsOk.loop (fun tm H=>?_) (fun k1883 tm H r h0=>?_) (fun k1883=>?_)
           ·refine none_of fun r h0=>?_
            obtain ⟨dG,fg,dl,fR,d_,ep,gS,eU,eE,hks,e5,e6,e17,e18,e19,e24,e25,e26,h⟩:=ap.lh1883_inv (show ap.lh1883 F aE [k29] 0 tm H = some r from h0)
            cases h
           ·obtain ⟨dG,fg,dl,fR,d_,ep,gS,eU,eE,hks,e5,e6,e17,e18,e19,e24,e25,e26,h⟩:=ap.lh1883_inv (show ap.lh1883 F aE [k29] (k1883 + 1) tm H = some r from h0)
            obtain rfl:dG = k29:=by simpa [eq_comm] using hks
            have q0:(Tm.put tm 5 (.sl fg)) = tm:=by exact Tm.put_same e5
            have q1:(Tm.put (Tm.put tm 5 (.sl fg)) 6 (.int .i64 dl)) = tm:=by rw [q0]; exact Tm.put_same e6
            have q2:(Tm.put (Tm.put (Tm.put tm 5 (.sl fg)) 6 (.int .i64 dl)) 17 (.sl fR)) = tm:=by rw [q1]; exact Tm.put_same e17
            have q3:(Tm.put (Tm.put (Tm.put (Tm.put tm 5 (.sl fg)) 6 (.int .i64 dl)) 17 (.sl fR)) 18 (.int .i64 d_)) = tm:=by rw [q2]; exact Tm.put_same e18
            have q4:(Tm.put (Tm.put (Tm.put (Tm.put (Tm.put tm 5 (.sl fg)) 6 (.int .i64 dl)) 17 (.sl fR)) 18 (.int .i64 d_)) 19 (.int .i64 ep)) = tm:=by rw [q3]; exact Tm.put_same e19
            have q5:(Tm.put (Tm.put (Tm.put (Tm.put (Tm.put (Tm.put tm 5 (.sl fg)) 6 (.int .i64 dl)) 17 (.sl fR)) 18 (.int .i64 d_)) 19 (.int .i64 ep)) 24 (.sl gS)) = tm:=by rw [q4]; exact Tm.put_same e24
            have q6:(Tm.put (Tm.put (Tm.put (Tm.put (Tm.put (Tm.put (Tm.put tm 5 (.sl fg)) 6 (.int .i64 dl)) 17 (.sl fR)) 18 (.int .i64 d_)) 19 (.int .i64 ep)) 24 (.sl gS)) 25 (.int .i64 eU)) = tm:=by rw [q5]; exact Tm.put_same e25
            have q7:(Tm.put (Tm.put (Tm.put (Tm.put (Tm.put (Tm.put (Tm.put (Tm.put tm 5 (.sl fg)) 6 (.int .i64 dl)) 17 (.sl fR)) 18 (.int .i64 d_)) 19 (.int .i64 ep)) 24 (.sl gS)) 25 (.int .i64 eU)) 26 (.int .i64 eE)) = tm:=by rw [q6]; exact Tm.put_same e26
            rw [← q7]
            exact Eq.trans (by kernel_rfl) h
           ·exact loops_none (by kernel_rfl)
        ·exact loops_none (by kernel_rfl)
   ·exact loops_none (by kernel_rfl)
theorem ap.eqX (F:Nat) (aE:Sl→Int→Sl→Sl→Hp→OA) (aa:Sl) (ab:Int) (ae:Sl) (aL:Sl) (H:Hp):aCode tabs (mkOrc (ap.cs F aE)) ap.pn (ap.lh F aE) F [] 1 ap.code (argTm [(.agg [(.sl aa),(.int .i64 ab)]),(.agg [(.sl ae),(.sl aL)])]) H (fun tm H=>aresults tabs.ty H tm Try.f127.results.toList fun v=>some (v,H)) (fun _ _ _=>none) (fun tm H=>aresults tabs.ty H tm Try.f127.results.toList fun v=>some (v,H)) = ap.twX F aE aa ab ae aL H:=by kernel_rfl
theorem ap.cs_ok (F:Nat):∀ p ∈ ap.cs F (aj.tw F),∀ args H v H',p.2 args H = some (v,H')→Go.AE.T Try.prog p.1 args H v H':=by
 intro p hp
 simp only [ap.cs,List.mem_cons,List.not_mem_nil,or_false] at hp
 subst hp
 exact fun args H v H' h=>aj.mk_T h
theorem ap.ok:codeOk ap.pn Try.f127.ntmps ap.tb ap.code = true:=by kernel_rfl
theorem ap.T {F:Nat} {aa:Sl} {ab:Int} {ae:Sl} {aL:Sl} {H:Hp} {v:AV} {H':Hp} (h:ap.tw F aa ab ae aL H = some (v,H')):Go.AE.T Try.prog 127 [(.agg [(.sl aa),(.int .i64 ab)]),(.agg [(.sl ae),(.sl aL)])] H v H':=
 Go.AE.T.of (Y:=tabs) (C:=mkOrc (ap.cs F (aj.tw F))) (PN:=ap.pn) (LH:=ap.lh F (aj.tw F)) (F:=F) (TB:=ap.tb) (fn:=Try.f127) (code:=ap.code) mixed tabs_ok (mkOrc_ok (ap.cs_ok F)) Try.func127 (by kernel_rfl) (by kernel_rfl) ap.ok (Nat.le_of_ble_eq_true (by kernel_rfl)) (ap.loops F (aj.tw F)) (Eq.trans (ap.eqX F (aj.tw F) aa ab ae aL H) h)
theorem ap.mk_T {F:Nat} {args:List AV} {H:Hp} {v:AV} {H':Hp} (h:ap.mk (ap.tw F) args H = some (v,H')):Go.AE.T Try.prog 127 args H v H':=by
 unfold ap.mk at h
 split at h
 ·exact ap.T h
 ·cases h
noncomputable def aJ.l254 (F:Nat) (g_bits_Mul:Int→Int→Hp→OA) :Nat→Sl→Int→Hp→OA
 | 0,_,_,_=>none
 | uQ + 1,bR,bY,H33=>(bif (decide (bY < (bR.n:Int))) then ((Sl.cut bR 1 bY (bR.n:Int)).bind fun s37=>(Sl.cut bR 1 0 bY).bind fun s38=>(Hp.cpy H33 1 s37 s38).bind fun c39=>aJ.l254 F g_bits_Mul uQ bR (IntKind.i64.wrap (bY + (c39.1:Int))) c39.2) else (some ((.sl bR),H33)))
termination_by structural n=>n
noncomputable def aJ.j1 (F:Nat) (g_bits_Mul:Int→Int→Hp→OA) (uR:Sl) (fO:Int) (H21:Hp):OA:=(Hp.mk H21 [.int .i64 0] 8 (IntKind.i64.wrap fO) (IntKind.i64.wrap fO)).bind fun m22=>(Hp.cpy m22.2 1 m22.1 uR).bind fun c23=>aJ.l254 F g_bits_Mul F m22.1 (c23.1:Int) c23.2
noncomputable def aJ.j2 (F:Nat) (g_bits_Mul:Int→Int→Hp→OA) (lQ:Sl) (gq:Int) (H7:Hp):OA:=(g_bits_Mul (IntKind.u64.wrap (lQ.n:Int)) (IntKind.u64.wrap gq) H7).bind fun r8=>((r8.1).asTup 2).bind fun l9=>(l9[0]?).bind fun v10=>((v10).asI .u64).bind fun n11=>(l9[1]?).bind fun v12=>((v12).asI .u64).bind fun n13=>(bif (decide (n11 > 0)) then (none) else ((bif (decide (n13 > 9223372036854775807)) then (none) else (aJ.j1 F g_bits_Mul lQ n13 r8.2))))
noncomputable def aJ.twX (F:Nat) (g_bits_Mul:Int→Int→Hp→OA) (aa:Sl) (ai:Int) (H:Hp):OA:=(bif (decide (ai < 0)) then (none) else (aJ.j2 F g_bits_Mul aa ai H))
noncomputable def aJ.tw (F:Nat) (aa:Sl) (ai:Int) (H:Hp):OA:=aJ.twX F (bits_Mul.tw F) aa ai H
noncomputable def aJ.code:Go.Code:=(Try.f129.body).getD .skip
noncomputable def aJ.lh254 (F:Nat) (g_bits_Mul:Int→Int→Hp→OA) (ks:List Nat) (n:Nat) (tm:Tm) (H:Hp):OA:=match ks,tm 7,tm 8 with
 | [],(.sl bR),(.int .i64 bY)=>aJ.l254 F g_bits_Mul n bR bY H
 | _,_,_=>none
theorem aJ.lh254_inv {F:Nat} {g_bits_Mul:Int→Int→Hp→OA} {ks:List Nat} {n:Nat} {tm:Tm} {H:Hp} {r:AV×Hp} (h:aJ.lh254 F g_bits_Mul ks n tm H = some r):∃ bR:Sl,∃ bY:Int,ks = []∧tm 7 = (.sl bR)∧tm 8 = (.int .i64 bY)∧aJ.l254 F g_bits_Mul n bR bY H = some r:=by
 unfold aJ.lh254 at h
 split at h
 ·exact ⟨_,_,rfl,by assumption,by assumption,h⟩
 ·cases h
noncomputable def aJ.lh (F:Nat) (g_bits_Mul:Int→Int→Hp→OA) (p:Nat) (ks:List Nat) (n:Nat) (tm:Tm) (H:Hp):OA:=bif p.beq 254 then aJ.lh254 F g_bits_Mul ks n tm H else (none)
def aJ.pn:Nat→List Nat:=fun i=>(([(9,[7])]:List (Nat×List Nat)).lookup i).getD []
def aJ.tb:Nat→List (List Nat):=fun i=>(([(9,[[],[],[],[1,2],[],[],[4,5],[1,2,3,4,5,6],[0,1,2,3,4,5,6,7],[0,1,2,3,4,5,6,7,8]])]:List (Nat×List (List Nat))).lookup i).getD []
noncomputable def aJ.mk (g:Sl→Int→Hp→OA) (args:List AV) (H:Hp):OA:=match args with
 | [(.sl aa),(.int .i64 ai)]=>g aa ai H
 | _=>none
noncomputable def aJ.cs (F:Nat) (g_bits_Mul:Int→Int→Hp→OA):List (FuncId×(List AV→Hp→OA)):=[(158,bits_Mul.mk g_bits_Mul)]
theorem aJ.loops (F:Nat) (g_bits_Mul:Int→Int→Hp→OA):LoopsOk tabs (mkOrc (aJ.cs F g_bits_Mul)) aJ.pn (aJ.lh F g_bits_Mul) F [] 1 aJ.code (fun tm H=>aresults tabs.ty H tm Try.f129.results.toList fun v=>some (v,H)) (fun _ _ _=>none) (fun tm H=>aresults tabs.ty H tm Try.f129.results.toList fun v=>some (v,H)):=by
 refine LoopsOk.seq ?_ ?_
 ·exact loops_none (by kernel_rfl)
 ·refine LoopsOk.seq ?_ ?_
  ·exact loops_none (by kernel_rfl)
  ·refine LoopsOk.seq ?_ ?_
   ·exact loops_none (by kernel_rfl)
   ·refine LoopsOk.seq ?_ ?_
    ·exact loops_none (by kernel_rfl)
    ·refine LoopsOk.seq ?_ ?_
     ·exact loops_none (by kernel_rfl)
     ·refine LoopsOk.seq ?_ ?_
      ·exact loops_none (by kernel_rfl)
      ·refine LoopsOk.seq ?_ ?_
       ·refine LoopsOk.block ?_
        refine LoopsOk.loop (fun tm H=>?_) (fun k254 tm H r h0=>?_) (fun k254=>?_)
        ·refine none_of fun r h0=>?_
         obtain ⟨bR,bY,hks,e7,e8,h⟩:=aJ.lh254_inv (show aJ.lh254 F g_bits_Mul [] 0 tm H = some r from h0)
         cases h
        ·obtain ⟨bR,bY,hks,e7,e8,h⟩:=aJ.lh254_inv (show aJ.lh254 F g_bits_Mul [] (k254 + 1) tm H = some r from h0)
         have q0:(Tm.put tm 7 (.sl bR)) = tm:=by exact Tm.put_same e7
         have q1:(Tm.put (Tm.put tm 7 (.sl bR)) 8 (.int .i64 bY)) = tm:=by rw [q0]; exact Tm.put_same e8
         rw [← q1]
         exact Eq.trans (by kernel_rfl) h
        ·exact loops_none (by kernel_rfl)
       ·exact loops_none (by kernel_rfl)
theorem aJ.eqX (F:Nat) (g_bits_Mul:Int→Int→Hp→OA) (aa:Sl) (ai:Int) (H:Hp):aCode tabs (mkOrc (aJ.cs F g_bits_Mul)) aJ.pn (aJ.lh F g_bits_Mul) F [] 1 aJ.code (argTm [(.sl aa),(.int .i64 ai)]) H (fun tm H=>aresults tabs.ty H tm Try.f129.results.toList fun v=>some (v,H)) (fun _ _ _=>none) (fun tm H=>aresults tabs.ty H tm Try.f129.results.toList fun v=>some (v,H)) = aJ.twX F g_bits_Mul aa ai H:=by kernel_rfl
theorem aJ.cs_ok (F:Nat):∀ p ∈ aJ.cs F (bits_Mul.tw F),∀ args H v H',p.2 args H = some (v,H')→Go.AE.T Try.prog p.1 args H v H':=by
 intro p hp
 simp only [aJ.cs,List.mem_cons,List.not_mem_nil,or_false] at hp
 subst hp
 exact fun args H v H' h=>bits_Mul.mk_T h
theorem aJ.ok:codeOk aJ.pn Try.f129.ntmps aJ.tb aJ.code = true:=by kernel_rfl
theorem aJ.T {F:Nat} {aa:Sl} {ai:Int} {H:Hp} {v:AV} {H':Hp} (h:aJ.tw F aa ai H = some (v,H')):Go.AE.T Try.prog 129 [(.sl aa),(.int .i64 ai)] H v H':=
 Go.AE.T.of (Y:=tabs) (C:=mkOrc (aJ.cs F (bits_Mul.tw F))) (PN:=aJ.pn) (LH:=aJ.lh F (bits_Mul.tw F)) (F:=F) (TB:=aJ.tb) (fn:=Try.f129) (code:=aJ.code) mixed tabs_ok (mkOrc_ok (aJ.cs_ok F)) Try.func129 (by kernel_rfl) (by kernel_rfl) aJ.ok (Nat.le_of_ble_eq_true (by kernel_rfl)) (aJ.loops F (bits_Mul.tw F)) (Eq.trans (aJ.eqX F (bits_Mul.tw F) aa ai H) h)
theorem aJ.mk_T {F:Nat} {args:List AV} {H:Hp} {v:AV} {H':Hp} (h:aJ.mk (aJ.tw F) args H = some (v,H')):Go.AE.T Try.prog 129 args H v H':=by
 unfold aJ.mk at h
 split at h
 ·exact aJ.T h
 ·cases h
noncomputable def ag.j7 (F:Nat) (a_:Sl→Int→Sl→Sl→Hp→OA) (bi:Sl→Int→Sl→Sl→Hp→OA) (aE:Sl→Int→Sl→Sl→Hp→OA) (bK:Sl→Int→Hp→OA) (bj:Sl→Hp→OA) (C509_:Sl→Sl→Int→Int→Hp→OA) (FW:Sl) (FX:Sl) (ln:Int) (lp:Int) (H363:Hp):OA:=C509_ FW FX ln (IntKind.i64.wrap (lp + 1)) H363
noncomputable def ag.j8 (F:Nat) (a_:Sl→Int→Sl→Sl→Hp→OA) (bi:Sl→Int→Sl→Sl→Hp→OA) (aE:Sl→Int→Sl→Sl→Hp→OA) (bK:Sl→Int→Hp→OA) (bj:Sl→Hp→OA) (C509_:Sl→Sl→Int→Int→Hp→OA) (FY:Sl) (FZ:Sl) (lq:Int) (lr:Int) (H339:Hp):OA:=ag.j7 F a_ bi aE bK bj C509_ FY FZ lq lr H339
noncomputable def ag.j9 (F:Nat) (a_:Sl→Int→Sl→Sl→Hp→OA) (bi:Sl→Int→Sl→Sl→Hp→OA) (aE:Sl→Int→Sl→Sl→Hp→OA) (bK:Sl→Int→Hp→OA) (bj:Sl→Hp→OA) (C16301_:Sl→Sl→Int→Int→Int→Int→Hp→OA) (F_:Sl) (Ga:Sl) (lu:Int) (lv:Int) (lw:Int) (lx:Int) (H398:Hp):OA:=C16301_ F_ Ga lu lv lw (IntKind.i64.wrap (lx + 1)) H398
noncomputable def ag.l16301 (F:Nat) (a_:Sl→Int→Sl→Sl→Hp→OA) (bi:Sl→Int→Sl→Sl→Hp→OA) (aE:Sl→Int→Sl→Sl→Hp→OA) (bK:Sl→Int→Hp→OA) (bj:Sl→Hp→OA) (C509_:Sl→Sl→Int→Int→Hp→OA):Nat→Sl→Sl→Int→Int→Int→Int→Hp→OA
 | 0,_,_,_,_,_,_,_=>none
 | xL + 1,fh,fv,dz,eb,es,cI,H280=>(bif (decide (cI < es)) then ((Sl.idx fh cI 1).bind fun p364=>(Hp.ldI H280 .i64 p364.1 p364.2).bind fun n365=>(Sl.idx fv n365 1).bind fun p366=>(Hp.ldI H280 .i64 p366.1 p366.2).bind fun n367=>(bif (decide (n367 ≥ 0)) then ((Sl.idx fh (IntKind.i64.wrap ((IntKind.i64.wrap (cI - (Int.tmod cI 4))) + (Int.tmod (IntKind.i64.wrap (cI + 1)) 4))) 1).bind fun p368=>(Hp.ldI H280 .i64 p368.1 p368.2).bind fun n369=>(Sl.idx fv n369 1).bind fun p370=>(Hp.st H280 p370.1 p370.2 (.int .i64 (IntKind.i64.wrap (1 - n367)))).bind fun H371=>ag.j9 F a_ bi aE bK bj (ag.l16301 F a_ bi aE bK bj C509_ xL) fh fv dz eb es cI H371) else (ag.j9 F a_ bi aE bK bj (ag.l16301 F a_ bi aE bK bj C509_ xL) fh fv dz eb es cI H280))) else (ag.j8 F a_ bi aE bK bj C509_ fh fv dz eb H280))
termination_by structural n=>n
noncomputable def ag.l509 (F:Nat) (a_:Sl→Int→Sl→Sl→Hp→OA) (bi:Sl→Int→Sl→Sl→Hp→OA) (aE:Sl→Int→Sl→Sl→Hp→OA) (bK:Sl→Int→Hp→OA) (bj:Sl→Hp→OA) :Nat→Sl→Sl→Int→Int→Hp→OA
 | 0,_,_,_,_,_=>none
 | eL + 1,gy,gU,eW,fi,H116=>(bif (decide (fi < eW)) then (ag.l16301 F a_ bi aE bK bj (ag.l509 F a_ bi aE bK bj eL) F gy gU eW fi (gy.n:Int) 0 H116) else (some ((.sl gU),H116)))
termination_by structural n=>n
noncomputable def ag.j10 (F:Nat) (a_:Sl→Int→Sl→Sl→Hp→OA) (bi:Sl→Int→Sl→Sl→Hp→OA) (aE:Sl→Int→Sl→Sl→Hp→OA) (bK:Sl→Int→Hp→OA) (bj:Sl→Hp→OA) (Gb:Sl) (xM:Sl) (H96:Hp):OA:=ag.l509 F a_ bi aE bK bj F Gb xM (xM.n:Int) 0 H96
noncomputable def ag.j11 (F:Nat) (a_:Sl→Int→Sl→Sl→Hp→OA) (bi:Sl→Int→Sl→Sl→Hp→OA) (aE:Sl→Int→Sl→Sl→Hp→OA) (bK:Sl→Int→Hp→OA) (bj:Sl→Hp→OA) (C253_:Sl→Sl→Sl→Sl→Int→Int→Hp→OA) (Gc:Sl) (Gd:Sl) (Ge:Sl) (Gf:Sl) (ly:Int) (lz:Int) (H429:Hp):OA:=C253_ Gc Gd Ge Gf ly (IntKind.i64.wrap (lz + 1)) H429
noncomputable def ag.l253 (F:Nat) (a_:Sl→Int→Sl→Sl→Hp→OA) (bi:Sl→Int→Sl→Sl→Hp→OA) (aE:Sl→Int→Sl→Sl→Hp→OA) (bK:Sl→Int→Hp→OA) (bj:Sl→Hp→OA) :Nat→Sl→Sl→Sl→Sl→Int→Int→Hp→OA
 | 0,_,_,_,_,_,_,_=>none
 | lP + 1,fw,fH,fS,gz,et,dm,H47=>(bif (decide (dm < et)) then ((Sl.idx gz dm 1).bind fun p399=>(Hp.ldI H47 .i64 p399.1 p399.2).bind fun n400=>(Sl.idx fS n400 1).bind fun p401=>(Hp.ldB H47 p401.1 p401.2).bind fun b402=>(bif (!b402) then ((Sl.idx fS n400 1).bind fun p403=>(Hp.st H47 p403.1 p403.2 (.bool true)).bind fun H404=>(Sl.idx fw (IntKind.i64.wrap (4 * dm)) 1).bind fun p405=>(Hp.ldI H404 .i64 p405.1 p405.2).bind fun n406=>(Sl.idx fH n406 1).bind fun p407=>(Hp.st H404 p407.1 p407.2 (.int .i64 0)).bind fun H408=>ag.j11 F a_ bi aE bK bj (ag.l253 F a_ bi aE bK bj lP) fw fH fS gz et dm H408) else (ag.j11 F a_ bi aE bK bj (ag.l253 F a_ bi aE bK bj lP) fw fH fS gz et dm H47))) else (ag.j10 F a_ bi aE bK bj fw fH H47))
termination_by structural n=>n
noncomputable def ag.twX (F:Nat) (a_:Sl→Int→Sl→Sl→Hp→OA) (bi:Sl→Int→Sl→Sl→Hp→OA) (aE:Sl→Int→Sl→Sl→Hp→OA) (bK:Sl→Int→Hp→OA) (bj:Sl→Hp→OA) (aa:Sl) (ab:Int) (ae:Sl) (aL:Sl) (H:Hp):OA:=(Hp.new H [(.sl aa),(.int .i64 ab)]).bind fun H5=>(Hp.new H5 [(.sl ae),(.sl aL)]).bind fun H6=>(Hp.ldSl H6 H.length 0).bind fun s7=>(Hp.ldI H6 .i64 H.length (0 + 1)).bind fun n8=>(Hp.ldSl H6 H5.length 0).bind fun s9=>(Hp.ldSl H6 H5.length (0 + 1)).bind fun s10=>(a_ s7 n8 s9 s10 H6).bind fun r11=>((r11.1).asSl).bind fun s12=>(Hp.ldSl r11.2 H.length 0).bind fun s13=>(Hp.ldI r11.2 .i64 H.length (0 + 1)).bind fun n14=>(Hp.ldSl r11.2 H5.length 0).bind fun s15=>(Hp.ldSl r11.2 H5.length (0 + 1)).bind fun s16=>(bi s13 n14 s15 s16 r11.2).bind fun r17=>((r17.1).asSl).bind fun s18=>(Hp.new r17.2 [(.int .i64 (-1))]).bind fun H19=>(Hp.ldSl H19 H.length 0).bind fun s20=>(Hp.ldI H19 .i64 H.length (0 + 1)).bind fun n21=>(Hp.ldSl H19 H5.length 0).bind fun s22=>(Hp.ldSl H19 H5.length (0 + 1)).bind fun s23=>(aE s20 n21 s22 s23 H19).bind fun r24=>((r24.1).asSl).bind fun s25=>(bK (⟨some (r17.2.length,0),1,.ex 1⟩:Sl) (s25.n:Int) r24.2).bind fun r26=>((r26.1).asSl).bind fun s27=>(bj s18 r26.2).bind fun r28=>((r28.1).asI .i64).bind fun n29=>(Hp.mk r28.2 [.bool false] 1 n29 n29).bind fun m30=>ag.l253 F a_ bi aE bK bj F s12 s27 m30.1 s18 (s18.n:Int) 0 m30.2
noncomputable def ag.tw (F:Nat) (aa:Sl) (ab:Int) (ae:Sl) (aL:Sl) (H:Hp):OA:=ag.twX F (ap.tw F) (aF.tw F) (aj.tw F) (aJ.tw F) (ba.tw F) aa ab ae aL H
noncomputable def ag.code:Go.Code:=(Try.f73.body).getD .skip
noncomputable def ag.lh253 (F:Nat) (a_:Sl→Int→Sl→Sl→Hp→OA) (bi:Sl→Int→Sl→Sl→Hp→OA) (aE:Sl→Int→Sl→Sl→Hp→OA) (bK:Sl→Int→Hp→OA) (bj:Sl→Hp→OA) (ks:List Nat) (n:Nat) (tm:Tm) (H:Hp):OA:=match ks,tm 5,tm 7,tm 8,tm 28,tm 29,tm 30 with
 | [],(.sl fw),(.sl fH),(.sl fS),(.sl gz),(.int .i64 et),(.int .i64 dm)=>ag.l253 F a_ bi aE bK bj n fw fH fS gz et dm H
 | _,_,_,_,_,_,_=>none
theorem ag.lh253_inv {F:Nat} {a_:Sl→Int→Sl→Sl→Hp→OA} {bi:Sl→Int→Sl→Sl→Hp→OA} {aE:Sl→Int→Sl→Sl→Hp→OA} {bK:Sl→Int→Hp→OA} {bj:Sl→Hp→OA} {ks:List Nat} {n:Nat} {tm:Tm} {H:Hp} {r:AV×Hp} (h:ag.lh253 F a_ bi aE bK bj ks n tm H = some r):∃ fw:Sl,∃ fH:Sl,∃ fS:Sl,∃ gz:Sl,∃ et:Int,∃ dm:Int,ks = []∧tm 5 = (.sl fw)∧tm 7 = (.sl fH)∧tm 8 = (.sl fS)∧tm 28 = (.sl gz)∧tm 29 = (.int .i64 et)∧tm 30 = (.int .i64 dm)∧ag.l253 F a_ bi aE bK bj n fw fH fS gz et dm H = some r:=by
 unfold ag.lh253 at h
 split at h
 ·exact ⟨_,_,_,_,_,_,rfl,by assumption,by assumption,by assumption,by assumption,by assumption,by assumption,h⟩
 ·cases h
noncomputable def ag.lh509 (F:Nat) (a_:Sl→Int→Sl→Sl→Hp→OA) (bi:Sl→Int→Sl→Sl→Hp→OA) (aE:Sl→Int→Sl→Sl→Hp→OA) (bK:Sl→Int→Hp→OA) (bj:Sl→Hp→OA) (ks:List Nat) (n:Nat) (tm:Tm) (H:Hp):OA:=match ks,tm 5,tm 7,tm 52,tm 53 with
 | [],(.sl gy),(.sl gU),(.int .i64 eW),(.int .i64 fi)=>ag.l509 F a_ bi aE bK bj n gy gU eW fi H
 | _,_,_,_,_=>none
theorem ag.lh509_inv {F:Nat} {a_:Sl→Int→Sl→Sl→Hp→OA} {bi:Sl→Int→Sl→Sl→Hp→OA} {aE:Sl→Int→Sl→Sl→Hp→OA} {bK:Sl→Int→Hp→OA} {bj:Sl→Hp→OA} {ks:List Nat} {n:Nat} {tm:Tm} {H:Hp} {r:AV×Hp} (h:ag.lh509 F a_ bi aE bK bj ks n tm H = some r):∃ gy:Sl,∃ gU:Sl,∃ eW:Int,∃ fi:Int,ks = []∧tm 5 = (.sl gy)∧tm 7 = (.sl gU)∧tm 52 = (.int .i64 eW)∧tm 53 = (.int .i64 fi)∧ag.l509 F a_ bi aE bK bj n gy gU eW fi H = some r:=by
 unfold ag.lh509 at h
 split at h
 ·exact ⟨_,_,_,_,rfl,by assumption,by assumption,by assumption,by assumption,h⟩
 ·cases h
noncomputable def ag.lh16301 (F:Nat) (a_:Sl→Int→Sl→Sl→Hp→OA) (bi:Sl→Int→Sl→Sl→Hp→OA) (aE:Sl→Int→Sl→Sl→Hp→OA) (bK:Sl→Int→Hp→OA) (bj:Sl→Hp→OA) (ks:List Nat) (n:Nat) (tm:Tm) (H:Hp):OA:=match ks,tm 5,tm 7,tm 52,tm 53,tm 56,tm 57 with
 | [eL],(.sl fh),(.sl fv),(.int .i64 dz),(.int .i64 eb),(.int .i64 es),(.int .i64 cI)=>ag.l16301 F a_ bi aE bK bj (ag.l509 F a_ bi aE bK bj eL) n fh fv dz eb es cI H
 | _,_,_,_,_,_,_=>none
theorem ag.lh16301_inv {F:Nat} {a_:Sl→Int→Sl→Sl→Hp→OA} {bi:Sl→Int→Sl→Sl→Hp→OA} {aE:Sl→Int→Sl→Sl→Hp→OA} {bK:Sl→Int→Hp→OA} {bj:Sl→Hp→OA} {ks:List Nat} {n:Nat} {tm:Tm} {H:Hp} {r:AV×Hp} (h:ag.lh16301 F a_ bi aE bK bj ks n tm H = some r):∃ eL:Nat,∃ fh:Sl,∃ fv:Sl,∃ dz:Int,∃ eb:Int,∃ es:Int,∃ cI:Int,ks = [eL]∧tm 5 = (.sl fh)∧tm 7 = (.sl fv)∧tm 52 = (.int .i64 dz)∧tm 53 = (.int .i64 eb)∧tm 56 = (.int .i64 es)∧tm 57 = (.int .i64 cI)∧ag.l16301 F a_ bi aE bK bj (ag.l509 F a_ bi aE bK bj eL) n fh fv dz eb es cI H = some r:=by
 unfold ag.lh16301 at h
 split at h
 ·exact ⟨_,_,_,_,_,_,_,rfl,by assumption,by assumption,by assumption,by assumption,by assumption,by assumption,h⟩
 ·cases h
noncomputable def ag.lh (F:Nat) (a_:Sl→Int→Sl→Sl→Hp→OA) (bi:Sl→Int→Sl→Sl→Hp→OA) (aE:Sl→Int→Sl→Sl→Hp→OA) (bK:Sl→Int→Hp→OA) (bj:Sl→Hp→OA) (p:Nat) (ks:List Nat) (n:Nat) (tm:Tm) (H:Hp):OA:=bif p.beq 16301 then ag.lh16301 F a_ bi aE bK bj ks n tm H else (bif p.beq 509 then ag.lh509 F a_ bi aE bK bj ks n tm H else (bif p.beq 253 then ag.lh253 F a_ bi aE bK bj ks n tm H else (none)))
def ag.pn:Nat→List Nat:=fun i=>(([]:List (Nat×List Nat)).lookup i).getD []
def ag.tb:Nat→List (List Nat):=fun i=>(([]:List (Nat×List (List Nat))).lookup i).getD []
noncomputable def ag.mk (g:Sl→Int→Sl→Sl→Hp→OA) (args:List AV) (H:Hp):OA:=match args with
 | [(.agg [(.sl aa),(.int .i64 ab)]),(.agg [(.sl ae),(.sl aL)])]=>g aa ab ae aL H
 | _=>none
noncomputable def ag.cs (F:Nat) (a_:Sl→Int→Sl→Sl→Hp→OA) (bi:Sl→Int→Sl→Sl→Hp→OA) (aE:Sl→Int→Sl→Sl→Hp→OA) (bK:Sl→Int→Hp→OA) (bj:Sl→Hp→OA):List (FuncId×(List AV→Hp→OA)):=[(127,ap.mk a_),(126,aF.mk bi),(103,aj.mk aE),(129,aJ.mk bK),(120,ba.mk bj)]
theorem ag.loops (F:Nat) (a_:Sl→Int→Sl→Sl→Hp→OA) (bi:Sl→Int→Sl→Sl→Hp→OA) (aE:Sl→Int→Sl→Sl→Hp→OA) (bK:Sl→Int→Hp→OA) (bj:Sl→Hp→OA):LoopsOk tabs (mkOrc (ag.cs F a_ bi aE bK bj)) ag.pn (ag.lh F a_ bi aE bK bj) F [] 1 ag.code (fun tm H=>aresults tabs.ty H tm Try.f73.results.toList fun v=>some (v,H)) (fun _ _ _=>none) (fun tm H=>aresults tabs.ty H tm Try.f73.results.toList fun v=>some (v,H)):=by
 refine LoopsOk.seq ?_ ?_
 ·exact loops_none (by kernel_rfl)
 ·refine LoopsOk.seq ?_ ?_
  ·exact loops_none (by kernel_rfl)
  ·refine LoopsOk.seq ?_ ?_
   ·exact loops_none (by kernel_rfl)
   ·refine LoopsOk.seq ?_ ?_
    ·exact loops_none (by kernel_rfl)
    ·refine LoopsOk.seq ?_ ?_
     ·exact loops_none (by kernel_rfl)
     ·refine LoopsOk.seq ?_ ?_
      ·refine LoopsOk.seq ?_ ?_
       ·exact loops_none (by kernel_rfl)
       ·refine LoopsOk.block ?_
        refine LoopsOk.loop (fun tm H=>?_) (fun k253 tm H r h0=>?_) (fun k253=>?_)
        ·refine none_of fun r h0=>?_
         obtain ⟨fw,fH,fS,gz,et,dm,hks,e5,e7,e8,e28,e29,e30,h⟩:=ag.lh253_inv (show ag.lh253 F a_ bi aE bK bj [] 0 tm H = some r from h0)
         cases h
        ·obtain ⟨fw,fH,fS,gz,et,dm,hks,e5,e7,e8,e28,e29,e30,h⟩:=ag.lh253_inv (show ag.lh253 F a_ bi aE bK bj [] (k253 + 1) tm H = some r from h0)
         have q0:(Tm.put tm 5 (.sl fw)) = tm:=by exact Tm.put_same e5
         have q1:(Tm.put (Tm.put tm 5 (.sl fw)) 7 (.sl fH)) = tm:=by rw [q0]; exact Tm.put_same e7
         have q2:(Tm.put (Tm.put (Tm.put tm 5 (.sl fw)) 7 (.sl fH)) 8 (.sl fS)) = tm:=by rw [q1]; exact Tm.put_same e8
         have q3:(Tm.put (Tm.put (Tm.put (Tm.put tm 5 (.sl fw)) 7 (.sl fH)) 8 (.sl fS)) 28 (.sl gz)) = tm:=by rw [q2]; exact Tm.put_same e28
         have q4:(Tm.put (Tm.put (Tm.put (Tm.put (Tm.put tm 5 (.sl fw)) 7 (.sl fH)) 8 (.sl fS)) 28 (.sl gz)) 29 (.int .i64 et)) = tm:=by rw [q3]; exact Tm.put_same e29
         have q5:(Tm.put (Tm.put (Tm.put (Tm.put (Tm.put (Tm.put tm 5 (.sl fw)) 7 (.sl fH)) 8 (.sl fS)) 28 (.sl gz)) 29 (.int .i64 et)) 30 (.int .i64 dm)) = tm:=by rw [q4]; exact Tm.put_same e30
         rw [← q5]
         exact Eq.trans (by kernel_rfl) h
        ·exact loops_none (by kernel_rfl)
      ·refine LoopsOk.seq ?_ ?_
       ·refine LoopsOk.seq ?_ ?_
        ·exact loops_none (by kernel_rfl)
        ·refine LoopsOk.block ?_
         refine LoopsOk.loop (fun tm H=>?_) (fun k509 tm H r h0=>?_) (fun k509=>?_)
         ·refine none_of fun r h0=>?_
          obtain ⟨gy,gU,eW,fi,hks,e5,e7,e52,e53,h⟩:=ag.lh509_inv (show ag.lh509 F a_ bi aE bK bj [] 0 tm H = some r from h0)
          cases h
         ·obtain ⟨gy,gU,eW,fi,hks,e5,e7,e52,e53,h⟩:=ag.lh509_inv (show ag.lh509 F a_ bi aE bK bj [] (k509 + 1) tm H = some r from h0)
          have q0:(Tm.put tm 5 (.sl gy)) = tm:=by exact Tm.put_same e5
          have q1:(Tm.put (Tm.put tm 5 (.sl gy)) 7 (.sl gU)) = tm:=by rw [q0]; exact Tm.put_same e7
          have q2:(Tm.put (Tm.put (Tm.put tm 5 (.sl gy)) 7 (.sl gU)) 52 (.int .i64 eW)) = tm:=by rw [q1]; exact Tm.put_same e52
          have q3:(Tm.put (Tm.put (Tm.put (Tm.put tm 5 (.sl gy)) 7 (.sl gU)) 52 (.int .i64 eW)) 53 (.int .i64 fi)) = tm:=by rw [q2]; exact Tm.put_same e53
          rw [← q3]
          exact Eq.trans (by kernel_rfl) h
         ·refine LoopsOk.seq ?_ ?_
          ·exact loops_none (by kernel_rfl)
          ·refine LoopsOk.seq ?_ ?_
           ·exact loops_none (by kernel_rfl)
           ·refine LoopsOk.seq ?_ ?_
            ·refine LoopsOk.block ?_
             refine LoopsOk.seq ?_ ?_
             ·exact loops_none (by kernel_rfl)
             ·refine LoopsOk.block ?_
              refine LoopsOk.loop (fun tm H=>?_) (fun k16301 tm H r h0=>?_) (fun k16301=>?_)
              ·refine none_of fun r h0=>?_
               obtain ⟨eL,fh,fv,dz,eb,es,cI,hks,e5,e7,e52,e53,e56,e57,h⟩:=ag.lh16301_inv (show ag.lh16301 F a_ bi aE bK bj [k509] 0 tm H = some r from h0)
               cases h
              ·obtain ⟨eL,fh,fv,dz,eb,es,cI,hks,e5,e7,e52,e53,e56,e57,h⟩:=ag.lh16301_inv (show ag.lh16301 F a_ bi aE bK bj [k509] (k16301 + 1) tm H = some r from h0)
               obtain rfl:eL = k509:=by simpa [eq_comm] using hks
               have q0:(Tm.put tm 5 (.sl fh)) = tm:=by exact Tm.put_same e5
               have q1:(Tm.put (Tm.put tm 5 (.sl fh)) 7 (.sl fv)) = tm:=by rw [q0]; exact Tm.put_same e7
               have q2:(Tm.put (Tm.put (Tm.put tm 5 (.sl fh)) 7 (.sl fv)) 52 (.int .i64 dz)) = tm:=by rw [q1]; exact Tm.put_same e52
               have q3:(Tm.put (Tm.put (Tm.put (Tm.put tm 5 (.sl fh)) 7 (.sl fv)) 52 (.int .i64 dz)) 53 (.int .i64 eb)) = tm:=by rw [q2]; exact Tm.put_same e53
               have q4:(Tm.put (Tm.put (Tm.put (Tm.put (Tm.put tm 5 (.sl fh)) 7 (.sl fv)) 52 (.int .i64 dz)) 53 (.int .i64 eb)) 56 (.int .i64 es)) = tm:=by rw [q3]; exact Tm.put_same e56
               have q5:(Tm.put (Tm.put (Tm.put (Tm.put (Tm.put (Tm.put tm 5 (.sl fh)) 7 (.sl fv)) 52 (.int .i64 dz)) 53 (.int .i64 eb)) 56 (.int .i64 es)) 57 (.int .i64 cI)) = tm:=by rw [q4]; exact Tm.put_same e57
               rw [← q5]
               exact Eq.trans (by kernel_rfl) h
              ·exact loops_none (by kernel_rfl)
            ·exact loops_none (by kernel_rfl)
       ·exact loops_none (by kernel_rfl)
theorem ag.eqX (F:Nat) (a_:Sl→Int→Sl→Sl→Hp→OA) (bi:Sl→Int→Sl→Sl→Hp→OA) (aE:Sl→Int→Sl→Sl→Hp→OA) (bK:Sl→Int→Hp→OA) (bj:Sl→Hp→OA) (aa:Sl) (ab:Int) (ae:Sl) (aL:Sl) (H:Hp):aCode tabs (mkOrc (ag.cs F a_ bi aE bK bj)) ag.pn (ag.lh F a_ bi aE bK bj) F [] 1 ag.code (argTm [(.agg [(.sl aa),(.int .i64 ab)]),(.agg [(.sl ae),(.sl aL)])]) H (fun tm H=>aresults tabs.ty H tm Try.f73.results.toList fun v=>some (v,H)) (fun _ _ _=>none) (fun tm H=>aresults tabs.ty H tm Try.f73.results.toList fun v=>some (v,H)) = ag.twX F a_ bi aE bK bj aa ab ae aL H:=by kernel_rfl
theorem ag.cs_ok (F:Nat):∀ p ∈ ag.cs F (ap.tw F) (aF.tw F) (aj.tw F) (aJ.tw F) (ba.tw F),∀ args H v H',p.2 args H = some (v,H')→Go.AE.T Try.prog p.1 args H v H':=by
 intro p hp
 simp only [ag.cs,List.mem_cons,List.not_mem_nil,or_false] at hp
 rcases hp with rfl | rfl | rfl | rfl | rfl
 ·exact fun args H v H' h=>ap.mk_T h
 ·exact fun args H v H' h=>aF.mk_T h
 ·exact fun args H v H' h=>aj.mk_T h
 ·exact fun args H v H' h=>aJ.mk_T h
 ·exact fun args H v H' h=>ba.mk_T h
theorem ag.ok:codeOk ag.pn Try.f73.ntmps ag.tb ag.code = true:=by kernel_rfl
theorem ag.T {F:Nat} {aa:Sl} {ab:Int} {ae:Sl} {aL:Sl} {H:Hp} {v:AV} {H':Hp} (h:ag.tw F aa ab ae aL H = some (v,H')):Go.AE.T Try.prog 73 [(.agg [(.sl aa),(.int .i64 ab)]),(.agg [(.sl ae),(.sl aL)])] H v H':=
 Go.AE.T.of (Y:=tabs) (C:=mkOrc (ag.cs F (ap.tw F) (aF.tw F) (aj.tw F) (aJ.tw F) (ba.tw F))) (PN:=ag.pn) (LH:=ag.lh F (ap.tw F) (aF.tw F) (aj.tw F) (aJ.tw F) (ba.tw F)) (F:=F) (TB:=ag.tb) (fn:=Try.f73) (code:=ag.code) mixed tabs_ok (mkOrc_ok (ag.cs_ok F)) Try.func73 (by kernel_rfl) (by kernel_rfl) ag.ok (Nat.le_of_ble_eq_true (by kernel_rfl)) (ag.loops F (ap.tw F) (aF.tw F) (aj.tw F) (aJ.tw F) (ba.tw F)) (Eq.trans (ag.eqX F (ap.tw F) (aF.tw F) (aj.tw F) (aJ.tw F) (ba.tw F) aa ab ae aL H) h)
theorem ag.mk_T {F:Nat} {args:List AV} {H:Hp} {v:AV} {H':Hp} (h:ag.mk (ag.tw F) args H = some (v,H')):Go.AE.T Try.prog 73 args H v H':=by
 unfold ag.mk at h
 split at h
 ·exact ag.T h
 ·cases h
noncomputable def bG.twX (F:Nat) (aa:Bool) (H:Hp):OA:=(bif aa then (some ((.int .i64 1),H)) else (some ((.int .i64 0),H)))
noncomputable def bG.tw (F:Nat) (aa:Bool) (H:Hp):OA:=bG.twX F aa H
noncomputable def bG.code:Go.Code:=(Try.f128.body).getD .skip
noncomputable def bG.lh (F:Nat) (p:Nat) (ks:List Nat) (n:Nat) (tm:Tm) (H:Hp):OA:=none
def bG.pn:Nat→List Nat:=fun i=>(([]:List (Nat×List Nat)).lookup i).getD []
def bG.tb:Nat→List (List Nat):=fun i=>(([]:List (Nat×List (List Nat))).lookup i).getD []
noncomputable def bG.mk (g:Bool→Hp→OA) (args:List AV) (H:Hp):OA:=match args with
 | [(.bool aa)]=>g aa H
 | _=>none
noncomputable def bG.cs (F:Nat):List (FuncId×(List AV→Hp→OA)):=[]
theorem bG.loops (F:Nat):LoopsOk tabs (mkOrc (bG.cs F)) bG.pn (bG.lh F) F [] 1 bG.code (fun tm H=>aresults tabs.ty H tm Try.f128.results.toList fun v=>some (v,H)) (fun _ _ _=>none) (fun tm H=>aresults tabs.ty H tm Try.f128.results.toList fun v=>some (v,H)):=by
 exact loops_none (by kernel_rfl)
theorem bG.eqX (F:Nat) (aa:Bool) (H:Hp):aCode tabs (mkOrc (bG.cs F)) bG.pn (bG.lh F) F [] 1 bG.code (argTm [(.bool aa)]) H (fun tm H=>aresults tabs.ty H tm Try.f128.results.toList fun v=>some (v,H)) (fun _ _ _=>none) (fun tm H=>aresults tabs.ty H tm Try.f128.results.toList fun v=>some (v,H)) = bG.twX F aa H:=by kernel_rfl
theorem bG.cs_ok (F:Nat):∀ p ∈ bG.cs F,∀ args H v H',p.2 args H = some (v,H')→Go.AE.T Try.prog p.1 args H v H':=by
 intro p hp
 exact absurd (show p ∈ [] from hp) List.not_mem_nil
theorem bG.ok:codeOk bG.pn Try.f128.ntmps bG.tb bG.code = true:=by kernel_rfl
theorem bG.T {F:Nat} {aa:Bool} {H:Hp} {v:AV} {H':Hp} (h:bG.tw F aa H = some (v,H')):Go.AE.T Try.prog 128 [(.bool aa)] H v H':=
 Go.AE.T.of (Y:=tabs) (C:=mkOrc (bG.cs F)) (PN:=bG.pn) (LH:=bG.lh F) (F:=F) (TB:=bG.tb) (fn:=Try.f128) (code:=bG.code) mixed tabs_ok (mkOrc_ok (bG.cs_ok F)) Try.func128 (by kernel_rfl) (by kernel_rfl) bG.ok (Nat.le_of_ble_eq_true (by kernel_rfl)) (bG.loops F) (Eq.trans (bG.eqX F aa H) h)
theorem bG.mk_T {F:Nat} {args:List AV} {H:Hp} {v:AV} {H':Hp} (h:bG.mk (bG.tw F) args H = some (v,H')):Go.AE.T Try.prog 128 args H v H':=by
 unfold bG.mk at h
 split at h
 ·exact bG.T h
 ·cases h
noncomputable def aQ.l61 (F:Nat) (a_:Sl→Int→Sl→Sl→Hp→OA) (ec:Sl→Int→Sl→Sl→Hp→OA) (ed:Bool→Hp→OA) :Nat→Int→Sl→Sl→Sl→Int→Int→Hp→OA
 | 0,_,_,_,_,_,_,_=>none
 | bm + 1,dA,bR,bY,gV,eX,eF,H36=>(bif (decide (eF < eX)) then ((Sl.idx bR (IntKind.i64.wrap ((IntKind.i64.wrap (4 * eF)) + 1)) 1).bind fun p46=>(Hp.ldI H36 .i64 p46.1 p46.2).bind fun n47=>(Sl.idx bY n47 1).bind fun p48=>(Hp.ldI H36 .i64 p48.1 p48.2).bind fun n49=>(ed (n49 == dA) H36).bind fun r50=>((r50.1).asI .i64).bind fun n51=>(Hp.new r50.2 [(.int .i64 (IntKind.i64.wrap ((IntKind.i64.wrap (2 * n51)) - 1)))]).bind fun H52=>(Sl.row H52 (⟨some (r50.2.length,0),1,.ex 1⟩:Sl) 1).bind fun xs54=>(Hp.app H52 1 8 gV (⟨some (r50.2.length,0),1,.ex 1⟩:Sl).n xs54).bind fun a53=>aQ.l61 F a_ ec ed bm dA bR bY a53.1 eX (IntKind.i64.wrap (eF + 1)) a53.2) else (some ((.sl gV),H36)))
termination_by structural n=>n
noncomputable def aQ.twX (F:Nat) (a_:Sl→Int→Sl→Sl→Hp→OA) (ec:Sl→Int→Sl→Sl→Hp→OA) (ed:Bool→Hp→OA) (aa:Sl) (ab:Int) (ae:Sl) (aL:Sl) (bM:Int) (H:Hp):OA:=(Hp.new H [(.sl aa),(.int .i64 ab)]).bind fun H6=>(Hp.new H6 [(.sl ae),(.sl aL)]).bind fun H7=>(Hp.ldSl H7 H.length 0).bind fun s8=>(Hp.ldI H7 .i64 H.length (0 + 1)).bind fun n9=>(Hp.ldSl H7 H6.length 0).bind fun s10=>(Hp.ldSl H7 H6.length (0 + 1)).bind fun s11=>(a_ s8 n9 s10 s11 H7).bind fun r12=>((r12.1).asSl).bind fun s13=>(if Cons H7 r12.2 then ((Hp.ldSl r12.2 H.length 0).bind fun s14=>(Hp.ldI r12.2 .i64 H.length (0 + 1)).bind fun n15=>(Hp.ldSl r12.2 H6.length 0).bind fun s16=>(Hp.ldSl r12.2 H6.length (0 + 1)).bind fun s17=>(ec s14 n15 s16 s17 r12.2).bind fun r18=>((r18.1).asSl).bind fun s19=>(Hp.ldSl r18.2 H.length 0).bind fun s20=>aQ.l61 F a_ ec ed F bM s13 s19 (⟨none,0,.ex 0⟩:Sl) (s20.n:Int) 0 r18.2) else none)
noncomputable def aQ.tw (F:Nat) (aa:Sl) (ab:Int) (ae:Sl) (aL:Sl) (bM:Int) (H:Hp):OA:=aQ.twX F (ap.tw F) (ag.tw F) (bG.tw F) aa ab ae aL bM H
noncomputable def aQ.code:Go.Code:=(Try.f72.body).getD .skip
noncomputable def aQ.lh61 (F:Nat) (a_:Sl→Int→Sl→Sl→Hp→OA) (ec:Sl→Int→Sl→Sl→Hp→OA) (ed:Bool→Hp→OA) (ks:List Nat) (n:Nat) (tm:Tm) (H:Hp):OA:=match ks,tm 2,tm 7,tm 8,tm 9,tm 19,tm 20 with
 | [],(.int .i64 dA),(.sl bR),(.sl bY),(.sl gV),(.int .i64 eX),(.int .i64 eF)=>aQ.l61 F a_ ec ed n dA bR bY gV eX eF H
 | _,_,_,_,_,_,_=>none
theorem aQ.lh61_inv {F:Nat} {a_:Sl→Int→Sl→Sl→Hp→OA} {ec:Sl→Int→Sl→Sl→Hp→OA} {ed:Bool→Hp→OA} {ks:List Nat} {n:Nat} {tm:Tm} {H:Hp} {r:AV×Hp} (h:aQ.lh61 F a_ ec ed ks n tm H = some r):∃ dA:Int,∃ bR:Sl,∃ bY:Sl,∃ gV:Sl,∃ eX:Int,∃ eF:Int,ks = []∧tm 2 = (.int .i64 dA)∧tm 7 = (.sl bR)∧tm 8 = (.sl bY)∧tm 9 = (.sl gV)∧tm 19 = (.int .i64 eX)∧tm 20 = (.int .i64 eF)∧aQ.l61 F a_ ec ed n dA bR bY gV eX eF H = some r:=by
 unfold aQ.lh61 at h
 split at h
 ·exact ⟨_,_,_,_,_,_,rfl,by assumption,by assumption,by assumption,by assumption,by assumption,by assumption,h⟩
 ·cases h
end Go.Proofs.Ythfinhmkgdmelaa.AE
